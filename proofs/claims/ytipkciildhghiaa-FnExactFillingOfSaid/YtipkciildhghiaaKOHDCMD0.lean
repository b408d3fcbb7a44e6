/- Printed proofs of functions of the program and of the reference, by a program of this work over the kit's printer. -/
import Derived.Test.YtipkciildhghiaaKHGNPLP0
import Derived.Test.YtipkciildhghiaaKW0
namespace Go.Proofs.Ytipkciildhghiaa.B
open Go.RowKit Go.Proofs.YtipkciildhghiaaW.PrintWords Go.Proofs.YtipkciildhghiaaW.PrintLast Go.Proofs.YtipkciildhghiaaW.PrintMore
attribute [local go_sem] qAi qAg qAl qAk qAe qAd qAh qAf
set_option linter.unusedVariables false
set_option linter.unusedSimpArgs false
def z180.l0 : Nat → Int → Int → Int → Int → List Int → Int → Int → Int → List Int → Int → Int → Int → List Int → Option (Int × Int × Int × List Int)
 | 0, _, _, _, _, _, _, _, _, _, _, _, _, _ => none
 | k + 1, x6, x51000, x51001, x51002, x51003, x52000, x52001, x52002, x52003, x106000, x106001, x106002, x106003 => if x6 < x51001 then (if 0 ≤ (wrap64 (x6 * x51002)) then (if (wrap64 (x6 * x51002)) ≤ (wrap64 ((wrap64 (x6 + 1)) * x51002)) then (if (wrap64 ((wrap64 (x6 + 1)) * x51002)) ≤ (x51003.length : Int) then (if x106003.length + ((x51003.take ((wrap64 ((wrap64 (x6 + 1)) * x51002)) : Int).toNat).drop ((wrap64 (x6 * x51002)) : Int).toNat).length < 17592186044416 then ((some (x106003 ++ ((x51003.take ((wrap64 ((wrap64 (x6 + 1)) * x51002)) : Int).toNat).drop ((wrap64 (x6 * x51002)) : Int).toNat) : List Int)).bind fun y107 => (if 0 ≤ (wrap64 (x6 * x52002)) then (if (wrap64 (x6 * x52002)) ≤ (wrap64 ((wrap64 (x6 + 1)) * x52002)) then (if (wrap64 ((wrap64 (x6 + 1)) * x52002)) ≤ (x52003.length : Int) then (if y107.length + ((x52003.take ((wrap64 ((wrap64 (x6 + 1)) * x52002)) : Int).toNat).drop ((wrap64 (x6 * x52002)) : Int).toNat).length < 17592186044416 then (z180.l0 k (wrap64 (x6 + 1)) x51000 x51001 x51002 x51003 x52000 x52001 x52002 x52003 x106000 x106001 x106002 (y107 ++ ((x52003.take ((wrap64 ((wrap64 (x6 + 1)) * x52002)) : Int).toNat).drop ((wrap64 (x6 * x52002)) : Int).toNat))) else (none)) else (none)) else (none)) else (none))) else (none)) else (none)) else (none)) else (none)) else (some (x106000, x106001, x106002, x106003))
def z180.f (k : Nat) (a0_0 : Int) (a0_1 : Int) (a0_2 : Int) (l0_3 : List Int) (a1_0 : Int) (a1_1 : Int) (a1_2 : Int) (l1_3 : List Int) : Option (Int × Int × Int × List Int) := z180.l0 k 0 a0_0 a0_1 a0_2 l0_3 a1_0 a1_1 a1_2 l1_3 a0_0 a0_1 (wrap64 (a0_2 + a1_2)) (([] : List Int))
def z180.T1 : Bool × List (List Nat × List Nat) := (true, [([], []), ([0], [0]), ([1], [1]), ([2], [2]), ([], []), ([4], [4]), ([5], [5]), ([6], [6]), ([], []), ([8], [8]), ([9], [9]), ([10], [10]), ([], []), ([12], [12]), ([13], [13]), ([14], [14]), ([11, 15], [11, 15]), ([], []), ([3, 7, 16, 17], [3, 7, 16, 17]), ([], []), ([19, 18, 0, 1, 2, 3, 4, 5, 6, 7, 8, 9, 10, 11, 12, 13, 14, 15, 16, 17, 18, 19], [18, 19])])
def z180.B1 : List Nat := [0, 1, 3, 7, 0, 16, 48, 112, 0, 256, 768, 1792, 0, 4096, 12288, 28672, 65280, 0, 262143, 0, 1048575]
theorem z180.tab1 : rtab .any (qCc Try.f180 1) = z180.T1 := by kernel_rfl
theorem z180.bits1 : qBb z180.T1.2 z180.B1 = true := by kernel_rfl
def z180.T5 : Bool × List (List Nat × List Nat) := (true, [([], []), ([0], [0]), ([], []), ([2], [2]), ([3], [3]), ([4], [4]), ([], []), ([], []), ([7], [7]), ([8], [8]), ([9], [9]), ([6, 10], [6, 10]), ([], []), ([12], [12]), ([], []), ([14], [14]), ([15], [15]), ([16], [16]), ([13, 17], [13, 17]), ([5, 11, 18], [5, 11, 18]), ([1, 19], [1, 19]), ([0, 1, 2, 3, 4, 5, 6, 7, 8, 9, 10, 11, 12, 13, 14, 15, 16, 17, 18, 19, 20], []), ([21, 20, 20, 0, 1, 2, 3, 4, 5, 6, 7, 8, 9, 10, 11, 12, 13, 14, 15, 16, 17, 18, 19, 20], [20, 21])])
def z180.B5 : List Nat := [0, 1, 0, 4, 12, 28, 0, 0, 128, 384, 896, 1984, 0, 4096, 0, 16384, 49152, 114688, 258048, 524284, 1048575, 2097151, 4194303]
theorem z180.tab5 : rtab .any (qCc Try.f180 5) = z180.T5 := by kernel_rfl
theorem z180.bits5 : qBb z180.T5.2 z180.B5 = true := by kernel_rfl
def z180.T6 : Bool × List (List Nat × List Nat) := (true, [([], []), ([0], [0]), ([], []), ([2], [2]), ([3], [3]), ([4], [4]), ([], []), ([], []), ([7], [7]), ([8], [8]), ([9], [9]), ([6, 10], [6, 10]), ([], []), ([12], [12]), ([], []), ([14], [14]), ([15], [15]), ([16], [16]), ([13, 17], [13, 17]), ([5, 11, 18], [5, 11, 18]), ([1, 19], [1, 19]), ([0, 1, 2, 3, 4, 5, 6, 7, 8, 9, 10, 11, 12, 13, 14, 15, 16, 17, 18, 19, 20], []), ([21, 20, 20, 0, 1, 2, 3, 4, 5, 6, 7, 8, 9, 10, 11, 12, 13, 14, 15, 16, 17, 18, 19, 20], [20, 21])])
def z180.B6 : List Nat := [0, 1, 0, 4, 12, 28, 0, 0, 128, 384, 896, 1984, 0, 4096, 0, 16384, 49152, 114688, 258048, 524284, 1048575, 2097151, 4194303]
theorem z180.tab6 : rtab .any (qCc Try.f180 6) = z180.T6 := by kernel_rfl
theorem z180.bits6 : qBb z180.T6.2 z180.B6 = true := by kernel_rfl
set_option maxHeartbeats 8000000 in
set_option maxRecDepth 100000 in
theorem z180.calls (k : Nat) (gp0 : Nat) (a0_0 : Int) (a0_1 : Int) (a0_2 : Int) (A0_3 : Option Addr) (c0_3 : Nat) (l0_3 : List Int) (gp1 : Nat) (a1_0 : Int) (a1_1 : Int) (a1_2 : Int) (A1_3 : Option Addr) (c1_3 : Nat) (l1_3 : List Int) (r1 : Int) (r2 : Int) (r3 : Int) (r4 : List Int) (w : World) (hbp0 : w.heap[gp0]? = some (.cells #[.int .i64 a0_0, .int .i64 a0_1, .int .i64 a0_2, .slice A0_3 l0_3.length c0_3] 48 (0, 0))) (hbp1 : w.heap[gp1]? = some (.cells #[.int .i64 a1_0, .int .i64 a1_1, .int .i64 a1_2, .slice A1_3 l1_3.length c1_3] 48 (0, 0))) (hr0_3 : Kd.C (Kd.int .i64) w A0_3 l0_3.length l0_3) (hc0_3 : l0_3.length ≤ c0_3) (hr1_3 : Kd.C (Kd.int .i64) w A1_3 l1_3.length l1_3) (hc1_3 : l1_3.length ≤ c1_3) (h : z180.f k a0_0 a0_1 a0_2 l0_3 a1_0 a1_1 a1_2 l1_3 = some (r1, r2, r3, r4)) :
  Calls Try.prog 180 #[.pointer (some ⟨gp0, 0, none⟩), .pointer (some ⟨gp1, 0, none⟩)] w fun e w' => ∃ v3_ : Value, e = .returned (.agg #[.int .i64 r1, .int .i64 r2, .int .i64 r3, v3_]) ∧ Kd.R (Kd.int .i64) 2 w' w.heap.size (fun _ => True) v3_ r4 ∧ Below w.heap.size w w' := by
 have hu48 := Try.underlying48
 have HR0_3 := Zz.mk hr0_3
 have HC0_3 := Zz.mk hc0_3
 clear hr0_3 hc0_3
 have HR1_3 := Zz.mk hr1_3
 have HC1_3 := Zz.mk hc1_3
 clear hr1_3 hc1_3
 have BK50 := Zz.mk hbp0
 clear hbp0
 have BK51 := Zz.mk hbp1
 clear hbp1
 have HB := Zz.mk (Below.refl w.heap.size w)
 have H : (z180.l0 k 0 a0_0 a0_1 a0_2 l0_3 a1_0 a1_1 a1_2 l1_3 a0_0 a0_1 (wrap64 (a0_2 + a1_2)) (([] : List Int))) = some (r1, r2, r3, r4) := h
 clear h
 obtain ⟨y102, hy102⟩ : ∃ y_ : List Int, y_ = (([] : List Int)) := ⟨_, rfl⟩
 replace H : (z180.l0 k 0 a0_0 a0_1 a0_2 l0_3 a1_0 a1_1 a1_2 l1_3 a0_0 a0_1 (wrap64 (a0_2 + a1_2)) y102) = some (r1, r2, r3, r4) := Y_ hy102 H
 have Ny102 := Zz.mk hy102
 clear hy102
 have H' := Zz.mk H
 clear H
 go_enter Try.func180, Try.ntmps180
 try go_wp2_with (first | ((with_reducible refine qAb (N := 4) rfl ?_); refine qAc ?hg (N := 4) ?hd (cs := #[.int .i64 0, .int .i64 0, .int .i64 0, .slice none 0 0]) (t := 48) ?hr ?_; (case hd => rfl); (case hg => rfl); (case hr => first | (go_simp; done) | (go_simp; rfl)); intro gb101 hg w3 hbox hb; have BK101 := Zz.mk (hbox); have GW101 := Zz.mk ((by rw [hg]; exact (bS_ (B_ HB.out)) : w.heap.size ≤ gb101)); have GE101 := GW101; have NB50_101 := Zz.mk ((by rw [hg]; exact Nat.ne_of_lt (qA2 (g := gp0) (o := .cells #[.int .i64 a0_0, .int .i64 a0_1, .int .i64 a0_2, .slice A0_3 l0_3.length c0_3] 48 (0, 0)) (KB_ BK50.out)) : gp0 ≠ gb101)); have NB101_50 := Zz.mk NB50_101.out.symm; have NB51_101 := Zz.mk ((by rw [hg]; exact Nat.ne_of_lt (qA2 (g := gp1) (o := .cells #[.int .i64 a1_0, .int .i64 a1_1, .int .i64 a1_2, .slice A1_3 l1_3.length c1_3] 48 (0, 0)) (KB_ BK51.out)) : gp1 ≠ gb101)); have NB101_51 := Zz.mk NB51_101.out.symm; replace BK50 := Zz.mk (bB_ (g := gp0) (o := .cells #[.int .i64 a0_0, .int .i64 a0_1, .int .i64 a0_2, .slice A0_3 l0_3.length c0_3] 48 (0, 0)) (KB_ BK50.out) hb); replace BK51 := Zz.mk (bB_ (g := gp1) (o := .cells #[.int .i64 a1_0, .int .i64 a1_1, .int .i64 a1_2, .slice A1_3 l1_3.length c1_3] 48 (0, 0)) (KB_ BK51.out) hb); replace HB := Zz.mk (bT_ (B_ HB.out) hb); clear hb hbox hg))
 replace BK50 := Zz.mk (bD_ BK50.out)
 replace BK51 := Zz.mk (bD_ BK51.out)
 replace BK101 := Zz.mk (bD_ BK101.out)
 replace HB := Zz.mk (qAn HB.out)
 refine qBf (n := 21) (S := fun w' => w'.cell? ⟨gp0, 0, none⟩ = some (.int .i64 a0_0) ∧ w'.cell? ⟨gp0, 1, none⟩ = some (.int .i64 a0_1) ∧ w'.cell? ⟨gp0, 2, none⟩ = some (.int .i64 a0_2) ∧ w'.cell? ⟨gp0, 3, none⟩ = some (.slice A0_3 l0_3.length c0_3) ∧ w'.cell? ⟨gp1, 0, none⟩ = some (.int .i64 a1_0) ∧ w'.cell? ⟨gp1, 1, none⟩ = some (.int .i64 a1_1) ∧ w'.cell? ⟨gp1, 2, none⟩ = some (.int .i64 a1_2) ∧ w'.cell? ⟨gp1, 3, none⟩ = some (.slice A1_3 l1_3.length c1_3)) (ds := []) (tb_ 21 0) (by kernel_rfl) rfl rfl ⟨(bC_ BK50.out 0).trans rfl, (bC_ BK50.out 1).trans rfl, (bC_ BK50.out 2).trans rfl, (bC_ BK50.out 3).trans rfl, (bC_ BK51.out 0).trans rfl, (bC_ BK51.out 1).trans rfl, (bC_ BK51.out 2).trans rfl, (bC_ BK51.out 3).trans rfl⟩ (fun hHeld => ?_); refine qA7 z180.tab1 z180.bits1 (fun HT_ HW_ => ?_)
 generalize w3.drew = w4 at BK50 BK51 BK101 HB hHeld ⊢
 refine PX_ 0 7 (tb_ 21 1) HT_ rfl rfl ?_
 refine PX_ 1 8 (tb_ 21 3) HT_ rfl rfl ?_
 refine PX_ 2 9 (tb_ 21 7) HT_ rfl rfl ?_
 refine PX_ 4 11 (tb_ 21 23) HT_ rfl rfl ?_
 refine PX_ 5 12 (tb_ 21 55) HT_ rfl rfl ?_
 refine PX_ 6 13 (tb_ 21 119) HT_ rfl rfl ?_
 refine PX_ 8 15 (tb_ 21 375) HT_ rfl rfl ?_
 refine PX_ 9 16 (tb_ 21 887) HT_ rfl rfl ?_
 refine PX_ 10 17 (tb_ 21 1911) HT_ rfl rfl ?_
 refine PX_ 12 19 (tb_ 21 6007) HT_ rfl rfl ?_
 refine PX_ 13 20 (tb_ 21 14199) HT_ rfl rfl ?_
 refine PX_ 14 21 (tb_ 21 30583) HT_ rfl rfl ?_
 refine TV_ (i := 3) (N := some 10) (tb_ 21 30591) HT_ HW_ rfl rfl hHeld (by rintro w' ⟨s0, s1, s2, s3, s4, s5, s6, s7⟩; go_simp; with_reducible rfl) (h := ?_)
 refine TV_ (i := 7) (N := some 14) (tb_ 21 30719) HT_ HW_ rfl rfl hHeld (by rintro w' ⟨s0, s1, s2, s3, s4, s5, s6, s7⟩; go_simp; with_reducible rfl) (h := ?_)
 refine TV_ (i := 11) (N := some 18) (tb_ 21 32767) HT_ HW_ rfl rfl hHeld (by rintro w' ⟨s0, s1, s2, s3, s4, s5, s6, s7⟩; go_simp; with_reducible rfl) (h := ?_)
 refine TV_ (i := 15) (N := some 22) (tb_ 21 65535) HT_ HW_ rfl rfl hHeld (by rintro w' ⟨s0, s1, s2, s3, s4, s5, s6, s7⟩; go_simp; with_reducible rfl) (h := ?_)
 refine PX_ 16 23 (tb_ 21 131071) HT_ rfl rfl ?_
 refine qMp (σ := Value × Nat) 1 (tb_ 21 1048575) (fun s_ => [(24, s_.1), (5, .pointer (some ⟨s_.2, 0, none⟩)), (25, .agg #[.int .i64 a0_0, .int .i64 a0_1, .int .i64 (wrap64 (a0_2 + a1_2)), s_.1])]) (fun s_ w' => (w'.cell? ⟨gp0, 0, none⟩ = some (.int .i64 a0_0) ∧ w'.cell? ⟨gp0, 1, none⟩ = some (.int .i64 a0_1) ∧ w'.cell? ⟨gp0, 2, none⟩ = some (.int .i64 a0_2) ∧ w'.cell? ⟨gp0, 3, none⟩ = some (.slice A0_3 l0_3.length c0_3) ∧ w'.cell? ⟨gp1, 0, none⟩ = some (.int .i64 a1_0) ∧ w'.cell? ⟨gp1, 1, none⟩ = some (.int .i64 a1_1) ∧ w'.cell? ⟨gp1, 2, none⟩ = some (.int .i64 a1_2) ∧ w'.cell? ⟨gp1, 3, none⟩ = some (.slice A1_3 l1_3.length c1_3)) ∧ (Kd.R (Kd.int .i64) 2 w' w.heap.size (fun _ => True) s_.1 y102) ∧ (w'.heap[gb101]? = some (.cells #[.int .i64 0, .int .i64 0, .int .i64 0, .slice none 0 0] 48 (0, 0))) ∧ (w'.heap[s_.2]? = some (.cells #[.int .i64 0, .int .i64 0, .int .i64 0, .slice none 0 0] 48 (0, 0))) ∧ (w'.heap[gp0]? = some (.cells #[.int .i64 a0_0, .int .i64 a0_1, .int .i64 a0_2, .slice A0_3 l0_3.length c0_3] 48 (0, 0))) ∧ (w'.heap[gp1]? = some (.cells #[.int .i64 a1_0, .int .i64 a1_1, .int .i64 a1_2, .slice A1_3 l1_3.length c1_3] 48 (0, 0))) ∧ (w.heap.size ≤ s_.2) ∧ (w.heap.size ≤ s_.2) ∧ (gb101 ≠ s_.2) ∧ (s_.2 ≠ gb101) ∧ (gp0 ≠ s_.2) ∧ (s_.2 ≠ gp0) ∧ (gp1 ≠ s_.2) ∧ (s_.2 ≠ gp1) ∧ (Below w.heap.size w w')) ?_ ?_
 rotate_left
 ·intro hCont
  refine two_ (i := 17) (j := 19) (Ni := some 24) (Nj := some 5) (tb_ 21 262143) (tb_ 21 655359) rfl rfl rfl rfl (qJr HT_.out (by kernel_rfl)) (by decide) (by decide) (fun K hK => ?_) (fun K hK => ?_)
  ·skip
   refine Kd.R_lit_step (Kd.int .i64) _ 2 ?hg (N := 24) ?hd (xs := ([] : List Int)) (inner := []) (ok := fun _ => True) (okp := fun _ => True) ?hr ?hp (fun _ hk => hk) trivial (Below.refl _ _) (Nat.le_refl _) (by simp) ?_; (case hd => rfl); (case hg => rfl); (case hr => first | (go_simp; done) | (go_simp; rfl)); (case hp => exact (Reps.none _ _))
   intro v103 w5 ho6 hb hg_ hnew_
   clear hg_ hnew_
   (first | rw [← Ny102.out] at ho6 | (simp only [Int.reduceToNat] at ho6; rw [← Ny102.out] at ho6))
   have HO104 := Zz.mk (Kd.R_lower ho6 (bS_ (B1_ HB.out GE101.out)))
   replace BK50 := Zz.mk (bB_ (g := gp0) (o := .cells #[.int .i64 a0_0, .int .i64 a0_1, .int .i64 a0_2, .slice A0_3 l0_3.length c0_3] 48 (0, 0)) (KB_ BK50.out) hb)
   replace BK51 := Zz.mk (bB_ (g := gp1) (o := .cells #[.int .i64 a1_0, .int .i64 a1_1, .int .i64 a1_2, .slice A1_3 l1_3.length c1_3] 48 (0, 0)) (KB_ BK51.out) hb)
   replace BK101 := Zz.mk (bB_ (g := gb101) (o := .cells #[.int .i64 0, .int .i64 0, .int .i64 0, .slice none 0 0] 48 (0, 0)) (KB_ BK101.out) hb)
   replace HB := Zz.mk (bT_ (B1_ HB.out GE101.out) hb)
   clear hb ho6
   obtain ⟨Ao7, co7, eo7⟩ := Kd.R_slice HO104.out
   (first | subst eo7 | (injection eo7 with f1_ f2_ f3_; have f4_ := f1_.symm; have f5_ := f3_.symm; clear f1_ f2_ f3_; subst f4_; subst f5_))
   refine hK.out _ _ ⟨(bC_ BK50.out 0).trans rfl, (bC_ BK50.out 1).trans rfl, (bC_ BK50.out 2).trans rfl, (bC_ BK50.out 3).trans rfl, (bC_ BK51.out 0).trans rfl, (bC_ BK51.out 1).trans rfl, (bC_ BK51.out 2).trans rfl, (bC_ BK51.out 3).trans rfl⟩ (fun hHeld => ?_)
   clear hK K
   refine NM_ (N := (some 24)) (h := ?_)
   refine PX_ 18 25 (tb_ 21 524287) HT_ rfl rfl ?_
   refine one_ (i := 19) (N := some 5) (tb_ 21 1048575) rfl rfl (qA8 HT_.out (by kernel_rfl)) (by decide) (fun K hK => ?_)
   refine qD8 ?hg (N := 5) ?hd (cs := #[.int .i64 0, .int .i64 0, .int .i64 0, .slice none 0 0]) (t := 48) ?hr ?_; (case hd => rfl); (case hg => rfl); (case hr => first | (go_simp; done) | (go_simp; rfl))
   intro gb105 hg w8 hbox hb
   have BK105 := Zz.mk (hbox)
   have GW105 := Zz.mk ((by rw [hg]; exact (bS_ (B1_ HB.out GE101.out)) : w.heap.size ≤ gb105))
   have GE105 := GW105
   have NB50_105 := Zz.mk ((by rw [hg]; exact Nat.ne_of_lt (qA2 (g := gp0) (o := .cells #[.int .i64 a0_0, .int .i64 a0_1, .int .i64 a0_2, .slice A0_3 l0_3.length c0_3] 48 (0, 0)) (KB_ BK50.out)) : gp0 ≠ gb105))
   have NB105_50 := Zz.mk NB50_105.out.symm
   have NB51_105 := Zz.mk ((by rw [hg]; exact Nat.ne_of_lt (qA2 (g := gp1) (o := .cells #[.int .i64 a1_0, .int .i64 a1_1, .int .i64 a1_2, .slice A1_3 l1_3.length c1_3] 48 (0, 0)) (KB_ BK51.out)) : gp1 ≠ gb105))
   have NB105_51 := Zz.mk NB51_105.out.symm
   have NB101_105 := Zz.mk ((by rw [hg]; exact Nat.ne_of_lt (qA2 (g := gb101) (o := .cells #[.int .i64 0, .int .i64 0, .int .i64 0, .slice none 0 0] 48 (0, 0)) (KB_ BK101.out)) : gb101 ≠ gb105))
   have NB105_101 := Zz.mk NB101_105.out.symm
   replace HO104 := Zz.mk (Kd.R_below (KR_ HO104.out) hb)
   replace BK50 := Zz.mk (bB_ (g := gp0) (o := .cells #[.int .i64 a0_0, .int .i64 a0_1, .int .i64 a0_2, .slice A0_3 l0_3.length c0_3] 48 (0, 0)) (KB_ BK50.out) hb)
   replace BK51 := Zz.mk (bB_ (g := gp1) (o := .cells #[.int .i64 a1_0, .int .i64 a1_1, .int .i64 a1_2, .slice A1_3 l1_3.length c1_3] 48 (0, 0)) (KB_ BK51.out) hb)
   replace BK101 := Zz.mk (bB_ (g := gb101) (o := .cells #[.int .i64 0, .int .i64 0, .int .i64 0, .slice none 0 0] 48 (0, 0)) (KB_ BK101.out) hb)
   replace HB := Zz.mk (bT_ (B1_ HB.out GE101.out) hb)
   clear hb hbox hg
   refine hK.out _ _ ⟨(bC_ BK50.out 0).trans rfl, (bC_ BK50.out 1).trans rfl, (bC_ BK50.out 2).trans rfl, (bC_ BK50.out 3).trans rfl, (bC_ BK51.out 0).trans rfl, (bC_ BK51.out 1).trans rfl, (bC_ BK51.out 2).trans rfl, (bC_ BK51.out 3).trans rfl⟩ (fun hHeld => ?_)
   clear hK K
   refine NM_ (N := (some 5)) (h := ?_)
   exact qFz (by simp only [qC3, Act.put, List.setIfInBounds_toArray, List.set_cons_zero, List.set_cons_succ]) (hCont (.slice Ao7 y102.length co7, gb105) _ ⟨hHeld, (KR_ HO104.out), (KB_ BK101.out), (KB_ BK105.out), (KB_ BK50.out), (KB_ BK51.out), GW105.out, GE105.out, NB101_105.out, NB105_101.out, NB50_105.out, NB105_50.out, NB51_105.out, NB105_51.out, (B2_ HB.out GE101.out GE105.out)⟩)
  skip
  refine qD8 ?hg (N := 5) ?hd (cs := #[.int .i64 0, .int .i64 0, .int .i64 0, .slice none 0 0]) (t := 48) ?hr ?_; (case hd => rfl); (case hg => rfl); (case hr => first | (go_simp; done) | (go_simp; rfl))
  intro gb105 hg w5 hbox hb
  have BK105 := Zz.mk (hbox)
  have GW105 := Zz.mk ((by rw [hg]; exact (bS_ (B1_ HB.out GE101.out)) : w.heap.size ≤ gb105))
  have GE105 := GW105
  have NB50_105 := Zz.mk ((by rw [hg]; exact Nat.ne_of_lt (qA2 (g := gp0) (o := .cells #[.int .i64 a0_0, .int .i64 a0_1, .int .i64 a0_2, .slice A0_3 l0_3.length c0_3] 48 (0, 0)) (KB_ BK50.out)) : gp0 ≠ gb105))
  have NB105_50 := Zz.mk NB50_105.out.symm
  have NB51_105 := Zz.mk ((by rw [hg]; exact Nat.ne_of_lt (qA2 (g := gp1) (o := .cells #[.int .i64 a1_0, .int .i64 a1_1, .int .i64 a1_2, .slice A1_3 l1_3.length c1_3] 48 (0, 0)) (KB_ BK51.out)) : gp1 ≠ gb105))
  have NB105_51 := Zz.mk NB51_105.out.symm
  have NB101_105 := Zz.mk ((by rw [hg]; exact Nat.ne_of_lt (qA2 (g := gb101) (o := .cells #[.int .i64 0, .int .i64 0, .int .i64 0, .slice none 0 0] 48 (0, 0)) (KB_ BK101.out)) : gb101 ≠ gb105))
  have NB105_101 := Zz.mk NB101_105.out.symm
  replace BK50 := Zz.mk (bB_ (g := gp0) (o := .cells #[.int .i64 a0_0, .int .i64 a0_1, .int .i64 a0_2, .slice A0_3 l0_3.length c0_3] 48 (0, 0)) (KB_ BK50.out) hb)
  replace BK51 := Zz.mk (bB_ (g := gp1) (o := .cells #[.int .i64 a1_0, .int .i64 a1_1, .int .i64 a1_2, .slice A1_3 l1_3.length c1_3] 48 (0, 0)) (KB_ BK51.out) hb)
  replace BK101 := Zz.mk (bB_ (g := gb101) (o := .cells #[.int .i64 0, .int .i64 0, .int .i64 0, .slice none 0 0] 48 (0, 0)) (KB_ BK101.out) hb)
  replace HB := Zz.mk (bT_ (B1_ HB.out GE101.out) hb)
  clear hb hbox hg
  refine hK.out _ _ ⟨(bC_ BK50.out 0).trans rfl, (bC_ BK50.out 1).trans rfl, (bC_ BK50.out 2).trans rfl, (bC_ BK50.out 3).trans rfl, (bC_ BK51.out 0).trans rfl, (bC_ BK51.out 1).trans rfl, (bC_ BK51.out 2).trans rfl, (bC_ BK51.out 3).trans rfl⟩ (fun hHeld => ?_)
  clear hK K
  refine NM_ (N := (some 5)) (h := ?_)
  refine one_ (i := 17) (N := some 24) (tb_ 21 786431) rfl rfl (qA8 HT_.out (by kernel_rfl)) (by decide) (fun K hK => ?_)
  refine Kd.R_lit_step (Kd.int .i64) _ 2 ?hg (N := 24) ?hd (xs := ([] : List Int)) (inner := []) (ok := fun _ => True) (okp := fun _ => True) ?hr ?hp (fun _ hk => hk) trivial (Below.refl _ _) (Nat.le_refl _) (by simp) ?_; (case hd => rfl); (case hg => rfl); (case hr => first | (go_simp; done) | (go_simp; rfl)); (case hp => exact (Reps.none _ _))
  intro v103 w6 ho7 hb hg_ hnew_
  clear hg_ hnew_
  (first | rw [← Ny102.out] at ho7 | (simp only [Int.reduceToNat] at ho7; rw [← Ny102.out] at ho7))
  have HO104 := Zz.mk (Kd.R_lower ho7 (bS_ (B2_ HB.out GE101.out GE105.out)))
  replace BK50 := Zz.mk (bB_ (g := gp0) (o := .cells #[.int .i64 a0_0, .int .i64 a0_1, .int .i64 a0_2, .slice A0_3 l0_3.length c0_3] 48 (0, 0)) (KB_ BK50.out) hb)
  replace BK51 := Zz.mk (bB_ (g := gp1) (o := .cells #[.int .i64 a1_0, .int .i64 a1_1, .int .i64 a1_2, .slice A1_3 l1_3.length c1_3] 48 (0, 0)) (KB_ BK51.out) hb)
  replace BK101 := Zz.mk (bB_ (g := gb101) (o := .cells #[.int .i64 0, .int .i64 0, .int .i64 0, .slice none 0 0] 48 (0, 0)) (KB_ BK101.out) hb)
  replace BK105 := Zz.mk (bB_ (g := gb105) (o := .cells #[.int .i64 0, .int .i64 0, .int .i64 0, .slice none 0 0] 48 (0, 0)) (KB_ BK105.out) hb)
  replace HB := Zz.mk (bT_ (B2_ HB.out GE101.out GE105.out) hb)
  clear hb ho7
  obtain ⟨Ao8, co8, eo8⟩ := Kd.R_slice HO104.out
  (first | subst eo8 | (injection eo8 with f1_ f2_ f3_; have f4_ := f1_.symm; have f5_ := f3_.symm; clear f1_ f2_ f3_; subst f4_; subst f5_))
  refine hK.out _ _ ⟨(bC_ BK50.out 0).trans rfl, (bC_ BK50.out 1).trans rfl, (bC_ BK50.out 2).trans rfl, (bC_ BK50.out 3).trans rfl, (bC_ BK51.out 0).trans rfl, (bC_ BK51.out 1).trans rfl, (bC_ BK51.out 2).trans rfl, (bC_ BK51.out 3).trans rfl⟩ (fun hHeld => ?_)
  clear hK K
  refine NM_ (N := (some 24)) (h := ?_)
  refine PX_ 18 25 (tb_ 21 1048575) HT_ rfl rfl ?_
  exact qFz (by simp only [qC3, Act.put, List.setIfInBounds_toArray, List.set_cons_zero, List.set_cons_succ]) (hCont (.slice Ao8 y102.length co8, gb105) _ ⟨hHeld, (KR_ HO104.out), (KB_ BK101.out), (KB_ BK105.out), (KB_ BK50.out), (KB_ BK51.out), GW105.out, GE105.out, NB101_105.out, NB105_101.out, NB50_105.out, NB105_50.out, NB51_105.out, NB105_51.out, (B2_ HB.out GE101.out GE105.out)⟩)
 rintro ⟨v103, gb105⟩ w9 ⟨hS_, h0_, h1_, h2_, h3_, h4_, h5_, h6_, h7_, h8_, h9_, h10_, h11_, h12_, h13_⟩
 have HO104 : Zz (Kd.R (Kd.int .i64) 2 w9 w.heap.size (fun _ => True) v103 y102) := ⟨h0_⟩
 have BK105 : Zz (w9.heap[gb105]? = some (.cells #[.int .i64 0, .int .i64 0, .int .i64 0, .slice none 0 0] 48 (0, 0))) := ⟨h2_⟩
 have GW105 : Zz (w.heap.size ≤ gb105) := ⟨h5_⟩
 have GE105 : Zz (w.heap.size ≤ gb105) := ⟨h6_⟩
 have NB101_105 : Zz (gb101 ≠ gb105) := ⟨h7_⟩
 have NB105_101 : Zz (gb105 ≠ gb101) := ⟨h8_⟩
 have NB50_105 : Zz (gp0 ≠ gb105) := ⟨h9_⟩
 have NB105_50 : Zz (gb105 ≠ gp0) := ⟨h10_⟩
 have NB51_105 : Zz (gp1 ≠ gb105) := ⟨h11_⟩
 have NB105_51 : Zz (gb105 ≠ gp1) := ⟨h12_⟩
 replace BK101 : Zz (w9.heap[gb101]? = some (.cells #[.int .i64 0, .int .i64 0, .int .i64 0, .slice none 0 0] 48 (0, 0))) := ⟨h1_⟩
 replace BK50 : Zz (w9.heap[gp0]? = some (.cells #[.int .i64 a0_0, .int .i64 a0_1, .int .i64 a0_2, .slice A0_3 l0_3.length c0_3] 48 (0, 0))) := ⟨h3_⟩
 replace BK51 : Zz (w9.heap[gp1]? = some (.cells #[.int .i64 a1_0, .int .i64 a1_1, .int .i64 a1_2, .slice A1_3 l1_3.length c1_3] 48 (0, 0))) := ⟨h4_⟩
 replace HB : Zz (Below w.heap.size w w9) := ⟨h13_⟩
 (try clear h0_)
 (try clear h1_)
 (try clear h2_)
 (try clear h3_)
 (try clear h4_)
 (try clear h5_)
 (try clear h6_)
 (try clear h7_)
 (try clear h8_)
 (try clear h9_)
 (try clear h10_)
 (try clear h11_)
 (try clear h12_)
 (try clear h13_)
 have hHeld : w9.cell? ⟨gp0, 0, none⟩ = some (.int .i64 a0_0) ∧ w9.cell? ⟨gp0, 1, none⟩ = some (.int .i64 a0_1) ∧ w9.cell? ⟨gp0, 2, none⟩ = some (.int .i64 a0_2) ∧ w9.cell? ⟨gp0, 3, none⟩ = some (.slice A0_3 l0_3.length c0_3) ∧ w9.cell? ⟨gp1, 0, none⟩ = some (.int .i64 a1_0) ∧ w9.cell? ⟨gp1, 1, none⟩ = some (.int .i64 a1_1) ∧ w9.cell? ⟨gp1, 2, none⟩ = some (.int .i64 a1_2) ∧ w9.cell? ⟨gp1, 3, none⟩ = some (.slice A1_3 l1_3.length c1_3) := hS_
 obtain ⟨Ao10, co10, eo10⟩ := Kd.R_slice HO104.out
 (first | subst eo10 | (injection eo10 with f1_ f2_ f3_; have f4_ := f1_.symm; have f5_ := f3_.symm; clear f1_ f2_ f3_; subst f4_; subst f5_))
 refine qFz (a' := ?_) ?_ ?_
 rotate_left
 ·simp only [qC3, Act.put, List.setIfInBounds_toArray, List.set_cons_zero, List.set_cons_succ]
  rfl
 refine one_ (i := 20) (N := none) (tb_ 21 2097151) rfl rfl (qA8 HT_.out (by kernel_rfl)) (by decide) (fun K hK => ?_)
 have hs11 : w9.cell? ⟨gb105, 0, none⟩ = some (.int .i64 0) := (bC_ BK105.out 0).trans rfl
 have hfs11 := bF_ BK105.out 0
 have hns11_0 := NB50_105.out
 have hns11_1 := NB51_105.out
 have hns11_2 := NB101_105.out
 have hms11_0 := NB105_50.out
 have hms11_1 := NB105_51.out
 have hms11_2 := NB105_101.out
 have hs12 : w9.cell? ⟨gb105, 1, none⟩ = some (.int .i64 0) := (bC_ BK105.out 1).trans rfl
 have hfs12 := bF_ BK105.out 1
 have hns12_0 := NB50_105.out
 have hns12_1 := NB51_105.out
 have hns12_2 := NB101_105.out
 have hms12_0 := NB105_50.out
 have hms12_1 := NB105_51.out
 have hms12_2 := NB105_101.out
 have hs13 : w9.cell? ⟨gb105, 2, none⟩ = some (.int .i64 0) := (bC_ BK105.out 2).trans rfl
 have hfs13 := bF_ BK105.out 2
 have hns13_0 := NB50_105.out
 have hns13_1 := NB51_105.out
 have hns13_2 := NB101_105.out
 have hms13_0 := NB105_50.out
 have hms13_1 := NB105_51.out
 have hms13_2 := NB105_101.out
 have hs14 : w9.cell? ⟨gb105, 3, none⟩ = some (.slice none 0 0) := (bC_ BK105.out 3).trans rfl
 have hfs14 := bF_ BK105.out 3
 have hns14_0 := NB50_105.out
 have hns14_1 := NB51_105.out
 have hns14_2 := NB101_105.out
 have hms14_0 := NB105_50.out
 have hms14_1 := NB105_51.out
 have hms14_2 := NB105_101.out
 refine qCr (w1 := ?_) (by rfl) rfl ?_ ?_
 rotate_left
 ·go_simp
  rfl
 refine hK.out _ _ ⟨((qAu (p := ⟨gb105, _, none⟩) NB50_105.out _).trans (((qAu (p := ⟨gb105, _, none⟩) NB50_105.out _).trans (((qAu (p := ⟨gb105, _, none⟩) NB50_105.out _).trans (((qAu (p := ⟨gb105, _, none⟩) NB50_105.out _).trans (hHeld.1)))))))), ((qAu (p := ⟨gb105, _, none⟩) NB50_105.out _).trans (((qAu (p := ⟨gb105, _, none⟩) NB50_105.out _).trans (((qAu (p := ⟨gb105, _, none⟩) NB50_105.out _).trans (((qAu (p := ⟨gb105, _, none⟩) NB50_105.out _).trans (hHeld.2.1)))))))), ((qAu (p := ⟨gb105, _, none⟩) NB50_105.out _).trans (((qAu (p := ⟨gb105, _, none⟩) NB50_105.out _).trans (((qAu (p := ⟨gb105, _, none⟩) NB50_105.out _).trans (((qAu (p := ⟨gb105, _, none⟩) NB50_105.out _).trans (hHeld.2.2.1)))))))), ((qAu (p := ⟨gb105, _, none⟩) NB50_105.out _).trans (((qAu (p := ⟨gb105, _, none⟩) NB50_105.out _).trans (((qAu (p := ⟨gb105, _, none⟩) NB50_105.out _).trans (((qAu (p := ⟨gb105, _, none⟩) NB50_105.out _).trans (hHeld.2.2.2.1)))))))), ((qAu (p := ⟨gb105, _, none⟩) NB51_105.out _).trans (((qAu (p := ⟨gb105, _, none⟩) NB51_105.out _).trans (((qAu (p := ⟨gb105, _, none⟩) NB51_105.out _).trans (((qAu (p := ⟨gb105, _, none⟩) NB51_105.out _).trans (hHeld.2.2.2.2.1)))))))), ((qAu (p := ⟨gb105, _, none⟩) NB51_105.out _).trans (((qAu (p := ⟨gb105, _, none⟩) NB51_105.out _).trans (((qAu (p := ⟨gb105, _, none⟩) NB51_105.out _).trans (((qAu (p := ⟨gb105, _, none⟩) NB51_105.out _).trans (hHeld.2.2.2.2.2.1)))))))), ((qAu (p := ⟨gb105, _, none⟩) NB51_105.out _).trans (((qAu (p := ⟨gb105, _, none⟩) NB51_105.out _).trans (((qAu (p := ⟨gb105, _, none⟩) NB51_105.out _).trans (((qAu (p := ⟨gb105, _, none⟩) NB51_105.out _).trans (hHeld.2.2.2.2.2.2.1)))))))), ((qAu (p := ⟨gb105, _, none⟩) NB51_105.out _).trans (((qAu (p := ⟨gb105, _, none⟩) NB51_105.out _).trans (((qAu (p := ⟨gb105, _, none⟩) NB51_105.out _).trans (((qAu (p := ⟨gb105, _, none⟩) NB51_105.out _).trans (hHeld.2.2.2.2.2.2.2))))))))⟩ (fun hHeld => ?_)
 clear hK K
 refine qBy (qBe HT_.out (by kernel_rfl)) ?_
 try go_wp2
 go_loopg [6] k (fun kq v6 w' => ∃ (x6_1 : Int) (x106003_1 : List Int) (u106003 : Value), v6 = .int .i64 x6_1 ∧ Zz (z180.l0 kq x6_1 a0_0 a0_1 a0_2 l0_3 a1_0 a1_1 a1_2 l1_3 a0_0 a0_1 (wrap64 (a0_2 + a1_2)) x106003_1 = some (r1, r2, r3, r4)) ∧ Zz (kq ≤ k) ∧ Zz (Kd.R (Kd.int .i64) 2 w' w.heap.size (fun _ => True) u106003 x106003_1) ∧ Zz (w'.heap[gp0]? = some (.cells #[.int .i64 a0_0, .int .i64 a0_1, .int .i64 a0_2, (.slice A0_3 l0_3.length c0_3)] 48 (0, 0))) ∧ Zz (w'.heap[gp1]? = some (.cells #[.int .i64 a1_0, .int .i64 a1_1, .int .i64 a1_2, (.slice A1_3 l1_3.length c1_3)] 48 (0, 0))) ∧ Zz (w'.heap[gb101]? = some (.cells #[.int .i64 0, .int .i64 0, .int .i64 0, (.slice none 0 0)] 48 (0, 0))) ∧ Zz (w'.heap[gb105]? = some (.cells #[.int .i64 a0_0, .int .i64 a0_1, .int .i64 (wrap64 (a0_2 + a1_2)), u106003] 48 (0, 0))) ∧ Zz (Below w.heap.size w w'))
 case atStart => exact ⟨(0), (y102), (.slice Ao10 y102.length co10), E_, H', ⟨Nat.le_refl _⟩, ⟨by refine RW_ ?_; exact Kd.R_mono (Kd.R_far (p := ⟨gb105, 3, none⟩) (Kd.R_far (p := ⟨gb105, 2, none⟩) (Kd.R_far (p := ⟨gb105, 1, none⟩) (Kd.R_far (p := ⟨gb105, 0, none⟩) (Kd.R_types HO104.out BK105.out (by decide)) (fun _ hk => hk.2) (.int .i64 a0_0)) (fun _ hk => hk.2) (.int .i64 a0_1)) (fun _ hk => hk.2) (.int .i64 (wrap64 (a0_2 + a1_2)))) (fun _ hk => hk.2) (.slice Ao10 y102.length co10)) (fun _ hk => trivial)⟩, ⟨by refine BW_ ?_; refine bR_ ?_ NB50_105.out _; refine BW_ ?_; refine bR_ ?_ NB50_105.out _; refine BW_ ?_; refine bR_ ?_ NB50_105.out _; refine BW_ ?_; refine bR_ ?_ NB50_105.out _; refine BW_ ?_; exact BK50.out⟩, ⟨by refine BW_ ?_; refine bR_ ?_ NB51_105.out _; refine BW_ ?_; refine bR_ ?_ NB51_105.out _; refine BW_ ?_; refine bR_ ?_ NB51_105.out _; refine BW_ ?_; refine bR_ ?_ NB51_105.out _; refine BW_ ?_; exact BK51.out⟩, ⟨by refine BW_ ?_; refine bR_ ?_ NB101_105.out _; refine BW_ ?_; refine bR_ ?_ NB101_105.out _; refine BW_ ?_; refine bR_ ?_ NB101_105.out _; refine BW_ ?_; refine bR_ ?_ NB101_105.out _; refine BW_ ?_; exact BK101.out⟩, ⟨by refine BW_ ?_; refine bP_ (cs := #[.int .i64 a0_0, .int .i64 a0_1, .int .i64 (wrap64 (a0_2 + a1_2)), .slice none 0 0]) ?_ 3 _ rfl; refine BW_ ?_; refine bP_ (cs := #[.int .i64 a0_0, .int .i64 a0_1, .int .i64 0, .slice none 0 0]) ?_ 2 _ rfl; refine BW_ ?_; refine bP_ (cs := #[.int .i64 a0_0, .int .i64 0, .int .i64 0, .slice none 0 0]) ?_ 1 _ rfl; refine BW_ ?_; refine bP_ (cs := #[.int .i64 0, .int .i64 0, .int .i64 0, .slice none 0 0]) ?_ 0 _ rfl; refine BW_ ?_; exact BK105.out⟩, ⟨B2_ HB.out GE101.out GE105.out⟩⟩
 case round =>
  clear H'
  obtain ⟨x6_1, x106003_1, u106003, rfl, HA, HK1, HO_106003, BK50, BK51, BK101, BK105, HB⟩ := hrel
  cases gk with
  | zero => exact absurd HA.out (by simp [z180.l0])
  | succ k1 =>
   have H := HA.out
   clear HA
   simp only [z180.l0] at H
   by_cases c15 : x6_1 < a0_1
   ·rw [if_pos c15] at H
    have c15b0 : decide (x6_1 < a0_1) = true := decide_eq_true c15
    clear c15
    obtain ⟨ji16, hji16⟩ : ∃ j_ : Int, (wrap64 (x6_1 * a0_2)) = j_ := ⟨_, rfl⟩
    replace H : (if 0 ≤ (ji16) then (if (ji16) ≤ (wrap64 ((wrap64 (x6_1 + 1)) * a0_2)) then (if (wrap64 ((wrap64 (x6_1 + 1)) * a0_2)) ≤ (l0_3.length : Int) then (if x106003_1.length + ((l0_3.take ((wrap64 ((wrap64 (x6_1 + 1)) * a0_2)) : Int).toNat).drop ((ji16) : Int).toNat).length < 17592186044416 then ((some (x106003_1 ++ ((l0_3.take ((wrap64 ((wrap64 (x6_1 + 1)) * a0_2)) : Int).toNat).drop ((ji16) : Int).toNat) : List Int)).bind fun y107 => (if 0 ≤ (wrap64 (x6_1 * a1_2)) then (if (wrap64 (x6_1 * a1_2)) ≤ (wrap64 ((wrap64 (x6_1 + 1)) * a1_2)) then (if (wrap64 ((wrap64 (x6_1 + 1)) * a1_2)) ≤ (l1_3.length : Int) then (if y107.length + ((l1_3.take ((wrap64 ((wrap64 (x6_1 + 1)) * a1_2)) : Int).toNat).drop ((wrap64 (x6_1 * a1_2)) : Int).toNat).length < 17592186044416 then (z180.l0 k1 (wrap64 (x6_1 + 1)) a0_0 a0_1 a0_2 l0_3 a1_0 a1_1 a1_2 l1_3 a0_0 a0_1 (wrap64 (a0_2 + a1_2)) (y107 ++ ((l1_3.take ((wrap64 ((wrap64 (x6_1 + 1)) * a1_2)) : Int).toNat).drop ((wrap64 (x6_1 * a1_2)) : Int).toNat))) else (none)) else (none)) else (none)) else (none))) else (none)) else (none)) else (none)) else (none)) = some (r1, r2, r3, r4) := by first | (rw [hji16] at H; exact H) | (simp only [hji16] at H ⊢; exact H)
    have hji16w : (IntKind.i64.wrap (x6_1 * a0_2)) = ji16 := (qA6 _).trans hji16
    have c17 := O1_ H
    replace H := O2_ H
    have c17b0 := eq_true c17
    have c17b1 : decide (0 ≤ (ji16)) = true := decide_eq_true c17
    clear c17
    have c18 := O1_ H
    replace H := O2_ H
    have c18b0 := eq_true c18
    have c18b1 : decide ((ji16) ≤ (wrap64 ((wrap64 (x6_1 + 1)) * a0_2))) = true := decide_eq_true c18
    have c19 := O1_ H
    replace H := O2_ H
    have c19b0 := eq_true c19
    have c19b1 : decide ((wrap64 ((wrap64 (x6_1 + 1)) * a0_2)) ≤ (l0_3.length : Int)) = true := decide_eq_true c19
    have c20 := O1_ H
    replace H := O2_ H
    have LMc20 := Zz.mk c20
    clear c20
    obtain ⟨y107, hy107⟩ : ∃ y_ : List Int, y_ = (x106003_1 ++ ((l0_3.take ((wrap64 ((wrap64 (x6_1 + 1)) * a0_2)) : Int).toNat).drop ((ji16) : Int).toNat)) := ⟨_, rfl⟩
    replace H : (if 0 ≤ (wrap64 (x6_1 * a1_2)) then (if (wrap64 (x6_1 * a1_2)) ≤ (wrap64 ((wrap64 (x6_1 + 1)) * a1_2)) then (if (wrap64 ((wrap64 (x6_1 + 1)) * a1_2)) ≤ (l1_3.length : Int) then (if y107.length + ((l1_3.take ((wrap64 ((wrap64 (x6_1 + 1)) * a1_2)) : Int).toNat).drop ((wrap64 (x6_1 * a1_2)) : Int).toNat).length < 17592186044416 then (z180.l0 k1 (wrap64 (x6_1 + 1)) a0_0 a0_1 a0_2 l0_3 a1_0 a1_1 a1_2 l1_3 a0_0 a0_1 (wrap64 (a0_2 + a1_2)) (y107 ++ ((l1_3.take ((wrap64 ((wrap64 (x6_1 + 1)) * a1_2)) : Int).toNat).drop ((wrap64 (x6_1 * a1_2)) : Int).toNat))) else (none)) else (none)) else (none)) else (none)) = some (r1, r2, r3, r4) := Y_ hy107 H
    have Ny107 := Zz.mk hy107
    clear hy107
    obtain ⟨ji21, hji21⟩ : ∃ j_ : Int, (wrap64 (x6_1 * a1_2)) = j_ := ⟨_, rfl⟩
    replace H : (if 0 ≤ (ji21) then (if (ji21) ≤ (wrap64 ((wrap64 (x6_1 + 1)) * a1_2)) then (if (wrap64 ((wrap64 (x6_1 + 1)) * a1_2)) ≤ (l1_3.length : Int) then (if y107.length + ((l1_3.take ((wrap64 ((wrap64 (x6_1 + 1)) * a1_2)) : Int).toNat).drop ((ji21) : Int).toNat).length < 17592186044416 then (z180.l0 k1 (wrap64 (x6_1 + 1)) a0_0 a0_1 a0_2 l0_3 a1_0 a1_1 a1_2 l1_3 a0_0 a0_1 (wrap64 (a0_2 + a1_2)) (y107 ++ ((l1_3.take ((wrap64 ((wrap64 (x6_1 + 1)) * a1_2)) : Int).toNat).drop ((ji21) : Int).toNat))) else (none)) else (none)) else (none)) else (none)) = some (r1, r2, r3, r4) := by first | (rw [hji21] at H; exact H) | (simp only [hji21] at H ⊢; exact H)
    have hji21w : (IntKind.i64.wrap (x6_1 * a1_2)) = ji21 := (qA6 _).trans hji21
    have c22 := O1_ H
    replace H := O2_ H
    have c22b0 := eq_true c22
    have c22b1 : decide (0 ≤ (ji21)) = true := decide_eq_true c22
    clear c22
    have c23 := O1_ H
    replace H := O2_ H
    have c23b0 := eq_true c23
    have c23b1 : decide ((ji21) ≤ (wrap64 ((wrap64 (x6_1 + 1)) * a1_2))) = true := decide_eq_true c23
    have c24 := O1_ H
    replace H := O2_ H
    have c24b0 := eq_true c24
    have c24b1 : decide ((wrap64 ((wrap64 (x6_1 + 1)) * a1_2)) ≤ (l1_3.length : Int)) = true := decide_eq_true c24
    have c25 := O1_ H
    replace H := O2_ H
    have LMc25 := Zz.mk c25
    clear c25
    obtain ⟨y111, hy111⟩ : ∃ y_ : List Int, y_ = (y107 ++ ((l1_3.take ((wrap64 ((wrap64 (x6_1 + 1)) * a1_2)) : Int).toNat).drop ((ji21) : Int).toNat)) := ⟨_, rfl⟩
    replace H : (z180.l0 k1 (wrap64 (x6_1 + 1)) a0_0 a0_1 a0_2 l0_3 a1_0 a1_1 a1_2 l1_3 a0_0 a0_1 (wrap64 (a0_2 + a1_2)) y111) = some (r1, r2, r3, r4) := Y_ hy111 H
    have Ny111 := Zz.mk hy111
    clear hy111
    have H' := Zz.mk H
    clear H
    have hnb26 := NB50_101.out
    have hnc26 := NB101_50.out
    have hnb27 := NB50_105.out
    have hnc27 := NB105_50.out
    obtain ⟨hcz28_0, hcz28_1, hcz28_2, hcz28_3, hfz28_0, hfz28_1, hfz28_2, hfz28_3⟩ := Z4f_ BK50.out
    try go_wp2
    replace HO_106003 := Zz.mk (Kd.R_drew HO_106003.out)
    replace BK50 := Zz.mk (bD_ BK50.out)
    replace BK51 := Zz.mk (bD_ BK51.out)
    replace BK101 := Zz.mk (bD_ BK101.out)
    replace BK105 := Zz.mk (bD_ BK105.out)
    replace HB := Zz.mk (qAn HB.out)
    obtain ⟨i030, hi030, _, hsz30, _⟩ := info_parts qBj
    obtain ⟨A30, hcut30, hA30, hC30⟩ := qDa (P := Try.prog) (Value.int .i64) 0 26 2 .i64 .i64 Try.underlying26 hi030 hsz30 A0_3 c0_3 l0_3 (ji16) (wrap64 ((wrap64 (x6_1 + 1)) * a0_2)) (D_) (by first | omega | exact D_) (D_) HC0_3.out
    have HR106 := Zz.mk (Kd.C_of_reads (h1 := fun _ => rfl) (hA30 _ (Kd.reads_of_C HR0_3.out)))
    have HC106 := Zz.mk hC30
    clear hA30 hC30 hi030 hsz30
    refine qBf (n := 23) (S := fun w' => w'.cell? ⟨gb105, 0, none⟩ = some (.int .i64 a0_0) ∧ w'.cell? ⟨gb105, 1, none⟩ = some (.int .i64 a0_1) ∧ w'.cell? ⟨gb105, 2, none⟩ = some (.int .i64 (wrap64 (a0_2 + a1_2))) ∧ w'.cell? ⟨gb105, 3, none⟩ = some (u106003) ∧ w'.cell? ⟨gp0, 0, none⟩ = some (.int .i64 a0_0) ∧ w'.cell? ⟨gp0, 1, none⟩ = some (.int .i64 a0_1) ∧ w'.cell? ⟨gp0, 2, none⟩ = some (.int .i64 a0_2) ∧ w'.cell? ⟨gp0, 3, none⟩ = some (.slice A0_3 l0_3.length c0_3)) (ds := [22]) (tb_ 23 0) (by kernel_rfl) rfl rfl ⟨(bC_ BK105.out 0).trans rfl, (bC_ BK105.out 1).trans rfl, (bC_ BK105.out 2).trans rfl, (bC_ BK105.out 3).trans rfl, (bC_ BK50.out 0).trans rfl, (bC_ BK50.out 1).trans rfl, (bC_ BK50.out 2).trans rfl, (bC_ BK50.out 3).trans rfl⟩ (fun hHeld => ?_); refine qA7 z180.tab5 z180.bits5 (fun HT_ HW_ => ?_)
    generalize wr.drew = w29 at HO_106003 BK50 BK51 BK101 BK105 HB HR106 hHeld ⊢
    refine PX_ 0 34 (tb_ 23 1) HT_ rfl rfl ?_
    refine PX_ 2 36 (tb_ 23 5) HT_ rfl rfl ?_
    refine PX_ 3 37 (tb_ 23 13) HT_ rfl rfl ?_
    refine PX_ 4 38 (tb_ 23 29) HT_ rfl rfl ?_
    refine PX_ 6 40 (tb_ 23 93) HT_ rfl rfl ?_
    refine PX_ 7 41 (tb_ 23 221) HT_ rfl rfl ?_
    refine PX_ 8 42 (tb_ 23 477) HT_ rfl rfl ?_
    refine PX_ 9 43 (tb_ 23 989) HT_ rfl rfl ?_
    refine PX_ 12 46 (tb_ 23 5085) HT_ rfl rfl ?_
    refine PX_ 13 47 (tb_ 23 13277) HT_ rfl rfl ?_
    refine PX_ 14 48 (tb_ 23 29661) HT_ rfl rfl ?_
    refine PX_ 15 49 (tb_ 23 62429) HT_ rfl rfl ?_
    refine PX_ 16 50 (tb_ 23 127965) HT_ rfl rfl ?_
    refine TV_ (i := 1) (N := some 35) (tb_ 23 127967) HT_ HW_ rfl rfl hHeld (by rintro w' ⟨s0, s1, s2, s3, s4, s5, s6, s7⟩; go_simp; with_reducible rfl) (h := ?_)
    refine TV_ (i := 5) (N := some 39) (tb_ 23 127999) HT_ HW_ rfl rfl hHeld (by rintro w' ⟨s0, s1, s2, s3, s4, s5, s6, s7⟩; go_simp; with_reducible rfl) (h := ?_)
    refine TV_ (i := 10) (N := some 44) (tb_ 23 129023) HT_ HW_ rfl rfl hHeld (by rintro w' ⟨s0, s1, s2, s3, s4, s5, s6, s7⟩; go_simp; with_reducible rfl) (h := ?_)
    refine PX_ 11 45 (tb_ 23 131071) HT_ rfl rfl ?_
    refine TV_ (i := 17) (N := some 51) (tb_ 23 262143) HT_ HW_ rfl rfl hHeld (by rintro w' ⟨s0, s1, s2, s3, s4, s5, s6, s7⟩; go_simp; with_reducible rfl) (h := ?_)
    refine PX_ 18 52 (tb_ 23 524287) HT_ rfl rfl ?_
    refine PX_ 19 53 (tb_ 23 1048575) HT_ rfl rfl ?_
    refine one_ (i := 20) (N := some 54) (tb_ 23 2097151) rfl rfl (qA8 HT_.out (by kernel_rfl)) (by decide) (fun K hK => ?_)
    refine Kd.R_append_rows_step (Kd.int .i64) (w0 := w) w.heap.size (by rfl) (.tmp 35) (.tmp 53) 26 2 (.int .i64 0) 8 rfl Try.underlying26 qBj rfl (by decide) (by omega) u106003 x106003_1 ((l0_3.take ((wrap64 ((wrap64 (x6_1 + 1)) * a0_2)) : Int).toNat).drop ((ji16) : Int).toNat) _ _ _ (fun _ => True) (fun _ => False) rfl rfl ?aO ?aR (fun _ _ h => h) (fun _ h => h.elim) ?aF ?aB ?aS ?aL ?_
    (case aR => first | (rw [← show ((l0_3.take ((wrap64 ((wrap64 (x6_1 + 1)) * a0_2)) : Int).toNat).drop ((ji16) : Int).toNat).length = ((wrap64 ((wrap64 (x6_1 + 1)) * a0_2)).toNat - (ji16).toNat) from (by rw [List.length_drop, List.length_take]; have h_ : ((wrap64 ((wrap64 (x6_1 + 1)) * a0_2)) : Int) ≤ (l0_3.length : Int) := D_; omega)]; repeat (first | exact (Kd.C_below HR106.out HB.out) | (with_reducible refine Kd.C_alloc ?_ _) | (with_reducible refine Kd.C_drewN ?_ _) | (with_reducible refine Kd.C_drew ?_))) | (repeat (first | exact (Kd.C_below HR106.out HB.out) | (with_reducible refine Kd.C_alloc ?_ _) | (with_reducible refine Kd.C_drewN ?_ _) | (with_reducible refine Kd.C_drew ?_))))
    (case aB => exact (B2_ HB.out GE101.out GE105.out))
    (case aF => exact (fun _ _ => trivial))
    (case aO => exact (KR_ HO_106003.out))
    (case aS => exact (bS_ (B2_ HB.out GE101.out GE105.out)))
    (case aL => have := LMc20.out; have hlx_ := (show ((l0_3.take ((wrap64 ((wrap64 (x6_1 + 1)) * a0_2)) : Int).toNat).drop ((ji16) : Int).toNat).length = ((wrap64 ((wrap64 (x6_1 + 1)) * a0_2)).toNat - (ji16).toNat) from (by rw [List.length_drop, List.length_take]; have h_ : ((wrap64 ((wrap64 (x6_1 + 1)) * a0_2)) : Int) ≤ (l0_3.length : Int) := D_; omega)); omega)
    intro v108 w31 ho hb hg hat
    rw [← Ny107.out] at ho
    replace BK50 := Zz.mk (qAr (g := gp0) (o := .cells #[.int .i64 a0_0, .int .i64 a0_1, .int .i64 a0_2, .slice A0_3 l0_3.length c0_3] 48 (0, 0)) (KB_ BK50.out) hg (Kd.R_ne HO_106003.out BK50.out (by decide)))
    replace BK51 := Zz.mk (qAr (g := gp1) (o := .cells #[.int .i64 a1_0, .int .i64 a1_1, .int .i64 a1_2, .slice A1_3 l1_3.length c1_3] 48 (0, 0)) (KB_ BK51.out) hg (Kd.R_ne HO_106003.out BK51.out (by decide)))
    replace BK101 := Zz.mk (qAr (g := gb101) (o := .cells #[.int .i64 0, .int .i64 0, .int .i64 0, .slice none 0 0] 48 (0, 0)) (KB_ BK101.out) hg (Kd.R_ne HO_106003.out BK101.out (by decide)))
    replace BK105 := Zz.mk (qAr (g := gb105) (o := .cells #[.int .i64 a0_0, .int .i64 a0_1, .int .i64 (wrap64 (a0_2 + a1_2)), u106003] 48 (0, 0)) (KB_ BK105.out) hg (Kd.R_ne HO_106003.out BK105.out (by decide)))
    replace HB := Zz.mk (hb)
    have HO109 := Zz.mk (ho)
    clear HO_106003
    clear ho hb hg hat
    obtain ⟨Ao32, co32, eo32⟩ := Kd.R_slice HO109.out
    (first | subst eo32 | (injection eo32 with f1_ f2_ f3_; have f4_ := f1_.symm; have f5_ := f3_.symm; clear f1_ f2_ f3_; subst f4_; subst f5_))
    refine hK.out _ _ ⟨(bC_ BK105.out 0).trans rfl, (bC_ BK105.out 1).trans rfl, (bC_ BK105.out 2).trans rfl, (bC_ BK105.out 3).trans rfl, (bC_ BK50.out 0).trans rfl, (bC_ BK50.out 1).trans rfl, (bC_ BK50.out 2).trans rfl, (bC_ BK50.out 3).trans rfl⟩ (fun hHeld => ?_)
    clear hK K
    refine NM_ (N := (some 54)) (h := ?_)
    refine PX_ 21 55 (tb_ 23 4194303) HT_ rfl rfl ?_
    refine qC0 (i := 22) (N := none) (tb_ 23 8388607) rfl rfl (qA8 HT_.out (by kernel_rfl)) (by decide) (fun K hK => ?_)
    have hs33 : w31.cell? ⟨gb105, 3, none⟩ = some (u106003) := (bC_ BK105.out 3).trans rfl
    have hfs33 := bF_ BK105.out 3
    have hns33_0 := NB50_105.out
    have hns33_1 := NB51_105.out
    have hns33_2 := NB101_105.out
    have hms33_0 := NB105_50.out
    have hms33_1 := NB105_51.out
    have hms33_2 := NB105_101.out
    refine qCr (w1 := ?_) (by rfl) rfl ?_ ?_
    rotate_left
    ·go_simp
     rfl
    refine hK.out _ _ ?_
    clear hK K
    refine qBy (qBe HT_.out (by kernel_rfl)) ?_
    try go_wp2
    have n0_ : Zz (Kd.R (Kd.int .i64) 2 (w31.setCell ⟨gb105, 3, none⟩ (.slice Ao32 y107.length co32)) w.heap.size (fun _ => True) (.slice Ao32 y107.length co32) y107) := ⟨by refine RW_ ?_; exact Kd.R_mono (Kd.R_far (p := ⟨gb105, 3, none⟩) (Kd.R_types HO109.out BK105.out (by decide)) (fun _ hk => hk.2) (.slice Ao32 y107.length co32)) (fun _ hk => trivial)⟩
    have n1_ : Zz ((w31.setCell ⟨gb105, 3, none⟩ (.slice Ao32 y107.length co32)).heap[gp0]? = some (.cells #[.int .i64 a0_0, .int .i64 a0_1, .int .i64 a0_2, .slice A0_3 l0_3.length c0_3] 48 (0, 0))) := ⟨by refine BW_ ?_; refine bR_ ?_ NB50_105.out _; refine BW_ ?_; exact BK50.out⟩
    have n2_ : Zz ((w31.setCell ⟨gb105, 3, none⟩ (.slice Ao32 y107.length co32)).heap[gp1]? = some (.cells #[.int .i64 a1_0, .int .i64 a1_1, .int .i64 a1_2, .slice A1_3 l1_3.length c1_3] 48 (0, 0))) := ⟨by refine BW_ ?_; refine bR_ ?_ NB51_105.out _; refine BW_ ?_; exact BK51.out⟩
    have n3_ : Zz ((w31.setCell ⟨gb105, 3, none⟩ (.slice Ao32 y107.length co32)).heap[gb101]? = some (.cells #[.int .i64 0, .int .i64 0, .int .i64 0, .slice none 0 0] 48 (0, 0))) := ⟨by refine BW_ ?_; refine bR_ ?_ NB101_105.out _; refine BW_ ?_; exact BK101.out⟩
    have n4_ : Zz ((w31.setCell ⟨gb105, 3, none⟩ (.slice Ao32 y107.length co32)).heap[gb105]? = some (.cells #[.int .i64 a0_0, .int .i64 a0_1, .int .i64 (wrap64 (a0_2 + a1_2)), .slice Ao32 y107.length co32] 48 (0, 0))) := ⟨by refine BW_ ?_; refine bP_ (cs := #[.int .i64 a0_0, .int .i64 a0_1, .int .i64 (wrap64 (a0_2 + a1_2)), u106003]) ?_ 3 _ rfl; refine BW_ ?_; exact BK105.out⟩
    have n5_ : Zz (Below w.heap.size w (w31.setCell ⟨gb105, 3, none⟩ (.slice Ao32 y107.length co32))) := ⟨B2_ HB.out GE101.out GE105.out⟩
    (try clear HO109);(try clear BK50);(try clear BK51);(try clear BK101);(try clear BK105);(try clear HB)
    generalize (w31.setCell ⟨gb105, 3, none⟩ (.slice Ao32 y107.length co32)) = w34 at n0_ n1_ n2_ n3_ n4_ n5_ ⊢
    have HO109 := n0_
    have BK50 := n1_
    have BK51 := n2_
    have BK101 := n3_
    have BK105 := n4_
    have HB := n5_
    clear n0_ n1_ n2_ n3_ n4_ n5_
    replace HO109 := Zz.mk (Kd.R_drew HO109.out)
    replace BK50 := Zz.mk (bD_ BK50.out)
    replace BK51 := Zz.mk (bD_ BK51.out)
    replace BK101 := Zz.mk (bD_ BK101.out)
    replace BK105 := Zz.mk (bD_ BK105.out)
    replace HB := Zz.mk (qAn HB.out)
    obtain ⟨i036, hi036, _, hsz36, _⟩ := info_parts qBj
    obtain ⟨A36, hcut36, hA36, hC36⟩ := qDa (P := Try.prog) (Value.int .i64) 0 26 2 .i64 .i64 Try.underlying26 hi036 hsz36 A1_3 c1_3 l1_3 (ji21) (wrap64 ((wrap64 (x6_1 + 1)) * a1_2)) (D_) (by first | omega | exact D_) (D_) HC1_3.out
    have HR110 := Zz.mk (Kd.C_of_reads (h1 := fun _ => rfl) (hA36 _ (Kd.reads_of_C HR1_3.out)))
    have HC110 := Zz.mk hC36
    clear hA36 hC36 hi036 hsz36
    refine qBf (n := 23) (S := fun w' => w'.cell? ⟨gb105, 0, none⟩ = some (.int .i64 a0_0) ∧ w'.cell? ⟨gb105, 1, none⟩ = some (.int .i64 a0_1) ∧ w'.cell? ⟨gb105, 2, none⟩ = some (.int .i64 (wrap64 (a0_2 + a1_2))) ∧ w'.cell? ⟨gb105, 3, none⟩ = some (.slice Ao32 y107.length co32) ∧ w'.cell? ⟨gp1, 0, none⟩ = some (.int .i64 a1_0) ∧ w'.cell? ⟨gp1, 1, none⟩ = some (.int .i64 a1_1) ∧ w'.cell? ⟨gp1, 2, none⟩ = some (.int .i64 a1_2) ∧ w'.cell? ⟨gp1, 3, none⟩ = some (.slice A1_3 l1_3.length c1_3)) (ds := [22]) (tb_ 23 0) (by kernel_rfl) rfl rfl ⟨(bC_ BK105.out 0).trans rfl, (bC_ BK105.out 1).trans rfl, (bC_ BK105.out 2).trans rfl, (bC_ BK105.out 3).trans rfl, (bC_ BK51.out 0).trans rfl, (bC_ BK51.out 1).trans rfl, (bC_ BK51.out 2).trans rfl, (bC_ BK51.out 3).trans rfl⟩ (fun hHeld => ?_); refine qA7 z180.tab6 z180.bits6 (fun HT_ HW_ => ?_)
    generalize w34.drew = w35 at HO109 BK50 BK51 BK101 BK105 HB HR110 hHeld ⊢
    refine PX_ 0 56 (tb_ 23 1) HT_ rfl rfl ?_
    refine PX_ 2 58 (tb_ 23 5) HT_ rfl rfl ?_
    refine PX_ 3 59 (tb_ 23 13) HT_ rfl rfl ?_
    refine PX_ 4 60 (tb_ 23 29) HT_ rfl rfl ?_
    refine PX_ 6 62 (tb_ 23 93) HT_ rfl rfl ?_
    refine PX_ 7 63 (tb_ 23 221) HT_ rfl rfl ?_
    refine PX_ 8 64 (tb_ 23 477) HT_ rfl rfl ?_
    refine PX_ 9 65 (tb_ 23 989) HT_ rfl rfl ?_
    refine PX_ 12 68 (tb_ 23 5085) HT_ rfl rfl ?_
    refine PX_ 13 69 (tb_ 23 13277) HT_ rfl rfl ?_
    refine PX_ 14 70 (tb_ 23 29661) HT_ rfl rfl ?_
    refine PX_ 15 71 (tb_ 23 62429) HT_ rfl rfl ?_
    refine PX_ 16 72 (tb_ 23 127965) HT_ rfl rfl ?_
    refine TV_ (i := 1) (N := some 57) (tb_ 23 127967) HT_ HW_ rfl rfl hHeld (by rintro w' ⟨s0, s1, s2, s3, s4, s5, s6, s7⟩; go_simp; with_reducible rfl) (h := ?_)
    refine TV_ (i := 5) (N := some 61) (tb_ 23 127999) HT_ HW_ rfl rfl hHeld (by rintro w' ⟨s0, s1, s2, s3, s4, s5, s6, s7⟩; go_simp; with_reducible rfl) (h := ?_)
    refine TV_ (i := 10) (N := some 66) (tb_ 23 129023) HT_ HW_ rfl rfl hHeld (by rintro w' ⟨s0, s1, s2, s3, s4, s5, s6, s7⟩; go_simp; with_reducible rfl) (h := ?_)
    refine PX_ 11 67 (tb_ 23 131071) HT_ rfl rfl ?_
    refine TV_ (i := 17) (N := some 73) (tb_ 23 262143) HT_ HW_ rfl rfl hHeld (by rintro w' ⟨s0, s1, s2, s3, s4, s5, s6, s7⟩; go_simp; with_reducible rfl) (h := ?_)
    refine PX_ 18 74 (tb_ 23 524287) HT_ rfl rfl ?_
    refine PX_ 19 75 (tb_ 23 1048575) HT_ rfl rfl ?_
    refine one_ (i := 20) (N := some 76) (tb_ 23 2097151) rfl rfl (qA8 HT_.out (by kernel_rfl)) (by decide) (fun K hK => ?_)
    refine Kd.R_append_rows_step (Kd.int .i64) (w0 := w) w.heap.size (by rfl) (.tmp 57) (.tmp 75) 26 2 (.int .i64 0) 8 rfl Try.underlying26 qBj rfl (by decide) (by omega) (.slice Ao32 y107.length co32) y107 ((l1_3.take ((wrap64 ((wrap64 (x6_1 + 1)) * a1_2)) : Int).toNat).drop ((ji21) : Int).toNat) _ _ _ (fun _ => True) (fun _ => False) rfl rfl ?aO ?aR (fun _ _ h => h) (fun _ h => h.elim) ?aF ?aB ?aS ?aL ?_
    (case aR => first | (rw [← show ((l1_3.take ((wrap64 ((wrap64 (x6_1 + 1)) * a1_2)) : Int).toNat).drop ((ji21) : Int).toNat).length = ((wrap64 ((wrap64 (x6_1 + 1)) * a1_2)).toNat - (ji21).toNat) from (by rw [List.length_drop, List.length_take]; have h_ : ((wrap64 ((wrap64 (x6_1 + 1)) * a1_2)) : Int) ≤ (l1_3.length : Int) := D_; omega)]; repeat (first | exact (Kd.C_below HR110.out HB.out) | (with_reducible refine Kd.C_alloc ?_ _) | (with_reducible refine Kd.C_drewN ?_ _) | (with_reducible refine Kd.C_drew ?_))) | (repeat (first | exact (Kd.C_below HR110.out HB.out) | (with_reducible refine Kd.C_alloc ?_ _) | (with_reducible refine Kd.C_drewN ?_ _) | (with_reducible refine Kd.C_drew ?_))))
    (case aB => exact (B2_ HB.out GE101.out GE105.out))
    (case aF => exact (fun _ _ => trivial))
    (case aO => exact (KR_ HO109.out))
    (case aS => exact (bS_ (B2_ HB.out GE101.out GE105.out)))
    (case aL => have := LMc25.out; have hlx_ := (show ((l1_3.take ((wrap64 ((wrap64 (x6_1 + 1)) * a1_2)) : Int).toNat).drop ((ji21) : Int).toNat).length = ((wrap64 ((wrap64 (x6_1 + 1)) * a1_2)).toNat - (ji21).toNat) from (by rw [List.length_drop, List.length_take]; have h_ : ((wrap64 ((wrap64 (x6_1 + 1)) * a1_2)) : Int) ≤ (l1_3.length : Int) := D_; omega)); omega)
    intro v112 w37 ho hb hg hat
    rw [← Ny111.out] at ho
    replace BK50 := Zz.mk (qAr (g := gp0) (o := .cells #[.int .i64 a0_0, .int .i64 a0_1, .int .i64 a0_2, .slice A0_3 l0_3.length c0_3] 48 (0, 0)) (KB_ BK50.out) hg (Kd.R_ne HO109.out BK50.out (by decide)))
    replace BK51 := Zz.mk (qAr (g := gp1) (o := .cells #[.int .i64 a1_0, .int .i64 a1_1, .int .i64 a1_2, .slice A1_3 l1_3.length c1_3] 48 (0, 0)) (KB_ BK51.out) hg (Kd.R_ne HO109.out BK51.out (by decide)))
    replace BK101 := Zz.mk (qAr (g := gb101) (o := .cells #[.int .i64 0, .int .i64 0, .int .i64 0, .slice none 0 0] 48 (0, 0)) (KB_ BK101.out) hg (Kd.R_ne HO109.out BK101.out (by decide)))
    replace BK105 := Zz.mk (qAr (g := gb105) (o := .cells #[.int .i64 a0_0, .int .i64 a0_1, .int .i64 (wrap64 (a0_2 + a1_2)), .slice Ao32 y107.length co32] 48 (0, 0)) (KB_ BK105.out) hg (Kd.R_ne HO109.out BK105.out (by decide)))
    replace HB := Zz.mk (hb)
    have HO113 := Zz.mk (ho)
    clear HO109
    clear ho hb hg hat
    obtain ⟨Ao38, co38, eo38⟩ := Kd.R_slice HO113.out
    (first | subst eo38 | (injection eo38 with f1_ f2_ f3_; have f4_ := f1_.symm; have f5_ := f3_.symm; clear f1_ f2_ f3_; subst f4_; subst f5_))
    refine hK.out _ _ ⟨(bC_ BK105.out 0).trans rfl, (bC_ BK105.out 1).trans rfl, (bC_ BK105.out 2).trans rfl, (bC_ BK105.out 3).trans rfl, (bC_ BK51.out 0).trans rfl, (bC_ BK51.out 1).trans rfl, (bC_ BK51.out 2).trans rfl, (bC_ BK51.out 3).trans rfl⟩ (fun hHeld => ?_)
    clear hK K
    refine NM_ (N := (some 76)) (h := ?_)
    refine PX_ 21 77 (tb_ 23 4194303) HT_ rfl rfl ?_
    refine qC0 (i := 22) (N := none) (tb_ 23 8388607) rfl rfl (qA8 HT_.out (by kernel_rfl)) (by decide) (fun K hK => ?_)
    have hs39 : w37.cell? ⟨gb105, 3, none⟩ = some (.slice Ao32 y107.length co32) := (bC_ BK105.out 3).trans rfl
    have hfs39 := bF_ BK105.out 3
    have hns39_0 := NB50_105.out
    have hns39_1 := NB51_105.out
    have hns39_2 := NB101_105.out
    have hms39_0 := NB105_50.out
    have hms39_1 := NB105_51.out
    have hms39_2 := NB105_101.out
    refine qCr (w1 := ?_) (by rfl) rfl ?_ ?_
    rotate_left
    ·go_simp
     rfl
    refine hK.out _ _ ?_
    clear hK K
    refine qBy (qBe HT_.out (by kernel_rfl)) ?_
    try go_wp2
    go_roundg k1
    case measure => exact Q1_ HK1
    case rel => exact ⟨(wrap64 (x6_1 + 1)), (y111), (.slice Ao38 y111.length co38), E_, H', ⟨Q1_ HK1⟩, ⟨by refine RW_ ?_; exact Kd.R_mono (Kd.R_far (p := ⟨gb105, 3, none⟩) (Kd.R_types HO113.out BK105.out (by decide)) (fun _ hk => hk.2) (.slice Ao38 y111.length co38)) (fun _ hk => trivial)⟩, ⟨by refine BW_ ?_; refine bR_ ?_ NB50_105.out _; refine BW_ ?_; exact BK50.out⟩, ⟨by refine BW_ ?_; refine bR_ ?_ NB51_105.out _; refine BW_ ?_; exact BK51.out⟩, ⟨by refine BW_ ?_; refine bR_ ?_ NB101_105.out _; refine BW_ ?_; exact BK101.out⟩, ⟨by refine BW_ ?_; refine bP_ (cs := #[.int .i64 a0_0, .int .i64 a0_1, .int .i64 (wrap64 (a0_2 + a1_2)), .slice Ao32 y107.length co32]) ?_ 3 _ rfl; refine BW_ ?_; exact BK105.out⟩, ⟨B2_ HB.out GE101.out GE105.out⟩⟩
   rw [if_neg c15] at H
   have c15b0 : decide (x6_1 < a0_1) = false := decide_eq_false c15
   clear c15
   simp only [Option.some.injEq, Prod.mk.injEq] at H
   obtain ⟨rfl, rfl, rfl, rfl⟩ := H
   have hnb40 := NB50_101.out
   have hnc40 := NB101_50.out
   have hnb41 := NB50_105.out
   have hnc41 := NB105_50.out
   obtain ⟨hcz42_0, hcz42_1, hcz42_2, hcz42_3, hfz42_0, hfz42_1, hfz42_2, hfz42_3⟩ := Z4f_ BK50.out
   have hnb43 := NB105_51.out
   have hnc43 := NB51_105.out
   have hnb44 := NB105_101.out
   have hnc44 := NB101_105.out
   obtain ⟨hcz45_0, hcz45_1, hcz45_2, hcz45_3, hfz45_0, hfz45_1, hfz45_2, hfz45_3⟩ := Z4f_ BK105.out
   have hnb46 := NB101_51.out
   have hnc46 := NB51_101.out
   obtain ⟨hcz47_0, hcz47_1, hcz47_2, hcz47_3, hfz47_0, hfz47_1, hfz47_2, hfz47_3⟩ := Z4f_ BK101.out
   obtain ⟨Ao48, co48, eo48⟩ := Kd.R_slice HO_106003.out
   subst eo48
   go_wp2
   refine bodyPost_ret (results_cell_row rfl _ _ gb101 48 #[.int .i64 a0_0, .int .i64 a0_1, .int .i64 (wrap64 (a0_2 + a1_2)), .slice Ao48 x106003_1.length co48] (0, 0) _ rfl (by refine BW_ ?_; refine bP_ (cs := #[.int .i64 a0_0, .int .i64 a0_1, .int .i64 (wrap64 (a0_2 + a1_2)), .slice none 0 0]) ?_ 3 _ rfl; refine BW_ ?_; refine bP_ (cs := #[.int .i64 a0_0, .int .i64 a0_1, .int .i64 0, .slice none 0 0]) ?_ 2 _ rfl; refine BW_ ?_; refine bP_ (cs := #[.int .i64 a0_0, .int .i64 0, .int .i64 0, .slice none 0 0]) ?_ 1 _ rfl; refine BW_ ?_; refine bP_ (cs := #[.int .i64 0, .int .i64 0, .int .i64 0, .slice none 0 0]) ?_ 0 _ rfl; refine BW_ ?_; exact BK101.out) Try.underlying48 rfl (by kernel_rfl)) rfl ?_
   exact ⟨_, F_, by refine RW_ ?_; exact Kd.R_mono (Kd.R_far (p := ⟨gb101, 3, none⟩) (Kd.R_far (p := ⟨gb101, 2, none⟩) (Kd.R_far (p := ⟨gb101, 1, none⟩) (Kd.R_far (p := ⟨gb101, 0, none⟩) (Kd.R_types HO_106003.out BK101.out (by decide)) (fun _ hk => hk.2) (.int .i64 a0_0)) (fun _ hk => hk.2) (.int .i64 a0_1)) (fun _ hk => hk.2) (.int .i64 (wrap64 (a0_2 + a1_2)))) (fun _ hk => hk.2) (.slice Ao48 x106003_1.length co48)) (fun _ hk => trivial), B2_ HB.out GE101.out GE105.out⟩
end Go.Proofs.Ytipkciildhghiaa.B
