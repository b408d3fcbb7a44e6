/- Printed proofs of functions of the program and of the reference, by a program of this work over the kit's printer. -/
import Derived.Test.YtabfflgoaalapaaKDOPFND0
import Derived.Test.YtabfflgoaalapaaKENHNJJ0
import Derived.Test.YtabfflgoaalapaaKFMJCKG0
import Derived.Test.YtabfflgoaalapaaKW0
namespace Go.Proofs.Ytabfflgoaalapaa.B
open Go.RowKit Go.Proofs.YtabfflgoaalapaaW.PrintWords Go.Proofs.YtabfflgoaalapaaW.PrintLast Go.Proofs.YtabfflgoaalapaaW.PrintMore
attribute [local go_sem] qAo qAm qAq qAp qAk qAj qAn qAl
set_option linter.unusedVariables false
set_option linter.unusedSimpArgs false
def z99.f (k : Nat) (a0_0 : Int) (a0_1 : Int) (l0_2 : List (List Int)) : Option (Int × Int × (List (List Int))) := (z135.f k a0_0 a0_1 l0_2).bind fun bt102 => ((z136.f k bt102.1 bt102.2.1 bt102.2.2.1 bt102.2.2.2).bind fun t109 => ((z62.f k a0_0 a0_1 t109).bind fun bt112 => (some (bt112.1, bt112.2.1, bt112.2.2))))
def z99.T1 : Bool × List (List Nat × List Nat) := (true, [([], []), ([0], [0]), ([1], [1]), ([2], [2]), ([], []), ([4], [4]), ([5], [5]), ([6], [6]), ([], []), ([8], [8]), ([9], [9]), ([10], [10]), ([3, 7, 11], [3, 7, 11]), ([], []), ([13, 12, 12, 0, 1, 2, 3, 4, 5, 6, 7, 8, 9, 10, 11, 12, 13], [12, 13])])
def z99.B1 : List Nat := [0, 1, 3, 7, 0, 16, 48, 112, 0, 256, 768, 1792, 4095, 0, 16383]
theorem z99.tab1 : rtab .any (qBt Try.f99 1) = z99.T1 := by kernel_rfl
theorem z99.bits1 : qA4 z99.T1.2 z99.B1 = true := by kernel_rfl
def z99.T2 : Bool × List (List Nat × List Nat) := (true, [([], []), ([0], [0]), ([1], [1]), ([2], [2]), ([], []), ([4], [4]), ([5], [5]), ([6], [6]), ([], []), ([3, 7, 8, 8], [3, 7, 8]), ([9, 9, 0, 1, 2, 3, 4, 5, 6, 7, 8, 9], [9])])
def z99.B2 : List Nat := [0, 1, 3, 7, 0, 16, 48, 112, 0, 511, 1023]
theorem z99.tab2 : rtab .any (qBt Try.f99 2) = z99.T2 := by kernel_rfl
theorem z99.bits2 : qA4 z99.T2.2 z99.B2 = true := by kernel_rfl
set_option maxHeartbeats 8000000 in
set_option maxRecDepth 100000 in
theorem z99.calls (k : Nat) (gp0 : Nat) (a0_0 : Int) (a0_1 : Int) (A0_2 : Option Addr) (c0_2 : Nat) (l0_2 : List (List Int)) (r1 : Int) (r2 : Int) (r3 : List (List Int)) (w : World) (hbp0 : w.heap[gp0]? = some (.cells #[.int .i64 a0_0, .int .i64 a0_1, .slice A0_2 l0_2.length c0_2] 29 (0, 0))) (hr0_2 : Kd.C (Kd.slice 2 (Kd.int .i64)) w A0_2 l0_2.length l0_2) (hc0_2 : l0_2.length ≤ c0_2) (h : z99.f k a0_0 a0_1 l0_2 = some (r1, r2, r3)) :
  Calls Try.prog 99 #[.pointer (some ⟨gp0, 0, none⟩)] w fun e w' => ∃ v2_ : Value, e = .returned (.agg #[.int .i64 r1, .int .i64 r2, v2_]) ∧ Kd.S (Kd.slice 2 (Kd.int .i64)) 25 w' w.heap.size (fun _ => True) v2_ r3 ∧ Below w.heap.size w w' := by
 have hu29 := Try.underlying29
 have hu59 := Try.underlying59
 have HR0_2 := Zz.mk hr0_2
 have HC0_2 := Zz.mk hc0_2
 clear hr0_2 hc0_2
 have BK50 := Zz.mk hbp0
 clear hbp0
 have HB := Zz.mk (Below.refl w.heap.size w)
 have H : ((z135.f k a0_0 a0_1 l0_2).bind fun bt102 => ((z136.f k bt102.1 bt102.2.1 bt102.2.2.1 bt102.2.2.2).bind fun t109 => ((z62.f k a0_0 a0_1 t109).bind fun bt112 => (some (bt112.1, bt112.2.1, bt112.2.2))))) = some (r1, r2, r3) := h
 clear h
 replace H := OB_ H
 obtain ⟨⟨t102, t103, t104, t105⟩, A20, H⟩ := H
 replace H : ((z136.f k t102 t103 t104 t105).bind fun t109 => ((z62.f k a0_0 a0_1 t109).bind fun bt112 => (some (bt112.1, bt112.2.1, bt112.2.2)))) = some (r1, r2, r3) := H
 have A2 := Zz.mk A20
 clear A20
 replace H := OB_ H
 obtain ⟨t109, A30, H⟩ := H
 replace H : ((z62.f k a0_0 a0_1 t109).bind fun bt112 => (some (bt112.1, bt112.2.1, bt112.2.2))) = some (r1, r2, r3) := H
 have A3 := Zz.mk A30
 clear A30
 replace H := OB_ H
 obtain ⟨⟨t112, t113, t114⟩, A40, H⟩ := H
 replace H : (some (t112, t113, t114)) = some (r1, r2, r3) := H
 have A4 := Zz.mk A40
 clear A40
 simp only [Option.some.injEq, Prod.mk.injEq] at H
 obtain ⟨rfl, rfl, rfl⟩ := H
 go_enter Try.func99, Try.ntmps99
 try go_wp2_with (first | ((with_reducible refine qAh (N := 2) rfl ?_); refine bx_ 2 #[.int .i64 0, .int .i64 0, .slice none 0 0] 29 ?_; intro gb101 hg w5 hbox hb; have BK101 := Zz.mk (hbox); have GW101 := Zz.mk ((gw_ hg (B_ HB.out))); have GE101 := GW101; have NB50_101 := Zz.mk ((nb_ BK50.out hg)); have NB101_50 := Zz.mk NB50_101.out.symm; replace BK50 := Zz.mk (kb_ BK50.out hb); replace HB := Zz.mk (bT_ (B_ HB.out) hb); clear hb hbox hg))
 replace BK50 := Zz.mk (bD_ BK50.out)
 replace BK101 := Zz.mk (bD_ BK101.out)
 replace HB := Zz.mk (qAc HB.out)
 refine qA5 (n := 15) (S := fun w' => w'.cell? ⟨gp0, 0, none⟩ = some (.int .i64 a0_0) ∧ w'.cell? ⟨gp0, 1, none⟩ = some (.int .i64 a0_1) ∧ w'.cell? ⟨gp0, 2, none⟩ = some (.slice A0_2 l0_2.length c0_2)) (ds := []) (tb_ 15 0) (by kernel_rfl) rfl rfl (Z3_ BK50.out) (fun hHeld => ?_); refine qAw z99.tab1 z99.bits1 (fun HT_ HW_ => ?_)
 generalize w5.drew = w6 at BK50 BK101 HB hHeld ⊢
 refine PX_ 0 4 (tb_ 15 1) HT_ rfl rfl ?_
 refine PX_ 1 5 (tb_ 15 3) HT_ rfl rfl ?_
 refine PX_ 2 6 (tb_ 15 7) HT_ rfl rfl ?_
 refine PX_ 4 8 (tb_ 15 23) HT_ rfl rfl ?_
 refine PX_ 5 9 (tb_ 15 55) HT_ rfl rfl ?_
 refine PX_ 6 10 (tb_ 15 119) HT_ rfl rfl ?_
 refine PX_ 8 12 (tb_ 15 375) HT_ rfl rfl ?_
 refine PX_ 9 13 (tb_ 15 887) HT_ rfl rfl ?_
 refine PX_ 10 14 (tb_ 15 1911) HT_ rfl rfl ?_
 refine TX_ 3 7 (tb_ 15 1919) HT_ HW_ rfl rfl hHeld ?_
 refine TX_ 7 11 (tb_ 15 2047) HT_ HW_ rfl rfl hHeld ?_
 refine TX_ 11 15 (tb_ 15 4095) HT_ HW_ rfl rfl hHeld ?_
 refine qDa (σ := Value × Nat) 1 (tb_ 15 16383) (fun s_ => [(16, .agg #[.int .i64 t102, .int .i64 t103, .int .i64 t104, s_.1]), (3, .pointer (some ⟨s_.2, 0, none⟩))]) (fun s_ w' => (w'.cell? ⟨gp0, 0, none⟩ = some (.int .i64 a0_0) ∧ w'.cell? ⟨gp0, 1, none⟩ = some (.int .i64 a0_1) ∧ w'.cell? ⟨gp0, 2, none⟩ = some (.slice A0_2 l0_2.length c0_2)) ∧ (Kd.R (Kd.int .i64) 2 w' w.heap.size (fun _ => True) s_.1 t105) ∧ (w'.heap[gb101]? = some (.cells #[.int .i64 0, .int .i64 0, .slice none 0 0] 29 (0, 0))) ∧ (w'.heap[s_.2]? = some (.cells #[.int .i64 0, .int .i64 0, .int .i64 0, .slice none 0 0] 59 (0, 0))) ∧ (w'.heap[gp0]? = some (.cells #[.int .i64 a0_0, .int .i64 a0_1, .slice A0_2 l0_2.length c0_2] 29 (0, 0))) ∧ (w.heap.size ≤ s_.2) ∧ (w.heap.size ≤ s_.2) ∧ (gb101 ≠ s_.2) ∧ (s_.2 ≠ gb101) ∧ (gp0 ≠ s_.2) ∧ (s_.2 ≠ gp0) ∧ (Below w.heap.size w w')) ?_ ?_
 rotate_left
 ·intro hCont
  refine two_ (i := 12) (j := 13) (Ni := some 16) (Nj := some 3) (tb_ 15 8191) (tb_ 15 12287) rfl rfl rfl rfl (qB3 HT_.out (by kernel_rfl)) (by decide) (by decide) (fun K hK => ?_) (fun K hK => ?_)
  ·skip
   refine GO_ Try.func135 #[.int .i64 a0_0, .int .i64 a0_1, .slice A0_2 l0_2.length c0_2] (h := ?_)
   with_reducible refine (z135.calls k a0_0 a0_1 _ _ l0_2 t102 t103 t104 t105 _ ?side1 ?side2 A2.out).mono ?_
   (case side1 => exact KC_ (Kd.C_below HR0_2.out HB.out))
   (case side2 => exact HC0_2.out)
   rintro e w7 ⟨v106, rfl, ho0, hb⟩
   refine ⟨_, rfl, ?_⟩
   have HO107 := Zz.mk (Kd.R_lower ho0 (bS_ (B1_ HB.out GE101.out)))
   replace BK50 := Zz.mk (kb_ BK50.out hb)
   replace BK101 := Zz.mk (kb_ BK101.out hb)
   replace HB := Zz.mk (bT_ (B1_ HB.out GE101.out) hb)
   (try clear hb);(try clear ho0)
   refine hK.out _ _ (Z3_ BK50.out) (fun hHeld => ?_)
   clear hK K
   refine NM_ (N := (some 16)) (h := ?_)
   refine one_ (i := 13) (N := some 3) (tb_ 15 16383) rfl rfl (qAr HT_.out (by kernel_rfl)) (by decide) (fun K hK => ?_)
   refine by_ 3 #[.int .i64 0, .int .i64 0, .int .i64 0, .slice none 0 0] 59 ?_
   intro gb108 hg w8 hbox hb
   have BK108 := Zz.mk (hbox)
   have GW108 := Zz.mk ((gw_ hg (B1_ HB.out GE101.out)))
   have GE108 := GW108
   have NB50_108 := Zz.mk ((nb_ BK50.out hg))
   have NB108_50 := Zz.mk NB50_108.out.symm
   have NB101_108 := Zz.mk ((nb_ BK101.out hg))
   have NB108_101 := Zz.mk NB101_108.out.symm
   replace HO107 := Zz.mk (Kd.R_below (KR_ HO107.out) hb)
   replace BK50 := Zz.mk (kb_ BK50.out hb)
   replace BK101 := Zz.mk (kb_ BK101.out hb)
   replace HB := Zz.mk (bT_ (B1_ HB.out GE101.out) hb)
   clear hb hbox hg
   refine hK.out _ _ (Z3_ BK50.out) (fun hHeld => ?_)
   clear hK K
   refine NM_ (N := (some 3)) (h := ?_)
   exact qBf (by simp only [qA1, Act.put, List.setIfInBounds_toArray, List.set_cons_zero, List.set_cons_succ]) (hCont (v106, gb108) _ ⟨hHeld, (KR_ HO107.out), (KB_ BK101.out), (KB_ BK108.out), (KB_ BK50.out), GW108.out, GE108.out, NB101_108.out, NB108_101.out, NB50_108.out, NB108_50.out, (B2_ HB.out GE101.out GE108.out)⟩)
  skip
  refine by_ 3 #[.int .i64 0, .int .i64 0, .int .i64 0, .slice none 0 0] 59 ?_
  intro gb108 hg w7 hbox hb
  have BK108 := Zz.mk (hbox)
  have GW108 := Zz.mk ((gw_ hg (B1_ HB.out GE101.out)))
  have GE108 := GW108
  have NB50_108 := Zz.mk ((nb_ BK50.out hg))
  have NB108_50 := Zz.mk NB50_108.out.symm
  have NB101_108 := Zz.mk ((nb_ BK101.out hg))
  have NB108_101 := Zz.mk NB101_108.out.symm
  replace BK50 := Zz.mk (kb_ BK50.out hb)
  replace BK101 := Zz.mk (kb_ BK101.out hb)
  replace HB := Zz.mk (bT_ (B1_ HB.out GE101.out) hb)
  clear hb hbox hg
  refine hK.out _ _ (Z3_ BK50.out) (fun hHeld => ?_)
  clear hK K
  refine NM_ (N := (some 3)) (h := ?_)
  refine one_ (i := 12) (N := some 16) (tb_ 15 16383) rfl rfl (qAr HT_.out (by kernel_rfl)) (by decide) (fun K hK => ?_)
  refine GO_ Try.func135 #[.int .i64 a0_0, .int .i64 a0_1, .slice A0_2 l0_2.length c0_2] (h := ?_)
  with_reducible refine (z135.calls k a0_0 a0_1 _ _ l0_2 t102 t103 t104 t105 _ ?side1 ?side2 A2.out).mono ?_
  (case side1 => exact KC_ (Kd.C_below HR0_2.out HB.out))
  (case side2 => exact HC0_2.out)
  rintro e w8 ⟨v106, rfl, ho0, hb⟩
  refine ⟨_, rfl, ?_⟩
  have HO107 := Zz.mk (Kd.R_lower ho0 (bS_ (B2_ HB.out GE101.out GE108.out)))
  replace BK50 := Zz.mk (kb_ BK50.out hb)
  replace BK101 := Zz.mk (kb_ BK101.out hb)
  replace BK108 := Zz.mk (kb_ BK108.out hb)
  replace HB := Zz.mk (bT_ (B2_ HB.out GE101.out GE108.out) hb)
  (try clear hb);(try clear ho0)
  refine hK.out _ _ (Z3_ BK50.out) (fun hHeld => ?_)
  clear hK K
  refine NM_ (N := (some 16)) (h := ?_)
  exact qBf (by simp only [qA1, Act.put, List.setIfInBounds_toArray, List.set_cons_zero, List.set_cons_succ]) (hCont (v106, gb108) _ ⟨hHeld, (KR_ HO107.out), (KB_ BK101.out), (KB_ BK108.out), (KB_ BK50.out), GW108.out, GE108.out, NB101_108.out, NB108_101.out, NB50_108.out, NB108_50.out, (B2_ HB.out GE101.out GE108.out)⟩)
 rintro ⟨v106, gb108⟩ w9 ⟨hS_, h0_, h1_, h2_, h3_, h4_, h5_, h6_, h7_, h8_, h9_, h10_⟩
 have HO107 : Zz (Kd.R (Kd.int .i64) 2 w9 w.heap.size (fun _ => True) v106 t105) := ⟨h0_⟩
 have BK108 : Zz (w9.heap[gb108]? = some (.cells #[.int .i64 0, .int .i64 0, .int .i64 0, .slice none 0 0] 59 (0, 0))) := ⟨h2_⟩
 have GW108 : Zz (w.heap.size ≤ gb108) := ⟨h4_⟩
 have GE108 : Zz (w.heap.size ≤ gb108) := ⟨h5_⟩
 have NB101_108 : Zz (gb101 ≠ gb108) := ⟨h6_⟩
 have NB108_101 : Zz (gb108 ≠ gb101) := ⟨h7_⟩
 have NB50_108 : Zz (gp0 ≠ gb108) := ⟨h8_⟩
 have NB108_50 : Zz (gb108 ≠ gp0) := ⟨h9_⟩
 replace BK101 : Zz (w9.heap[gb101]? = some (.cells #[.int .i64 0, .int .i64 0, .slice none 0 0] 29 (0, 0))) := ⟨h1_⟩
 replace BK50 : Zz (w9.heap[gp0]? = some (.cells #[.int .i64 a0_0, .int .i64 a0_1, .slice A0_2 l0_2.length c0_2] 29 (0, 0))) := ⟨h3_⟩
 replace HB : Zz (Below w.heap.size w w9) := ⟨h10_⟩
 (try clear h0_)
 (try clear h1_)
 (try clear h2_)
 (try clear h3_)
 (try clear h4_)
 (try clear h5_)
 (try clear h6_)
 (try clear h7_)
 (try clear h8_)
 (try clear h9_)
 (try clear h10_)
 have hHeld : w9.cell? ⟨gp0, 0, none⟩ = some (.int .i64 a0_0) ∧ w9.cell? ⟨gp0, 1, none⟩ = some (.int .i64 a0_1) ∧ w9.cell? ⟨gp0, 2, none⟩ = some (.slice A0_2 l0_2.length c0_2) := hS_
 obtain ⟨Ao13, co13, eo13⟩ := Kd.R_slice HO107.out
 (first | subst eo13 | obtain ⟨rfl, rfl⟩ := sl_ eo13)
 refine qBf (a' := ?_) ?_ ?_
 rotate_left
 ·simp only [qA1, Act.put, List.setIfInBounds_toArray, List.set_cons_zero, List.set_cons_succ]
  rfl
 refine one_ (i := 14) (N := none) (tb_ 15 32767) rfl rfl (qAr HT_.out (by kernel_rfl)) (by decide) (fun K hK => ?_)
 have hs10 : w9.cell? ⟨gb108, 0, none⟩ = some (.int .i64 0) := (bC_ BK108.out 0).trans rfl
 have hfs10 := bF_ BK108.out 0
 have hns10_0 := NB50_108.out
 have hns10_1 := NB101_108.out
 have hms10_0 := NB108_50.out
 have hms10_1 := NB108_101.out
 have hs11 : w9.cell? ⟨gb108, 1, none⟩ = some (.int .i64 0) := (bC_ BK108.out 1).trans rfl
 have hfs11 := bF_ BK108.out 1
 have hns11_0 := NB50_108.out
 have hns11_1 := NB101_108.out
 have hms11_0 := NB108_50.out
 have hms11_1 := NB108_101.out
 have hs12 : w9.cell? ⟨gb108, 2, none⟩ = some (.int .i64 0) := (bC_ BK108.out 2).trans rfl
 have hfs12 := bF_ BK108.out 2
 have hns12_0 := NB50_108.out
 have hns12_1 := NB101_108.out
 have hms12_0 := NB108_50.out
 have hms12_1 := NB108_101.out
 have hs14 : w9.cell? ⟨gb108, 3, none⟩ = some (.slice none 0 0) := (bC_ BK108.out 3).trans rfl
 have hfs14 := bF_ BK108.out 3
 have hns14_0 := NB50_108.out
 have hns14_1 := NB101_108.out
 have hms14_0 := NB108_50.out
 have hms14_1 := NB108_101.out
 refine qB9 (w1 := ?_) (by rfl) rfl ?_ ?_
 rotate_left
 ·go_simp
  rfl
 refine hK.out _ _ ⟨((qAf (p := ⟨gb108, _, none⟩) NB50_108.out _).trans (((qAf (p := ⟨gb108, _, none⟩) NB50_108.out _).trans (((qAf (p := ⟨gb108, _, none⟩) NB50_108.out _).trans (((qAf (p := ⟨gb108, _, none⟩) NB50_108.out _).trans (hHeld.1)))))))), ((qAf (p := ⟨gb108, _, none⟩) NB50_108.out _).trans (((qAf (p := ⟨gb108, _, none⟩) NB50_108.out _).trans (((qAf (p := ⟨gb108, _, none⟩) NB50_108.out _).trans (((qAf (p := ⟨gb108, _, none⟩) NB50_108.out _).trans (hHeld.2.1)))))))), ((qAf (p := ⟨gb108, _, none⟩) NB50_108.out _).trans (((qAf (p := ⟨gb108, _, none⟩) NB50_108.out _).trans (((qAf (p := ⟨gb108, _, none⟩) NB50_108.out _).trans (((qAf (p := ⟨gb108, _, none⟩) NB50_108.out _).trans (hHeld.2.2))))))))⟩ (fun hHeld => ?_)
 clear hK K
 refine qBd (qA2 HT_.out (by kernel_rfl)) ?_
 try go_wp2
 have n0_ : Zz (Kd.R (Kd.int .i64) 2 ((((w9.setCell ⟨gb108, 0, none⟩ (.int .i64 t102)).setCell ⟨gb108, 1, none⟩ (.int .i64 t103)).setCell ⟨gb108, 2, none⟩ (.int .i64 t104)).setCell ⟨gb108, 3, none⟩ (.slice Ao13 t105.length co13)) w.heap.size (fun _ => True) (.slice Ao13 t105.length co13) t105) := ⟨by refine RW_ ?_; exact Kd.R_mono (Kd.R_far (p := ⟨gb108, 3, none⟩) (Kd.R_far (p := ⟨gb108, 2, none⟩) (Kd.R_far (p := ⟨gb108, 1, none⟩) (Kd.R_far (p := ⟨gb108, 0, none⟩) (Kd.R_types HO107.out BK108.out (by decide)) (fun _ hk => hk.2) (.int .i64 t102)) (fun _ hk => hk.2) (.int .i64 t103)) (fun _ hk => hk.2) (.int .i64 t104)) (fun _ hk => hk.2) (.slice Ao13 t105.length co13)) (fun _ hk => trivial)⟩
 have n1_ : Zz (((((w9.setCell ⟨gb108, 0, none⟩ (.int .i64 t102)).setCell ⟨gb108, 1, none⟩ (.int .i64 t103)).setCell ⟨gb108, 2, none⟩ (.int .i64 t104)).setCell ⟨gb108, 3, none⟩ (.slice Ao13 t105.length co13)).heap[gp0]? = some (.cells #[.int .i64 a0_0, .int .i64 a0_1, .slice A0_2 l0_2.length c0_2] 29 (0, 0))) := ⟨by refine BW_ ?_; refine bR_ ?_ NB50_108.out _; refine BW_ ?_; refine bR_ ?_ NB50_108.out _; refine BW_ ?_; refine bR_ ?_ NB50_108.out _; refine BW_ ?_; refine bR_ ?_ NB50_108.out _; refine BW_ ?_; exact BK50.out⟩
 have n2_ : Zz (((((w9.setCell ⟨gb108, 0, none⟩ (.int .i64 t102)).setCell ⟨gb108, 1, none⟩ (.int .i64 t103)).setCell ⟨gb108, 2, none⟩ (.int .i64 t104)).setCell ⟨gb108, 3, none⟩ (.slice Ao13 t105.length co13)).heap[gb101]? = some (.cells #[.int .i64 0, .int .i64 0, .slice none 0 0] 29 (0, 0))) := ⟨by refine BW_ ?_; refine bR_ ?_ NB101_108.out _; refine BW_ ?_; refine bR_ ?_ NB101_108.out _; refine BW_ ?_; refine bR_ ?_ NB101_108.out _; refine BW_ ?_; refine bR_ ?_ NB101_108.out _; refine BW_ ?_; exact BK101.out⟩
 have n3_ : Zz (((((w9.setCell ⟨gb108, 0, none⟩ (.int .i64 t102)).setCell ⟨gb108, 1, none⟩ (.int .i64 t103)).setCell ⟨gb108, 2, none⟩ (.int .i64 t104)).setCell ⟨gb108, 3, none⟩ (.slice Ao13 t105.length co13)).heap[gb108]? = some (.cells #[.int .i64 t102, .int .i64 t103, .int .i64 t104, .slice Ao13 t105.length co13] 59 (0, 0))) := ⟨by refine BW_ ?_; refine bP_ (cs := #[.int .i64 t102, .int .i64 t103, .int .i64 t104, .slice none 0 0]) ?_ 3 _ rfl; refine BW_ ?_; refine bP_ (cs := #[.int .i64 t102, .int .i64 t103, .int .i64 0, .slice none 0 0]) ?_ 2 _ rfl; refine BW_ ?_; refine bP_ (cs := #[.int .i64 t102, .int .i64 0, .int .i64 0, .slice none 0 0]) ?_ 1 _ rfl; refine BW_ ?_; refine bP_ (cs := #[.int .i64 0, .int .i64 0, .int .i64 0, .slice none 0 0]) ?_ 0 _ rfl; refine BW_ ?_; exact BK108.out⟩
 have n4_ : Zz (Below w.heap.size w ((((w9.setCell ⟨gb108, 0, none⟩ (.int .i64 t102)).setCell ⟨gb108, 1, none⟩ (.int .i64 t103)).setCell ⟨gb108, 2, none⟩ (.int .i64 t104)).setCell ⟨gb108, 3, none⟩ (.slice Ao13 t105.length co13))) := ⟨B2_ HB.out GE101.out GE108.out⟩
 (try clear HO107);(try clear BK50);(try clear BK101);(try clear BK108);(try clear HB)
 generalize ((((w9.setCell ⟨gb108, 0, none⟩ (.int .i64 t102)).setCell ⟨gb108, 1, none⟩ (.int .i64 t103)).setCell ⟨gb108, 2, none⟩ (.int .i64 t104)).setCell ⟨gb108, 3, none⟩ (.slice Ao13 t105.length co13)) = w15 at n0_ n1_ n2_ n3_ n4_ ⊢
 have HO107 := n0_
 have BK50 := n1_
 have BK101 := n2_
 have BK108 := n3_
 have HB := n4_
 clear n0_ n1_ n2_ n3_ n4_
 replace HO107 := Zz.mk (Kd.R_drew HO107.out)
 replace BK50 := Zz.mk (bD_ BK50.out)
 replace BK101 := Zz.mk (bD_ BK101.out)
 replace BK108 := Zz.mk (bD_ BK108.out)
 replace HB := Zz.mk (qAc HB.out)
 refine qA5 (n := 11) (S := fun w' => w'.cell? ⟨gp0, 0, none⟩ = some (.int .i64 a0_0) ∧ w'.cell? ⟨gp0, 1, none⟩ = some (.int .i64 a0_1) ∧ w'.cell? ⟨gp0, 2, none⟩ = some (.slice A0_2 l0_2.length c0_2)) (ds := []) (tb_ 11 0) (by kernel_rfl) rfl rfl (Z3_ BK50.out) (fun hHeld => ?_); refine qAw z99.tab2 z99.bits2 (fun HT_ HW_ => ?_)
 generalize w15.drew = w16 at HO107 BK50 BK101 BK108 HB hHeld ⊢
 refine PX_ 0 17 (tb_ 11 1) HT_ rfl rfl ?_
 refine PX_ 1 18 (tb_ 11 3) HT_ rfl rfl ?_
 refine PX_ 2 19 (tb_ 11 7) HT_ rfl rfl ?_
 refine PX_ 4 21 (tb_ 11 23) HT_ rfl rfl ?_
 refine PX_ 5 22 (tb_ 11 55) HT_ rfl rfl ?_
 refine PX_ 6 23 (tb_ 11 119) HT_ rfl rfl ?_
 refine TX_ 3 20 (tb_ 11 127) HT_ HW_ rfl rfl hHeld ?_
 refine TX_ 7 24 (tb_ 11 255) HT_ HW_ rfl rfl hHeld ?_
 refine one_ (i := 8) (N := some 25) (tb_ 11 511) rfl rfl (qAr HT_.out (by kernel_rfl)) (by decide) (fun K hK => ?_)
 refine GO_ Try.func136 #[.pointer (some ⟨gb108, 0, none⟩)] (h := ?_)
 with_reducible refine (z136.calls k gb108 t102 t103 t104 Ao13 co13 t105 t109 _ ?side1 ?side2 ?side3 A3.out).mono ?_
 (case side1 => refine BW_ ?_; exact BK108.out)
 (case side2 => exact KC_ (Kd.R_reads' HO107.out).2.2)
 (case side3 => exact (Kd.R_reads' HO107.out).2.1)
 rintro e w17 ⟨v110, rfl, ho0, hb⟩
 refine ⟨_, rfl, ?_⟩
 have HO111 := Zz.mk (Kd.S_lower (Kd.S_new' ho0 (Kd.R_lt (KR_ HO107.out))) (bS_ (B2_ HB.out GE101.out GE108.out)))
 replace HO107 := Zz.mk (Kd.R_below (KR_ HO107.out) hb)
 replace BK50 := Zz.mk (kb_ BK50.out hb)
 replace BK101 := Zz.mk (kb_ BK101.out hb)
 replace BK108 := Zz.mk (kb_ BK108.out hb)
 replace HB := Zz.mk (bT_ (B2_ HB.out GE101.out GE108.out) hb)
 (try clear hb);(try clear hk);(try clear ho0)
 obtain ⟨Ao18, co18, eo18⟩ := Kd.S_slice HO111.out
 (first | subst eo18 | obtain ⟨rfl, rfl⟩ := sl_ eo18)
 refine hK.out _ _ (Z3_ BK50.out) (fun hHeld => ?_)
 clear hK K
 refine NM_ (N := (some 25)) (h := ?_)
 refine one_ (i := 9) (N := some 26) (tb_ 11 1023) rfl rfl (qAr HT_.out (by kernel_rfl)) (by decide) (fun K hK => ?_)
 refine GO_ Try.func62 #[.int .i64 a0_0, .int .i64 a0_1, .slice Ao18 t109.length co18] (h := ?_)
 with_reducible refine (z62.calls k a0_0 a0_1 _ _ t109 t112 t113 t114 _ ?side1 ?side2 A4.out).mono ?_
 (case side1 => exact KC_ (Kd.S_reads' HO111.out).2.2)
 (case side2 => exact (Kd.S_reads' HO111.out).2.1)
 rintro e w19 ⟨v115, rfl, ho0, hb⟩
 refine ⟨_, rfl, ?_⟩
 have HO116 := Zz.mk (Kd.S_lower (Kd.S_new' (Kd.S_new' ho0 (Kd.R_lt (KR_ HO107.out))) (Kd.S_lt (KS_ HO111.out))) (bS_ (B2_ HB.out GE101.out GE108.out)))
 replace HO107 := Zz.mk (Kd.R_below (KR_ HO107.out) hb)
 replace HO111 := Zz.mk (Kd.S_elder' (KS_ HO111.out) (Kd.S_base ho0) hb)
 replace BK50 := Zz.mk (kb_ BK50.out hb)
 replace BK101 := Zz.mk (kb_ BK101.out hb)
 replace BK108 := Zz.mk (kb_ BK108.out hb)
 replace HB := Zz.mk (bT_ (B2_ HB.out GE101.out GE108.out) hb)
 (try clear hb);(try clear hk);(try clear ho0)
 obtain ⟨Ao22, co22, eo22⟩ := Kd.S_slice HO116.out
 (first | subst eo22 | obtain ⟨rfl, rfl⟩ := sl_ eo22)
 refine hK.out _ _ (Z3_ BK50.out) (fun hHeld => ?_)
 clear hK K
 refine NM_ (N := (some 26)) (h := ?_)
 refine one_ (i := 10) (N := none) (tb_ 11 2047) rfl rfl (qAr HT_.out (by kernel_rfl)) (by decide) (fun K hK => ?_)
 have hs20 : w19.cell? ⟨gb101, 0, none⟩ = some (.int .i64 0) := (bC_ BK101.out 0).trans rfl
 have hfs20 := bF_ BK101.out 0
 have hns20_0 := NB50_101.out
 have hns20_2 := NB108_101.out
 have hms20_0 := NB101_50.out
 have hms20_2 := NB101_108.out
 have hs21 : w19.cell? ⟨gb101, 1, none⟩ = some (.int .i64 0) := (bC_ BK101.out 1).trans rfl
 have hfs21 := bF_ BK101.out 1
 have hns21_0 := NB50_101.out
 have hns21_2 := NB108_101.out
 have hms21_0 := NB101_50.out
 have hms21_2 := NB101_108.out
 have hs23 : w19.cell? ⟨gb101, 2, none⟩ = some (.slice none 0 0) := (bC_ BK101.out 2).trans rfl
 have hfs23 := bF_ BK101.out 2
 have hns23_0 := NB50_101.out
 have hns23_2 := NB108_101.out
 have hms23_0 := NB101_50.out
 have hms23_2 := NB101_108.out
 refine qB9 (w1 := ?_) (by rfl) rfl ?_ ?_
 rotate_left
 ·go_simp
  rfl
 refine hK.out _ _ ⟨((qAf (p := ⟨gb101, _, none⟩) NB50_101.out _).trans (((qAf (p := ⟨gb101, _, none⟩) NB50_101.out _).trans (((qAf (p := ⟨gb101, _, none⟩) NB50_101.out _).trans (hHeld.1)))))), ((qAf (p := ⟨gb101, _, none⟩) NB50_101.out _).trans (((qAf (p := ⟨gb101, _, none⟩) NB50_101.out _).trans (((qAf (p := ⟨gb101, _, none⟩) NB50_101.out _).trans (hHeld.2.1)))))), ((qAf (p := ⟨gb101, _, none⟩) NB50_101.out _).trans (((qAf (p := ⟨gb101, _, none⟩) NB50_101.out _).trans (((qAf (p := ⟨gb101, _, none⟩) NB50_101.out _).trans (hHeld.2.2))))))⟩ (fun hHeld => ?_)
 clear hK K
 refine qBd (qA2 HT_.out (by kernel_rfl)) ?_
 try go_wp2
 refine bodyPost_ret (results_cell_row rfl _ _ gb101 29 #[.int .i64 t112, .int .i64 t113, .slice Ao22 t114.length co22] (0, 0) _ rfl (by refine BW_ ?_; refine bP_ (cs := #[.int .i64 t112, .int .i64 t113, .slice none 0 0]) ?_ 2 _ rfl; refine BW_ ?_; refine bP_ (cs := #[.int .i64 t112, .int .i64 0, .slice none 0 0]) ?_ 1 _ rfl; refine BW_ ?_; refine bP_ (cs := #[.int .i64 0, .int .i64 0, .slice none 0 0]) ?_ 0 _ rfl; refine BW_ ?_; exact BK101.out) Try.underlying29 rfl (by kernel_rfl)) rfl ?_
 exact ⟨_, F_, by refine SW_ ?_; exact Kd.S_mono (Kd.S_far (p := ⟨gb101, 2, none⟩) (Kd.S_far (p := ⟨gb101, 1, none⟩) (Kd.S_far (p := ⟨gb101, 0, none⟩) (Kd.S_types HO116.out BK101.out (by decide)) (fun _ hk => hk.2) (.int .i64 t112)) (fun _ hk => hk.2) (.int .i64 t113)) (fun _ hk => hk.2) (.slice Ao22 t114.length co22)) (fun _ hk => trivial), B2_ HB.out GE101.out GE108.out⟩
end Go.Proofs.Ytabfflgoaalapaa.B
