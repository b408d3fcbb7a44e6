/- Printed proofs of functions of the program and of the reference, by a program of this work over the kit's printer. -/
import Derived.Test.YtkgajpngeglkmaaKHHICCB0
import Derived.Test.YtkgajpngeglkmaaKLBBOAD0
import Derived.Test.YtkgajpngeglkmaaKMCIMDJ0
import Derived.Test.YtkgajpngeglkmaaKW0
namespace Go.Proofs.Ytkgajpngeglkmaa.B
open Go.RowKit Go.Proofs.YtkgajpngeglkmaaW.PrintWords Go.Proofs.YtkgajpngeglkmaaW.PrintLast Go.Proofs.YtkgajpngeglkmaaW.PrintMore
attribute [local go_sem] qAh qAf qAn qAm qAc qAb qAg qAe
set_option linter.unusedVariables false
set_option linter.unusedSimpArgs false
def z40.l0 : Nat → Int → Int → List (List Int) → List (List Int) → Int → List (List Int) → Int → Option ((List (List Int)))
 | 0, _, _, _, _, _, _, _ => none
 | k + 1, x0, x1, x3, x9, x10, x11, x12 => if x12 < (x3.length : Int) then ((some (([] : List (List Int)) : List (List Int))).bind fun y113 => (if y113.length + x9.length < 5864062014805 then ((some (y113 ++ x9 : List (List Int))).bind fun y116 => (if 0 ≤ x12 then ((some (([rI_ x3 x12] : List (List Int)) : List (List Int))).bind fun y120 => (if y116.length + y120.length < 5864062014805 then ((some (y116 ++ y120 : List (List Int))).bind fun y123 => ((z87.f k x0 x1 y123).bind fun t126 => (if (t126.length : Int) > x10 then ((z88.f (rI_ x3 x12)).bind fun t130 => (if x11.length < 5864062014805 then (z40.l0 k x0 x1 x3 y123 (wrap64 (x10 + 1)) (x11 ++ [t130]) (wrap64 (x12 + 1))) else (none))) else (z40.l0 k x0 x1 x3 x9 x10 x11 (wrap64 (x12 + 1)))))) else (none))) else (none))) else (none))) else (some x11)
def z40.f (k : Nat) (a0 : Int) (a1 : Int) (l2 : List (List Int)) (l3 : List (List Int)) : Option ((List (List Int))) := (some (([] : List (List Int)) : List (List Int))).bind fun y101 => (if y101.length + l2.length < 5864062014805 then ((some (y101 ++ l2 : List (List Int))).bind fun y104 => ((z87.f k a0 a1 y104).bind fun t107 => (z40.l0 k a0 a1 l3 y104 (t107.length : Int) (([] : List (List Int))) 0))) else (none))
def z40.T7 : Bool × List (List Nat × List Nat) := (true, [([], []), ([], []), ([0, 1], [0, 1]), ([], []), ([], []), ([3, 4], [3, 4]), ([5], [5]), ([6], [6]), ([2, 7, 2], [2, 7]), ([8, 8, 0, 1, 2, 3, 4, 5, 6, 7, 8], [8])])
def z40.B7 : List Nat := [0, 0, 3, 0, 0, 24, 56, 120, 255, 511]
theorem z40.tab7 : rtab .any (qCk Try.f40 7) = z40.T7 := by kernel_rfl
theorem z40.bits7 : qA9 z40.T7.2 z40.B7 = true := by kernel_rfl
set_option maxHeartbeats 8000000 in
set_option maxRecDepth 100000 in
theorem z40.calls (k : Nat) (a0 : Int) (a1 : Int) (P2_ : Nat → Prop) (A2 : Option Addr) (c2 : Nat) (l2 : List (List Int)) (P3_ : Nat → Prop) (A3 : Option Addr) (c3 : Nat) (l3 : List (List Int)) (r : List (List Int)) (w : World) (hs2 : Kd.V (Kd.slice 2 (Kd.int .i64)) 40 w w.heap.size (fun k_ => P2_ k_) (.slice A2 l2.length c2) l2) (hs3 : Kd.V (Kd.slice 2 (Kd.int .i64)) 40 w w.heap.size (fun k_ => P3_ k_) (.slice A3 l3.length c3) l3) (h : z40.f k a0 a1 l2 l3 = some r) :
  Calls Try.prog 40 #[.int .i64 a0, .int .i64 a1, .slice A2 l2.length c2, .slice A3 l3.length c3] w fun e w' => ∃ v0_ : Value, e = .returned (v0_) ∧ Kd.S (Kd.slice 2 (Kd.int .i64)) 40 w' w.heap.size (fun k_ => (w.heap.size ≤ k_)) v0_ r ∧ Below w.heap.size w w' := by
 have HO2 := Zz.mk (show Kd.V (Kd.slice 2 (Kd.int .i64)) 40 w w.heap.size (fun k_ => ((P2_ k_ ∨ P3_ k_) ∨ w.heap.size ≤ k_)) (.slice A2 l2.length c2) l2 from Kd.V_mono hs2 (fun k_ hk => .inl (.inl hk)))
 have HO3 := Zz.mk (show Kd.V (Kd.slice 2 (Kd.int .i64)) 40 w w.heap.size (fun k_ => ((P2_ k_ ∨ P3_ k_) ∨ w.heap.size ≤ k_)) (.slice A3 l3.length c3) l3 from Kd.V_mono hs3 (fun k_ hk => .inl (.inr hk)))
 have HB := Zz.mk (Below.refl w.heap.size w)
 have H : ((some (([] : List (List Int)) : List (List Int))).bind fun y101 => (if y101.length + l2.length < 5864062014805 then ((some (y101 ++ l2 : List (List Int))).bind fun y104 => ((z87.f k a0 a1 y104).bind fun t107 => (z40.l0 k a0 a1 l3 y104 (t107.length : Int) (([] : List (List Int))) 0))) else (none))) = some r := h
 clear h
 obtain ⟨y101, hy101⟩ : ∃ y_ : List (List Int), y_ = (([] : List (List Int))) := ⟨_, rfl⟩
 replace H : (if y101.length + l2.length < 5864062014805 then ((some (y101 ++ l2 : List (List Int))).bind fun y104 => ((z87.f k a0 a1 y104).bind fun t107 => (z40.l0 k a0 a1 l3 y104 (t107.length : Int) (([] : List (List Int))) 0))) else (none)) = some r := Y_ hy101 H
 have Ny101 := Zz.mk hy101
 clear hy101
 have c5 := O1_ H
 replace H := O2_ H
 have LMc5 := Zz.mk c5
 clear c5
 obtain ⟨y104, hy104⟩ : ∃ y_ : List (List Int), y_ = (y101 ++ l2) := ⟨_, rfl⟩
 replace H : ((z87.f k a0 a1 y104).bind fun t107 => (z40.l0 k a0 a1 l3 y104 (t107.length : Int) (([] : List (List Int))) 0)) = some r := Y_ hy104 H
 have Ny104 := Zz.mk hy104
 clear hy104
 replace H := OZ_ H
 obtain ⟨t107, A6, H⟩ := H
 obtain ⟨y110, hy110⟩ : ∃ y_ : List (List Int), y_ = (([] : List (List Int))) := ⟨_, rfl⟩
 replace H : (z40.l0 k a0 a1 l3 y104 (t107.length : Int) y110 0) = some r := Y_ hy110 H
 have Ny110 := Zz.mk hy110
 clear hy110
 have H' := Zz.mk H
 clear H
 go_enter Try.func40, Try.ntmps40
 go_wp2_with (first | ((with_reducible refine qAi (N := 14) rfl ?_); refine Kd.N_lit (Kd.slice 2 (Kd.int .i64)) _ 40 ?hg (N' := 14) ?hd (xs := ([] : List (List Int))) (inner := []) (ok := (fun k_ => ((P2_ k_ ∨ P3_ k_) ∨ w.heap.size ≤ k_))) (okp := (fun k_ => ((P2_ k_ ∨ P3_ k_) ∨ w.heap.size ≤ k_))) ?hr ?hp (fun _ hk => hk) ((show ∀ k_, w.heap.size ≤ k_ → (fun k_ => ((P2_ k_ ∨ P3_ k_) ∨ w.heap.size ≤ k_)) k_ from fun k_ hk => (.inr (Nat.le_trans (bS_ (B_ HB.out)) hk))) _ (Nat.le_refl _)) (Below.refl _ _) (Nat.le_refl _) (by simp) ?_; (case hd => rfl); (case hg => rfl); (case hr => first | (go_simp; done) | (go_simp; rfl)); (case hp => exact (Reps.none _ _)); intro v102 w7 ho8 hb hg_ hnew_; clear hg_ hnew_; (first | rw [← Ny101.out] at ho8 | (simp only [Int.reduceToNat] at ho8; rw [← Ny101.out] at ho8)); replace HO2 := Zz.mk (Kd.V_elder' (by refine VW_ ?_; exact HO2.out) (by first | exact Kd.N_base ho8 | exact Kd.S_base ho8) hb); replace HO3 := Zz.mk (Kd.V_elder' (by refine VW_ ?_; exact HO3.out) (by first | exact Kd.N_base ho8 | exact Kd.S_base ho8) hb); have HO103 := Zz.mk (Kd.N_lower ho8 (bS_ (B_ HB.out))); replace HB := Zz.mk (bT_ (B_ HB.out) hb); clear hb ho8) | ((with_reducible refine qA0 (b := .append) (xs := #[.tmp 14, .tmp 15]) rfl ?_); at_builtin; refine Kd.N_append_rows (Kd.slice 2 (Kd.int .i64)) (w0 := w) w.heap.size rfl (.tmp 14) (.tmp 15) 22 40 (.slice none 0 0) 24 rfl Try.underlying22 qBs rfl (by decide) (by omega) v102 y101 l2 _ _ _ (fun k_ => ((P2_ k_ ∨ P3_ k_) ∨ w.heap.size ≤ k_)) (fun k_ => ((fun k_ => ((P2_ k_ ∨ P3_ k_) ∨ w.heap.size ≤ k_))) k_ ∧ some k_ ≠ (v102 : Value).ownBlock) rfl rfl ?aO ?aR (fun _ hk => hk) ?aF ?aB ?aS ?aL ?_; (case aR => exact (by skip; exact Kd.V_F (Kd.V_mono (ok' := (fun k_ => ((fun k_ => ((P2_ k_ ∨ P3_ k_) ∨ w.heap.size ≤ k_))) k_ ∧ some k_ ≠ (v102 : Value).ownBlock)) (HO2.out) (fun k_ hk => ⟨hk.1, hk.2⟩)))); (case aB => exact (B_ HB.out)); (case aF => exact (fun k_ hk => (.inr (Nat.le_trans (bS_ (B_ HB.out)) hk)))); (case aO => exact (KN_ HO103.out)); (case aS => exact (bS_ (B_ HB.out))); (case aL => have := LMc5.out; omega); intro v105 w9 ho hb hg hat; rw [← Ny104.out] at ho; replace HO2 := Zz.mk (Kd.V_afterv (ok := (fun k_ => ((P2_ k_ ∨ P3_ k_) ∨ w.heap.size ≤ k_))) (by refine VW_ ?_; exact HO2.out) hg hat); replace HO3 := Zz.mk (Kd.V_afterv (ok := (fun k_ => ((P2_ k_ ∨ P3_ k_) ∨ w.heap.size ≤ k_))) (by refine VW_ ?_; exact HO3.out) hg hat); replace HB := Zz.mk (hb); have HO106 := Zz.mk (ho); clear HO103; clear ho hb hg hat; obtain ⟨Ao10, co10, eo10⟩ := Kd.N_slice HO106.out; subst eo10) | ((with_reducible refine gC_ (f := 87) rfl ?_); refine GL_ (some 20) rfl rfl Try.func87 #[.int .i64 a0, .int .i64 a1, .slice Ao10 y104.length co10] rfl (h := ?_); (with_reducible refine (z87.calls k a0 a1 _ _ y104 t107 _ ?side1 ?side2 A6.out).mono ?_); (case side1 => exact KC_ (Kd.N_reads' HO106.out).2.2); (case side2 => exact (Kd.N_reads' HO106.out).2.1); rintro e w11 ⟨v108, rfl, ho0, hb⟩; refine ⟨_, rfl, ?_⟩; have HO109 := Zz.mk (Kd.S_lower (Kd.S_new' (Kd.S_newM (M := fun k_ => (w.heap.size ≤ k_)) ho0 (bS_ (B_ HB.out)) (fun k_ h_ => h_)) (Kd.N_lt (KN_ HO106.out))) (bS_ (B_ HB.out))); replace HO2 := Zz.mk (Kd.V_elder' (by refine VW_ ?_; exact HO2.out) (Kd.S_base ho0) hb); replace HO3 := Zz.mk (Kd.V_elder' (by refine VW_ ?_; exact HO3.out) (Kd.S_base ho0) hb); replace HO106 := Zz.mk (Kd.N_elder' (KN_ HO106.out) (Kd.S_base ho0) hb); replace HB := Zz.mk (bT_ (B_ HB.out) hb); (try clear hb); (try clear ho0); obtain ⟨Ao12, co12, eo12⟩ := Kd.S_slice HO109.out; subst eo12) | ((with_reducible refine qAi (N := 22) rfl ?_); refine Kd.S_lit (Kd.slice 2 (Kd.int .i64)) _ 40 ?hg (N := 22) ?hd (xs := ([] : List (List Int))) (inner := []) (ok := fun _ => True) (okp := fun _ => True) ?hr ?hp (fun _ hk => hk) trivial (Below.refl _ _) (Nat.le_refl _) (by simp) ?_; (case hd => rfl); (case hg => rfl); (case hr => first | (go_simp; done) | (go_simp; rfl)); (case hp => exact (Reps.none _ _)); intro v111 w13 ho14 hb hg_ hnew_; clear hg_ hnew_; (first | rw [← Ny110.out] at ho14 | (simp only [Int.reduceToNat] at ho14; rw [← Ny110.out] at ho14)); have HO112 := Zz.mk (Kd.S_lower (Kd.S_new' (Kd.S_new' (Kd.S_newM (M := fun k_ => (w.heap.size ≤ k_)) ho14 (bS_ (B_ HB.out)) (fun k_ h_ => h_)) (Kd.N_lt (KN_ HO106.out))) (Kd.S_lt (KS_ HO109.out))) (bS_ (B_ HB.out))); replace HO2 := Zz.mk (Kd.V_elder' (by refine VW_ ?_; exact HO2.out) (Kd.S_base ho14) hb); replace HO3 := Zz.mk (Kd.V_elder' (by refine VW_ ?_; exact HO3.out) (Kd.S_base ho14) hb); replace HO106 := Zz.mk (Kd.N_elder' (KN_ HO106.out) (Kd.S_base ho14) hb); replace HO109 := Zz.mk (Kd.S_elder' (KS_ HO109.out) (Kd.S_base ho14) hb); replace HB := Zz.mk (bT_ (B_ HB.out) hb); clear hb ho14))
 go_loopg [9, 10, 11, 12] k (fun kq v9 v10 v11 v12 w' => ∃ (x9_1 : List (List Int)) (x10_1 : Int) (x11_1 : List (List Int)) (x12_1 : Int), v10 = .int .i64 x10_1 ∧ v12 = .int .i64 x12_1 ∧ Zz (z40.l0 kq a0 a1 l3 x9_1 x10_1 x11_1 x12_1 = some r) ∧ Zz (kq ≤ k) ∧ Zz (Kd.V (Kd.slice 2 (Kd.int .i64)) 40 w' w.heap.size (fun k_ => ((P2_ k_ ∨ P3_ k_) ∨ w.heap.size ≤ k_) ∧ some k_ ≠ (v9 : Value).ownBlock ∧ some k_ ≠ (v11 : Value).ownBlock) (.slice A3 l3.length c3) l3) ∧ Zz (Kd.N (Kd.slice 2 (Kd.int .i64)) 40 w' w.heap.size (fun k_ => ((P2_ k_ ∨ P3_ k_) ∨ w.heap.size ≤ k_) ∧ some k_ ≠ (v11 : Value).ownBlock) v9 x9_1) ∧ Zz (Kd.S (Kd.slice 2 (Kd.int .i64)) 40 w' w.heap.size (fun k_ => (w.heap.size ≤ k_) ∧ some k_ ≠ (v9 : Value).ownBlock) v11 x11_1) ∧ Zz (Below w.heap.size w w'))
 case atStart => exact ⟨(y104), ((t107.length : Int)), (y110), (0), E_, E_, H', ⟨Nat.le_refl _⟩, ⟨by refine VW_ ?_; exact Kd.V_mono HO3.out (fun _ hk => ⟨hk.1.1.1, ⟨hk.1.1.2, hk.2⟩⟩)⟩, ⟨by refine NW_ ?_; exact Kd.N_mono HO106.out (fun _ hk => ⟨hk.1.1, hk.2⟩)⟩, ⟨by refine SW_ ?_; exact Kd.S_mono HO112.out (fun _ hk => ⟨hk.1.1.1, hk.1.2⟩)⟩, ⟨B_ HB.out⟩⟩
 case round =>
  clear H'
  (try clear c2);(try clear c3);(try clear c5)
  obtain ⟨x9_1, x10_1, x11_1, x12_1, rfl, rfl, HA, HK1, HO_3, HO_9, HO_11, HB⟩ := hrel
  cases gk with
  | zero => exact absurd HA.out (by simp [z40.l0])
  | succ k1 =>
   have H := HA.out
   clear HA
   simp only [z40.l0] at H
   by_cases c15 : x12_1 < (l3.length : Int)
   ·rw [if_pos c15] at H
    have c15b0 : decide (x12_1 < (l3.length : Int)) = true := decide_eq_true c15
    clear c15
    obtain ⟨y113, hy113⟩ : ∃ y_ : List (List Int), y_ = (([] : List (List Int))) := ⟨_, rfl⟩
    replace H : (if y113.length + x9_1.length < 5864062014805 then ((some (y113 ++ x9_1 : List (List Int))).bind fun y116 => (if 0 ≤ x12_1 then ((some (([rI_ l3 x12_1] : List (List Int)) : List (List Int))).bind fun y120 => (if y116.length + y120.length < 5864062014805 then ((some (y116 ++ y120 : List (List Int))).bind fun y123 => ((z87.f k1 a0 a1 y123).bind fun t126 => (if (t126.length : Int) > x10_1 then ((z88.f (rI_ l3 x12_1)).bind fun t130 => (if x11_1.length < 5864062014805 then (z40.l0 k1 a0 a1 l3 y123 (wrap64 (x10_1 + 1)) (x11_1 ++ [t130]) (wrap64 (x12_1 + 1))) else (none))) else (z40.l0 k1 a0 a1 l3 x9_1 x10_1 x11_1 (wrap64 (x12_1 + 1)))))) else (none))) else (none))) else (none)) = some r := Y_ hy113 H
    have Ny113 := Zz.mk hy113
    clear hy113
    have c16 := O1_ H
    replace H := O2_ H
    have LMc16 := Zz.mk c16
    clear c16
    obtain ⟨y116, hy116⟩ : ∃ y_ : List (List Int), y_ = (y113 ++ x9_1) := ⟨_, rfl⟩
    replace H : (if 0 ≤ x12_1 then ((some (([rI_ l3 x12_1] : List (List Int)) : List (List Int))).bind fun y120 => (if y116.length + y120.length < 5864062014805 then ((some (y116 ++ y120 : List (List Int))).bind fun y123 => ((z87.f k1 a0 a1 y123).bind fun t126 => (if (t126.length : Int) > x10_1 then ((z88.f (rI_ l3 x12_1)).bind fun t130 => (if x11_1.length < 5864062014805 then (z40.l0 k1 a0 a1 l3 y123 (wrap64 (x10_1 + 1)) (x11_1 ++ [t130]) (wrap64 (x12_1 + 1))) else (none))) else (z40.l0 k1 a0 a1 l3 x9_1 x10_1 x11_1 (wrap64 (x12_1 + 1)))))) else (none))) else (none)) = some r := Y_ hy116 H
    have Ny116 := Zz.mk hy116
    clear hy116
    have c17b0 := O3_ H
    replace H := O2_ H
    obtain ⟨y120, hy120⟩ : ∃ y_ : List (List Int), y_ = (([rI_ l3 x12_1] : List (List Int))) := ⟨_, rfl⟩
    replace H : (if y116.length + y120.length < 5864062014805 then ((some (y116 ++ y120 : List (List Int))).bind fun y123 => ((z87.f k1 a0 a1 y123).bind fun t126 => (if (t126.length : Int) > x10_1 then ((z88.f (rI_ l3 x12_1)).bind fun t130 => (if x11_1.length < 5864062014805 then (z40.l0 k1 a0 a1 l3 y123 (wrap64 (x10_1 + 1)) (x11_1 ++ [t130]) (wrap64 (x12_1 + 1))) else (none))) else (z40.l0 k1 a0 a1 l3 x9_1 x10_1 x11_1 (wrap64 (x12_1 + 1)))))) else (none)) = some r := Y_ hy120 H
    have Ny120 := Zz.mk hy120
    clear hy120
    have c18 := O1_ H
    replace H := O2_ H
    have LMc18 := Zz.mk c18
    clear c18
    obtain ⟨y123, hy123⟩ : ∃ y_ : List (List Int), y_ = (y116 ++ y120) := ⟨_, rfl⟩
    replace H : ((z87.f k1 a0 a1 y123).bind fun t126 => (if (t126.length : Int) > x10_1 then ((z88.f (rI_ l3 x12_1)).bind fun t130 => (if x11_1.length < 5864062014805 then (z40.l0 k1 a0 a1 l3 y123 (wrap64 (x10_1 + 1)) (x11_1 ++ [t130]) (wrap64 (x12_1 + 1))) else (none))) else (z40.l0 k1 a0 a1 l3 x9_1 x10_1 x11_1 (wrap64 (x12_1 + 1))))) = some r := Y_ hy123 H
    have Ny123 := Zz.mk hy123
    clear hy123
    replace H := OZ_ H
    obtain ⟨t126, A19, H⟩ := H
    by_cases c20 : (t126.length : Int) > x10_1
    ·rw [if_pos c20] at H
     have c20b0 : decide (x10_1 < (t126.length : Int)) = true := decide_eq_true c20
     clear c20
     replace H := OZ_ H
     obtain ⟨t130, A21, H⟩ := H
     have c22 := O1_ H
     replace H := O2_ H
     have LMc22 := Zz.mk c22
     clear c22
     obtain ⟨y133, hy133⟩ : ∃ y_ : List (List Int), y_ = (x11_1 ++ [t130]) := ⟨_, rfl⟩
     replace H : (z40.l0 k1 a0 a1 l3 y123 (wrap64 (x10_1 + 1)) y133 (wrap64 (x12_1 + 1))) = some r := Y_ hy133 H
     have Ny133 := Zz.mk hy133
     clear hy133
     have H' := Zz.mk H
     clear H
     obtain ⟨Ao23, co23, eo23⟩ := Kd.N_slice HO_9.out
     subst eo23
     try go_wp2
     replace HO_3 := Zz.mk (Kd.V_drew HO_3.out)
     replace HO_9 := Zz.mk (Kd.N_drew HO_9.out)
     replace HO_11 := Zz.mk (Kd.S_drew HO_11.out)
     replace HB := Zz.mk (qAj HB.out)
     have p119 : 0 ≤ (x12_1 : Int) := D_
     have q119 : x12_1 < (l3.length : Int) := D_
     obtain ⟨ad119, A119_0, c119_0, e119, hx119_0, hl119_0, hi119_0⟩ := qAk (Kd.V_reads' HO_3.out).2.2 x12_1 p119 q119
     cases e119
     obtain ⟨ce119, hce119, hMe119, hcc119⟩ := Kd.V_get HO_3.out [] x12_1 p119 (by first | exact q119 | exact D_ | (have e_ := (Kd.V_reads' HO_3.out).1; omega))
     obtain ⟨ua119_0, uc119_0, rfl, ul119_0, ge119_0⟩ := Kd.FK_slice_open hMe119
     have hv119_0 := hcc119 0 _ rfl
     rw [Nat.add_zero, show ((Kd.slice 2 (Kd.int .i64))).sz = 1 from rfl, Nat.mul_one] at hv119_0
     replace hv119_0 := Option.some.inj (hv119_0.symm.trans hx119_0)
     injection hv119_0 with hva_ hvn_ hvc_
     rw [hva_] at ge119_0
     rw [hvc_] at ul119_0
     have HL119_0 := Zz.mk (show Kd.V (Kd.int .i64) 2 _ w.heap.size _ _ (rI_ l3 x12_1) from Kd.V_mk ul119_0 ge119_0)
     clear hva_ hvn_ hvc_ ge119_0 ul119_0
     clear hcc119 hce119
     have HR119_0 := Zz.mk hi119_0
     have HC119_0 := Zz.mk hl119_0
     clear hi119_0 hl119_0
     replace p119 := eq_true p119
     replace q119 := eq_true q119
     refine qBf (n := 10) (S := fun w' => w'.cell? (ad119.add (x12_1).toNat) = some (.slice A119_0 (rI_ l3 x12_1).length c119_0)) (ds := []) (tb_ 10 0) (by kernel_rfl) rfl rfl (hx119_0) (fun hHeld => ?_); refine qAv z40.tab7 z40.bits7 (fun HT_ HW_ => ?_)
     generalize wr.drew = w24 at HO_3 HO_9 HO_11 HB HL119_0 HR119_0 hx119_0 hHeld ⊢
     refine PX_ 1 30 (tb_ 10 2) HT_ rfl rfl ?_
     refine PX_ 3 32 (tb_ 10 10) HT_ rfl rfl ?_
     refine PX_ 4 33 (tb_ 10 26) HT_ rfl rfl ?_
     refine PX_ 5 34 (tb_ 10 58) HT_ rfl rfl ?_
     refine take_ (i := 6) (N := some 35) (v := ?_) (a' := ?_) (tb_ 10 122) rfl rfl (qC8 HT_.out HW_.out (by kernel_rfl)) (fun _ _ _ h => h) (Or.inl ⟨by rfl, ?_⟩) hHeld ?_ ?_
     rotate_left
     ·intro w' s0
      go_simp
      with_reducible rfl
     rotate_left
     ·simp only [Act.put, List.setIfInBounds_toArray, List.set_cons_zero, List.set_cons_succ, qBj, qBz]
      rfl
     refine qI0 (σ := Value × Value × Value) 2 (tb_ 10 255) (fun s_ => [(29, s_.1), (31, s_.2.1), (36, s_.2.2)]) (fun s_ w' => (w'.cell? (ad119.add (x12_1).toNat) = some (.slice A119_0 (rI_ l3 x12_1).length c119_0)) ∧ (Kd.V (Kd.int .i64) 2 w' w.heap.size (fun k_ => ((P2_ k_ ∨ P3_ k_) ∨ w.heap.size ≤ k_) ∧ some k_ ≠ (s_.2.1 : Value).ownBlock ∧ some k_ ≠ (s_.2.2 : Value).ownBlock ∧ some k_ ≠ (u11 : Value).ownBlock ∧ some k_ ≠ (.slice Ao23 x9_1.length co23 : Value).ownBlock) (.slice A119_0 (rI_ l3 x12_1).length c119_0) (rI_ l3 x12_1)) ∧ (Kd.N (Kd.slice 2 (Kd.int .i64)) 40 w' w.heap.size (fun k_ => ((P2_ k_ ∨ P3_ k_) ∨ w.heap.size ≤ k_) ∧ some k_ ≠ (s_.2.2 : Value).ownBlock ∧ some k_ ≠ (u11 : Value).ownBlock) s_.2.1 y116) ∧ (Kd.N (Kd.slice 2 (Kd.int .i64)) 40 w' w.heap.size (fun k_ => ((P2_ k_ ∨ P3_ k_) ∨ w.heap.size ≤ k_) ∧ some k_ ≠ (s_.2.1 : Value).ownBlock ∧ some k_ ≠ (u11 : Value).ownBlock ∧ some k_ ≠ (.slice Ao23 x9_1.length co23 : Value).ownBlock) s_.2.2 y120) ∧ (Kd.S (Kd.slice 2 (Kd.int .i64)) 40 w' w.heap.size (fun k_ => (w.heap.size ≤ k_) ∧ some k_ ≠ (s_.2.1 : Value).ownBlock ∧ some k_ ≠ (s_.2.2 : Value).ownBlock ∧ some k_ ≠ (.slice Ao23 x9_1.length co23 : Value).ownBlock) u11 x11_1) ∧ (Kd.V (Kd.slice 2 (Kd.int .i64)) 40 w' w.heap.size (fun k_ => ((P2_ k_ ∨ P3_ k_) ∨ w.heap.size ≤ k_) ∧ some k_ ≠ (s_.2.1 : Value).ownBlock ∧ some k_ ≠ (s_.2.2 : Value).ownBlock ∧ some k_ ≠ (u11 : Value).ownBlock ∧ some k_ ≠ (.slice Ao23 x9_1.length co23 : Value).ownBlock) (.slice (some ad119) l3.length c3) l3) ∧ (Kd.N (Kd.slice 2 (Kd.int .i64)) 40 w' w.heap.size (fun k_ => ((P2_ k_ ∨ P3_ k_) ∨ w.heap.size ≤ k_) ∧ some k_ ≠ (s_.2.1 : Value).ownBlock ∧ some k_ ≠ (s_.2.2 : Value).ownBlock ∧ some k_ ≠ (u11 : Value).ownBlock) (.slice Ao23 x9_1.length co23) x9_1) ∧ (Below w.heap.size w w')) ?_ ?_
     rotate_left
     ·intro hCont
      refine two_ (i := 0) (j := 7) (Ni := some 29) (Nj := some 36) (tb_ 10 123) (tb_ 10 250) rfl rfl rfl rfl (qD6 HT_.out (by kernel_rfl)) (by decide) (by decide) (fun K hK => ?_) (fun K hK => ?_)
      ·skip
       refine Kd.N_lit_step (Kd.slice 2 (Kd.int .i64)) _ 40 ?hg (N' := 29) ?hd (xs := ([] : List (List Int))) (inner := []) (ok := (fun k_ => ((P2_ k_ ∨ P3_ k_) ∨ w.heap.size ≤ k_) ∧ some k_ ≠ (.slice Ao23 x9_1.length co23 : Value).ownBlock ∧ some k_ ≠ (u11 : Value).ownBlock)) (okp := (fun k_ => ((P2_ k_ ∨ P3_ k_) ∨ w.heap.size ≤ k_) ∧ some k_ ≠ (.slice Ao23 x9_1.length co23 : Value).ownBlock ∧ some k_ ≠ (u11 : Value).ownBlock)) ?hr ?hp (fun _ hk => hk) ((show ∀ k_, w24.heap.size ≤ k_ → (fun k_ => ((P2_ k_ ∨ P3_ k_) ∨ w.heap.size ≤ k_) ∧ some k_ ≠ (.slice Ao23 x9_1.length co23 : Value).ownBlock ∧ some k_ ≠ (u11 : Value).ownBlock) k_ from fun k_ hk => ⟨(.inr (Nat.le_trans (bS_ (B_ HB.out)) hk)), Kd.fresh' (Kd.N_lt (KN_ HO_9.out)) k_ hk, Kd.fresh' (Kd.S_lt (KS_ HO_11.out)) k_ hk⟩) _ (Nat.le_refl _)) (Below.refl _ _) (Nat.le_refl _) (by simp) ?_; (case hd => rfl); (case hg => rfl); (case hr => first | (go_simp; done) | (go_simp; rfl)); (case hp => exact (Reps.none _ _))
       intro v114 w25 ho26 hb hg_ hnew_
       have HS0_ := (hb.cell (World.block_lt_of_cell? _ _ (hHeld))).trans (hHeld)
       clear hg_ hnew_
       (first | rw [← Ny113.out] at ho26 | (simp only [Int.reduceToNat] at ho26; rw [← Ny113.out] at ho26))
       replace HO_3 := Zz.mk (Kd.V_elder' (by refine VW_ ?_; exact HO_3.out) (by first | exact Kd.N_base ho26 | exact Kd.S_base ho26) hb)
       replace HO_9 := Zz.mk (Kd.N_elder' (KN_ HO_9.out) (by first | exact Kd.N_base ho26 | exact Kd.S_base ho26) hb)
       replace HO_11 := Zz.mk (Kd.S_elder' (KS_ HO_11.out) (by first | exact Kd.N_base ho26 | exact Kd.S_base ho26) hb)
       replace HL119_0 := Zz.mk (Kd.V_elder' (by refine VW_ ?_; exact HL119_0.out) (by first | exact Kd.N_base ho26 | exact Kd.S_base ho26) hb)
       have HO115 := Zz.mk (Kd.N_lower ho26 (bS_ (B_ HB.out)))
       replace HR119_0 := Zz.mk (Kd.C_below (KC_ HR119_0.out) hb)
       replace HB := Zz.mk (bT_ (B_ HB.out) hb)
       clear hb ho26
       refine hK.out _ _ (HS0_) (fun hHeld => ?_)
       clear hK K
       refine NM_ (N := (some 29)) (h := ?_)
       refine two_ (i := 2) (j := 7) (Ni := some 31) (Nj := some 36) (tb_ 10 127) (tb_ 10 251) rfl rfl rfl rfl (qD6 HT_.out (by kernel_rfl)) (by decide) (by decide) (fun K hK => ?_) (fun K hK => ?_)
       ·skip
        refine Kd.N_append_rows_step (Kd.slice 2 (Kd.int .i64)) (w0 := w) w.heap.size (by rfl) (.tmp 29) (.tmp 30) 22 40 (.slice none 0 0) 24 rfl Try.underlying22 qBs rfl (by decide) (by omega) v114 y113 x9_1 _ _ _ (fun k_ => ((P2_ k_ ∨ P3_ k_) ∨ w.heap.size ≤ k_) ∧ some k_ ≠ (u11 : Value).ownBlock) (fun k_ => ((fun k_ => ((P2_ k_ ∨ P3_ k_) ∨ w.heap.size ≤ k_) ∧ some k_ ≠ (u11 : Value).ownBlock)) k_ ∧ some k_ ≠ (v114 : Value).ownBlock) rfl rfl ?aO ?aR (fun _ hk => hk) ?aF ?aB ?aS ?aL ?_
        (case aR => exact (by skip; exact Kd.N_F (Kd.N_mono (ok' := (fun k_ => ((fun k_ => ((P2_ k_ ∨ P3_ k_) ∨ w.heap.size ≤ k_) ∧ some k_ ≠ (u11 : Value).ownBlock)) k_ ∧ some k_ ≠ (v114 : Value).ownBlock)) (HO_9.out) (fun k_ hk => ⟨⟨hk.1.1, hk.1.2⟩, hk.2⟩))))
        (case aB => exact (B_ HB.out))
        (case aF => exact (fun k_ hk => ⟨(.inr (Nat.le_trans (bS_ (B_ HB.out)) hk)), Kd.fresh' (Kd.S_lt (KS_ HO_11.out)) k_ hk⟩))
        (case aO => exact (by refine NW_ ?_; exact Kd.N_mono HO115.out (fun _ hk => ⟨hk.1, hk.2.2⟩)))
        (case aS => exact (bS_ (B_ HB.out)))
        (case aL => have := LMc16.out; omega)
        intro v117 w27 ho hb hg hat
        have HS0_ := qBt hg (hHeld) (fun e_ => (Kd.V_in_ (ok := fun k_ => (fun k_ => ((P2_ k_ ∨ P3_ k_) ∨ w.heap.size ≤ k_) ∧ some k_ ≠ (.slice Ao23 x9_1.length co23 : Value).ownBlock ∧ some k_ ≠ (u11 : Value).ownBlock) k_ ∧ some k_ ≠ (v114 : Value).ownBlock) (HO_3.out) (by have h1_ := of_eq_true q119; have h2_ := of_eq_true p119; omega) (by decide)).2 (by first | exact e_ | (rw [qBk] at e_; exact e_)))
        rw [← Ny116.out] at ho
        replace HO_3 := Zz.mk (Kd.V_afterv (ok := (fun k_ => ((P2_ k_ ∨ P3_ k_) ∨ w.heap.size ≤ k_) ∧ some k_ ≠ (.slice Ao23 x9_1.length co23 : Value).ownBlock ∧ some k_ ≠ (u11 : Value).ownBlock)) (by refine VW_ ?_; exact HO_3.out) hg hat)
        replace HO_9 := Zz.mk (Kd.N_afterv (ok := (fun k_ => ((P2_ k_ ∨ P3_ k_) ∨ w.heap.size ≤ k_) ∧ some k_ ≠ (u11 : Value).ownBlock)) (KN_ HO_9.out) hg hat)
        replace HO_11 := Zz.mk (Kd.S_after (ok := (fun k_ => (w.heap.size ≤ k_) ∧ some k_ ≠ (.slice Ao23 x9_1.length co23 : Value).ownBlock)) (KS_ HO_11.out) hg hat)
        replace HL119_0 := Zz.mk (Kd.V_afterv (ok := (fun k_ => ((P2_ k_ ∨ P3_ k_) ∨ w.heap.size ≤ k_) ∧ some k_ ≠ (.slice Ao23 x9_1.length co23 : Value).ownBlock ∧ some k_ ≠ (u11 : Value).ownBlock)) (by refine VW_ ?_; exact HL119_0.out) hg hat)
        replace HB := Zz.mk (hb)
        have HO118 := Zz.mk (ho)
        clear HO115
        clear ho hb hg hat
        refine hK.out _ _ (HS0_) (fun hHeld => ?_)
        clear hK K
        refine NM_ (N := (some 31)) (h := ?_)
        refine one_ (i := 7) (N := some 36) (tb_ 10 255) rfl rfl (qAs HT_.out (by kernel_rfl)) (by decide) (fun K hK => ?_)
        refine Kd.N_lit_step (Kd.slice 2 (Kd.int .i64)) _ 40 ?hg (N' := 36) ?hd (xs := ([rI_ l3 x12_1] : List (List Int))) (inner := [.slice A119_0 (rI_ l3 x12_1).length c119_0]) (ok := (fun k_ => ((P2_ k_ ∨ P3_ k_) ∨ w.heap.size ≤ k_) ∧ some k_ ≠ (.slice Ao23 x9_1.length co23 : Value).ownBlock ∧ some k_ ≠ (u11 : Value).ownBlock ∧ some k_ ≠ (v117 : Value).ownBlock)) (okp := (fun k_ => ((P2_ k_ ∨ P3_ k_) ∨ w.heap.size ≤ k_) ∧ some k_ ≠ (.slice Ao23 x9_1.length co23 : Value).ownBlock ∧ some k_ ≠ (u11 : Value).ownBlock ∧ some k_ ≠ (v117 : Value).ownBlock)) ?hr ?hp (fun _ hk => hk) ((show ∀ k_, w27.heap.size ≤ k_ → (fun k_ => ((P2_ k_ ∨ P3_ k_) ∨ w.heap.size ≤ k_) ∧ some k_ ≠ (.slice Ao23 x9_1.length co23 : Value).ownBlock ∧ some k_ ≠ (u11 : Value).ownBlock ∧ some k_ ≠ (v117 : Value).ownBlock) k_ from fun k_ hk => ⟨(.inr (Nat.le_trans (bS_ (B_ HB.out)) hk)), Kd.fresh' (Kd.N_lt (KN_ HO_9.out)) k_ hk, Kd.fresh' (Kd.S_lt (KS_ HO_11.out)) k_ hk, Kd.fresh' (Kd.N_lt (KN_ HO118.out)) k_ hk⟩) _ (Nat.le_refl _)) (Below.refl _ _) (Nat.le_refl _) (by simp) ?_; (case hd => rfl); (case hg => rfl); (case hr => first | (go_simp; done) | (go_simp; rfl)); (case hp => exact (Reps.one (show Kd.FK (Kd.slice 2 (Kd.int .i64)) _ _ (rI_ l3 x12_1) [.slice A119_0 (rI_ l3 x12_1).length c119_0] from (Kd.FK_slice_mk (Kd.V_reads' (Kd.V_mono (ok' := (fun k_ => ((P2_ k_ ∨ P3_ k_) ∨ w.heap.size ≤ k_) ∧ some k_ ≠ (.slice Ao23 x9_1.length co23 : Value).ownBlock ∧ some k_ ≠ (u11 : Value).ownBlock ∧ some k_ ≠ (v117 : Value).ownBlock)) (HL119_0.out) (fun k_ hk => ⟨hk.1.1, ⟨hk.1.2.1, ⟨hk.1.2.2, hk.2⟩⟩⟩))).2.1 (Kd.V_F (Kd.V_mono (ok' := (fun k_ => ((P2_ k_ ∨ P3_ k_) ∨ w.heap.size ≤ k_) ∧ some k_ ≠ (.slice Ao23 x9_1.length co23 : Value).ownBlock ∧ some k_ ≠ (u11 : Value).ownBlock ∧ some k_ ≠ (v117 : Value).ownBlock)) (HL119_0.out) (fun k_ hk => ⟨hk.1.1, ⟨hk.1.2.1, ⟨hk.1.2.2, hk.2⟩⟩⟩))))) (Reps.none _ _)))
        intro v121 w28 ho29 hb hg_ hnew_
        have HS0_ := (hb.cell (World.block_lt_of_cell? _ _ (hHeld))).trans (hHeld)
        clear hg_ hnew_
        (first | rw [← Ny120.out] at ho29 | (simp only [Int.reduceToNat] at ho29; rw [← Ny120.out] at ho29))
        replace HO_3 := Zz.mk (Kd.V_elder' (by refine VW_ ?_; exact HO_3.out) (by first | exact Kd.N_base ho29 | exact Kd.S_base ho29) hb)
        replace HO_9 := Zz.mk (Kd.N_elder' (KN_ HO_9.out) (by first | exact Kd.N_base ho29 | exact Kd.S_base ho29) hb)
        replace HO_11 := Zz.mk (Kd.S_elder' (KS_ HO_11.out) (by first | exact Kd.N_base ho29 | exact Kd.S_base ho29) hb)
        replace HL119_0 := Zz.mk (Kd.V_elder' (by refine VW_ ?_; exact HL119_0.out) (by first | exact Kd.N_base ho29 | exact Kd.S_base ho29) hb)
        replace HO118 := Zz.mk (Kd.N_elder' (KN_ HO118.out) (by first | exact Kd.N_base ho29 | exact Kd.S_base ho29) hb)
        have HO122 := Zz.mk (Kd.N_lower ho29 (bS_ (B_ HB.out)))
        replace HB := Zz.mk (bT_ (B_ HB.out) hb)
        clear hb ho29
        refine hK.out _ _ (HS0_) (fun hHeld => ?_)
        clear hK K
        refine NM_ (N := (some 36)) (h := ?_)
        exact qCn (by simp only [qBr, Act.put, List.setIfInBounds_toArray, List.set_cons_zero, List.set_cons_succ]) (hCont (v114, v117, v121) _ ⟨hHeld, (by refine VW_ ?_; exact Kd.V_mono HL119_0.out (fun _ hk => pj_ hk)), (by refine NW_ ?_; exact Kd.N_mono HO118.out (fun _ hk => ⟨hk.1.1, ⟨hk.2, hk.1.2⟩⟩)), (by refine NW_ ?_; exact Kd.N_mono HO122.out (fun _ hk => ⟨hk.1, ⟨hk.2.2.2, ⟨hk.2.2.1, hk.2.1⟩⟩⟩)), (by refine SW_ ?_; exact Kd.S_mono HO_11.out (fun _ hk => ⟨hk.1.1.1, ⟨hk.1.2, ⟨hk.2, hk.1.1.2⟩⟩⟩)), (by refine VW_ ?_; exact Kd.V_mono HO_3.out (fun _ hk => pj_ hk)), (by refine NW_ ?_; exact Kd.N_mono HO_9.out (fun _ hk => ⟨hk.1.1.1, ⟨hk.1.2, ⟨hk.2, hk.1.1.2⟩⟩⟩)), (B_ HB.out)⟩)
       skip
       refine Kd.N_lit_step (Kd.slice 2 (Kd.int .i64)) _ 40 ?hg (N' := 36) ?hd (xs := ([rI_ l3 x12_1] : List (List Int))) (inner := [.slice A119_0 (rI_ l3 x12_1).length c119_0]) (ok := (fun k_ => ((P2_ k_ ∨ P3_ k_) ∨ w.heap.size ≤ k_) ∧ some k_ ≠ (.slice Ao23 x9_1.length co23 : Value).ownBlock ∧ some k_ ≠ (u11 : Value).ownBlock ∧ some k_ ≠ (v114 : Value).ownBlock)) (okp := (fun k_ => ((P2_ k_ ∨ P3_ k_) ∨ w.heap.size ≤ k_) ∧ some k_ ≠ (.slice Ao23 x9_1.length co23 : Value).ownBlock ∧ some k_ ≠ (u11 : Value).ownBlock ∧ some k_ ≠ (v114 : Value).ownBlock)) ?hr ?hp (fun _ hk => hk) ((show ∀ k_, w25.heap.size ≤ k_ → (fun k_ => ((P2_ k_ ∨ P3_ k_) ∨ w.heap.size ≤ k_) ∧ some k_ ≠ (.slice Ao23 x9_1.length co23 : Value).ownBlock ∧ some k_ ≠ (u11 : Value).ownBlock ∧ some k_ ≠ (v114 : Value).ownBlock) k_ from fun k_ hk => ⟨(.inr (Nat.le_trans (bS_ (B_ HB.out)) hk)), Kd.fresh' (Kd.N_lt (KN_ HO_9.out)) k_ hk, Kd.fresh' (Kd.S_lt (KS_ HO_11.out)) k_ hk, Kd.fresh' (Kd.N_lt (KN_ HO115.out)) k_ hk⟩) _ (Nat.le_refl _)) (Below.refl _ _) (Nat.le_refl _) (by simp) ?_; (case hd => rfl); (case hg => rfl); (case hr => first | (go_simp; done) | (go_simp; rfl)); (case hp => exact (Reps.one (show Kd.FK (Kd.slice 2 (Kd.int .i64)) _ _ (rI_ l3 x12_1) [.slice A119_0 (rI_ l3 x12_1).length c119_0] from (Kd.FK_slice_mk (Kd.V_reads' (Kd.V_mono (ok' := (fun k_ => ((P2_ k_ ∨ P3_ k_) ∨ w.heap.size ≤ k_) ∧ some k_ ≠ (.slice Ao23 x9_1.length co23 : Value).ownBlock ∧ some k_ ≠ (u11 : Value).ownBlock ∧ some k_ ≠ (v114 : Value).ownBlock)) (HL119_0.out) (fun k_ hk => ⟨hk.1.1, ⟨hk.1.2.1, ⟨hk.1.2.2, hk.2⟩⟩⟩))).2.1 (Kd.V_F (Kd.V_mono (ok' := (fun k_ => ((P2_ k_ ∨ P3_ k_) ∨ w.heap.size ≤ k_) ∧ some k_ ≠ (.slice Ao23 x9_1.length co23 : Value).ownBlock ∧ some k_ ≠ (u11 : Value).ownBlock ∧ some k_ ≠ (v114 : Value).ownBlock)) (HL119_0.out) (fun k_ hk => ⟨hk.1.1, ⟨hk.1.2.1, ⟨hk.1.2.2, hk.2⟩⟩⟩))))) (Reps.none _ _)))
       intro v121 w27 ho28 hb hg_ hnew_
       have HS0_ := (hb.cell (World.block_lt_of_cell? _ _ (hHeld))).trans (hHeld)
       clear hg_ hnew_
       (first | rw [← Ny120.out] at ho28 | (simp only [Int.reduceToNat] at ho28; rw [← Ny120.out] at ho28))
       replace HO_3 := Zz.mk (Kd.V_elder' (by refine VW_ ?_; exact HO_3.out) (by first | exact Kd.N_base ho28 | exact Kd.S_base ho28) hb)
       replace HO_9 := Zz.mk (Kd.N_elder' (KN_ HO_9.out) (by first | exact Kd.N_base ho28 | exact Kd.S_base ho28) hb)
       replace HO_11 := Zz.mk (Kd.S_elder' (KS_ HO_11.out) (by first | exact Kd.N_base ho28 | exact Kd.S_base ho28) hb)
       replace HL119_0 := Zz.mk (Kd.V_elder' (by refine VW_ ?_; exact HL119_0.out) (by first | exact Kd.N_base ho28 | exact Kd.S_base ho28) hb)
       replace HO115 := Zz.mk (Kd.N_elder' (KN_ HO115.out) (by first | exact Kd.N_base ho28 | exact Kd.S_base ho28) hb)
       have HO122 := Zz.mk (Kd.N_lower ho28 (bS_ (B_ HB.out)))
       replace HR119_0 := Zz.mk (Kd.C_below (KC_ HR119_0.out) hb)
       replace HB := Zz.mk (bT_ (B_ HB.out) hb)
       clear hb ho28
       refine hK.out _ _ (HS0_) (fun hHeld => ?_)
       clear hK K
       refine NM_ (N := (some 36)) (h := ?_)
       refine one_ (i := 2) (N := some 31) (tb_ 10 255) rfl rfl (qAs HT_.out (by kernel_rfl)) (by decide) (fun K hK => ?_)
       refine Kd.N_append_rows_step (Kd.slice 2 (Kd.int .i64)) (w0 := w) w.heap.size (by rfl) (.tmp 29) (.tmp 30) 22 40 (.slice none 0 0) 24 rfl Try.underlying22 qBs rfl (by decide) (by omega) v114 y113 x9_1 _ _ _ (fun k_ => ((P2_ k_ ∨ P3_ k_) ∨ w.heap.size ≤ k_) ∧ some k_ ≠ (u11 : Value).ownBlock ∧ some k_ ≠ (v121 : Value).ownBlock) (fun k_ => ((fun k_ => ((P2_ k_ ∨ P3_ k_) ∨ w.heap.size ≤ k_) ∧ some k_ ≠ (u11 : Value).ownBlock ∧ some k_ ≠ (v121 : Value).ownBlock)) k_ ∧ some k_ ≠ (v114 : Value).ownBlock) rfl rfl ?aO ?aR (fun _ hk => hk) ?aF ?aB ?aS ?aL ?_
       (case aR => exact (by skip; exact Kd.N_F (Kd.N_mono (ok' := (fun k_ => ((fun k_ => ((P2_ k_ ∨ P3_ k_) ∨ w.heap.size ≤ k_) ∧ some k_ ≠ (u11 : Value).ownBlock ∧ some k_ ≠ (v121 : Value).ownBlock)) k_ ∧ some k_ ≠ (v114 : Value).ownBlock)) (HO_9.out) (fun k_ hk => ⟨⟨hk.1.1.1, ⟨hk.1.1.2, hk.2⟩⟩, hk.1.2⟩))))
       (case aB => exact (B_ HB.out))
       (case aF => exact (fun k_ hk => ⟨(.inr (Nat.le_trans (bS_ (B_ HB.out)) hk)), Kd.fresh' (Kd.S_lt (KS_ HO_11.out)) k_ hk, Kd.fresh' (Kd.N_lt (KN_ HO122.out)) k_ hk⟩))
       (case aO => exact (by refine NW_ ?_; exact Kd.N_mono HO115.out (fun _ hk => ⟨hk.1.1, ⟨hk.1.2.2, hk.2⟩⟩)))
       (case aS => exact (bS_ (B_ HB.out)))
       (case aL => have := LMc16.out; omega)
       intro v117 w29 ho hb hg hat
       have HS0_ := qBt hg (hHeld) (fun e_ => (Kd.V_in_ (ok := fun k_ => (fun k_ => ((P2_ k_ ∨ P3_ k_) ∨ w.heap.size ≤ k_) ∧ some k_ ≠ (.slice Ao23 x9_1.length co23 : Value).ownBlock ∧ some k_ ≠ (u11 : Value).ownBlock ∧ some k_ ≠ (v121 : Value).ownBlock) k_ ∧ some k_ ≠ (v114 : Value).ownBlock) (Kd.V_mono HO_3.out (fun _ hk => pj_ hk)) (by have h1_ := of_eq_true q119; have h2_ := of_eq_true p119; omega) (by decide)).2 (by first | exact e_ | (rw [qBk] at e_; exact e_)))
       rw [← Ny116.out] at ho
       replace HO_3 := Zz.mk (Kd.V_afterv (ok := (fun k_ => ((P2_ k_ ∨ P3_ k_) ∨ w.heap.size ≤ k_) ∧ some k_ ≠ (.slice Ao23 x9_1.length co23 : Value).ownBlock ∧ some k_ ≠ (u11 : Value).ownBlock ∧ some k_ ≠ (v121 : Value).ownBlock)) (by refine VW_ ?_; exact Kd.V_mono HO_3.out (fun _ hk => pj_ hk)) hg hat)
       replace HO_9 := Zz.mk (Kd.N_afterv (ok := (fun k_ => ((P2_ k_ ∨ P3_ k_) ∨ w.heap.size ≤ k_) ∧ some k_ ≠ (u11 : Value).ownBlock ∧ some k_ ≠ (v121 : Value).ownBlock)) (by refine NW_ ?_; exact Kd.N_mono HO_9.out (fun _ hk => ⟨⟨hk.1.1.1, ⟨hk.1.1.2, hk.2⟩⟩, hk.1.2⟩)) hg hat)
       replace HO_11 := Zz.mk (Kd.S_after (ok := (fun k_ => (w.heap.size ≤ k_) ∧ some k_ ≠ (.slice Ao23 x9_1.length co23 : Value).ownBlock ∧ some k_ ≠ (v121 : Value).ownBlock)) (by refine SW_ ?_; exact Kd.S_mono HO_11.out (fun _ hk => ⟨⟨hk.1.1.1, ⟨hk.1.1.2, hk.2⟩⟩, hk.1.2⟩)) hg hat)
       replace HL119_0 := Zz.mk (Kd.V_afterv (ok := (fun k_ => ((P2_ k_ ∨ P3_ k_) ∨ w.heap.size ≤ k_) ∧ some k_ ≠ (.slice Ao23 x9_1.length co23 : Value).ownBlock ∧ some k_ ≠ (u11 : Value).ownBlock ∧ some k_ ≠ (v121 : Value).ownBlock)) (by refine VW_ ?_; exact Kd.V_mono HL119_0.out (fun _ hk => pj_ hk)) hg hat)
       replace HO122 := Zz.mk (Kd.N_afterv (ok := (fun k_ => ((P2_ k_ ∨ P3_ k_) ∨ w.heap.size ≤ k_) ∧ some k_ ≠ (.slice Ao23 x9_1.length co23 : Value).ownBlock ∧ some k_ ≠ (u11 : Value).ownBlock)) (by refine NW_ ?_; exact Kd.N_mono HO122.out (fun _ hk => ⟨⟨hk.1, ⟨hk.2.1, hk.2.2.1⟩⟩, hk.2.2.2⟩)) hg hat)
       replace HB := Zz.mk (hb)
       have HO118 := Zz.mk (ho)
       clear HO115
       clear ho hb hg hat
       refine hK.out _ _ (HS0_) (fun hHeld => ?_)
       clear hK K
       refine NM_ (N := (some 31)) (h := ?_)
       exact qCn (by simp only [qBr, Act.put, List.setIfInBounds_toArray, List.set_cons_zero, List.set_cons_succ]) (hCont (v114, v117, v121) _ ⟨hHeld, (by refine VW_ ?_; exact Kd.V_mono HL119_0.out (fun _ hk => pj_ hk)), (by refine NW_ ?_; exact Kd.N_mono HO118.out (fun _ hk => ⟨hk.1, ⟨hk.2.2, hk.2.1⟩⟩)), (by refine NW_ ?_; exact Kd.N_mono HO122.out (fun _ hk => ⟨hk.1.1, ⟨hk.2, ⟨hk.1.2.2, hk.1.2.1⟩⟩⟩)), (by refine SW_ ?_; exact Kd.S_mono HO_11.out (fun _ hk => ⟨hk.1.1, ⟨hk.2, ⟨hk.1.2.2, hk.1.2.1⟩⟩⟩)), (by refine VW_ ?_; exact Kd.V_mono HO_3.out (fun _ hk => pj_ hk)), (by refine NW_ ?_; exact Kd.N_mono HO_9.out (fun _ hk => ⟨hk.1.1, ⟨hk.2, ⟨hk.1.2.2, hk.1.2.1⟩⟩⟩)), (B_ HB.out)⟩)
      skip
      refine Kd.N_lit_step (Kd.slice 2 (Kd.int .i64)) _ 40 ?hg (N' := 36) ?hd (xs := ([rI_ l3 x12_1] : List (List Int))) (inner := [.slice A119_0 (rI_ l3 x12_1).length c119_0]) (ok := (fun k_ => ((P2_ k_ ∨ P3_ k_) ∨ w.heap.size ≤ k_) ∧ some k_ ≠ (.slice Ao23 x9_1.length co23 : Value).ownBlock ∧ some k_ ≠ (u11 : Value).ownBlock)) (okp := (fun k_ => ((P2_ k_ ∨ P3_ k_) ∨ w.heap.size ≤ k_) ∧ some k_ ≠ (.slice Ao23 x9_1.length co23 : Value).ownBlock ∧ some k_ ≠ (u11 : Value).ownBlock)) ?hr ?hp (fun _ hk => hk) ((show ∀ k_, w24.heap.size ≤ k_ → (fun k_ => ((P2_ k_ ∨ P3_ k_) ∨ w.heap.size ≤ k_) ∧ some k_ ≠ (.slice Ao23 x9_1.length co23 : Value).ownBlock ∧ some k_ ≠ (u11 : Value).ownBlock) k_ from fun k_ hk => ⟨(.inr (Nat.le_trans (bS_ (B_ HB.out)) hk)), Kd.fresh' (Kd.N_lt (KN_ HO_9.out)) k_ hk, Kd.fresh' (Kd.S_lt (KS_ HO_11.out)) k_ hk⟩) _ (Nat.le_refl _)) (Below.refl _ _) (Nat.le_refl _) (by simp) ?_; (case hd => rfl); (case hg => rfl); (case hr => first | (go_simp; done) | (go_simp; rfl)); (case hp => exact (Reps.one (show Kd.FK (Kd.slice 2 (Kd.int .i64)) _ _ (rI_ l3 x12_1) [.slice A119_0 (rI_ l3 x12_1).length c119_0] from (Kd.FK_slice_mk (Kd.V_reads' (Kd.V_mono (ok' := (fun k_ => ((P2_ k_ ∨ P3_ k_) ∨ w.heap.size ≤ k_) ∧ some k_ ≠ (.slice Ao23 x9_1.length co23 : Value).ownBlock ∧ some k_ ≠ (u11 : Value).ownBlock)) (HL119_0.out) (fun k_ hk => ⟨hk.1, ⟨hk.2.1, hk.2.2⟩⟩))).2.1 (Kd.V_F (Kd.V_mono (ok' := (fun k_ => ((P2_ k_ ∨ P3_ k_) ∨ w.heap.size ≤ k_) ∧ some k_ ≠ (.slice Ao23 x9_1.length co23 : Value).ownBlock ∧ some k_ ≠ (u11 : Value).ownBlock)) (HL119_0.out) (fun k_ hk => ⟨hk.1, ⟨hk.2.1, hk.2.2⟩⟩))))) (Reps.none _ _)))
      intro v121 w25 ho26 hb hg_ hnew_
      have HS0_ := (hb.cell (World.block_lt_of_cell? _ _ (hHeld))).trans (hHeld)
      clear hg_ hnew_
      (first | rw [← Ny120.out] at ho26 | (simp only [Int.reduceToNat] at ho26; rw [← Ny120.out] at ho26))
      replace HO_3 := Zz.mk (Kd.V_elder' (by refine VW_ ?_; exact HO_3.out) (by first | exact Kd.N_base ho26 | exact Kd.S_base ho26) hb)
      replace HO_9 := Zz.mk (Kd.N_elder' (KN_ HO_9.out) (by first | exact Kd.N_base ho26 | exact Kd.S_base ho26) hb)
      replace HO_11 := Zz.mk (Kd.S_elder' (KS_ HO_11.out) (by first | exact Kd.N_base ho26 | exact Kd.S_base ho26) hb)
      replace HL119_0 := Zz.mk (Kd.V_elder' (by refine VW_ ?_; exact HL119_0.out) (by first | exact Kd.N_base ho26 | exact Kd.S_base ho26) hb)
      have HO122 := Zz.mk (Kd.N_lower ho26 (bS_ (B_ HB.out)))
      replace HR119_0 := Zz.mk (Kd.C_below (KC_ HR119_0.out) hb)
      replace HB := Zz.mk (bT_ (B_ HB.out) hb)
      clear hb ho26
      refine hK.out _ _ (HS0_) (fun hHeld => ?_)
      clear hK K
      refine NM_ (N := (some 36)) (h := ?_)
      refine one_ (i := 0) (N := some 29) (tb_ 10 251) rfl rfl (qAs HT_.out (by kernel_rfl)) (by decide) (fun K hK => ?_)
      refine Kd.N_lit_step (Kd.slice 2 (Kd.int .i64)) _ 40 ?hg (N' := 29) ?hd (xs := ([] : List (List Int))) (inner := []) (ok := (fun k_ => ((P2_ k_ ∨ P3_ k_) ∨ w.heap.size ≤ k_) ∧ some k_ ≠ (.slice Ao23 x9_1.length co23 : Value).ownBlock ∧ some k_ ≠ (u11 : Value).ownBlock ∧ some k_ ≠ (v121 : Value).ownBlock)) (okp := (fun k_ => ((P2_ k_ ∨ P3_ k_) ∨ w.heap.size ≤ k_) ∧ some k_ ≠ (.slice Ao23 x9_1.length co23 : Value).ownBlock ∧ some k_ ≠ (u11 : Value).ownBlock ∧ some k_ ≠ (v121 : Value).ownBlock)) ?hr ?hp (fun _ hk => hk) ((show ∀ k_, w25.heap.size ≤ k_ → (fun k_ => ((P2_ k_ ∨ P3_ k_) ∨ w.heap.size ≤ k_) ∧ some k_ ≠ (.slice Ao23 x9_1.length co23 : Value).ownBlock ∧ some k_ ≠ (u11 : Value).ownBlock ∧ some k_ ≠ (v121 : Value).ownBlock) k_ from fun k_ hk => ⟨(.inr (Nat.le_trans (bS_ (B_ HB.out)) hk)), Kd.fresh' (Kd.N_lt (KN_ HO_9.out)) k_ hk, Kd.fresh' (Kd.S_lt (KS_ HO_11.out)) k_ hk, Kd.fresh' (Kd.N_lt (KN_ HO122.out)) k_ hk⟩) _ (Nat.le_refl _)) (Below.refl _ _) (Nat.le_refl _) (by simp) ?_; (case hd => rfl); (case hg => rfl); (case hr => first | (go_simp; done) | (go_simp; rfl)); (case hp => exact (Reps.none _ _))
      intro v114 w27 ho28 hb hg_ hnew_
      have HS0_ := (hb.cell (World.block_lt_of_cell? _ _ (hHeld))).trans (hHeld)
      clear hg_ hnew_
      (first | rw [← Ny113.out] at ho28 | (simp only [Int.reduceToNat] at ho28; rw [← Ny113.out] at ho28))
      replace HO_3 := Zz.mk (Kd.V_elder' (by refine VW_ ?_; exact HO_3.out) (by first | exact Kd.N_base ho28 | exact Kd.S_base ho28) hb)
      replace HO_9 := Zz.mk (Kd.N_elder' (KN_ HO_9.out) (by first | exact Kd.N_base ho28 | exact Kd.S_base ho28) hb)
      replace HO_11 := Zz.mk (Kd.S_elder' (KS_ HO_11.out) (by first | exact Kd.N_base ho28 | exact Kd.S_base ho28) hb)
      replace HL119_0 := Zz.mk (Kd.V_elder' (by refine VW_ ?_; exact HL119_0.out) (by first | exact Kd.N_base ho28 | exact Kd.S_base ho28) hb)
      replace HO122 := Zz.mk (Kd.N_elder' (KN_ HO122.out) (by first | exact Kd.N_base ho28 | exact Kd.S_base ho28) hb)
      have HO115 := Zz.mk (Kd.N_lower ho28 (bS_ (B_ HB.out)))
      replace HR119_0 := Zz.mk (Kd.C_below (KC_ HR119_0.out) hb)
      replace HB := Zz.mk (bT_ (B_ HB.out) hb)
      clear hb ho28
      refine hK.out _ _ (HS0_) (fun hHeld => ?_)
      clear hK K
      refine NM_ (N := (some 29)) (h := ?_)
      refine one_ (i := 2) (N := some 31) (tb_ 10 255) rfl rfl (qAs HT_.out (by kernel_rfl)) (by decide) (fun K hK => ?_)
      refine Kd.N_append_rows_step (Kd.slice 2 (Kd.int .i64)) (w0 := w) w.heap.size (by rfl) (.tmp 29) (.tmp 30) 22 40 (.slice none 0 0) 24 rfl Try.underlying22 qBs rfl (by decide) (by omega) v114 y113 x9_1 _ _ _ (fun k_ => ((P2_ k_ ∨ P3_ k_) ∨ w.heap.size ≤ k_) ∧ some k_ ≠ (u11 : Value).ownBlock ∧ some k_ ≠ (v121 : Value).ownBlock) (fun k_ => ((fun k_ => ((P2_ k_ ∨ P3_ k_) ∨ w.heap.size ≤ k_) ∧ some k_ ≠ (u11 : Value).ownBlock ∧ some k_ ≠ (v121 : Value).ownBlock)) k_ ∧ some k_ ≠ (v114 : Value).ownBlock) rfl rfl ?aO ?aR (fun _ hk => hk) ?aF ?aB ?aS ?aL ?_
      (case aR => exact (by skip; exact Kd.N_F (Kd.N_mono (ok' := (fun k_ => ((fun k_ => ((P2_ k_ ∨ P3_ k_) ∨ w.heap.size ≤ k_) ∧ some k_ ≠ (u11 : Value).ownBlock ∧ some k_ ≠ (v121 : Value).ownBlock)) k_ ∧ some k_ ≠ (v114 : Value).ownBlock)) (HO_9.out) (fun k_ hk => ⟨⟨hk.1.1.1, ⟨hk.1.1.2, hk.1.2⟩⟩, hk.2⟩))))
      (case aB => exact (B_ HB.out))
      (case aF => exact (fun k_ hk => ⟨(.inr (Nat.le_trans (bS_ (B_ HB.out)) hk)), Kd.fresh' (Kd.S_lt (KS_ HO_11.out)) k_ hk, Kd.fresh' (Kd.N_lt (KN_ HO122.out)) k_ hk⟩))
      (case aO => exact (by refine NW_ ?_; exact Kd.N_mono HO115.out (fun _ hk => ⟨hk.1, ⟨hk.2.2.1, hk.2.2.2⟩⟩)))
      (case aS => exact (bS_ (B_ HB.out)))
      (case aL => have := LMc16.out; omega)
      intro v117 w29 ho hb hg hat
      have HS0_ := qBt hg (hHeld) (fun e_ => (Kd.V_in_ (ok := fun k_ => (fun k_ => ((P2_ k_ ∨ P3_ k_) ∨ w.heap.size ≤ k_) ∧ some k_ ≠ (.slice Ao23 x9_1.length co23 : Value).ownBlock ∧ some k_ ≠ (u11 : Value).ownBlock ∧ some k_ ≠ (v121 : Value).ownBlock) k_ ∧ some k_ ≠ (v114 : Value).ownBlock) (Kd.V_mono HO_3.out (fun _ hk => pj_ hk)) (by have h1_ := of_eq_true q119; have h2_ := of_eq_true p119; omega) (by decide)).2 (by first | exact e_ | (rw [qBk] at e_; exact e_)))
      rw [← Ny116.out] at ho
      replace HO_3 := Zz.mk (Kd.V_afterv (ok := (fun k_ => ((P2_ k_ ∨ P3_ k_) ∨ w.heap.size ≤ k_) ∧ some k_ ≠ (.slice Ao23 x9_1.length co23 : Value).ownBlock ∧ some k_ ≠ (u11 : Value).ownBlock ∧ some k_ ≠ (v121 : Value).ownBlock)) (by refine VW_ ?_; exact Kd.V_mono HO_3.out (fun _ hk => pj_ hk)) hg hat)
      replace HO_9 := Zz.mk (Kd.N_afterv (ok := (fun k_ => ((P2_ k_ ∨ P3_ k_) ∨ w.heap.size ≤ k_) ∧ some k_ ≠ (u11 : Value).ownBlock ∧ some k_ ≠ (v121 : Value).ownBlock)) (by refine NW_ ?_; exact Kd.N_mono HO_9.out (fun _ hk => ⟨⟨hk.1.1.1, ⟨hk.1.1.2, hk.1.2⟩⟩, hk.2⟩)) hg hat)
      replace HO_11 := Zz.mk (Kd.S_after (ok := (fun k_ => (w.heap.size ≤ k_) ∧ some k_ ≠ (.slice Ao23 x9_1.length co23 : Value).ownBlock ∧ some k_ ≠ (v121 : Value).ownBlock)) (by refine SW_ ?_; exact Kd.S_mono HO_11.out (fun _ hk => ⟨⟨hk.1.1.1, ⟨hk.1.1.2, hk.1.2⟩⟩, hk.2⟩)) hg hat)
      replace HL119_0 := Zz.mk (Kd.V_afterv (ok := (fun k_ => ((P2_ k_ ∨ P3_ k_) ∨ w.heap.size ≤ k_) ∧ some k_ ≠ (.slice Ao23 x9_1.length co23 : Value).ownBlock ∧ some k_ ≠ (u11 : Value).ownBlock ∧ some k_ ≠ (v121 : Value).ownBlock)) (by refine VW_ ?_; exact Kd.V_mono HL119_0.out (fun _ hk => pj_ hk)) hg hat)
      replace HO122 := Zz.mk (Kd.N_afterv (ok := (fun k_ => ((P2_ k_ ∨ P3_ k_) ∨ w.heap.size ≤ k_) ∧ some k_ ≠ (.slice Ao23 x9_1.length co23 : Value).ownBlock ∧ some k_ ≠ (u11 : Value).ownBlock)) (KN_ HO122.out) hg hat)
      replace HB := Zz.mk (hb)
      have HO118 := Zz.mk (ho)
      clear HO115
      clear ho hb hg hat
      refine hK.out _ _ (HS0_) (fun hHeld => ?_)
      clear hK K
      refine NM_ (N := (some 31)) (h := ?_)
      exact qCn (by simp only [qBr, Act.put, List.setIfInBounds_toArray, List.set_cons_zero, List.set_cons_succ]) (hCont (v114, v117, v121) _ ⟨hHeld, (by refine VW_ ?_; exact Kd.V_mono HL119_0.out (fun _ hk => pj_ hk)), (by refine NW_ ?_; exact Kd.N_mono HO118.out (fun _ hk => ⟨hk.1, ⟨hk.2.2, hk.2.1⟩⟩)), (by refine NW_ ?_; exact Kd.N_mono HO122.out (fun _ hk => ⟨hk.1.1, ⟨hk.2, ⟨hk.1.2.2, hk.1.2.1⟩⟩⟩)), (by refine SW_ ?_; exact Kd.S_mono HO_11.out (fun _ hk => ⟨hk.1.1, ⟨hk.2, ⟨hk.1.2.2, hk.1.2.1⟩⟩⟩)), (by refine VW_ ?_; exact Kd.V_mono HO_3.out (fun _ hk => pj_ hk)), (by refine NW_ ?_; exact Kd.N_mono HO_9.out (fun _ hk => ⟨hk.1.1, ⟨hk.2, ⟨hk.1.2.2, hk.1.2.1⟩⟩⟩)), (B_ HB.out)⟩)
     rintro ⟨v114, v117, v121⟩ w30 ⟨hS_, h0_, h1_, h2_, h3_, h4_, h5_, h6_⟩
     have HL119_0 : Zz (Kd.V (Kd.int .i64) 2 w30 w.heap.size (fun k_ => ((P2_ k_ ∨ P3_ k_) ∨ w.heap.size ≤ k_) ∧ some k_ ≠ (v117 : Value).ownBlock ∧ some k_ ≠ (v121 : Value).ownBlock ∧ some k_ ≠ (u11 : Value).ownBlock ∧ some k_ ≠ (.slice Ao23 x9_1.length co23 : Value).ownBlock) (.slice A119_0 (rI_ l3 x12_1).length c119_0) (rI_ l3 x12_1)) := ⟨h0_⟩
     have HO118 : Zz (Kd.N (Kd.slice 2 (Kd.int .i64)) 40 w30 w.heap.size (fun k_ => ((P2_ k_ ∨ P3_ k_) ∨ w.heap.size ≤ k_) ∧ some k_ ≠ (v121 : Value).ownBlock ∧ some k_ ≠ (u11 : Value).ownBlock) v117 y116) := ⟨h1_⟩
     have HO122 : Zz (Kd.N (Kd.slice 2 (Kd.int .i64)) 40 w30 w.heap.size (fun k_ => ((P2_ k_ ∨ P3_ k_) ∨ w.heap.size ≤ k_) ∧ some k_ ≠ (v117 : Value).ownBlock ∧ some k_ ≠ (u11 : Value).ownBlock ∧ some k_ ≠ (.slice Ao23 x9_1.length co23 : Value).ownBlock) v121 y120) := ⟨h2_⟩
     replace HO_11 : Zz (Kd.S (Kd.slice 2 (Kd.int .i64)) 40 w30 w.heap.size (fun k_ => (w.heap.size ≤ k_) ∧ some k_ ≠ (v117 : Value).ownBlock ∧ some k_ ≠ (v121 : Value).ownBlock ∧ some k_ ≠ (.slice Ao23 x9_1.length co23 : Value).ownBlock) u11 x11_1) := ⟨h3_⟩
     replace HO_3 : Zz (Kd.V (Kd.slice 2 (Kd.int .i64)) 40 w30 w.heap.size (fun k_ => ((P2_ k_ ∨ P3_ k_) ∨ w.heap.size ≤ k_) ∧ some k_ ≠ (v117 : Value).ownBlock ∧ some k_ ≠ (v121 : Value).ownBlock ∧ some k_ ≠ (u11 : Value).ownBlock ∧ some k_ ≠ (.slice Ao23 x9_1.length co23 : Value).ownBlock) (.slice (some ad119) l3.length c3) l3) := ⟨h4_⟩
     replace HO_9 : Zz (Kd.N (Kd.slice 2 (Kd.int .i64)) 40 w30 w.heap.size (fun k_ => ((P2_ k_ ∨ P3_ k_) ∨ w.heap.size ≤ k_) ∧ some k_ ≠ (v117 : Value).ownBlock ∧ some k_ ≠ (v121 : Value).ownBlock ∧ some k_ ≠ (u11 : Value).ownBlock) (.slice Ao23 x9_1.length co23) x9_1) := ⟨h5_⟩
     replace HB : Zz (Below w.heap.size w w30) := ⟨h6_⟩
     (try clear h0_)
     (try clear h1_)
     (try clear h2_)
     (try clear h3_)
     (try clear h4_)
     (try clear h5_)
     (try clear h6_)
     have hHeld : w30.cell? (ad119.add (x12_1).toNat) = some (.slice A119_0 (rI_ l3 x12_1).length c119_0) := hS_
     obtain ⟨Ao32, co32, eo32⟩ := Kd.N_slice HO122.out
     (first | subst eo32 | obtain ⟨rfl, rfl⟩ := sl_ eo32)
     refine qCn (a' := ?_) ?_ ?_
     rotate_left
     ·simp only [qBr, Act.put, List.setIfInBounds_toArray, List.set_cons_zero, List.set_cons_succ]
      rfl
     refine one_ (i := 8) (N := some 37) (tb_ 10 511) rfl rfl (qAs HT_.out (by kernel_rfl)) (by decide) (fun K hK => ?_)
     refine Kd.N_append_rows_step (Kd.slice 2 (Kd.int .i64)) (w0 := w) w.heap.size (by rfl) (.tmp 31) (.tmp 36) 22 40 (.slice none 0 0) 24 rfl Try.underlying22 qBs rfl (by decide) (by omega) v117 y116 y120 _ _ _ (fun k_ => ((P2_ k_ ∨ P3_ k_) ∨ w.heap.size ≤ k_) ∧ some k_ ≠ (u11 : Value).ownBlock) (fun k_ => ((fun k_ => ((P2_ k_ ∨ P3_ k_) ∨ w.heap.size ≤ k_) ∧ some k_ ≠ (u11 : Value).ownBlock)) k_ ∧ some k_ ≠ (v117 : Value).ownBlock) rfl rfl ?aO ?aR (fun _ hk => hk) ?aF ?aB ?aS ?aL ?_
     (case aR => exact (by skip; exact Kd.N_F (Kd.N_mono (ok' := (fun k_ => ((fun k_ => ((P2_ k_ ∨ P3_ k_) ∨ w.heap.size ≤ k_) ∧ some k_ ≠ (u11 : Value).ownBlock)) k_ ∧ some k_ ≠ (v117 : Value).ownBlock)) (HO122.out) (fun k_ hk => ⟨⟨hk.1, hk.2.2.1⟩, hk.2.1⟩))))
     (case aB => exact (B_ HB.out))
     (case aF => exact (fun k_ hk => ⟨(.inr (Nat.le_trans (bS_ (B_ HB.out)) hk)), Kd.fresh' (Kd.S_lt (KS_ HO_11.out)) k_ hk⟩))
     (case aO => exact (by refine NW_ ?_; exact Kd.N_mono HO118.out (fun _ hk => ⟨hk.1, hk.2.2⟩)))
     (case aS => exact (bS_ (B_ HB.out)))
     (case aL => have := LMc18.out; omega)
     intro v124 w31 ho hb hg hat
     have HS0_ := qBt hg (hHeld) (fun e_ => (Kd.V_in_ (ok := fun k_ => (fun k_ => ((P2_ k_ ∨ P3_ k_) ∨ w.heap.size ≤ k_) ∧ some k_ ≠ (.slice Ao23 x9_1.length co23 : Value).ownBlock ∧ some k_ ≠ (u11 : Value).ownBlock ∧ some k_ ≠ (.slice Ao32 y120.length co32 : Value).ownBlock) k_ ∧ some k_ ≠ (v117 : Value).ownBlock) (Kd.V_mono HO_3.out (fun _ hk => pj_ hk)) (by have h1_ := of_eq_true q119; have h2_ := of_eq_true p119; omega) (by decide)).2 (by first | exact e_ | (rw [qBk] at e_; exact e_)))
     rw [← Ny123.out] at ho
     replace HO_3 := Zz.mk (Kd.V_afterv (ok := (fun k_ => ((P2_ k_ ∨ P3_ k_) ∨ w.heap.size ≤ k_) ∧ some k_ ≠ (.slice Ao23 x9_1.length co23 : Value).ownBlock ∧ some k_ ≠ (u11 : Value).ownBlock ∧ some k_ ≠ (.slice Ao32 y120.length co32 : Value).ownBlock)) (by refine VW_ ?_; exact Kd.V_mono HO_3.out (fun _ hk => pj_ hk)) hg hat)
     replace HO_9 := Zz.mk (Kd.N_afterv (ok := (fun k_ => ((P2_ k_ ∨ P3_ k_) ∨ w.heap.size ≤ k_) ∧ some k_ ≠ (u11 : Value).ownBlock ∧ some k_ ≠ (.slice Ao32 y120.length co32 : Value).ownBlock)) (by refine NW_ ?_; exact Kd.N_mono HO_9.out (fun _ hk => ⟨⟨hk.1, ⟨hk.2.2.2, hk.2.2.1⟩⟩, hk.2.1⟩)) hg hat)
     replace HO_11 := Zz.mk (Kd.S_after (ok := (fun k_ => (w.heap.size ≤ k_) ∧ some k_ ≠ (.slice Ao23 x9_1.length co23 : Value).ownBlock ∧ some k_ ≠ (.slice Ao32 y120.length co32 : Value).ownBlock)) (by refine SW_ ?_; exact Kd.S_mono HO_11.out (fun _ hk => ⟨⟨hk.1, ⟨hk.2.2.2, hk.2.2.1⟩⟩, hk.2.1⟩)) hg hat)
     replace HL119_0 := Zz.mk (Kd.V_afterv (ok := (fun k_ => ((P2_ k_ ∨ P3_ k_) ∨ w.heap.size ≤ k_) ∧ some k_ ≠ (.slice Ao23 x9_1.length co23 : Value).ownBlock ∧ some k_ ≠ (u11 : Value).ownBlock ∧ some k_ ≠ (.slice Ao32 y120.length co32 : Value).ownBlock)) (by refine VW_ ?_; exact Kd.V_mono HL119_0.out (fun _ hk => pj_ hk)) hg hat)
     replace HO122 := Zz.mk (Kd.N_afterv (ok := (fun k_ => ((P2_ k_ ∨ P3_ k_) ∨ w.heap.size ≤ k_) ∧ some k_ ≠ (.slice Ao23 x9_1.length co23 : Value).ownBlock ∧ some k_ ≠ (u11 : Value).ownBlock)) (by refine NW_ ?_; exact Kd.N_mono HO122.out (fun _ hk => ⟨⟨hk.1, ⟨hk.2.2.2, hk.2.2.1⟩⟩, hk.2.1⟩)) hg hat)
     replace HB := Zz.mk (hb)
     have HO125 := Zz.mk (ho)
     clear HO118
     clear ho hb hg hat
     refine hK.out _ _ (HS0_) (fun hHeld => ?_)
     clear hK K
     refine NM_ (N := (some 37)) (h := ?_)
     refine PX_ 9 13 (tb_ 10 1023) HT_ rfl rfl ?_
     refine qB0 (qA4 HT_.out (by kernel_rfl)) ?_
     obtain ⟨Ao33, co33, eo33⟩ := Kd.N_slice HO125.out
     subst eo33
     try go_wp2_with (first | ((with_reducible refine gC_ (f := 87) rfl ?_); refine GL_ (some 41) rfl rfl Try.func87 #[.int .i64 a0, .int .i64 a1, .slice Ao33 y123.length co33] rfl (h := ?_); (with_reducible refine (z87.calls k1 a0 a1 _ _ y123 t126 _ ?side1 ?side2 A19.out).mono ?_); (case side1 => exact KC_ (Kd.N_reads' HO125.out).2.2); (case side2 => exact (Kd.N_reads' HO125.out).2.1); rintro e w34 ⟨v127, rfl, ho0, hb⟩; refine ⟨_, rfl, ?_⟩; have HO128 := Zz.mk (Kd.S_lower (Kd.S_new' (Kd.S_new' (Kd.S_new' (Kd.S_new' (Kd.S_newM (M := fun k_ => (w.heap.size ≤ k_)) ho0 (bS_ (B_ HB.out)) (fun k_ h_ => h_)) (Kd.N_lt (KN_ HO_9.out))) (Kd.S_lt (KS_ HO_11.out))) (Kd.N_lt (KN_ HO122.out))) (Kd.N_lt (KN_ HO125.out))) (bS_ (B_ HB.out))); replace HO_3 := Zz.mk (Kd.V_elder' (by refine VW_ ?_; exact HO_3.out) (Kd.S_base ho0) hb); replace HO_9 := Zz.mk (Kd.N_elder' (KN_ HO_9.out) (Kd.S_base ho0) hb); replace HO_11 := Zz.mk (Kd.S_elder' (KS_ HO_11.out) (Kd.S_base ho0) hb); replace HL119_0 := Zz.mk (Kd.V_elder' (by refine VW_ ?_; exact HL119_0.out) (Kd.S_base ho0) hb); replace HO122 := Zz.mk (Kd.N_elder' (KN_ HO122.out) (Kd.S_base ho0) hb); replace HO125 := Zz.mk (Kd.N_elder' (KN_ HO125.out) (Kd.S_base ho0) hb); replace HB := Zz.mk (bT_ (B_ HB.out) hb); (try clear hb); (try clear ho0); obtain ⟨Ao35, co35, eo35⟩ := Kd.S_slice HO128.out; subst eo35; have p129 : 0 ≤ (x12_1 : Int) := D_; have q129 : x12_1 < (l3.length : Int) := D_; obtain ⟨ad129, A129_0, c129_0, e129, hx129_0, hl129_0, hi129_0⟩ := qAk (Kd.V_reads' HO_3.out).2.2 x12_1 p129 q129; obtain rfl : ad119 = ad129 := (by injection e129); obtain ⟨ce129, hce129, hMe129, hcc129⟩ := Kd.V_get HO_3.out [] x12_1 p129 (by first | exact q129 | exact D_ | (have e_ := (Kd.V_reads' HO_3.out).1; omega)); obtain ⟨ua129_0, uc129_0, rfl, ul129_0, ge129_0⟩ := Kd.FK_slice_open hMe129; have hv129_0 := hcc129 0 _ rfl; rw [Nat.add_zero, show ((Kd.slice 2 (Kd.int .i64))).sz = 1 from rfl, Nat.mul_one] at hv129_0; replace hv129_0 := Option.some.inj (hv129_0.symm.trans hx129_0); injection hv129_0 with hva_ hvn_ hvc_; rw [hva_] at ge129_0; rw [hvc_] at ul129_0; have HL129_0 := Zz.mk (show Kd.V (Kd.int .i64) 2 _ w.heap.size _ _ (rI_ l3 x12_1) from Kd.V_mk ul129_0 ge129_0); clear hva_ hvn_ hvc_ ge129_0 ul129_0; clear hcc129 hce129; have HR129_0 := Zz.mk hi129_0; have HC129_0 := Zz.mk hl129_0; clear hi129_0 hl129_0; replace p129 := eq_true p129; replace q129 := eq_true q129) | ((with_reducible refine gC_ (f := 88) rfl ?_); refine GL_ (some 53) rfl rfl Try.func88 #[.slice A129_0 (rI_ l3 x12_1).length c129_0] rfl (h := ?_); (with_reducible refine (z88.calls _ _ (rI_ l3 x12_1) t130 _ ?side1 ?side2 A21.out).mono ?_); (case side1 => exact KC_ (KC_ HR129_0.out)); (case side2 => exact HC129_0.out); rintro e w36 ⟨v131, rfl, ho0, hb⟩; refine ⟨_, rfl, ?_⟩; replace HO_3 := Zz.mk (Kd.V_elder' (by refine VW_ ?_; exact HO_3.out) (Kd.R_base ho0) hb); replace HO_9 := Zz.mk (Kd.N_elder' (KN_ HO_9.out) (Kd.R_base ho0) hb); replace HO_11 := Zz.mk (Kd.S_elder' (KS_ HO_11.out) (Kd.R_base ho0) hb); replace HL119_0 := Zz.mk (Kd.V_elder' (by refine VW_ ?_; exact HL119_0.out) (Kd.R_base ho0) hb); replace HO122 := Zz.mk (Kd.N_elder' (KN_ HO122.out) (Kd.R_base ho0) hb); replace HO125 := Zz.mk (Kd.N_elder' (KN_ HO125.out) (Kd.R_base ho0) hb); replace HO128 := Zz.mk (Kd.S_elder' (KS_ HO128.out) (Kd.R_base ho0) hb); replace HL129_0 := Zz.mk (Kd.V_elder' (by refine VW_ ?_; exact HL129_0.out) (Kd.R_base ho0) hb); have HO132 := Zz.mk (Kd.R_lower (Kd.R_newM (M := fun k_ => (w.heap.size ≤ k_)) ho0 (bS_ (B_ HB.out)) (fun k_ h_ => h_)) (bS_ (B_ HB.out))); replace HR129_0 := Zz.mk (Kd.C_below (KC_ HR129_0.out) hb); replace HB := Zz.mk (bT_ (B_ HB.out) hb); (try clear hb); (try clear ho0); obtain ⟨Ao38, co38, eo38⟩ := Kd.R_slice HO132.out; subst eo38) | ((with_reducible refine qA0 (b := .append) (xs := #[.tmp 48, .tmp 54]) rfl ?_); at_builtin; refine Kd.S_append (Kd.slice 2 (Kd.int .i64)) (w0 := w) w.heap.size rfl (.tmp 48) (.tmp 54) 22 40 (.slice none 0 0) 24 rfl Try.underlying22 qBs rfl (by decide) (by omega) u11 x11_1 t130 [.slice Ao38 t130.length co38] (fun k_ => (w.heap.size ≤ k_) ∧ some k_ ≠ (.slice Ao23 x9_1.length co23 : Value).ownBlock ∧ some k_ ≠ (.slice Ao32 y120.length co32 : Value).ownBlock ∧ some k_ ≠ (.slice Ao33 y123.length co33 : Value).ownBlock ∧ some k_ ≠ (.slice Ao35 t126.length co35 : Value).ownBlock) (fun k_ => some k_ = (.slice Ao38 t130.length co38 : Value).ownBlock) rfl rfl ?aP (fun k_ hk_ => ((Kd.R_mono (ok' := fun k_ => ((fun k_ => (w.heap.size ≤ k_) ∧ some k_ ≠ (.slice Ao23 x9_1.length co23 : Value).ownBlock ∧ some k_ ≠ (.slice Ao32 y120.length co32 : Value).ownBlock ∧ some k_ ≠ (.slice Ao33 y123.length co33 : Value).ownBlock ∧ some k_ ≠ (.slice Ao35 t126.length co35 : Value).ownBlock)) k_ ∧ some k_ ≠ (u11 : Value).ownBlock) (Kd.R_apart' (Kd.R_apart' (Kd.R_apart' (Kd.R_apart' (Kd.R_apart' (HO132.out) (Kd.N_typed HO_9.out) (by decide)) (Kd.N_typed HO122.out) (by decide)) (Kd.N_typed HO125.out) (by decide)) (Kd.S_typed HO128.out) (by decide)) (Kd.S_typed HO_11.out) (by decide)) (fun k_ hk => ⟨⟨hk.1.1.1.1.1.1, ⟨hk.1.1.1.1.2, ⟨hk.1.1.1.2, ⟨hk.1.1.2, hk.1.2⟩⟩⟩⟩, hk.2⟩))).1 k_ hk_.symm) ?aF ?aO ?aB ?aS ?aL ?_; (case aP => exact Kd.M_row (Kd.R_mono (Kd.R_tight rfl (Kd.R_mono (ok' := fun k_ => ((fun k_ => (w.heap.size ≤ k_) ∧ some k_ ≠ (.slice Ao23 x9_1.length co23 : Value).ownBlock ∧ some k_ ≠ (.slice Ao32 y120.length co32 : Value).ownBlock ∧ some k_ ≠ (.slice Ao33 y123.length co33 : Value).ownBlock ∧ some k_ ≠ (.slice Ao35 t126.length co35 : Value).ownBlock)) k_ ∧ some k_ ≠ (u11 : Value).ownBlock) (Kd.R_apart' (Kd.R_apart' (Kd.R_apart' (Kd.R_apart' (Kd.R_apart' (HO132.out) (Kd.N_typed HO_9.out) (by decide)) (Kd.N_typed HO122.out) (by decide)) (Kd.N_typed HO125.out) (by decide)) (Kd.S_typed HO128.out) (by decide)) (Kd.S_typed HO_11.out) (by decide)) (fun k_ hk => ⟨⟨hk.1.1.1.1.1.1, ⟨hk.1.1.1.1.2, ⟨hk.1.1.1.2, ⟨hk.1.1.2, hk.1.2⟩⟩⟩⟩, hk.2⟩))) (fun _ h_ => h_))); (case aB => exact (B_ HB.out)); (case aF => exact (fun k_ hk => ⟨(Nat.le_trans (bS_ (B_ HB.out)) hk), Kd.fresh' (Kd.N_lt (KN_ HO_9.out)) k_ hk, Kd.fresh' (Kd.N_lt (KN_ HO122.out)) k_ hk, Kd.fresh' (Kd.N_lt (KN_ HO125.out)) k_ hk, Kd.fresh' (Kd.S_lt (KS_ HO128.out)) k_ hk⟩)); (case aO => exact (by refine SW_ ?_; exact Kd.S_mono HO_11.out (fun k_ hk => ⟨⟨hk.1.1.1.1, ⟨hk.1.1.1.2.1, ⟨hk.1.1.1.2.2, ⟨hk.1.1.2, hk.1.2⟩⟩⟩⟩, fun e_ => hk.2 e_⟩))); (case aS => exact (bS_ (B_ HB.out))); (case aL => have := LMc22.out; omega); intro v134 w37 ho hb hg hat; rw [← Ny133.out] at ho; replace HO_3 := Zz.mk (Kd.V_afterv (ok := (fun k_ => ((P2_ k_ ∨ P3_ k_) ∨ w.heap.size ≤ k_) ∧ some k_ ≠ (.slice Ao23 x9_1.length co23 : Value).ownBlock ∧ some k_ ≠ (.slice Ao32 y120.length co32 : Value).ownBlock ∧ some k_ ≠ (.slice Ao33 y123.length co33 : Value).ownBlock ∧ some k_ ≠ (.slice Ao35 t126.length co35 : Value).ownBlock ∧ some k_ ≠ (.slice Ao38 t130.length co38 : Value).ownBlock)) (by refine VW_ ?_; exact Kd.V_mono HO_3.out (fun _ hk => pj_ hk)) hg hat); replace HO_9 := Zz.mk (Kd.N_afterv (ok := (fun k_ => ((P2_ k_ ∨ P3_ k_) ∨ w.heap.size ≤ k_) ∧ some k_ ≠ (.slice Ao32 y120.length co32 : Value).ownBlock ∧ some k_ ≠ (.slice Ao33 y123.length co33 : Value).ownBlock ∧ some k_ ≠ (.slice Ao35 t126.length co35 : Value).ownBlock ∧ some k_ ≠ (.slice Ao38 t130.length co38 : Value).ownBlock)) (by refine NW_ ?_; exact Kd.N_mono HO_9.out (fun _ hk => pj_ hk)) hg hat); replace HL119_0 := Zz.mk (Kd.V_afterv (ok := (fun k_ => ((P2_ k_ ∨ P3_ k_) ∨ w.heap.size ≤ k_) ∧ some k_ ≠ (.slice Ao23 x9_1.length co23 : Value).ownBlock ∧ some k_ ≠ (.slice Ao32 y120.length co32 : Value).ownBlock ∧ some k_ ≠ (.slice Ao33 y123.length co33 : Value).ownBlock ∧ some k_ ≠ (.slice Ao35 t126.length co35 : Value).ownBlock ∧ some k_ ≠ (.slice Ao38 t130.length co38 : Value).ownBlock)) (by refine VW_ ?_; exact Kd.V_mono HL119_0.out (fun _ hk => pj_ hk)) hg hat); replace HO122 := Zz.mk (Kd.N_afterv (ok := (fun k_ => ((P2_ k_ ∨ P3_ k_) ∨ w.heap.size ≤ k_) ∧ some k_ ≠ (.slice Ao23 x9_1.length co23 : Value).ownBlock ∧ some k_ ≠ (.slice Ao33 y123.length co33 : Value).ownBlock ∧ some k_ ≠ (.slice Ao35 t126.length co35 : Value).ownBlock ∧ some k_ ≠ (.slice Ao38 t130.length co38 : Value).ownBlock)) (by refine NW_ ?_; exact Kd.N_mono HO122.out (fun _ hk => pj_ hk)) hg hat); replace HO125 := Zz.mk (Kd.N_afterv (ok := (fun k_ => ((P2_ k_ ∨ P3_ k_) ∨ w.heap.size ≤ k_) ∧ some k_ ≠ (.slice Ao35 t126.length co35 : Value).ownBlock ∧ some k_ ≠ (.slice Ao38 t130.length co38 : Value).ownBlock)) (by refine NW_ ?_; exact Kd.N_mono HO125.out (fun _ hk => ⟨⟨hk.1.1.1, ⟨hk.1.2, hk.2⟩⟩, hk.1.1.2⟩)) hg hat); replace HO128 := Zz.mk (Kd.S_after (ok := (fun k_ => (w.heap.size ≤ k_) ∧ some k_ ≠ (.slice Ao23 x9_1.length co23 : Value).ownBlock ∧ some k_ ≠ (.slice Ao32 y120.length co32 : Value).ownBlock ∧ some k_ ≠ (.slice Ao33 y123.length co33 : Value).ownBlock ∧ some k_ ≠ (.slice Ao38 t130.length co38 : Value).ownBlock)) (by refine SW_ ?_; exact Kd.S_mono HO128.out (fun _ hk => pj_ hk)) hg hat); replace HL129_0 := Zz.mk (Kd.V_afterv (ok := (fun k_ => ((P2_ k_ ∨ P3_ k_) ∨ w.heap.size ≤ k_) ∧ some k_ ≠ (.slice Ao23 x9_1.length co23 : Value).ownBlock ∧ some k_ ≠ (.slice Ao32 y120.length co32 : Value).ownBlock ∧ some k_ ≠ (.slice Ao33 y123.length co33 : Value).ownBlock ∧ some k_ ≠ (.slice Ao35 t126.length co35 : Value).ownBlock ∧ some k_ ≠ (.slice Ao38 t130.length co38 : Value).ownBlock)) (by refine VW_ ?_; exact Kd.V_mono HL129_0.out (fun _ hk => pj_ hk)) hg hat); replace HB := Zz.mk (hb); have HO135 := Zz.mk (ho); clear HO_11; clear HO132; clear ho hb hg hat))
     go_roundg k1
     case measure => exact Q1_ HK1
     case rel => exact ⟨(y123), (wrap64 (x10_1 + 1)), (y133), (wrap64 (x12_1 + 1)), E_, E_, H', ⟨Q1_ HK1⟩, ⟨by refine VW_ ?_; exact Kd.V_mono HO_3.out (fun _ hk => ⟨hk.1.1, ⟨hk.1.2.2.2.1, hk.2⟩⟩)⟩, ⟨by refine NW_ ?_; exact Kd.N_mono HO125.out (fun _ hk => ⟨hk.1.1, hk.2⟩)⟩, ⟨by refine SW_ ?_; exact Kd.S_mono HO135.out (fun _ hk => ⟨hk.1, hk.2.2.2.1⟩)⟩, ⟨B_ HB.out⟩⟩
    rw [if_neg c20] at H
    have c20b0 : decide (x10_1 < (t126.length : Int)) = false := decide_eq_false c20
    clear c20
    have H' := Zz.mk H
    clear H
    obtain ⟨Ao39, co39, eo39⟩ := Kd.N_slice HO_9.out
    subst eo39
    try go_wp2
    replace HO_3 := Zz.mk (Kd.V_drew HO_3.out)
    replace HO_9 := Zz.mk (Kd.N_drew HO_9.out)
    replace HO_11 := Zz.mk (Kd.S_drew HO_11.out)
    replace HB := Zz.mk (qAj HB.out)
    have p119 : 0 ≤ (x12_1 : Int) := D_
    have q119 : x12_1 < (l3.length : Int) := D_
    obtain ⟨ad119, A119_0, c119_0, e119, hx119_0, hl119_0, hi119_0⟩ := qAk (Kd.V_reads' HO_3.out).2.2 x12_1 p119 q119
    cases e119
    obtain ⟨ce119, hce119, hMe119, hcc119⟩ := Kd.V_get HO_3.out [] x12_1 p119 (by first | exact q119 | exact D_ | (have e_ := (Kd.V_reads' HO_3.out).1; omega))
    obtain ⟨ua119_0, uc119_0, rfl, ul119_0, ge119_0⟩ := Kd.FK_slice_open hMe119
    have hv119_0 := hcc119 0 _ rfl
    rw [Nat.add_zero, show ((Kd.slice 2 (Kd.int .i64))).sz = 1 from rfl, Nat.mul_one] at hv119_0
    replace hv119_0 := Option.some.inj (hv119_0.symm.trans hx119_0)
    injection hv119_0 with hva_ hvn_ hvc_
    rw [hva_] at ge119_0
    rw [hvc_] at ul119_0
    have HL119_0 := Zz.mk (show Kd.V (Kd.int .i64) 2 _ w.heap.size _ _ (rI_ l3 x12_1) from Kd.V_mk ul119_0 ge119_0)
    clear hva_ hvn_ hvc_ ge119_0 ul119_0
    clear hcc119 hce119
    have HR119_0 := Zz.mk hi119_0
    have HC119_0 := Zz.mk hl119_0
    clear hi119_0 hl119_0
    replace p119 := eq_true p119
    replace q119 := eq_true q119
    refine qBf (n := 10) (S := fun w' => w'.cell? (ad119.add (x12_1).toNat) = some (.slice A119_0 (rI_ l3 x12_1).length c119_0)) (ds := []) (tb_ 10 0) (by kernel_rfl) rfl rfl (hx119_0) (fun hHeld => ?_); refine qAv z40.tab7 z40.bits7 (fun HT_ HW_ => ?_)
    generalize wr.drew = w40 at HO_3 HO_9 HO_11 HB HL119_0 HR119_0 hx119_0 hHeld ⊢
    refine PX_ 1 30 (tb_ 10 2) HT_ rfl rfl ?_
    refine PX_ 3 32 (tb_ 10 10) HT_ rfl rfl ?_
    refine PX_ 4 33 (tb_ 10 26) HT_ rfl rfl ?_
    refine PX_ 5 34 (tb_ 10 58) HT_ rfl rfl ?_
    refine take_ (i := 6) (N := some 35) (v := ?_) (a' := ?_) (tb_ 10 122) rfl rfl (qC8 HT_.out HW_.out (by kernel_rfl)) (fun _ _ _ h => h) (Or.inl ⟨by rfl, ?_⟩) hHeld ?_ ?_
    rotate_left
    ·intro w' s0
     go_simp
     with_reducible rfl
    rotate_left
    ·simp only [Act.put, List.setIfInBounds_toArray, List.set_cons_zero, List.set_cons_succ, qBj, qBz]
     rfl
    refine qI0 (σ := Value × Value × Value) 2 (tb_ 10 255) (fun s_ => [(29, s_.1), (31, s_.2.1), (36, s_.2.2)]) (fun s_ w' => (w'.cell? (ad119.add (x12_1).toNat) = some (.slice A119_0 (rI_ l3 x12_1).length c119_0)) ∧ (Kd.V (Kd.int .i64) 2 w' w.heap.size (fun k_ => ((P2_ k_ ∨ P3_ k_) ∨ w.heap.size ≤ k_) ∧ some k_ ≠ (s_.2.1 : Value).ownBlock ∧ some k_ ≠ (s_.2.2 : Value).ownBlock ∧ some k_ ≠ (u11 : Value).ownBlock ∧ some k_ ≠ (.slice Ao39 x9_1.length co39 : Value).ownBlock) (.slice A119_0 (rI_ l3 x12_1).length c119_0) (rI_ l3 x12_1)) ∧ (Kd.N (Kd.slice 2 (Kd.int .i64)) 40 w' w.heap.size (fun k_ => ((P2_ k_ ∨ P3_ k_) ∨ w.heap.size ≤ k_) ∧ some k_ ≠ (s_.2.2 : Value).ownBlock ∧ some k_ ≠ (u11 : Value).ownBlock) s_.2.1 y116) ∧ (Kd.N (Kd.slice 2 (Kd.int .i64)) 40 w' w.heap.size (fun k_ => ((P2_ k_ ∨ P3_ k_) ∨ w.heap.size ≤ k_) ∧ some k_ ≠ (s_.2.1 : Value).ownBlock ∧ some k_ ≠ (u11 : Value).ownBlock ∧ some k_ ≠ (.slice Ao39 x9_1.length co39 : Value).ownBlock) s_.2.2 y120) ∧ (Kd.S (Kd.slice 2 (Kd.int .i64)) 40 w' w.heap.size (fun k_ => (w.heap.size ≤ k_) ∧ some k_ ≠ (s_.2.1 : Value).ownBlock ∧ some k_ ≠ (s_.2.2 : Value).ownBlock ∧ some k_ ≠ (.slice Ao39 x9_1.length co39 : Value).ownBlock) u11 x11_1) ∧ (Kd.V (Kd.slice 2 (Kd.int .i64)) 40 w' w.heap.size (fun k_ => ((P2_ k_ ∨ P3_ k_) ∨ w.heap.size ≤ k_) ∧ some k_ ≠ (s_.2.1 : Value).ownBlock ∧ some k_ ≠ (s_.2.2 : Value).ownBlock ∧ some k_ ≠ (u11 : Value).ownBlock ∧ some k_ ≠ (.slice Ao39 x9_1.length co39 : Value).ownBlock) (.slice (some ad119) l3.length c3) l3) ∧ (Kd.N (Kd.slice 2 (Kd.int .i64)) 40 w' w.heap.size (fun k_ => ((P2_ k_ ∨ P3_ k_) ∨ w.heap.size ≤ k_) ∧ some k_ ≠ (s_.2.1 : Value).ownBlock ∧ some k_ ≠ (s_.2.2 : Value).ownBlock ∧ some k_ ≠ (u11 : Value).ownBlock) (.slice Ao39 x9_1.length co39) x9_1) ∧ (Below w.heap.size w w')) ?_ ?_
    rotate_left
    ·intro hCont
     refine two_ (i := 0) (j := 7) (Ni := some 29) (Nj := some 36) (tb_ 10 123) (tb_ 10 250) rfl rfl rfl rfl (qD6 HT_.out (by kernel_rfl)) (by decide) (by decide) (fun K hK => ?_) (fun K hK => ?_)
     ·skip
      refine Kd.N_lit_step (Kd.slice 2 (Kd.int .i64)) _ 40 ?hg (N' := 29) ?hd (xs := ([] : List (List Int))) (inner := []) (ok := (fun k_ => ((P2_ k_ ∨ P3_ k_) ∨ w.heap.size ≤ k_) ∧ some k_ ≠ (.slice Ao39 x9_1.length co39 : Value).ownBlock ∧ some k_ ≠ (u11 : Value).ownBlock)) (okp := (fun k_ => ((P2_ k_ ∨ P3_ k_) ∨ w.heap.size ≤ k_) ∧ some k_ ≠ (.slice Ao39 x9_1.length co39 : Value).ownBlock ∧ some k_ ≠ (u11 : Value).ownBlock)) ?hr ?hp (fun _ hk => hk) ((show ∀ k_, w40.heap.size ≤ k_ → (fun k_ => ((P2_ k_ ∨ P3_ k_) ∨ w.heap.size ≤ k_) ∧ some k_ ≠ (.slice Ao39 x9_1.length co39 : Value).ownBlock ∧ some k_ ≠ (u11 : Value).ownBlock) k_ from fun k_ hk => ⟨(.inr (Nat.le_trans (bS_ (B_ HB.out)) hk)), Kd.fresh' (Kd.N_lt (KN_ HO_9.out)) k_ hk, Kd.fresh' (Kd.S_lt (KS_ HO_11.out)) k_ hk⟩) _ (Nat.le_refl _)) (Below.refl _ _) (Nat.le_refl _) (by simp) ?_; (case hd => rfl); (case hg => rfl); (case hr => first | (go_simp; done) | (go_simp; rfl)); (case hp => exact (Reps.none _ _))
      intro v114 w41 ho42 hb hg_ hnew_
      have HS0_ := (hb.cell (World.block_lt_of_cell? _ _ (hHeld))).trans (hHeld)
      clear hg_ hnew_
      (first | rw [← Ny113.out] at ho42 | (simp only [Int.reduceToNat] at ho42; rw [← Ny113.out] at ho42))
      replace HO_3 := Zz.mk (Kd.V_elder' (by refine VW_ ?_; exact HO_3.out) (by first | exact Kd.N_base ho42 | exact Kd.S_base ho42) hb)
      replace HO_9 := Zz.mk (Kd.N_elder' (KN_ HO_9.out) (by first | exact Kd.N_base ho42 | exact Kd.S_base ho42) hb)
      replace HO_11 := Zz.mk (Kd.S_elder' (KS_ HO_11.out) (by first | exact Kd.N_base ho42 | exact Kd.S_base ho42) hb)
      replace HL119_0 := Zz.mk (Kd.V_elder' (by refine VW_ ?_; exact HL119_0.out) (by first | exact Kd.N_base ho42 | exact Kd.S_base ho42) hb)
      have HO115 := Zz.mk (Kd.N_lower ho42 (bS_ (B_ HB.out)))
      replace HR119_0 := Zz.mk (Kd.C_below (KC_ HR119_0.out) hb)
      replace HB := Zz.mk (bT_ (B_ HB.out) hb)
      clear hb ho42
      refine hK.out _ _ (HS0_) (fun hHeld => ?_)
      clear hK K
      refine NM_ (N := (some 29)) (h := ?_)
      refine two_ (i := 2) (j := 7) (Ni := some 31) (Nj := some 36) (tb_ 10 127) (tb_ 10 251) rfl rfl rfl rfl (qD6 HT_.out (by kernel_rfl)) (by decide) (by decide) (fun K hK => ?_) (fun K hK => ?_)
      ·skip
       refine Kd.N_append_rows_step (Kd.slice 2 (Kd.int .i64)) (w0 := w) w.heap.size (by rfl) (.tmp 29) (.tmp 30) 22 40 (.slice none 0 0) 24 rfl Try.underlying22 qBs rfl (by decide) (by omega) v114 y113 x9_1 _ _ _ (fun k_ => ((P2_ k_ ∨ P3_ k_) ∨ w.heap.size ≤ k_) ∧ some k_ ≠ (u11 : Value).ownBlock) (fun k_ => ((fun k_ => ((P2_ k_ ∨ P3_ k_) ∨ w.heap.size ≤ k_) ∧ some k_ ≠ (u11 : Value).ownBlock)) k_ ∧ some k_ ≠ (v114 : Value).ownBlock) rfl rfl ?aO ?aR (fun _ hk => hk) ?aF ?aB ?aS ?aL ?_
       (case aR => exact (by skip; exact Kd.N_F (Kd.N_mono (ok' := (fun k_ => ((fun k_ => ((P2_ k_ ∨ P3_ k_) ∨ w.heap.size ≤ k_) ∧ some k_ ≠ (u11 : Value).ownBlock)) k_ ∧ some k_ ≠ (v114 : Value).ownBlock)) (HO_9.out) (fun k_ hk => ⟨⟨hk.1.1, hk.1.2⟩, hk.2⟩))))
       (case aB => exact (B_ HB.out))
       (case aF => exact (fun k_ hk => ⟨(.inr (Nat.le_trans (bS_ (B_ HB.out)) hk)), Kd.fresh' (Kd.S_lt (KS_ HO_11.out)) k_ hk⟩))
       (case aO => exact (by refine NW_ ?_; exact Kd.N_mono HO115.out (fun _ hk => ⟨hk.1, hk.2.2⟩)))
       (case aS => exact (bS_ (B_ HB.out)))
       (case aL => have := LMc16.out; omega)
       intro v117 w43 ho hb hg hat
       have HS0_ := qBt hg (hHeld) (fun e_ => (Kd.V_in_ (ok := fun k_ => (fun k_ => ((P2_ k_ ∨ P3_ k_) ∨ w.heap.size ≤ k_) ∧ some k_ ≠ (.slice Ao39 x9_1.length co39 : Value).ownBlock ∧ some k_ ≠ (u11 : Value).ownBlock) k_ ∧ some k_ ≠ (v114 : Value).ownBlock) (HO_3.out) (by have h1_ := of_eq_true q119; have h2_ := of_eq_true p119; omega) (by decide)).2 (by first | exact e_ | (rw [qBk] at e_; exact e_)))
       rw [← Ny116.out] at ho
       replace HO_3 := Zz.mk (Kd.V_afterv (ok := (fun k_ => ((P2_ k_ ∨ P3_ k_) ∨ w.heap.size ≤ k_) ∧ some k_ ≠ (.slice Ao39 x9_1.length co39 : Value).ownBlock ∧ some k_ ≠ (u11 : Value).ownBlock)) (by refine VW_ ?_; exact HO_3.out) hg hat)
       replace HO_9 := Zz.mk (Kd.N_afterv (ok := (fun k_ => ((P2_ k_ ∨ P3_ k_) ∨ w.heap.size ≤ k_) ∧ some k_ ≠ (u11 : Value).ownBlock)) (KN_ HO_9.out) hg hat)
       replace HO_11 := Zz.mk (Kd.S_after (ok := (fun k_ => (w.heap.size ≤ k_) ∧ some k_ ≠ (.slice Ao39 x9_1.length co39 : Value).ownBlock)) (KS_ HO_11.out) hg hat)
       replace HL119_0 := Zz.mk (Kd.V_afterv (ok := (fun k_ => ((P2_ k_ ∨ P3_ k_) ∨ w.heap.size ≤ k_) ∧ some k_ ≠ (.slice Ao39 x9_1.length co39 : Value).ownBlock ∧ some k_ ≠ (u11 : Value).ownBlock)) (by refine VW_ ?_; exact HL119_0.out) hg hat)
       replace HB := Zz.mk (hb)
       have HO118 := Zz.mk (ho)
       clear HO115
       clear ho hb hg hat
       refine hK.out _ _ (HS0_) (fun hHeld => ?_)
       clear hK K
       refine NM_ (N := (some 31)) (h := ?_)
       refine one_ (i := 7) (N := some 36) (tb_ 10 255) rfl rfl (qAs HT_.out (by kernel_rfl)) (by decide) (fun K hK => ?_)
       refine Kd.N_lit_step (Kd.slice 2 (Kd.int .i64)) _ 40 ?hg (N' := 36) ?hd (xs := ([rI_ l3 x12_1] : List (List Int))) (inner := [.slice A119_0 (rI_ l3 x12_1).length c119_0]) (ok := (fun k_ => ((P2_ k_ ∨ P3_ k_) ∨ w.heap.size ≤ k_) ∧ some k_ ≠ (.slice Ao39 x9_1.length co39 : Value).ownBlock ∧ some k_ ≠ (u11 : Value).ownBlock ∧ some k_ ≠ (v117 : Value).ownBlock)) (okp := (fun k_ => ((P2_ k_ ∨ P3_ k_) ∨ w.heap.size ≤ k_) ∧ some k_ ≠ (.slice Ao39 x9_1.length co39 : Value).ownBlock ∧ some k_ ≠ (u11 : Value).ownBlock ∧ some k_ ≠ (v117 : Value).ownBlock)) ?hr ?hp (fun _ hk => hk) ((show ∀ k_, w43.heap.size ≤ k_ → (fun k_ => ((P2_ k_ ∨ P3_ k_) ∨ w.heap.size ≤ k_) ∧ some k_ ≠ (.slice Ao39 x9_1.length co39 : Value).ownBlock ∧ some k_ ≠ (u11 : Value).ownBlock ∧ some k_ ≠ (v117 : Value).ownBlock) k_ from fun k_ hk => ⟨(.inr (Nat.le_trans (bS_ (B_ HB.out)) hk)), Kd.fresh' (Kd.N_lt (KN_ HO_9.out)) k_ hk, Kd.fresh' (Kd.S_lt (KS_ HO_11.out)) k_ hk, Kd.fresh' (Kd.N_lt (KN_ HO118.out)) k_ hk⟩) _ (Nat.le_refl _)) (Below.refl _ _) (Nat.le_refl _) (by simp) ?_; (case hd => rfl); (case hg => rfl); (case hr => first | (go_simp; done) | (go_simp; rfl)); (case hp => exact (Reps.one (show Kd.FK (Kd.slice 2 (Kd.int .i64)) _ _ (rI_ l3 x12_1) [.slice A119_0 (rI_ l3 x12_1).length c119_0] from (Kd.FK_slice_mk (Kd.V_reads' (Kd.V_mono (ok' := (fun k_ => ((P2_ k_ ∨ P3_ k_) ∨ w.heap.size ≤ k_) ∧ some k_ ≠ (.slice Ao39 x9_1.length co39 : Value).ownBlock ∧ some k_ ≠ (u11 : Value).ownBlock ∧ some k_ ≠ (v117 : Value).ownBlock)) (HL119_0.out) (fun k_ hk => ⟨hk.1.1, ⟨hk.1.2.1, ⟨hk.1.2.2, hk.2⟩⟩⟩))).2.1 (Kd.V_F (Kd.V_mono (ok' := (fun k_ => ((P2_ k_ ∨ P3_ k_) ∨ w.heap.size ≤ k_) ∧ some k_ ≠ (.slice Ao39 x9_1.length co39 : Value).ownBlock ∧ some k_ ≠ (u11 : Value).ownBlock ∧ some k_ ≠ (v117 : Value).ownBlock)) (HL119_0.out) (fun k_ hk => ⟨hk.1.1, ⟨hk.1.2.1, ⟨hk.1.2.2, hk.2⟩⟩⟩))))) (Reps.none _ _)))
       intro v121 w44 ho45 hb hg_ hnew_
       have HS0_ := (hb.cell (World.block_lt_of_cell? _ _ (hHeld))).trans (hHeld)
       clear hg_ hnew_
       (first | rw [← Ny120.out] at ho45 | (simp only [Int.reduceToNat] at ho45; rw [← Ny120.out] at ho45))
       replace HO_3 := Zz.mk (Kd.V_elder' (by refine VW_ ?_; exact HO_3.out) (by first | exact Kd.N_base ho45 | exact Kd.S_base ho45) hb)
       replace HO_9 := Zz.mk (Kd.N_elder' (KN_ HO_9.out) (by first | exact Kd.N_base ho45 | exact Kd.S_base ho45) hb)
       replace HO_11 := Zz.mk (Kd.S_elder' (KS_ HO_11.out) (by first | exact Kd.N_base ho45 | exact Kd.S_base ho45) hb)
       replace HL119_0 := Zz.mk (Kd.V_elder' (by refine VW_ ?_; exact HL119_0.out) (by first | exact Kd.N_base ho45 | exact Kd.S_base ho45) hb)
       replace HO118 := Zz.mk (Kd.N_elder' (KN_ HO118.out) (by first | exact Kd.N_base ho45 | exact Kd.S_base ho45) hb)
       have HO122 := Zz.mk (Kd.N_lower ho45 (bS_ (B_ HB.out)))
       replace HB := Zz.mk (bT_ (B_ HB.out) hb)
       clear hb ho45
       refine hK.out _ _ (HS0_) (fun hHeld => ?_)
       clear hK K
       refine NM_ (N := (some 36)) (h := ?_)
       exact qCn (by simp only [qBr, Act.put, List.setIfInBounds_toArray, List.set_cons_zero, List.set_cons_succ]) (hCont (v114, v117, v121) _ ⟨hHeld, (by refine VW_ ?_; exact Kd.V_mono HL119_0.out (fun _ hk => pj_ hk)), (by refine NW_ ?_; exact Kd.N_mono HO118.out (fun _ hk => ⟨hk.1.1, ⟨hk.2, hk.1.2⟩⟩)), (by refine NW_ ?_; exact Kd.N_mono HO122.out (fun _ hk => ⟨hk.1, ⟨hk.2.2.2, ⟨hk.2.2.1, hk.2.1⟩⟩⟩)), (by refine SW_ ?_; exact Kd.S_mono HO_11.out (fun _ hk => ⟨hk.1.1.1, ⟨hk.1.2, ⟨hk.2, hk.1.1.2⟩⟩⟩)), (by refine VW_ ?_; exact Kd.V_mono HO_3.out (fun _ hk => pj_ hk)), (by refine NW_ ?_; exact Kd.N_mono HO_9.out (fun _ hk => ⟨hk.1.1.1, ⟨hk.1.2, ⟨hk.2, hk.1.1.2⟩⟩⟩)), (B_ HB.out)⟩)
      skip
      refine Kd.N_lit_step (Kd.slice 2 (Kd.int .i64)) _ 40 ?hg (N' := 36) ?hd (xs := ([rI_ l3 x12_1] : List (List Int))) (inner := [.slice A119_0 (rI_ l3 x12_1).length c119_0]) (ok := (fun k_ => ((P2_ k_ ∨ P3_ k_) ∨ w.heap.size ≤ k_) ∧ some k_ ≠ (.slice Ao39 x9_1.length co39 : Value).ownBlock ∧ some k_ ≠ (u11 : Value).ownBlock ∧ some k_ ≠ (v114 : Value).ownBlock)) (okp := (fun k_ => ((P2_ k_ ∨ P3_ k_) ∨ w.heap.size ≤ k_) ∧ some k_ ≠ (.slice Ao39 x9_1.length co39 : Value).ownBlock ∧ some k_ ≠ (u11 : Value).ownBlock ∧ some k_ ≠ (v114 : Value).ownBlock)) ?hr ?hp (fun _ hk => hk) ((show ∀ k_, w41.heap.size ≤ k_ → (fun k_ => ((P2_ k_ ∨ P3_ k_) ∨ w.heap.size ≤ k_) ∧ some k_ ≠ (.slice Ao39 x9_1.length co39 : Value).ownBlock ∧ some k_ ≠ (u11 : Value).ownBlock ∧ some k_ ≠ (v114 : Value).ownBlock) k_ from fun k_ hk => ⟨(.inr (Nat.le_trans (bS_ (B_ HB.out)) hk)), Kd.fresh' (Kd.N_lt (KN_ HO_9.out)) k_ hk, Kd.fresh' (Kd.S_lt (KS_ HO_11.out)) k_ hk, Kd.fresh' (Kd.N_lt (KN_ HO115.out)) k_ hk⟩) _ (Nat.le_refl _)) (Below.refl _ _) (Nat.le_refl _) (by simp) ?_; (case hd => rfl); (case hg => rfl); (case hr => first | (go_simp; done) | (go_simp; rfl)); (case hp => exact (Reps.one (show Kd.FK (Kd.slice 2 (Kd.int .i64)) _ _ (rI_ l3 x12_1) [.slice A119_0 (rI_ l3 x12_1).length c119_0] from (Kd.FK_slice_mk (Kd.V_reads' (Kd.V_mono (ok' := (fun k_ => ((P2_ k_ ∨ P3_ k_) ∨ w.heap.size ≤ k_) ∧ some k_ ≠ (.slice Ao39 x9_1.length co39 : Value).ownBlock ∧ some k_ ≠ (u11 : Value).ownBlock ∧ some k_ ≠ (v114 : Value).ownBlock)) (HL119_0.out) (fun k_ hk => ⟨hk.1.1, ⟨hk.1.2.1, ⟨hk.1.2.2, hk.2⟩⟩⟩))).2.1 (Kd.V_F (Kd.V_mono (ok' := (fun k_ => ((P2_ k_ ∨ P3_ k_) ∨ w.heap.size ≤ k_) ∧ some k_ ≠ (.slice Ao39 x9_1.length co39 : Value).ownBlock ∧ some k_ ≠ (u11 : Value).ownBlock ∧ some k_ ≠ (v114 : Value).ownBlock)) (HL119_0.out) (fun k_ hk => ⟨hk.1.1, ⟨hk.1.2.1, ⟨hk.1.2.2, hk.2⟩⟩⟩))))) (Reps.none _ _)))
      intro v121 w43 ho44 hb hg_ hnew_
      have HS0_ := (hb.cell (World.block_lt_of_cell? _ _ (hHeld))).trans (hHeld)
      clear hg_ hnew_
      (first | rw [← Ny120.out] at ho44 | (simp only [Int.reduceToNat] at ho44; rw [← Ny120.out] at ho44))
      replace HO_3 := Zz.mk (Kd.V_elder' (by refine VW_ ?_; exact HO_3.out) (by first | exact Kd.N_base ho44 | exact Kd.S_base ho44) hb)
      replace HO_9 := Zz.mk (Kd.N_elder' (KN_ HO_9.out) (by first | exact Kd.N_base ho44 | exact Kd.S_base ho44) hb)
      replace HO_11 := Zz.mk (Kd.S_elder' (KS_ HO_11.out) (by first | exact Kd.N_base ho44 | exact Kd.S_base ho44) hb)
      replace HL119_0 := Zz.mk (Kd.V_elder' (by refine VW_ ?_; exact HL119_0.out) (by first | exact Kd.N_base ho44 | exact Kd.S_base ho44) hb)
      replace HO115 := Zz.mk (Kd.N_elder' (KN_ HO115.out) (by first | exact Kd.N_base ho44 | exact Kd.S_base ho44) hb)
      have HO122 := Zz.mk (Kd.N_lower ho44 (bS_ (B_ HB.out)))
      replace HR119_0 := Zz.mk (Kd.C_below (KC_ HR119_0.out) hb)
      replace HB := Zz.mk (bT_ (B_ HB.out) hb)
      clear hb ho44
      refine hK.out _ _ (HS0_) (fun hHeld => ?_)
      clear hK K
      refine NM_ (N := (some 36)) (h := ?_)
      refine one_ (i := 2) (N := some 31) (tb_ 10 255) rfl rfl (qAs HT_.out (by kernel_rfl)) (by decide) (fun K hK => ?_)
      refine Kd.N_append_rows_step (Kd.slice 2 (Kd.int .i64)) (w0 := w) w.heap.size (by rfl) (.tmp 29) (.tmp 30) 22 40 (.slice none 0 0) 24 rfl Try.underlying22 qBs rfl (by decide) (by omega) v114 y113 x9_1 _ _ _ (fun k_ => ((P2_ k_ ∨ P3_ k_) ∨ w.heap.size ≤ k_) ∧ some k_ ≠ (u11 : Value).ownBlock ∧ some k_ ≠ (v121 : Value).ownBlock) (fun k_ => ((fun k_ => ((P2_ k_ ∨ P3_ k_) ∨ w.heap.size ≤ k_) ∧ some k_ ≠ (u11 : Value).ownBlock ∧ some k_ ≠ (v121 : Value).ownBlock)) k_ ∧ some k_ ≠ (v114 : Value).ownBlock) rfl rfl ?aO ?aR (fun _ hk => hk) ?aF ?aB ?aS ?aL ?_
      (case aR => exact (by skip; exact Kd.N_F (Kd.N_mono (ok' := (fun k_ => ((fun k_ => ((P2_ k_ ∨ P3_ k_) ∨ w.heap.size ≤ k_) ∧ some k_ ≠ (u11 : Value).ownBlock ∧ some k_ ≠ (v121 : Value).ownBlock)) k_ ∧ some k_ ≠ (v114 : Value).ownBlock)) (HO_9.out) (fun k_ hk => ⟨⟨hk.1.1.1, ⟨hk.1.1.2, hk.2⟩⟩, hk.1.2⟩))))
      (case aB => exact (B_ HB.out))
      (case aF => exact (fun k_ hk => ⟨(.inr (Nat.le_trans (bS_ (B_ HB.out)) hk)), Kd.fresh' (Kd.S_lt (KS_ HO_11.out)) k_ hk, Kd.fresh' (Kd.N_lt (KN_ HO122.out)) k_ hk⟩))
      (case aO => exact (by refine NW_ ?_; exact Kd.N_mono HO115.out (fun _ hk => ⟨hk.1.1, ⟨hk.1.2.2, hk.2⟩⟩)))
      (case aS => exact (bS_ (B_ HB.out)))
      (case aL => have := LMc16.out; omega)
      intro v117 w45 ho hb hg hat
      have HS0_ := qBt hg (hHeld) (fun e_ => (Kd.V_in_ (ok := fun k_ => (fun k_ => ((P2_ k_ ∨ P3_ k_) ∨ w.heap.size ≤ k_) ∧ some k_ ≠ (.slice Ao39 x9_1.length co39 : Value).ownBlock ∧ some k_ ≠ (u11 : Value).ownBlock ∧ some k_ ≠ (v121 : Value).ownBlock) k_ ∧ some k_ ≠ (v114 : Value).ownBlock) (Kd.V_mono HO_3.out (fun _ hk => pj_ hk)) (by have h1_ := of_eq_true q119; have h2_ := of_eq_true p119; omega) (by decide)).2 (by first | exact e_ | (rw [qBk] at e_; exact e_)))
      rw [← Ny116.out] at ho
      replace HO_3 := Zz.mk (Kd.V_afterv (ok := (fun k_ => ((P2_ k_ ∨ P3_ k_) ∨ w.heap.size ≤ k_) ∧ some k_ ≠ (.slice Ao39 x9_1.length co39 : Value).ownBlock ∧ some k_ ≠ (u11 : Value).ownBlock ∧ some k_ ≠ (v121 : Value).ownBlock)) (by refine VW_ ?_; exact Kd.V_mono HO_3.out (fun _ hk => pj_ hk)) hg hat)
      replace HO_9 := Zz.mk (Kd.N_afterv (ok := (fun k_ => ((P2_ k_ ∨ P3_ k_) ∨ w.heap.size ≤ k_) ∧ some k_ ≠ (u11 : Value).ownBlock ∧ some k_ ≠ (v121 : Value).ownBlock)) (by refine NW_ ?_; exact Kd.N_mono HO_9.out (fun _ hk => ⟨⟨hk.1.1.1, ⟨hk.1.1.2, hk.2⟩⟩, hk.1.2⟩)) hg hat)
      replace HO_11 := Zz.mk (Kd.S_after (ok := (fun k_ => (w.heap.size ≤ k_) ∧ some k_ ≠ (.slice Ao39 x9_1.length co39 : Value).ownBlock ∧ some k_ ≠ (v121 : Value).ownBlock)) (by refine SW_ ?_; exact Kd.S_mono HO_11.out (fun _ hk => ⟨⟨hk.1.1.1, ⟨hk.1.1.2, hk.2⟩⟩, hk.1.2⟩)) hg hat)
      replace HL119_0 := Zz.mk (Kd.V_afterv (ok := (fun k_ => ((P2_ k_ ∨ P3_ k_) ∨ w.heap.size ≤ k_) ∧ some k_ ≠ (.slice Ao39 x9_1.length co39 : Value).ownBlock ∧ some k_ ≠ (u11 : Value).ownBlock ∧ some k_ ≠ (v121 : Value).ownBlock)) (by refine VW_ ?_; exact Kd.V_mono HL119_0.out (fun _ hk => pj_ hk)) hg hat)
      replace HO122 := Zz.mk (Kd.N_afterv (ok := (fun k_ => ((P2_ k_ ∨ P3_ k_) ∨ w.heap.size ≤ k_) ∧ some k_ ≠ (.slice Ao39 x9_1.length co39 : Value).ownBlock ∧ some k_ ≠ (u11 : Value).ownBlock)) (by refine NW_ ?_; exact Kd.N_mono HO122.out (fun _ hk => ⟨⟨hk.1, ⟨hk.2.1, hk.2.2.1⟩⟩, hk.2.2.2⟩)) hg hat)
      replace HB := Zz.mk (hb)
      have HO118 := Zz.mk (ho)
      clear HO115
      clear ho hb hg hat
      refine hK.out _ _ (HS0_) (fun hHeld => ?_)
      clear hK K
      refine NM_ (N := (some 31)) (h := ?_)
      exact qCn (by simp only [qBr, Act.put, List.setIfInBounds_toArray, List.set_cons_zero, List.set_cons_succ]) (hCont (v114, v117, v121) _ ⟨hHeld, (by refine VW_ ?_; exact Kd.V_mono HL119_0.out (fun _ hk => pj_ hk)), (by refine NW_ ?_; exact Kd.N_mono HO118.out (fun _ hk => ⟨hk.1, ⟨hk.2.2, hk.2.1⟩⟩)), (by refine NW_ ?_; exact Kd.N_mono HO122.out (fun _ hk => ⟨hk.1.1, ⟨hk.2, ⟨hk.1.2.2, hk.1.2.1⟩⟩⟩)), (by refine SW_ ?_; exact Kd.S_mono HO_11.out (fun _ hk => ⟨hk.1.1, ⟨hk.2, ⟨hk.1.2.2, hk.1.2.1⟩⟩⟩)), (by refine VW_ ?_; exact Kd.V_mono HO_3.out (fun _ hk => pj_ hk)), (by refine NW_ ?_; exact Kd.N_mono HO_9.out (fun _ hk => ⟨hk.1.1, ⟨hk.2, ⟨hk.1.2.2, hk.1.2.1⟩⟩⟩)), (B_ HB.out)⟩)
     skip
     refine Kd.N_lit_step (Kd.slice 2 (Kd.int .i64)) _ 40 ?hg (N' := 36) ?hd (xs := ([rI_ l3 x12_1] : List (List Int))) (inner := [.slice A119_0 (rI_ l3 x12_1).length c119_0]) (ok := (fun k_ => ((P2_ k_ ∨ P3_ k_) ∨ w.heap.size ≤ k_) ∧ some k_ ≠ (.slice Ao39 x9_1.length co39 : Value).ownBlock ∧ some k_ ≠ (u11 : Value).ownBlock)) (okp := (fun k_ => ((P2_ k_ ∨ P3_ k_) ∨ w.heap.size ≤ k_) ∧ some k_ ≠ (.slice Ao39 x9_1.length co39 : Value).ownBlock ∧ some k_ ≠ (u11 : Value).ownBlock)) ?hr ?hp (fun _ hk => hk) ((show ∀ k_, w40.heap.size ≤ k_ → (fun k_ => ((P2_ k_ ∨ P3_ k_) ∨ w.heap.size ≤ k_) ∧ some k_ ≠ (.slice Ao39 x9_1.length co39 : Value).ownBlock ∧ some k_ ≠ (u11 : Value).ownBlock) k_ from fun k_ hk => ⟨(.inr (Nat.le_trans (bS_ (B_ HB.out)) hk)), Kd.fresh' (Kd.N_lt (KN_ HO_9.out)) k_ hk, Kd.fresh' (Kd.S_lt (KS_ HO_11.out)) k_ hk⟩) _ (Nat.le_refl _)) (Below.refl _ _) (Nat.le_refl _) (by simp) ?_; (case hd => rfl); (case hg => rfl); (case hr => first | (go_simp; done) | (go_simp; rfl)); (case hp => exact (Reps.one (show Kd.FK (Kd.slice 2 (Kd.int .i64)) _ _ (rI_ l3 x12_1) [.slice A119_0 (rI_ l3 x12_1).length c119_0] from (Kd.FK_slice_mk (Kd.V_reads' (Kd.V_mono (ok' := (fun k_ => ((P2_ k_ ∨ P3_ k_) ∨ w.heap.size ≤ k_) ∧ some k_ ≠ (.slice Ao39 x9_1.length co39 : Value).ownBlock ∧ some k_ ≠ (u11 : Value).ownBlock)) (HL119_0.out) (fun k_ hk => ⟨hk.1, ⟨hk.2.1, hk.2.2⟩⟩))).2.1 (Kd.V_F (Kd.V_mono (ok' := (fun k_ => ((P2_ k_ ∨ P3_ k_) ∨ w.heap.size ≤ k_) ∧ some k_ ≠ (.slice Ao39 x9_1.length co39 : Value).ownBlock ∧ some k_ ≠ (u11 : Value).ownBlock)) (HL119_0.out) (fun k_ hk => ⟨hk.1, ⟨hk.2.1, hk.2.2⟩⟩))))) (Reps.none _ _)))
     intro v121 w41 ho42 hb hg_ hnew_
     have HS0_ := (hb.cell (World.block_lt_of_cell? _ _ (hHeld))).trans (hHeld)
     clear hg_ hnew_
     (first | rw [← Ny120.out] at ho42 | (simp only [Int.reduceToNat] at ho42; rw [← Ny120.out] at ho42))
     replace HO_3 := Zz.mk (Kd.V_elder' (by refine VW_ ?_; exact HO_3.out) (by first | exact Kd.N_base ho42 | exact Kd.S_base ho42) hb)
     replace HO_9 := Zz.mk (Kd.N_elder' (KN_ HO_9.out) (by first | exact Kd.N_base ho42 | exact Kd.S_base ho42) hb)
     replace HO_11 := Zz.mk (Kd.S_elder' (KS_ HO_11.out) (by first | exact Kd.N_base ho42 | exact Kd.S_base ho42) hb)
     replace HL119_0 := Zz.mk (Kd.V_elder' (by refine VW_ ?_; exact HL119_0.out) (by first | exact Kd.N_base ho42 | exact Kd.S_base ho42) hb)
     have HO122 := Zz.mk (Kd.N_lower ho42 (bS_ (B_ HB.out)))
     replace HR119_0 := Zz.mk (Kd.C_below (KC_ HR119_0.out) hb)
     replace HB := Zz.mk (bT_ (B_ HB.out) hb)
     clear hb ho42
     refine hK.out _ _ (HS0_) (fun hHeld => ?_)
     clear hK K
     refine NM_ (N := (some 36)) (h := ?_)
     refine one_ (i := 0) (N := some 29) (tb_ 10 251) rfl rfl (qAs HT_.out (by kernel_rfl)) (by decide) (fun K hK => ?_)
     refine Kd.N_lit_step (Kd.slice 2 (Kd.int .i64)) _ 40 ?hg (N' := 29) ?hd (xs := ([] : List (List Int))) (inner := []) (ok := (fun k_ => ((P2_ k_ ∨ P3_ k_) ∨ w.heap.size ≤ k_) ∧ some k_ ≠ (.slice Ao39 x9_1.length co39 : Value).ownBlock ∧ some k_ ≠ (u11 : Value).ownBlock ∧ some k_ ≠ (v121 : Value).ownBlock)) (okp := (fun k_ => ((P2_ k_ ∨ P3_ k_) ∨ w.heap.size ≤ k_) ∧ some k_ ≠ (.slice Ao39 x9_1.length co39 : Value).ownBlock ∧ some k_ ≠ (u11 : Value).ownBlock ∧ some k_ ≠ (v121 : Value).ownBlock)) ?hr ?hp (fun _ hk => hk) ((show ∀ k_, w41.heap.size ≤ k_ → (fun k_ => ((P2_ k_ ∨ P3_ k_) ∨ w.heap.size ≤ k_) ∧ some k_ ≠ (.slice Ao39 x9_1.length co39 : Value).ownBlock ∧ some k_ ≠ (u11 : Value).ownBlock ∧ some k_ ≠ (v121 : Value).ownBlock) k_ from fun k_ hk => ⟨(.inr (Nat.le_trans (bS_ (B_ HB.out)) hk)), Kd.fresh' (Kd.N_lt (KN_ HO_9.out)) k_ hk, Kd.fresh' (Kd.S_lt (KS_ HO_11.out)) k_ hk, Kd.fresh' (Kd.N_lt (KN_ HO122.out)) k_ hk⟩) _ (Nat.le_refl _)) (Below.refl _ _) (Nat.le_refl _) (by simp) ?_; (case hd => rfl); (case hg => rfl); (case hr => first | (go_simp; done) | (go_simp; rfl)); (case hp => exact (Reps.none _ _))
     intro v114 w43 ho44 hb hg_ hnew_
     have HS0_ := (hb.cell (World.block_lt_of_cell? _ _ (hHeld))).trans (hHeld)
     clear hg_ hnew_
     (first | rw [← Ny113.out] at ho44 | (simp only [Int.reduceToNat] at ho44; rw [← Ny113.out] at ho44))
     replace HO_3 := Zz.mk (Kd.V_elder' (by refine VW_ ?_; exact HO_3.out) (by first | exact Kd.N_base ho44 | exact Kd.S_base ho44) hb)
     replace HO_9 := Zz.mk (Kd.N_elder' (KN_ HO_9.out) (by first | exact Kd.N_base ho44 | exact Kd.S_base ho44) hb)
     replace HO_11 := Zz.mk (Kd.S_elder' (KS_ HO_11.out) (by first | exact Kd.N_base ho44 | exact Kd.S_base ho44) hb)
     replace HL119_0 := Zz.mk (Kd.V_elder' (by refine VW_ ?_; exact HL119_0.out) (by first | exact Kd.N_base ho44 | exact Kd.S_base ho44) hb)
     replace HO122 := Zz.mk (Kd.N_elder' (KN_ HO122.out) (by first | exact Kd.N_base ho44 | exact Kd.S_base ho44) hb)
     have HO115 := Zz.mk (Kd.N_lower ho44 (bS_ (B_ HB.out)))
     replace HR119_0 := Zz.mk (Kd.C_below (KC_ HR119_0.out) hb)
     replace HB := Zz.mk (bT_ (B_ HB.out) hb)
     clear hb ho44
     refine hK.out _ _ (HS0_) (fun hHeld => ?_)
     clear hK K
     refine NM_ (N := (some 29)) (h := ?_)
     refine one_ (i := 2) (N := some 31) (tb_ 10 255) rfl rfl (qAs HT_.out (by kernel_rfl)) (by decide) (fun K hK => ?_)
     refine Kd.N_append_rows_step (Kd.slice 2 (Kd.int .i64)) (w0 := w) w.heap.size (by rfl) (.tmp 29) (.tmp 30) 22 40 (.slice none 0 0) 24 rfl Try.underlying22 qBs rfl (by decide) (by omega) v114 y113 x9_1 _ _ _ (fun k_ => ((P2_ k_ ∨ P3_ k_) ∨ w.heap.size ≤ k_) ∧ some k_ ≠ (u11 : Value).ownBlock ∧ some k_ ≠ (v121 : Value).ownBlock) (fun k_ => ((fun k_ => ((P2_ k_ ∨ P3_ k_) ∨ w.heap.size ≤ k_) ∧ some k_ ≠ (u11 : Value).ownBlock ∧ some k_ ≠ (v121 : Value).ownBlock)) k_ ∧ some k_ ≠ (v114 : Value).ownBlock) rfl rfl ?aO ?aR (fun _ hk => hk) ?aF ?aB ?aS ?aL ?_
     (case aR => exact (by skip; exact Kd.N_F (Kd.N_mono (ok' := (fun k_ => ((fun k_ => ((P2_ k_ ∨ P3_ k_) ∨ w.heap.size ≤ k_) ∧ some k_ ≠ (u11 : Value).ownBlock ∧ some k_ ≠ (v121 : Value).ownBlock)) k_ ∧ some k_ ≠ (v114 : Value).ownBlock)) (HO_9.out) (fun k_ hk => ⟨⟨hk.1.1.1, ⟨hk.1.1.2, hk.1.2⟩⟩, hk.2⟩))))
     (case aB => exact (B_ HB.out))
     (case aF => exact (fun k_ hk => ⟨(.inr (Nat.le_trans (bS_ (B_ HB.out)) hk)), Kd.fresh' (Kd.S_lt (KS_ HO_11.out)) k_ hk, Kd.fresh' (Kd.N_lt (KN_ HO122.out)) k_ hk⟩))
     (case aO => exact (by refine NW_ ?_; exact Kd.N_mono HO115.out (fun _ hk => ⟨hk.1, ⟨hk.2.2.1, hk.2.2.2⟩⟩)))
     (case aS => exact (bS_ (B_ HB.out)))
     (case aL => have := LMc16.out; omega)
     intro v117 w45 ho hb hg hat
     have HS0_ := qBt hg (hHeld) (fun e_ => (Kd.V_in_ (ok := fun k_ => (fun k_ => ((P2_ k_ ∨ P3_ k_) ∨ w.heap.size ≤ k_) ∧ some k_ ≠ (.slice Ao39 x9_1.length co39 : Value).ownBlock ∧ some k_ ≠ (u11 : Value).ownBlock ∧ some k_ ≠ (v121 : Value).ownBlock) k_ ∧ some k_ ≠ (v114 : Value).ownBlock) (Kd.V_mono HO_3.out (fun _ hk => pj_ hk)) (by have h1_ := of_eq_true q119; have h2_ := of_eq_true p119; omega) (by decide)).2 (by first | exact e_ | (rw [qBk] at e_; exact e_)))
     rw [← Ny116.out] at ho
     replace HO_3 := Zz.mk (Kd.V_afterv (ok := (fun k_ => ((P2_ k_ ∨ P3_ k_) ∨ w.heap.size ≤ k_) ∧ some k_ ≠ (.slice Ao39 x9_1.length co39 : Value).ownBlock ∧ some k_ ≠ (u11 : Value).ownBlock ∧ some k_ ≠ (v121 : Value).ownBlock)) (by refine VW_ ?_; exact Kd.V_mono HO_3.out (fun _ hk => pj_ hk)) hg hat)
     replace HO_9 := Zz.mk (Kd.N_afterv (ok := (fun k_ => ((P2_ k_ ∨ P3_ k_) ∨ w.heap.size ≤ k_) ∧ some k_ ≠ (u11 : Value).ownBlock ∧ some k_ ≠ (v121 : Value).ownBlock)) (by refine NW_ ?_; exact Kd.N_mono HO_9.out (fun _ hk => ⟨⟨hk.1.1.1, ⟨hk.1.1.2, hk.1.2⟩⟩, hk.2⟩)) hg hat)
     replace HO_11 := Zz.mk (Kd.S_after (ok := (fun k_ => (w.heap.size ≤ k_) ∧ some k_ ≠ (.slice Ao39 x9_1.length co39 : Value).ownBlock ∧ some k_ ≠ (v121 : Value).ownBlock)) (by refine SW_ ?_; exact Kd.S_mono HO_11.out (fun _ hk => ⟨⟨hk.1.1.1, ⟨hk.1.1.2, hk.1.2⟩⟩, hk.2⟩)) hg hat)
     replace HL119_0 := Zz.mk (Kd.V_afterv (ok := (fun k_ => ((P2_ k_ ∨ P3_ k_) ∨ w.heap.size ≤ k_) ∧ some k_ ≠ (.slice Ao39 x9_1.length co39 : Value).ownBlock ∧ some k_ ≠ (u11 : Value).ownBlock ∧ some k_ ≠ (v121 : Value).ownBlock)) (by refine VW_ ?_; exact Kd.V_mono HL119_0.out (fun _ hk => pj_ hk)) hg hat)
     replace HO122 := Zz.mk (Kd.N_afterv (ok := (fun k_ => ((P2_ k_ ∨ P3_ k_) ∨ w.heap.size ≤ k_) ∧ some k_ ≠ (.slice Ao39 x9_1.length co39 : Value).ownBlock ∧ some k_ ≠ (u11 : Value).ownBlock)) (KN_ HO122.out) hg hat)
     replace HB := Zz.mk (hb)
     have HO118 := Zz.mk (ho)
     clear HO115
     clear ho hb hg hat
     refine hK.out _ _ (HS0_) (fun hHeld => ?_)
     clear hK K
     refine NM_ (N := (some 31)) (h := ?_)
     exact qCn (by simp only [qBr, Act.put, List.setIfInBounds_toArray, List.set_cons_zero, List.set_cons_succ]) (hCont (v114, v117, v121) _ ⟨hHeld, (by refine VW_ ?_; exact Kd.V_mono HL119_0.out (fun _ hk => pj_ hk)), (by refine NW_ ?_; exact Kd.N_mono HO118.out (fun _ hk => ⟨hk.1, ⟨hk.2.2, hk.2.1⟩⟩)), (by refine NW_ ?_; exact Kd.N_mono HO122.out (fun _ hk => ⟨hk.1.1, ⟨hk.2, ⟨hk.1.2.2, hk.1.2.1⟩⟩⟩)), (by refine SW_ ?_; exact Kd.S_mono HO_11.out (fun _ hk => ⟨hk.1.1, ⟨hk.2, ⟨hk.1.2.2, hk.1.2.1⟩⟩⟩)), (by refine VW_ ?_; exact Kd.V_mono HO_3.out (fun _ hk => pj_ hk)), (by refine NW_ ?_; exact Kd.N_mono HO_9.out (fun _ hk => ⟨hk.1.1, ⟨hk.2, ⟨hk.1.2.2, hk.1.2.1⟩⟩⟩)), (B_ HB.out)⟩)
    rintro ⟨v114, v117, v121⟩ w46 ⟨hS_, h0_, h1_, h2_, h3_, h4_, h5_, h6_⟩
    have HL119_0 : Zz (Kd.V (Kd.int .i64) 2 w46 w.heap.size (fun k_ => ((P2_ k_ ∨ P3_ k_) ∨ w.heap.size ≤ k_) ∧ some k_ ≠ (v117 : Value).ownBlock ∧ some k_ ≠ (v121 : Value).ownBlock ∧ some k_ ≠ (u11 : Value).ownBlock ∧ some k_ ≠ (.slice Ao39 x9_1.length co39 : Value).ownBlock) (.slice A119_0 (rI_ l3 x12_1).length c119_0) (rI_ l3 x12_1)) := ⟨h0_⟩
    have HO118 : Zz (Kd.N (Kd.slice 2 (Kd.int .i64)) 40 w46 w.heap.size (fun k_ => ((P2_ k_ ∨ P3_ k_) ∨ w.heap.size ≤ k_) ∧ some k_ ≠ (v121 : Value).ownBlock ∧ some k_ ≠ (u11 : Value).ownBlock) v117 y116) := ⟨h1_⟩
    have HO122 : Zz (Kd.N (Kd.slice 2 (Kd.int .i64)) 40 w46 w.heap.size (fun k_ => ((P2_ k_ ∨ P3_ k_) ∨ w.heap.size ≤ k_) ∧ some k_ ≠ (v117 : Value).ownBlock ∧ some k_ ≠ (u11 : Value).ownBlock ∧ some k_ ≠ (.slice Ao39 x9_1.length co39 : Value).ownBlock) v121 y120) := ⟨h2_⟩
    replace HO_11 : Zz (Kd.S (Kd.slice 2 (Kd.int .i64)) 40 w46 w.heap.size (fun k_ => (w.heap.size ≤ k_) ∧ some k_ ≠ (v117 : Value).ownBlock ∧ some k_ ≠ (v121 : Value).ownBlock ∧ some k_ ≠ (.slice Ao39 x9_1.length co39 : Value).ownBlock) u11 x11_1) := ⟨h3_⟩
    replace HO_3 : Zz (Kd.V (Kd.slice 2 (Kd.int .i64)) 40 w46 w.heap.size (fun k_ => ((P2_ k_ ∨ P3_ k_) ∨ w.heap.size ≤ k_) ∧ some k_ ≠ (v117 : Value).ownBlock ∧ some k_ ≠ (v121 : Value).ownBlock ∧ some k_ ≠ (u11 : Value).ownBlock ∧ some k_ ≠ (.slice Ao39 x9_1.length co39 : Value).ownBlock) (.slice (some ad119) l3.length c3) l3) := ⟨h4_⟩
    replace HO_9 : Zz (Kd.N (Kd.slice 2 (Kd.int .i64)) 40 w46 w.heap.size (fun k_ => ((P2_ k_ ∨ P3_ k_) ∨ w.heap.size ≤ k_) ∧ some k_ ≠ (v117 : Value).ownBlock ∧ some k_ ≠ (v121 : Value).ownBlock ∧ some k_ ≠ (u11 : Value).ownBlock) (.slice Ao39 x9_1.length co39) x9_1) := ⟨h5_⟩
    replace HB : Zz (Below w.heap.size w w46) := ⟨h6_⟩
    (try clear h0_)
    (try clear h1_)
    (try clear h2_)
    (try clear h3_)
    (try clear h4_)
    (try clear h5_)
    (try clear h6_)
    have hHeld : w46.cell? (ad119.add (x12_1).toNat) = some (.slice A119_0 (rI_ l3 x12_1).length c119_0) := hS_
    obtain ⟨Ao48, co48, eo48⟩ := Kd.N_slice HO122.out
    (first | subst eo48 | obtain ⟨rfl, rfl⟩ := sl_ eo48)
    refine qCn (a' := ?_) ?_ ?_
    rotate_left
    ·simp only [qBr, Act.put, List.setIfInBounds_toArray, List.set_cons_zero, List.set_cons_succ]
     rfl
    refine one_ (i := 8) (N := some 37) (tb_ 10 511) rfl rfl (qAs HT_.out (by kernel_rfl)) (by decide) (fun K hK => ?_)
    refine Kd.N_append_rows_step (Kd.slice 2 (Kd.int .i64)) (w0 := w) w.heap.size (by rfl) (.tmp 31) (.tmp 36) 22 40 (.slice none 0 0) 24 rfl Try.underlying22 qBs rfl (by decide) (by omega) v117 y116 y120 _ _ _ (fun k_ => ((P2_ k_ ∨ P3_ k_) ∨ w.heap.size ≤ k_) ∧ some k_ ≠ (u11 : Value).ownBlock) (fun k_ => ((fun k_ => ((P2_ k_ ∨ P3_ k_) ∨ w.heap.size ≤ k_) ∧ some k_ ≠ (u11 : Value).ownBlock)) k_ ∧ some k_ ≠ (v117 : Value).ownBlock) rfl rfl ?aO ?aR (fun _ hk => hk) ?aF ?aB ?aS ?aL ?_
    (case aR => exact (by skip; exact Kd.N_F (Kd.N_mono (ok' := (fun k_ => ((fun k_ => ((P2_ k_ ∨ P3_ k_) ∨ w.heap.size ≤ k_) ∧ some k_ ≠ (u11 : Value).ownBlock)) k_ ∧ some k_ ≠ (v117 : Value).ownBlock)) (HO122.out) (fun k_ hk => ⟨⟨hk.1, hk.2.2.1⟩, hk.2.1⟩))))
    (case aB => exact (B_ HB.out))
    (case aF => exact (fun k_ hk => ⟨(.inr (Nat.le_trans (bS_ (B_ HB.out)) hk)), Kd.fresh' (Kd.S_lt (KS_ HO_11.out)) k_ hk⟩))
    (case aO => exact (by refine NW_ ?_; exact Kd.N_mono HO118.out (fun _ hk => ⟨hk.1, hk.2.2⟩)))
    (case aS => exact (bS_ (B_ HB.out)))
    (case aL => have := LMc18.out; omega)
    intro v124 w47 ho hb hg hat
    have HS0_ := qBt hg (hHeld) (fun e_ => (Kd.V_in_ (ok := fun k_ => (fun k_ => ((P2_ k_ ∨ P3_ k_) ∨ w.heap.size ≤ k_) ∧ some k_ ≠ (.slice Ao39 x9_1.length co39 : Value).ownBlock ∧ some k_ ≠ (u11 : Value).ownBlock ∧ some k_ ≠ (.slice Ao48 y120.length co48 : Value).ownBlock) k_ ∧ some k_ ≠ (v117 : Value).ownBlock) (Kd.V_mono HO_3.out (fun _ hk => pj_ hk)) (by have h1_ := of_eq_true q119; have h2_ := of_eq_true p119; omega) (by decide)).2 (by first | exact e_ | (rw [qBk] at e_; exact e_)))
    rw [← Ny123.out] at ho
    replace HO_3 := Zz.mk (Kd.V_afterv (ok := (fun k_ => ((P2_ k_ ∨ P3_ k_) ∨ w.heap.size ≤ k_) ∧ some k_ ≠ (.slice Ao39 x9_1.length co39 : Value).ownBlock ∧ some k_ ≠ (u11 : Value).ownBlock ∧ some k_ ≠ (.slice Ao48 y120.length co48 : Value).ownBlock)) (by refine VW_ ?_; exact Kd.V_mono HO_3.out (fun _ hk => pj_ hk)) hg hat)
    replace HO_9 := Zz.mk (Kd.N_afterv (ok := (fun k_ => ((P2_ k_ ∨ P3_ k_) ∨ w.heap.size ≤ k_) ∧ some k_ ≠ (u11 : Value).ownBlock ∧ some k_ ≠ (.slice Ao48 y120.length co48 : Value).ownBlock)) (by refine NW_ ?_; exact Kd.N_mono HO_9.out (fun _ hk => ⟨⟨hk.1, ⟨hk.2.2.2, hk.2.2.1⟩⟩, hk.2.1⟩)) hg hat)
    replace HO_11 := Zz.mk (Kd.S_after (ok := (fun k_ => (w.heap.size ≤ k_) ∧ some k_ ≠ (.slice Ao39 x9_1.length co39 : Value).ownBlock ∧ some k_ ≠ (.slice Ao48 y120.length co48 : Value).ownBlock)) (by refine SW_ ?_; exact Kd.S_mono HO_11.out (fun _ hk => ⟨⟨hk.1, ⟨hk.2.2.2, hk.2.2.1⟩⟩, hk.2.1⟩)) hg hat)
    replace HL119_0 := Zz.mk (Kd.V_afterv (ok := (fun k_ => ((P2_ k_ ∨ P3_ k_) ∨ w.heap.size ≤ k_) ∧ some k_ ≠ (.slice Ao39 x9_1.length co39 : Value).ownBlock ∧ some k_ ≠ (u11 : Value).ownBlock ∧ some k_ ≠ (.slice Ao48 y120.length co48 : Value).ownBlock)) (by refine VW_ ?_; exact Kd.V_mono HL119_0.out (fun _ hk => pj_ hk)) hg hat)
    replace HO122 := Zz.mk (Kd.N_afterv (ok := (fun k_ => ((P2_ k_ ∨ P3_ k_) ∨ w.heap.size ≤ k_) ∧ some k_ ≠ (.slice Ao39 x9_1.length co39 : Value).ownBlock ∧ some k_ ≠ (u11 : Value).ownBlock)) (by refine NW_ ?_; exact Kd.N_mono HO122.out (fun _ hk => ⟨⟨hk.1, ⟨hk.2.2.2, hk.2.2.1⟩⟩, hk.2.1⟩)) hg hat)
    replace HB := Zz.mk (hb)
    have HO125 := Zz.mk (ho)
    clear HO118
    clear ho hb hg hat
    refine hK.out _ _ (HS0_) (fun hHeld => ?_)
    clear hK K
    refine NM_ (N := (some 37)) (h := ?_)
    refine PX_ 9 13 (tb_ 10 1023) HT_ rfl rfl ?_
    refine qB0 (qA4 HT_.out (by kernel_rfl)) ?_
    obtain ⟨Ao49, co49, eo49⟩ := Kd.N_slice HO125.out
    subst eo49
    try go_wp2_with (first | ((with_reducible refine gC_ (f := 87) rfl ?_); refine GL_ (some 41) rfl rfl Try.func87 #[.int .i64 a0, .int .i64 a1, .slice Ao49 y123.length co49] rfl (h := ?_); (with_reducible refine (z87.calls k1 a0 a1 _ _ y123 t126 _ ?side1 ?side2 A19.out).mono ?_); (case side1 => exact KC_ (Kd.N_reads' HO125.out).2.2); (case side2 => exact (Kd.N_reads' HO125.out).2.1); rintro e w50 ⟨v127, rfl, ho0, hb⟩; refine ⟨_, rfl, ?_⟩; have HO128 := Zz.mk (Kd.S_lower (Kd.S_new' (Kd.S_new' (Kd.S_new' (Kd.S_new' (Kd.S_newM (M := fun k_ => (w.heap.size ≤ k_)) ho0 (bS_ (B_ HB.out)) (fun k_ h_ => h_)) (Kd.N_lt (KN_ HO_9.out))) (Kd.S_lt (KS_ HO_11.out))) (Kd.N_lt (KN_ HO122.out))) (Kd.N_lt (KN_ HO125.out))) (bS_ (B_ HB.out))); replace HO_3 := Zz.mk (Kd.V_elder' (by refine VW_ ?_; exact HO_3.out) (Kd.S_base ho0) hb); replace HO_9 := Zz.mk (Kd.N_elder' (KN_ HO_9.out) (Kd.S_base ho0) hb); replace HO_11 := Zz.mk (Kd.S_elder' (KS_ HO_11.out) (Kd.S_base ho0) hb); replace HL119_0 := Zz.mk (Kd.V_elder' (by refine VW_ ?_; exact HL119_0.out) (Kd.S_base ho0) hb); replace HO122 := Zz.mk (Kd.N_elder' (KN_ HO122.out) (Kd.S_base ho0) hb); replace HO125 := Zz.mk (Kd.N_elder' (KN_ HO125.out) (Kd.S_base ho0) hb); replace HB := Zz.mk (bT_ (B_ HB.out) hb); (try clear hb); (try clear ho0); obtain ⟨Ao51, co51, eo51⟩ := Kd.S_slice HO128.out; subst eo51))
    go_roundg k1
    case measure => exact Q1_ HK1
    case rel => exact ⟨(x9_1), (x10_1), (x11_1), (wrap64 (x12_1 + 1)), E_, E_, H', ⟨Q1_ HK1⟩, ⟨by refine VW_ ?_; exact Kd.V_mono HO_3.out (fun _ hk => ⟨hk.1.1.1, ⟨hk.1.1.2.1, hk.1.1.2.2.1⟩⟩)⟩, ⟨by refine NW_ ?_; exact Kd.N_mono HO_9.out (fun _ hk => ⟨hk.1.1.1, hk.1.1.2.1⟩)⟩, ⟨by refine SW_ ?_; exact Kd.S_mono HO_11.out (fun _ hk => ⟨hk.1.1.1, hk.1.1.2.1⟩)⟩, ⟨B_ HB.out⟩⟩
   rw [if_neg c15] at H
   have c15b0 : decide (x12_1 < (l3.length : Int)) = false := decide_eq_false c15
   clear c15
   obtain rfl := OI_ H
   go_wp2
   go_ret
   exact ⟨_, F_, by refine SW_ ?_; exact Kd.S_mono HO_11.out (fun _ hk => hk.1), B_ HB.out⟩
end Go.Proofs.Ytkgajpngeglkmaa.B
