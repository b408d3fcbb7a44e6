/- Printed proofs of functions of the program and of the reference, by a program of this work over the kit's printer. -/
import Derived.Test.YtkgajpngeglkmaaKLBBOAD0
import Derived.Test.YtkgajpngeglkmaaKW0
namespace Go.Proofs.Ytkgajpngeglkmaa.B
open Go.RowKit Go.Proofs.YtkgajpngeglkmaaW.PrintWords Go.Proofs.YtkgajpngeglkmaaW.PrintLast Go.Proofs.YtkgajpngeglkmaaW.PrintMore
attribute [local go_sem] qAh qAf qAn qAm qAc qAb qAg qAe
set_option linter.unusedVariables false
set_option linter.unusedSimpArgs false
mutual
def z119.l0 : Nat → Int → Int → List Int → Int → Int → Int → Int → Int → Int → List Int → Int → Int → Int → List Int → Option (Int × Int × Int × List Int × List Int × Int)
 | 0, _, _, _, _, _, _, _, _, _, _, _, _, _, _ => none
 | k + 1, x6, x7, x8, x9, x10, x11, x51000, x51001, x51002, x51003, x106000, x106001, x106002, x106003 => if x11 < x7 then (z119.j1 k x6 x7 x8 x9 x10 x11 (decide (x10 < x51001)) x51000 x51001 x51002 x51003 x106000 x106001 x106002 x106003) else (z119.j1 k x6 x7 x8 x9 x10 x11 false x51000 x51001 x51002 x51003 x106000 x106001 x106002 x106003)
def z119.j1 : Nat → Int → Int → List Int → Int → Int → Int → Bool → Int → Int → Int → List Int → Int → Int → Int → List Int → Option (Int × Int × Int × List Int × List Int × Int)
 | 0, _, _, _, _, _, _, _, _, _, _, _, _, _, _, _ => none
 | k + 1, x6, x7, x8, x9, x10, x11, x58, x51000, x51001, x51002, x51003, x106000, x106001, x106002, x106003 => if x58 = true then (z119.l1 k x6 x7 x8 x9 x10 x11 x10 x51000 x51001 x51002 x51003 x106000 x106001 x106002 x106003) else (some (x106000, x106001, x106002, x106003, x8, x9))
def z119.j3 : Nat → Int → Int → List Int → Int → Int → Int → Int → Int → Int → Int → List Int → Int → Int → Int → List Int → Option (Int × Int × Int × List Int × List Int × Int)
 | 0, _, _, _, _, _, _, _, _, _, _, _, _, _, _, _ => none
 | k + 1, x6, x7, x8, x9, x10, x11, x12, x51000, x51001, x51002, x51003, x106000, x106001, x106002, x106003 => if x12 = x51001 then (z119.l0 k x6 x7 x8 x9 x10 (wrap64 (x11 + 1)) x51000 x51001 x51002 x51003 x106000 x106001 x106002 x106003) else (if x12 = x10 then (z119.j5 k x6 x7 x8 x9 x10 x11 x51000 x51001 x51002 x51003 x106000 x106001 x106002 x106003) else (z119.l2 k x6 x7 x8 (wrap64 (x6 - x9)) x10 x11 x12 0 x51000 x51001 x51002 x51003 x106000 x106001 x106002 x106003))
def z119.j5 : Nat → Int → Int → List Int → Int → Int → Int → Int → Int → Int → List Int → Int → Int → Int → List Int → Option (Int × Int × Int × List Int × List Int × Int)
 | 0, _, _, _, _, _, _, _, _, _, _, _, _, _, _ => none
 | k + 1, x6, x7, x8, x9, x10, x11, x51000, x51001, x51002, x51003, x106000, x106001, x106002, x106003 => if 0 ≤ (wrap64 ((wrap64 (x10 * x7)) + x11)) then (if (wrap64 ((wrap64 (x10 * x7)) + x11)) < (x106003.length : Int) then (if x6 = 0 then (none) else ((z137.f k (rd x106003 (wrap64 ((wrap64 (x10 * x7)) + x11))) x6).bind fun t115 => (z119.l3 k x6 x7 x8 (Int.tmod (wrap64 (x9 * (rd x106003 (wrap64 ((wrap64 (x10 * x7)) + x11))))) x6) x10 x11 t115 0 x51000 x51001 x51002 x51003 x106000 x106001 x106002 x106003))) else (none)) else (none)
def z119.l3 : Nat → Int → Int → List Int → Int → Int → Int → Int → Int → Int → Int → Int → List Int → Int → Int → Int → List Int → Option (Int × Int × Int × List Int × List Int × Int)
 | 0, _, _, _, _, _, _, _, _, _, _, _, _, _, _, _, _ => none
 | k + 1, x6, x7, x8, x9, x10, x11, x16, x17, x51000, x51001, x51002, x51003, x106000, x106001, x106002, x106003 => if x17 < x7 then (if 0 ≤ (wrap64 ((wrap64 (x10 * x7)) + x17)) then (if (wrap64 ((wrap64 (x10 * x7)) + x17)) < (x106003.length : Int) then (if x6 = 0 then (none) else (z119.l3 k x6 x7 x8 x9 x10 x11 x16 (wrap64 (x17 + 1)) x51000 x51001 x51002 x51003 x106000 x106001 x106002 (x106003.set ((wrap64 ((wrap64 (x10 * x7)) + x17)) : Int).toNat (Int.tmod (wrap64 ((rd x106003 (wrap64 ((wrap64 (x10 * x7)) + x17))) * x16)) x6)))) else (none)) else (none)) else (z119.l4 k x6 x7 x8 x9 x10 x11 0 x51000 x51001 x51002 x51003 x106000 x106001 x106002 x106003)
def z119.l4 : Nat → Int → Int → List Int → Int → Int → Int → Int → Int → Int → Int → List Int → Int → Int → Int → List Int → Option (Int × Int × Int × List Int × List Int × Int)
 | 0, _, _, _, _, _, _, _, _, _, _, _, _, _, _, _ => none
 | k + 1, x6, x7, x8, x9, x10, x11, x18, x51000, x51001, x51002, x51003, x106000, x106001, x106002, x106003 => if x18 < x51001 then (if 0 ≤ (wrap64 ((wrap64 (x18 * x7)) + x11)) then (if (wrap64 ((wrap64 (x18 * x7)) + x11)) < (x106003.length : Int) then (if x18 = x10 then (z119.j8 k x6 x7 x8 x9 x10 x11 x18 (rd x106003 (wrap64 ((wrap64 (x18 * x7)) + x11))) true x51000 x51001 x51002 x51003 x106000 x106001 x106002 x106003) else (z119.j8 k x6 x7 x8 x9 x10 x11 x18 (rd x106003 (wrap64 ((wrap64 (x18 * x7)) + x11))) ((rd x106003 (wrap64 ((wrap64 (x18 * x7)) + x11))) == 0) x51000 x51001 x51002 x51003 x106000 x106001 x106002 x106003)) else (none)) else (none)) else (if x8.length < 17592186044416 then (z119.l0 k x6 x7 (x8 ++ [x11]) x9 (wrap64 (x10 + 1)) (wrap64 (x11 + 1)) x51000 x51001 x51002 x51003 x106000 x106001 x106002 x106003) else (none))
def z119.j8 : Nat → Int → Int → List Int → Int → Int → Int → Int → Int → Bool → Int → Int → Int → List Int → Int → Int → Int → List Int → Option (Int × Int × Int × List Int × List Int × Int)
 | 0, _, _, _, _, _, _, _, _, _, _, _, _, _, _, _, _, _ => none
 | k + 1, x6, x7, x8, x9, x10, x11, x18, x19, x200, x51000, x51001, x51002, x51003, x106000, x106001, x106002, x106003 => if x200 = true then (z119.l4 k x6 x7 x8 x9 x10 x11 (wrap64 (x18 + 1)) x51000 x51001 x51002 x51003 x106000 x106001 x106002 x106003) else (z119.l5 k x6 x7 x8 x9 x10 x11 x18 x19 0 x51000 x51001 x51002 x51003 x106000 x106001 x106002 x106003)
def z119.l5 : Nat → Int → Int → List Int → Int → Int → Int → Int → Int → Int → Int → Int → Int → List Int → Int → Int → Int → List Int → Option (Int × Int × Int × List Int × List Int × Int)
 | 0, _, _, _, _, _, _, _, _, _, _, _, _, _, _, _, _, _ => none
 | k + 1, x6, x7, x8, x9, x10, x11, x18, x19, x20, x51000, x51001, x51002, x51003, x106000, x106001, x106002, x106003 => if x20 < x7 then (if 0 ≤ (wrap64 ((wrap64 (x18 * x7)) + x20)) then (if (wrap64 ((wrap64 (x18 * x7)) + x20)) < (x106003.length : Int) then (if 0 ≤ (wrap64 ((wrap64 (x10 * x7)) + x20)) then (if (wrap64 ((wrap64 (x10 * x7)) + x20)) < (x106003.length : Int) then ((z138.f (wrap64 ((rd x106003 (wrap64 ((wrap64 (x18 * x7)) + x20))) - (wrap64 (x19 * (rd x106003 (wrap64 ((wrap64 (x10 * x7)) + x20))))))) x6).bind fun t124 => (z119.l5 k x6 x7 x8 x9 x10 x11 x18 x19 (wrap64 (x20 + 1)) x51000 x51001 x51002 x51003 x106000 x106001 x106002 (x106003.set ((wrap64 ((wrap64 (x18 * x7)) + x20)) : Int).toNat t124))) else (none)) else (none)) else (none)) else (none)) else (z119.l4 k x6 x7 x8 x9 x10 x11 (wrap64 (x18 + 1)) x51000 x51001 x51002 x51003 x106000 x106001 x106002 x106003)
def z119.l2 : Nat → Int → Int → List Int → Int → Int → Int → Int → Int → Int → Int → Int → List Int → Int → Int → Int → List Int → Option (Int × Int × Int × List Int × List Int × Int)
 | 0, _, _, _, _, _, _, _, _, _, _, _, _, _, _, _, _ => none
 | k + 1, x6, x7, x8, x9, x10, x11, x12, x13, x51000, x51001, x51002, x51003, x106000, x106001, x106002, x106003 => if x13 < x7 then (if 0 ≤ (wrap64 ((wrap64 (x12 * x7)) + x13)) then (if (wrap64 ((wrap64 (x12 * x7)) + x13)) < (x106003.length : Int) then (if 0 ≤ (wrap64 ((wrap64 (x10 * x7)) + x13)) then (if (wrap64 ((wrap64 (x10 * x7)) + x13)) < (x106003.length : Int) then (z119.l2 k x6 x7 x8 x9 x10 x11 x12 (wrap64 (x13 + 1)) x51000 x51001 x51002 x51003 x106000 x106001 x106002 ((x106003.set ((wrap64 ((wrap64 (x12 * x7)) + x13)) : Int).toNat (rd x106003 (wrap64 ((wrap64 (x10 * x7)) + x13)))).set ((wrap64 ((wrap64 (x10 * x7)) + x13)) : Int).toNat (rd x106003 (wrap64 ((wrap64 (x12 * x7)) + x13))))) else (none)) else (none)) else (none)) else (none)) else (z119.j5 k x6 x7 x8 x9 x10 x11 x51000 x51001 x51002 x51003 x106000 x106001 x106002 x106003)
def z119.l1 : Nat → Int → Int → List Int → Int → Int → Int → Int → Int → Int → Int → List Int → Int → Int → Int → List Int → Option (Int × Int × Int × List Int × List Int × Int)
 | 0, _, _, _, _, _, _, _, _, _, _, _, _, _, _, _ => none
 | k + 1, x6, x7, x8, x9, x10, x11, x12, x51000, x51001, x51002, x51003, x106000, x106001, x106002, x106003 => if x12 < x51001 then (if 0 ≤ (wrap64 ((wrap64 (x12 * x7)) + x11)) then (if (wrap64 ((wrap64 (x12 * x7)) + x11)) < (x106003.length : Int) then (if (rd x106003 (wrap64 ((wrap64 (x12 * x7)) + x11))) = 0 then (z119.l1 k x6 x7 x8 x9 x10 x11 (wrap64 (x12 + 1)) x51000 x51001 x51002 x51003 x106000 x106001 x106002 x106003) else (z119.j3 k x6 x7 x8 x9 x10 x11 x12 x51000 x51001 x51002 x51003 x106000 x106001 x106002 x106003)) else (none)) else (none)) else (z119.j3 k x6 x7 x8 x9 x10 x11 x12 x51000 x51001 x51002 x51003 x106000 x106001 x106002 x106003)
end
def z119.f (k : Nat) (a0_0 : Int) (a0_1 : Int) (a0_2 : Int) (l0_3 : List Int) : Option (Int × Int × Int × List Int × List Int × Int) := (z88.f l0_3).bind fun t102 => (z119.l0 k a0_0 a0_2 (([] : List Int)) 1 0 0 a0_0 a0_1 a0_2 l0_3 a0_0 a0_1 a0_2 t102)
def z119.T1 : Bool × List (List Nat × List Nat) := (true, [([], []), ([0], [0]), ([1], [1]), ([2], [2]), ([], []), ([4], [4]), ([5], [5]), ([6], [6]), ([], []), ([8], [8]), ([9], [9]), ([10], [10]), ([], []), ([12], [12]), ([13], [13]), ([14], [14]), ([15], [15]), ([3, 7, 11, 16], [3, 7, 11, 16]), ([], []), ([18, 17, 16, 0, 1, 2, 3, 4, 5, 6, 7, 8, 9, 10, 11, 12, 13, 14, 15, 16, 17, 18], [17, 18])])
def z119.B1 : List Nat := [0, 1, 3, 7, 0, 16, 48, 112, 0, 256, 768, 1792, 0, 4096, 12288, 28672, 61440, 131071, 0, 524287]
theorem z119.tab1 : rtab .any (qCk Try.f119 1) = z119.T1 := by kernel_rfl
theorem z119.bits1 : qA9 z119.T1.2 z119.B1 = true := by kernel_rfl
def z119.T20 : Bool × List (List Nat × List Nat) := (true, [([], []), ([0], [0]), ([], []), ([], []), ([2, 3], [2, 3]), ([], []), ([4, 5], [4, 5]), ([], []), ([7], [7]), ([], []), ([], []), ([9, 10], [9, 10]), ([], []), ([11, 12], [11, 12]), ([8, 13], [8, 13]), ([14], [14]), ([1, 6, 0, 1, 2, 3, 4, 5, 6, 7, 8, 9, 10, 11, 12, 13, 14, 15], [1, 6]), ([16, 15, 0, 1, 2, 3, 4, 5, 6, 7, 8, 9, 10, 11, 12, 13, 14, 15], [15, 16])])
def z119.B20 : List Nat := [0, 1, 0, 0, 12, 0, 60, 0, 128, 0, 0, 1536, 0, 7680, 16256, 32640, 65535, 131071]
theorem z119.tab20 : rtab .any (qCk Try.f119 20) = z119.T20 := by kernel_rfl
theorem z119.bits20 : qA9 z119.T20.2 z119.B20 = true := by kernel_rfl
def z119.T28 : Bool × List (List Nat × List Nat) := (true, [([], []), ([0], [0]), ([], []), ([], []), ([2, 3], [2, 3]), ([], []), ([4, 5], [4, 5]), ([], []), ([7], [7]), ([], []), ([], []), ([9, 10], [9, 10]), ([], []), ([11, 12], [11, 12]), ([8, 13], [8, 13]), ([14], [14]), ([], []), ([15, 16], [15, 16]), ([], []), ([17, 18], [17, 18]), ([1, 6, 0, 1, 2, 3, 4, 5, 6, 7, 8, 9, 10, 11, 12, 13, 14, 15, 16, 17, 18, 19], [1, 6]), ([20, 19, 0, 1, 2, 3, 4, 5, 6, 7, 8, 9, 10, 11, 12, 13, 14, 15, 16, 17, 18, 19], [19, 20])])
def z119.B28 : List Nat := [0, 1, 0, 0, 12, 0, 60, 0, 128, 0, 0, 1536, 0, 7680, 16256, 32640, 0, 130944, 0, 524160, 1048575, 2097151]
theorem z119.tab28 : rtab .any (qCk Try.f119 28) = z119.T28 := by kernel_rfl
theorem z119.bits28 : qA9 z119.T28.2 z119.B28 = true := by kernel_rfl
def z119.T37 : Bool × List (List Nat × List Nat) := (true, [([], []), ([0], [0]), ([], []), ([], []), ([2, 3], [2, 3]), ([], []), ([4, 5], [4, 5]), ([], []), ([7], [7]), ([], []), ([], []), ([9, 10], [9, 10]), ([], []), ([11, 12], [11, 12]), ([8, 13], [8, 13]), ([14], [14]), ([], []), ([], []), ([17], [17]), ([], []), ([], []), ([19, 20], [19, 20]), ([], []), ([21, 22], [21, 22]), ([18, 23], [18, 23]), ([24], [24]), ([16, 25], [16, 25]), ([15, 26], [15, 26]), ([], []), ([27, 28], [27, 28]), ([1, 6, 0, 1, 2, 3, 4, 5, 6, 7, 8, 9, 10, 11, 12, 13, 14, 15, 16, 17, 18, 19, 20, 21, 22, 23, 24, 25, 26, 27, 28, 29], [1, 6]), ([30, 29, 29, 0, 1, 2, 3, 4, 5, 6, 7, 8, 9, 10, 11, 12, 13, 14, 15, 16, 17, 18, 19, 20, 21, 22, 23, 24, 25, 26, 27, 28, 29], [29, 30])])
def z119.B37 : List Nat := [0, 1, 0, 0, 12, 0, 60, 0, 128, 0, 0, 1536, 0, 7680, 16256, 32640, 0, 0, 131072, 0, 0, 1572864, 0, 7864320, 16646144, 33423360, 67043328, 134217600, 0, 536870784, 1073741823, 2147483647]
theorem z119.tab37 : rtab .any (qCk Try.f119 37) = z119.T37 := by kernel_rfl
theorem z119.bits37 : qA9 z119.T37.2 z119.B37 = true := by kernel_rfl
set_option maxHeartbeats 8000000 in
set_option maxRecDepth 100000 in
theorem z119.calls (k : Nat) (gp0 : Nat) (a0_0 : Int) (a0_1 : Int) (a0_2 : Int) (A0_3 : Option Addr) (c0_3 : Nat) (l0_3 : List Int) (r1 : Int) (r2 : Int) (r3 : Int) (r4 : List Int) (r5 : List Int) (r6 : Int) (w : World) (hbp0 : w.heap[gp0]? = some (.cells #[.int .i64 a0_0, .int .i64 a0_1, .int .i64 a0_2, .slice A0_3 l0_3.length c0_3] 55 (0, 0))) (hr0_3 : Kd.C (Kd.int .i64) w A0_3 l0_3.length l0_3) (hc0_3 : l0_3.length ≤ c0_3) (h : z119.f k a0_0 a0_1 a0_2 l0_3 = some (r1, r2, r3, r4, r5, r6)) :
  Calls Try.prog 119 #[.pointer (some ⟨gp0, 0, none⟩)] w fun e w' => ∃ v3_ v4_ : Value, e = .returned (.tuple #[.agg #[.int .i64 r1, .int .i64 r2, .int .i64 r3, v3_], v4_, .int .i64 r6]) ∧ Kd.R (Kd.int .i64) 2 w' w.heap.size (fun k_ => some k_ ≠ (v4_ : Value).ownBlock) v3_ r4 ∧ Kd.R (Kd.int .i64) 2 w' w.heap.size (fun k_ => some k_ ≠ (v3_ : Value).ownBlock) v4_ r5 ∧ Below w.heap.size w w' := by
 have hu55 := Try.underlying55
 have HR0_3 := Zz.mk hr0_3
 have HC0_3 := Zz.mk hc0_3
 clear hr0_3 hc0_3
 have BK50 := Zz.mk hbp0
 clear hbp0
 have HB := Zz.mk (Below.refl w.heap.size w)
 have H : ((z88.f l0_3).bind fun t102 => (z119.l0 k a0_0 a0_2 (([] : List Int)) 1 0 0 a0_0 a0_1 a0_2 l0_3 a0_0 a0_1 a0_2 t102)) = some (r1, r2, r3, r4, r5, r6) := h
 clear h
 replace H := OB_ H
 obtain ⟨t102, A20, H⟩ := H
 replace H : (z119.l0 k a0_0 a0_2 (([] : List Int)) 1 0 0 a0_0 a0_1 a0_2 l0_3 a0_0 a0_1 a0_2 t102) = some (r1, r2, r3, r4, r5, r6) := H
 have A2 := Zz.mk A20
 clear A20
 obtain ⟨y106, hy106⟩ : ∃ y_ : List Int, y_ = (([] : List Int)) := ⟨_, rfl⟩
 replace H : (z119.l0 k a0_0 a0_2 y106 1 0 0 a0_0 a0_1 a0_2 l0_3 a0_0 a0_1 a0_2 t102) = some (r1, r2, r3, r4, r5, r6) := Y_ hy106 H
 have Ny106 := Zz.mk hy106
 clear hy106
 have H' := Zz.mk H
 clear H
 go_enter Try.func119, Try.ntmps119
 try go_wp2_with (first | ((with_reducible refine qAi (N := 2) rfl ?_); refine bx_ 2 #[.int .i64 0, .int .i64 0, .int .i64 0, .slice none 0 0] 55 ?_; intro gb101 hg w3 hbox hb; have BK101 := Zz.mk (hbox); have GW101 := Zz.mk ((gw_ hg (B_ HB.out))); have GE101 := GW101; have NB50_101 := Zz.mk ((nb_ BK50.out hg)); have NB101_50 := Zz.mk NB50_101.out.symm; replace BK50 := Zz.mk (kb_ BK50.out hb); replace HB := Zz.mk (bT_ (B_ HB.out) hb); clear hb hbox hg))
 replace BK50 := Zz.mk (bD_ BK50.out)
 replace BK101 := Zz.mk (bD_ BK101.out)
 replace HB := Zz.mk (qAj HB.out)
 refine qBf (n := 20) (S := fun w' => w'.cell? ⟨gp0, 0, none⟩ = some (.int .i64 a0_0) ∧ w'.cell? ⟨gp0, 1, none⟩ = some (.int .i64 a0_1) ∧ w'.cell? ⟨gp0, 2, none⟩ = some (.int .i64 a0_2) ∧ w'.cell? ⟨gp0, 3, none⟩ = some (.slice A0_3 l0_3.length c0_3)) (ds := []) (tb_ 20 0) (by kernel_rfl) rfl rfl (Z4_ BK50.out) (fun hHeld => ?_); refine qAv z119.tab1 z119.bits1 (fun HT_ HW_ => ?_)
 generalize w3.drew = w4 at BK50 BK101 HB hHeld ⊢
 refine PX_ 0 21 (tb_ 20 1) HT_ rfl rfl ?_
 refine PX_ 1 22 (tb_ 20 3) HT_ rfl rfl ?_
 refine PX_ 2 23 (tb_ 20 7) HT_ rfl rfl ?_
 refine PX_ 4 25 (tb_ 20 23) HT_ rfl rfl ?_
 refine PX_ 5 26 (tb_ 20 55) HT_ rfl rfl ?_
 refine PX_ 6 27 (tb_ 20 119) HT_ rfl rfl ?_
 refine PX_ 8 29 (tb_ 20 375) HT_ rfl rfl ?_
 refine PX_ 9 30 (tb_ 20 887) HT_ rfl rfl ?_
 refine PX_ 10 31 (tb_ 20 1911) HT_ rfl rfl ?_
 refine PX_ 12 33 (tb_ 20 6007) HT_ rfl rfl ?_
 refine PX_ 13 34 (tb_ 20 14199) HT_ rfl rfl ?_
 refine PX_ 14 35 (tb_ 20 30583) HT_ rfl rfl ?_
 refine TV_ (i := 3) (N := some 24) (tb_ 20 30591) HT_ HW_ rfl rfl hHeld (by rintro w' ⟨s0, s1, s2, s3⟩; go_simp; with_reducible rfl) (h := ?_)
 refine TV_ (i := 7) (N := some 28) (tb_ 20 30719) HT_ HW_ rfl rfl hHeld (by rintro w' ⟨s0, s1, s2, s3⟩; go_simp; with_reducible rfl) (h := ?_)
 refine TV_ (i := 11) (N := some 32) (tb_ 20 32767) HT_ HW_ rfl rfl hHeld (by rintro w' ⟨s0, s1, s2, s3⟩; go_simp; with_reducible rfl) (h := ?_)
 refine TV_ (i := 15) (N := some 36) (tb_ 20 65535) HT_ HW_ rfl rfl hHeld (by rintro w' ⟨s0, s1, s2, s3⟩; go_simp; with_reducible rfl) (h := ?_)
 refine qI0 (σ := Value × Nat) 1 (tb_ 20 524287) (fun s_ => [(37, s_.1), (5, .pointer (some ⟨s_.2, 0, none⟩)), (38, .agg #[.int .i64 a0_0, .int .i64 a0_1, .int .i64 a0_2, s_.1])]) (fun s_ w' => (w'.cell? ⟨gp0, 0, none⟩ = some (.int .i64 a0_0) ∧ w'.cell? ⟨gp0, 1, none⟩ = some (.int .i64 a0_1) ∧ w'.cell? ⟨gp0, 2, none⟩ = some (.int .i64 a0_2) ∧ w'.cell? ⟨gp0, 3, none⟩ = some (.slice A0_3 l0_3.length c0_3)) ∧ (Kd.R (Kd.int .i64) 2 w' w.heap.size (fun _ => True) s_.1 t102) ∧ (w'.heap[gb101]? = some (.cells #[.int .i64 0, .int .i64 0, .int .i64 0, .slice none 0 0] 55 (0, 0))) ∧ (w'.heap[s_.2]? = some (.cells #[.int .i64 0, .int .i64 0, .int .i64 0, .slice none 0 0] 55 (0, 0))) ∧ (w'.heap[gp0]? = some (.cells #[.int .i64 a0_0, .int .i64 a0_1, .int .i64 a0_2, .slice A0_3 l0_3.length c0_3] 55 (0, 0))) ∧ (w.heap.size ≤ s_.2) ∧ (w.heap.size ≤ s_.2) ∧ (gb101 ≠ s_.2) ∧ (s_.2 ≠ gb101) ∧ (gp0 ≠ s_.2) ∧ (s_.2 ≠ gp0) ∧ (Below w.heap.size w w')) ?_ ?_
 rotate_left
 ·intro hCont
  refine two_ (i := 16) (j := 18) (Ni := some 37) (Nj := some 5) (tb_ 20 131071) (tb_ 20 327679) rfl rfl rfl rfl (qD6 HT_.out (by kernel_rfl)) (by decide) (by decide) (fun K hK => ?_) (fun K hK => ?_)
  ·skip
   refine GO_ Try.func88 #[.slice A0_3 l0_3.length c0_3] (h := ?_)
   with_reducible refine (z88.calls _ _ l0_3 t102 _ ?side1 ?side2 A2.out).mono ?_
   (case side1 => exact KC_ (Kd.C_below HR0_3.out HB.out))
   (case side2 => exact HC0_3.out)
   rintro e w5 ⟨v103, rfl, ho0, hb⟩
   refine ⟨_, rfl, ?_⟩
   have HO104 := Zz.mk (Kd.R_lower ho0 (bS_ (B1_ HB.out GE101.out)))
   replace BK50 := Zz.mk (kb_ BK50.out hb)
   replace BK101 := Zz.mk (kb_ BK101.out hb)
   replace HB := Zz.mk (bT_ (B1_ HB.out GE101.out) hb)
   (try clear hb);(try clear ho0)
   obtain ⟨Ao6, co6, eo6⟩ := Kd.R_slice HO104.out
   (first | subst eo6 | obtain ⟨rfl, rfl⟩ := sl_ eo6)
   refine hK.out _ _ (Z4_ BK50.out) (fun hHeld => ?_)
   clear hK K
   refine NM_ (N := (some 37)) (h := ?_)
   refine PX_ 17 38 (tb_ 20 262143) HT_ rfl rfl ?_
   refine one_ (i := 18) (N := some 5) (tb_ 20 524287) rfl rfl (qAs HT_.out (by kernel_rfl)) (by decide) (fun K hK => ?_)
   refine by_ 5 #[.int .i64 0, .int .i64 0, .int .i64 0, .slice none 0 0] 55 ?_
   intro gb105 hg w7 hbox hb
   have BK105 := Zz.mk (hbox)
   have GW105 := Zz.mk ((gw_ hg (B1_ HB.out GE101.out)))
   have GE105 := GW105
   have NB50_105 := Zz.mk ((nb_ BK50.out hg))
   have NB105_50 := Zz.mk NB50_105.out.symm
   have NB101_105 := Zz.mk ((nb_ BK101.out hg))
   have NB105_101 := Zz.mk NB101_105.out.symm
   replace HO104 := Zz.mk (Kd.R_below (KR_ HO104.out) hb)
   replace BK50 := Zz.mk (kb_ BK50.out hb)
   replace BK101 := Zz.mk (kb_ BK101.out hb)
   replace HB := Zz.mk (bT_ (B1_ HB.out GE101.out) hb)
   clear hb hbox hg
   refine hK.out _ _ (Z4_ BK50.out) (fun hHeld => ?_)
   clear hK K
   refine NM_ (N := (some 5)) (h := ?_)
   exact qCn (by simp only [qBr, Act.put, List.setIfInBounds_toArray, List.set_cons_zero, List.set_cons_succ]) (hCont (.slice Ao6 t102.length co6, gb105) _ ⟨hHeld, (KR_ HO104.out), (KB_ BK101.out), (KB_ BK105.out), (KB_ BK50.out), GW105.out, GE105.out, NB101_105.out, NB105_101.out, NB50_105.out, NB105_50.out, (B2_ HB.out GE101.out GE105.out)⟩)
  skip
  refine by_ 5 #[.int .i64 0, .int .i64 0, .int .i64 0, .slice none 0 0] 55 ?_
  intro gb105 hg w5 hbox hb
  have BK105 := Zz.mk (hbox)
  have GW105 := Zz.mk ((gw_ hg (B1_ HB.out GE101.out)))
  have GE105 := GW105
  have NB50_105 := Zz.mk ((nb_ BK50.out hg))
  have NB105_50 := Zz.mk NB50_105.out.symm
  have NB101_105 := Zz.mk ((nb_ BK101.out hg))
  have NB105_101 := Zz.mk NB101_105.out.symm
  replace BK50 := Zz.mk (kb_ BK50.out hb)
  replace BK101 := Zz.mk (kb_ BK101.out hb)
  replace HB := Zz.mk (bT_ (B1_ HB.out GE101.out) hb)
  clear hb hbox hg
  refine hK.out _ _ (Z4_ BK50.out) (fun hHeld => ?_)
  clear hK K
  refine NM_ (N := (some 5)) (h := ?_)
  refine one_ (i := 16) (N := some 37) (tb_ 20 393215) rfl rfl (qAs HT_.out (by kernel_rfl)) (by decide) (fun K hK => ?_)
  refine GO_ Try.func88 #[.slice A0_3 l0_3.length c0_3] (h := ?_)
  with_reducible refine (z88.calls _ _ l0_3 t102 _ ?side1 ?side2 A2.out).mono ?_
  (case side1 => exact KC_ (Kd.C_below HR0_3.out HB.out))
  (case side2 => exact HC0_3.out)
  rintro e w6 ⟨v103, rfl, ho0, hb⟩
  refine ⟨_, rfl, ?_⟩
  have HO104 := Zz.mk (Kd.R_lower ho0 (bS_ (B2_ HB.out GE101.out GE105.out)))
  replace BK50 := Zz.mk (kb_ BK50.out hb)
  replace BK101 := Zz.mk (kb_ BK101.out hb)
  replace BK105 := Zz.mk (kb_ BK105.out hb)
  replace HB := Zz.mk (bT_ (B2_ HB.out GE101.out GE105.out) hb)
  (try clear hb);(try clear ho0)
  obtain ⟨Ao7, co7, eo7⟩ := Kd.R_slice HO104.out
  (first | subst eo7 | obtain ⟨rfl, rfl⟩ := sl_ eo7)
  refine hK.out _ _ (Z4_ BK50.out) (fun hHeld => ?_)
  clear hK K
  refine NM_ (N := (some 37)) (h := ?_)
  refine PX_ 17 38 (tb_ 20 524287) HT_ rfl rfl ?_
  exact qCn (by simp only [qBr, Act.put, List.setIfInBounds_toArray, List.set_cons_zero, List.set_cons_succ]) (hCont (.slice Ao7 t102.length co7, gb105) _ ⟨hHeld, (KR_ HO104.out), (KB_ BK101.out), (KB_ BK105.out), (KB_ BK50.out), GW105.out, GE105.out, NB101_105.out, NB105_101.out, NB50_105.out, NB105_50.out, (B2_ HB.out GE101.out GE105.out)⟩)
 rintro ⟨v103, gb105⟩ w8 ⟨hS_, h0_, h1_, h2_, h3_, h4_, h5_, h6_, h7_, h8_, h9_, h10_⟩
 have HO104 : Zz (Kd.R (Kd.int .i64) 2 w8 w.heap.size (fun _ => True) v103 t102) := ⟨h0_⟩
 have BK105 : Zz (w8.heap[gb105]? = some (.cells #[.int .i64 0, .int .i64 0, .int .i64 0, .slice none 0 0] 55 (0, 0))) := ⟨h2_⟩
 have GW105 : Zz (w.heap.size ≤ gb105) := ⟨h4_⟩
 have GE105 : Zz (w.heap.size ≤ gb105) := ⟨h5_⟩
 have NB101_105 : Zz (gb101 ≠ gb105) := ⟨h6_⟩
 have NB105_101 : Zz (gb105 ≠ gb101) := ⟨h7_⟩
 have NB50_105 : Zz (gp0 ≠ gb105) := ⟨h8_⟩
 have NB105_50 : Zz (gb105 ≠ gp0) := ⟨h9_⟩
 replace BK101 : Zz (w8.heap[gb101]? = some (.cells #[.int .i64 0, .int .i64 0, .int .i64 0, .slice none 0 0] 55 (0, 0))) := ⟨h1_⟩
 replace BK50 : Zz (w8.heap[gp0]? = some (.cells #[.int .i64 a0_0, .int .i64 a0_1, .int .i64 a0_2, .slice A0_3 l0_3.length c0_3] 55 (0, 0))) := ⟨h3_⟩
 replace HB : Zz (Below w.heap.size w w8) := ⟨h10_⟩
 (try clear h0_)
 (try clear h1_)
 (try clear h2_)
 (try clear h3_)
 (try clear h4_)
 (try clear h5_)
 (try clear h6_)
 (try clear h7_)
 (try clear h8_)
 (try clear h9_)
 (try clear h10_)
 have hHeld : w8.cell? ⟨gp0, 0, none⟩ = some (.int .i64 a0_0) ∧ w8.cell? ⟨gp0, 1, none⟩ = some (.int .i64 a0_1) ∧ w8.cell? ⟨gp0, 2, none⟩ = some (.int .i64 a0_2) ∧ w8.cell? ⟨gp0, 3, none⟩ = some (.slice A0_3 l0_3.length c0_3) := hS_
 obtain ⟨Ao9, co9, eo9⟩ := Kd.R_slice HO104.out
 (first | subst eo9 | obtain ⟨rfl, rfl⟩ := sl_ eo9)
 refine qCn (a' := ?_) ?_ ?_
 rotate_left
 ·simp only [qBr, Act.put, List.setIfInBounds_toArray, List.set_cons_zero, List.set_cons_succ]
  rfl
 refine one_ (i := 19) (N := none) (tb_ 20 1048575) rfl rfl (qAs HT_.out (by kernel_rfl)) (by decide) (fun K hK => ?_)
 have hs10 : w8.cell? ⟨gb105, 0, none⟩ = some (.int .i64 0) := (bC_ BK105.out 0).trans rfl
 have hfs10 := bF_ BK105.out 0
 have hns10_0 := NB50_105.out
 have hns10_1 := NB101_105.out
 have hms10_0 := NB105_50.out
 have hms10_1 := NB105_101.out
 have hs11 : w8.cell? ⟨gb105, 1, none⟩ = some (.int .i64 0) := (bC_ BK105.out 1).trans rfl
 have hfs11 := bF_ BK105.out 1
 have hns11_0 := NB50_105.out
 have hns11_1 := NB101_105.out
 have hms11_0 := NB105_50.out
 have hms11_1 := NB105_101.out
 have hs12 : w8.cell? ⟨gb105, 2, none⟩ = some (.int .i64 0) := (bC_ BK105.out 2).trans rfl
 have hfs12 := bF_ BK105.out 2
 have hns12_0 := NB50_105.out
 have hns12_1 := NB101_105.out
 have hms12_0 := NB105_50.out
 have hms12_1 := NB105_101.out
 have hs13 : w8.cell? ⟨gb105, 3, none⟩ = some (.slice none 0 0) := (bC_ BK105.out 3).trans rfl
 have hfs13 := bF_ BK105.out 3
 have hns13_0 := NB50_105.out
 have hns13_1 := NB101_105.out
 have hms13_0 := NB105_50.out
 have hms13_1 := NB105_101.out
 refine qEy (w1 := ?_) (by rfl) rfl ?_ ?_
 rotate_left
 ·go_simp
  rfl
 refine hK.out _ _ ⟨((qBg (p := ⟨gb105, _, none⟩) NB50_105.out _).trans (((qBg (p := ⟨gb105, _, none⟩) NB50_105.out _).trans (((qBg (p := ⟨gb105, _, none⟩) NB50_105.out _).trans (((qBg (p := ⟨gb105, _, none⟩) NB50_105.out _).trans (hHeld.1)))))))), ((qBg (p := ⟨gb105, _, none⟩) NB50_105.out _).trans (((qBg (p := ⟨gb105, _, none⟩) NB50_105.out _).trans (((qBg (p := ⟨gb105, _, none⟩) NB50_105.out _).trans (((qBg (p := ⟨gb105, _, none⟩) NB50_105.out _).trans (hHeld.2.1)))))))), ((qBg (p := ⟨gb105, _, none⟩) NB50_105.out _).trans (((qBg (p := ⟨gb105, _, none⟩) NB50_105.out _).trans (((qBg (p := ⟨gb105, _, none⟩) NB50_105.out _).trans (((qBg (p := ⟨gb105, _, none⟩) NB50_105.out _).trans (hHeld.2.2.1)))))))), ((qBg (p := ⟨gb105, _, none⟩) NB50_105.out _).trans (((qBg (p := ⟨gb105, _, none⟩) NB50_105.out _).trans (((qBg (p := ⟨gb105, _, none⟩) NB50_105.out _).trans (((qBg (p := ⟨gb105, _, none⟩) NB50_105.out _).trans (hHeld.2.2.2))))))))⟩ (fun hHeld => ?_)
 clear hK K
 refine qB0 (qA4 HT_.out (by kernel_rfl)) ?_
 have hnb14 := NB50_101.out
 have hnc14 := NB101_50.out
 have hnb15 := NB50_105.out
 have hnc15 := NB105_50.out
 obtain ⟨hcz16_0, hcz16_1, hcz16_2, hcz16_3, hfz16_0, hfz16_1, hfz16_2, hfz16_3⟩ := Z4f_ BK50.out
 try go_wp2_with (first | ((with_reducible refine qAi (N := 47) rfl ?_); refine Kd.R_lit (Kd.int .i64) _ 2 ?hg (N := 47) ?hd (xs := ([] : List Int)) (inner := []) (ok := fun _ => True) (okp := fun _ => True) ?hr ?hp (fun _ hk => hk) trivial (Below.refl _ _) (Nat.le_refl _) (by simp) ?_; (case hd => rfl); (case hg => rfl); (case hr => first | (go_simp; done) | (go_simp; rfl)); (case hp => exact (Reps.none _ _)); intro v107 w17 ho18 hb hg_ hnew_; clear hg_ hnew_; (first | rw [← Ny106.out] at ho18 | (simp only [Int.reduceToNat] at ho18; rw [← Ny106.out] at ho18)); have HO108 := Zz.mk (Kd.R_lower (Kd.R_new' ho18 (Kd.R_lt (by refine RW_ ?_; exact (Kd.R_mono (Kd.R_far (p := ⟨gb105, 3, none⟩) (Kd.R_far (p := ⟨gb105, 2, none⟩) (Kd.R_far (p := ⟨gb105, 1, none⟩) (Kd.R_far (p := ⟨gb105, 0, none⟩) (Kd.R_types HO104.out BK105.out (by decide)) (fun _ hk => hk.2) (.int .i64 a0_0)) (fun _ hk => hk.2) (.int .i64 a0_1)) (fun _ hk => hk.2) (.int .i64 a0_2)) (fun _ hk => hk.2) (.slice Ao9 t102.length co9)) (fun _ h_ => h_.1))))) (bS_ (B2_ HB.out GE101.out GE105.out))); replace HO104 := Zz.mk (Kd.R_elder' (by refine RW_ ?_; exact (Kd.R_mono (Kd.R_far (p := ⟨gb105, 3, none⟩) (Kd.R_far (p := ⟨gb105, 2, none⟩) (Kd.R_far (p := ⟨gb105, 1, none⟩) (Kd.R_far (p := ⟨gb105, 0, none⟩) (Kd.R_types HO104.out BK105.out (by decide)) (fun _ hk => hk.2) (.int .i64 a0_0)) (fun _ hk => hk.2) (.int .i64 a0_1)) (fun _ hk => hk.2) (.int .i64 a0_2)) (fun _ hk => hk.2) (.slice Ao9 t102.length co9)) (fun _ h_ => h_.1))) (Kd.R_base ho18) hb); replace BK50 := Zz.mk (bB_ (g := gp0) (o := .cells #[.int .i64 a0_0, .int .i64 a0_1, .int .i64 a0_2, .slice A0_3 l0_3.length c0_3] 55 (0, 0)) (by refine BW_ ?_; refine bR_ ?_ NB50_105.out _; refine BW_ ?_; refine bR_ ?_ NB50_105.out _; refine BW_ ?_; refine bR_ ?_ NB50_105.out _; refine BW_ ?_; refine bR_ ?_ NB50_105.out _; refine BW_ ?_; exact BK50.out) hb); replace BK101 := Zz.mk (bB_ (g := gb101) (o := .cells #[.int .i64 0, .int .i64 0, .int .i64 0, .slice none 0 0] 55 (0, 0)) (by refine BW_ ?_; refine bR_ ?_ NB101_105.out _; refine BW_ ?_; refine bR_ ?_ NB101_105.out _; refine BW_ ?_; refine bR_ ?_ NB101_105.out _; refine BW_ ?_; refine bR_ ?_ NB101_105.out _; refine BW_ ?_; exact BK101.out) hb); replace BK105 := Zz.mk (bB_ (g := gb105) (o := .cells #[.int .i64 a0_0, .int .i64 a0_1, .int .i64 a0_2, .slice Ao9 t102.length co9] 55 (0, 0)) (by refine BW_ ?_; refine bP_ (cs := #[.int .i64 a0_0, .int .i64 a0_1, .int .i64 a0_2, .slice none 0 0]) ?_ 3 _ rfl; refine BW_ ?_; refine bP_ (cs := #[.int .i64 a0_0, .int .i64 a0_1, .int .i64 0, .slice none 0 0]) ?_ 2 _ rfl; refine BW_ ?_; refine bP_ (cs := #[.int .i64 a0_0, .int .i64 0, .int .i64 0, .slice none 0 0]) ?_ 1 _ rfl; refine BW_ ?_; refine bP_ (cs := #[.int .i64 0, .int .i64 0, .int .i64 0, .slice none 0 0]) ?_ 0 _ rfl; refine BW_ ?_; exact BK105.out) hb); replace HB := Zz.mk (bT_ (B2_ HB.out GE101.out GE105.out) hb); clear hb ho18))
 go_loopg [8, 9, 10, 11] k (fun kq v8 v9 v10 v11 w' => ∃ (x8_1 : List Int) (x9_1 : Int) (x10_1 : Int) (x11_1 : Int) (x106003_1 : List Int) (u106003 : Value), v9 = .int .i64 x9_1 ∧ v10 = .int .i64 x10_1 ∧ v11 = .int .i64 x11_1 ∧ Zz (z119.l0 kq a0_0 a0_2 x8_1 x9_1 x10_1 x11_1 a0_0 a0_1 a0_2 l0_3 a0_0 a0_1 a0_2 x106003_1 = some (r1, r2, r3, r4, r5, r6)) ∧ Zz (kq ≤ k) ∧ Zz (Kd.R (Kd.int .i64) 2 w' w.heap.size (fun k_ => some k_ ≠ (u106003 : Value).ownBlock) v8 x8_1) ∧ Zz (Kd.R (Kd.int .i64) 2 w' w.heap.size (fun k_ => some k_ ≠ (v8 : Value).ownBlock) u106003 x106003_1) ∧ Zz (w'.heap[gp0]? = some (.cells #[.int .i64 a0_0, .int .i64 a0_1, .int .i64 a0_2, (.slice A0_3 l0_3.length c0_3)] 55 (0, 0))) ∧ Zz (w'.heap[gb101]? = some (.cells #[.int .i64 0, .int .i64 0, .int .i64 0, (.slice none 0 0)] 55 (0, 0))) ∧ Zz (w'.heap[gb105]? = some (.cells #[.int .i64 a0_0, .int .i64 a0_1, .int .i64 a0_2, u106003] 55 (0, 0))) ∧ Zz (Below w.heap.size w w'))
 case atStart => exact ⟨(y106), (1), (0), (0), (t102), (.slice Ao9 t102.length co9), E_, E_, E_, H', ⟨Nat.le_refl _⟩, ⟨by refine RW_ ?_; exact Kd.R_mono HO108.out (fun _ hk => hk.2)⟩, ⟨by refine RW_ ?_; exact Kd.R_mono HO104.out (fun _ hk => hk.2)⟩, ⟨KB_ BK50.out⟩, ⟨KB_ BK101.out⟩, ⟨KB_ BK105.out⟩, ⟨B2_ HB.out GE101.out GE105.out⟩⟩
 case round => as_aux_lemma =>
  clear H'
  (try clear hcz16_0);(try clear hcz16_1);(try clear hcz16_2);(try clear hcz16_3);(try clear hfz16_0);(try clear hfz16_1);(try clear hfz16_2);(try clear hfz16_3)
  obtain ⟨x8_1, x9_1, x10_1, x11_1, x106003_1, u106003, rfl, rfl, rfl, HA, HK1, HO_8, HO_106003, BK50, BK101, BK105, HB⟩ := hrel
  cases gk with
  | zero => exact absurd HA.out (by simp [z119.l0])
  | succ k1 =>
   have H := HA.out
   clear HA
   simp only [z119.l0] at H
   have HC19 := Zz.mk H
   clear H
   go_upto_region 8 with (fail)
   go_cut [58] (fun v58 wc => ∃ (kq : Nat) (x58_18 : Bool), v58 = .bool x58_18 ∧ Zz (z119.j1 kq a0_0 a0_2 x8_1 x9_1 x10_1 x11_1 x58_18 a0_0 a0_1 a0_2 l0_3 a0_0 a0_1 a0_2 x106003_1 = some (r1, r2, r3, r4, r5, r6)) ∧ Zz (kq ≤ k1) ∧ Zz (Kd.R (Kd.int .i64) 2 wc w.heap.size (fun k_ => some k_ ≠ (u106003 : Value).ownBlock) u8 x8_1) ∧ Zz (Kd.R (Kd.int .i64) 2 wc w.heap.size (fun k_ => some k_ ≠ (u8 : Value).ownBlock) u106003 x106003_1) ∧ Zz (wc.heap[gp0]? = some (.cells #[.int .i64 a0_0, .int .i64 a0_1, .int .i64 a0_2, (.slice A0_3 l0_3.length c0_3)] 55 (0, 0))) ∧ Zz (wc.heap[gb101]? = some (.cells #[.int .i64 0, .int .i64 0, .int .i64 0, (.slice none 0 0)] 55 (0, 0))) ∧ Zz (wc.heap[gb105]? = some (.cells #[.int .i64 a0_0, .int .i64 a0_1, .int .i64 a0_2, u106003] 55 (0, 0))) ∧ Zz (Below w.heap.size w wc))
   case first => as_aux_lemma =>
    have H := HC19.out
    clear HC19
    by_cases c20 : x11_1 < a0_2
    ·rw [if_pos c20] at H
     have c20b0 : decide (x11_1 < a0_2) = true := decide_eq_true c20
     clear c20
     (first | rw [c20b0] | (simp only [qBj, qBz]; rw [c20b0]) | skip)
     have H' := Zz.mk H
     clear H
     have hnb21 := NB50_101.out
     have hnc21 := NB101_50.out
     have hnb22 := NB50_105.out
     have hnc22 := NB105_50.out
     obtain ⟨hcz23_0, hcz23_1, hcz23_2, hcz23_3, hfz23_0, hfz23_1, hfz23_2, hfz23_3⟩ := Z4f_ BK50.out
     go_wp2
     go_meet
     case rel => exact ⟨_, (decide (x10_1 < a0_1)), E_, H', ⟨by have := HK1.out; first | omega | exact Nat.le_refl _⟩, ⟨KR_ HO_8.out⟩, ⟨KR_ HO_106003.out⟩, ⟨KB_ BK50.out⟩, ⟨KB_ BK101.out⟩, ⟨KB_ BK105.out⟩, ⟨B2_ HB.out GE101.out GE105.out⟩⟩
    rw [if_neg c20] at H
    have c20b0 : decide (x11_1 < a0_2) = false := decide_eq_false c20
    clear c20
    (first | rw [c20b0] | (simp only [qBj, qBz]; rw [c20b0]) | skip)
    have H' := Zz.mk H
    clear H
    go_wp2
    go_meet
    case rel => exact ⟨_, (false), E_, H', ⟨by have := HK1.out; first | omega | exact Nat.le_refl _⟩, ⟨KR_ HO_8.out⟩, ⟨KR_ HO_106003.out⟩, ⟨KB_ BK50.out⟩, ⟨KB_ BK101.out⟩, ⟨KB_ BK105.out⟩, ⟨B2_ HB.out GE101.out GE105.out⟩⟩
   case rest => as_aux_lemma =>
    clear HC19
    (try clear hcz16_0);(try clear hcz16_1);(try clear hcz16_2);(try clear hcz16_3);(try clear hfz16_0);(try clear hfz16_1);(try clear hfz16_2);(try clear hfz16_3)
    obtain ⟨kq, x58_18, rfl, HA, HJ18, HO_8, HO_106003, BK50, BK101, BK105, HB⟩ := hcut
    cases kq with
    | zero => exact absurd HA.out (by simp [z119.j1])
    | succ kj18 =>
     have H := HA.out
     clear HA
     simp only [z119.j1] at H
     by_cases c24 : x58_18 = true
     ·subst c24
      have H1 : (z119.l1 kj18 a0_0 a0_2 x8_1 x9_1 x10_1 x11_1 x10_1 a0_0 a0_1 a0_2 l0_3 a0_0 a0_1 a0_2 x106003_1) = some (r1, r2, r3, r4, r5, r6) := by rw [if_pos rfl] at H; exact H
      clear H
      have H := H1
      clear H1
      have HC25 := Zz.mk H
      clear H
      go_upto_block 2 with (fail)
      go_cut [12] (fun v12 wc => ∃ (kq : Nat) (x12_24 : Int), v12 = .int .i64 x12_24 ∧ Zz (z119.j3 kq a0_0 a0_2 x8_1 x9_1 x10_1 x11_1 x12_24 a0_0 a0_1 a0_2 l0_3 a0_0 a0_1 a0_2 x106003_1 = some (r1, r2, r3, r4, r5, r6)) ∧ Zz (kq ≤ kj18) ∧ Zz (Kd.R (Kd.int .i64) 2 wc w.heap.size (fun k_ => some k_ ≠ (u106003 : Value).ownBlock) u8 x8_1) ∧ Zz (Kd.R (Kd.int .i64) 2 wc w.heap.size (fun k_ => some k_ ≠ (u8 : Value).ownBlock) u106003 x106003_1) ∧ Zz (wc.heap[gp0]? = some (.cells #[.int .i64 a0_0, .int .i64 a0_1, .int .i64 a0_2, (.slice A0_3 l0_3.length c0_3)] 55 (0, 0))) ∧ Zz (wc.heap[gb101]? = some (.cells #[.int .i64 0, .int .i64 0, .int .i64 0, (.slice none 0 0)] 55 (0, 0))) ∧ Zz (wc.heap[gb105]? = some (.cells #[.int .i64 a0_0, .int .i64 a0_1, .int .i64 a0_2, u106003] 55 (0, 0))) ∧ Zz (Below w.heap.size w wc))
      case first => as_aux_lemma =>
       have H := HC25.out
       clear HC25
       have H' := Zz.mk H
       clear H
       go_wp2
       go_loopg [12] kj18 (fun kq v12 w' => ∃ (x12_3 : Int), v12 = .int .i64 x12_3 ∧ Zz (z119.l1 kq a0_0 a0_2 x8_1 x9_1 x10_1 x11_1 x12_3 a0_0 a0_1 a0_2 l0_3 a0_0 a0_1 a0_2 x106003_1 = some (r1, r2, r3, r4, r5, r6)) ∧ Zz (kq ≤ kj18) ∧ Zz (Kd.R (Kd.int .i64) 2 w' w.heap.size (fun k_ => some k_ ≠ (u106003 : Value).ownBlock) u8 x8_1) ∧ Zz (Kd.R (Kd.int .i64) 2 w' w.heap.size (fun k_ => some k_ ≠ (u8 : Value).ownBlock) u106003 x106003_1) ∧ Zz (w'.heap[gp0]? = some (.cells #[.int .i64 a0_0, .int .i64 a0_1, .int .i64 a0_2, (.slice A0_3 l0_3.length c0_3)] 55 (0, 0))) ∧ Zz (w'.heap[gb101]? = some (.cells #[.int .i64 0, .int .i64 0, .int .i64 0, (.slice none 0 0)] 55 (0, 0))) ∧ Zz (w'.heap[gb105]? = some (.cells #[.int .i64 a0_0, .int .i64 a0_1, .int .i64 a0_2, u106003] 55 (0, 0))) ∧ Zz (Below w.heap.size w w'))
       case atStart => exact ⟨(x10_1), E_, H', ⟨Nat.le_refl _⟩, ⟨KR_ HO_8.out⟩, ⟨KR_ HO_106003.out⟩, ⟨KB_ BK50.out⟩, ⟨KB_ BK101.out⟩, ⟨KB_ BK105.out⟩, ⟨B2_ HB.out GE101.out GE105.out⟩⟩
       case round => as_aux_lemma =>
        clear H'
        (try clear c24);(try clear hcz16_0);(try clear hcz16_1);(try clear hcz16_2);(try clear hcz16_3);(try clear hfz16_0);(try clear hfz16_1);(try clear hfz16_2);(try clear hfz16_3)
        obtain ⟨x12_3, rfl, HA, HK3, HO_8, HO_106003, BK50, BK101, BK105, HB⟩ := hrel
        cases gk with
        | zero => exact absurd HA.out (by simp [z119.l1])
        | succ k3 =>
         have H := HA.out
         clear HA
         simp only [z119.l1] at H
         by_cases c26 : x12_3 < a0_1
         ·rw [if_pos c26] at H
          have c26b0 : decide (x12_3 < a0_1) = true := decide_eq_true c26
          clear c26
          (first | rw [c26b0] | (simp only [qBj, qBz]; rw [c26b0]) | skip)
          obtain ⟨ji27, hji27⟩ : ∃ j_ : Int, (wrap64 ((wrap64 (x12_3 * a0_2)) + x11_1)) = j_ := ⟨_, rfl⟩
          replace H : (if 0 ≤ (ji27) then (if (ji27) < (x106003_1.length : Int) then (if (rd x106003_1 (ji27)) = 0 then (z119.l1 k3 a0_0 a0_2 x8_1 x9_1 x10_1 x11_1 (wrap64 (x12_3 + 1)) a0_0 a0_1 a0_2 l0_3 a0_0 a0_1 a0_2 x106003_1) else (z119.j3 k3 a0_0 a0_2 x8_1 x9_1 x10_1 x11_1 x12_3 a0_0 a0_1 a0_2 l0_3 a0_0 a0_1 a0_2 x106003_1)) else (none)) else (none)) = some (r1, r2, r3, r4, r5, r6) := by first | (rw [hji27] at H; exact H) | (simp only [hji27] at H ⊢; exact H)
          have hji27w : (IntKind.i64.wrap ((wrap64 (x12_3 * a0_2)) + x11_1)) = ji27 := (qBj _).trans hji27
          have c28b0 := O3_ H
          replace H := O2_ H
          have c29b0 := O3_ H
          replace H := O2_ H
          by_cases c30 : (rd x106003_1 (ji27)) = 0
          ·rw [if_pos c30] at H
           have c30b0 : ((rd x106003_1 (ji27)) == 0) = true := beq_iff_eq.mpr c30
           have c30b1 : ((rd x106003_1 (ji27)) != 0) = false := bne_eq_false_iff_eq.mpr c30
           clear c30
           have H' := Zz.mk H
           clear H
           have hnb31 := NB50_101.out
           have hnc31 := NB101_50.out
           have hnb32 := NB50_105.out
           have hnc32 := NB105_50.out
           obtain ⟨hcz33_0, hcz33_1, hcz33_2, hcz33_3, hfz33_0, hfz33_1, hfz33_2, hfz33_3⟩ := Z4f_ BK50.out
           have hnb34 := NB105_101.out
           have hnc34 := NB101_105.out
           obtain ⟨hcz35_0, hcz35_1, hcz35_2, hcz35_3, hfz35_0, hfz35_1, hfz35_2, hfz35_3⟩ := Z4f_ BK105.out
           obtain ⟨Ao36, co36, eo36⟩ := Kd.R_slice HO_106003.out
           subst eo36
           have p109 : 0 ≤ ((ji27) : Int) := D_
           have q109 : (ji27) < (x106003_1.length : Int) := D_
           obtain ⟨ad109, e109, hx109_0⟩ := Kd.at_int (Kd.R_reads' HO_106003.out).2.2 (ji27) p109 q109
           cases e109
           replace p109 := eq_true p109
           replace q109 := eq_true q109
           go_wp2
           go_roundg k3
           case measure => have := HK1.out; have := HJ18.out; have := HK3.out; omega
           case rel => exact ⟨(wrap64 (x12_3 + 1)), E_, H', ⟨by have := HK1.out; have := HJ18.out; have := HK3.out; omega⟩, ⟨KR_ HO_8.out⟩, ⟨KR_ HO_106003.out⟩, ⟨KB_ BK50.out⟩, ⟨KB_ BK101.out⟩, ⟨KB_ BK105.out⟩, ⟨B2_ HB.out GE101.out GE105.out⟩⟩
          rw [if_neg c30] at H
          have c30b0 : ((rd x106003_1 (ji27)) == 0) = false := beq_eq_false_iff_ne.mpr c30
          have c30b1 : ((rd x106003_1 (ji27)) != 0) = true := bne_iff_ne.mpr c30
          have H' := Zz.mk H
          clear H
          have hnb37 := NB50_101.out
          have hnc37 := NB101_50.out
          have hnb38 := NB50_105.out
          have hnc38 := NB105_50.out
          obtain ⟨hcz39_0, hcz39_1, hcz39_2, hcz39_3, hfz39_0, hfz39_1, hfz39_2, hfz39_3⟩ := Z4f_ BK50.out
          have hnb40 := NB105_101.out
          have hnc40 := NB101_105.out
          obtain ⟨hcz41_0, hcz41_1, hcz41_2, hcz41_3, hfz41_0, hfz41_1, hfz41_2, hfz41_3⟩ := Z4f_ BK105.out
          obtain ⟨Ao42, co42, eo42⟩ := Kd.R_slice HO_106003.out
          subst eo42
          have p109 : 0 ≤ ((ji27) : Int) := D_
          have q109 : (ji27) < (x106003_1.length : Int) := D_
          obtain ⟨ad109, e109, hx109_0⟩ := Kd.at_int (Kd.R_reads' HO_106003.out).2.2 (ji27) p109 q109
          cases e109
          replace p109 := eq_true p109
          replace q109 := eq_true q109
          go_wp2
          go_meet
          case rel => exact ⟨_, (x12_3), E_, H', ⟨by have := HK1.out; have := HJ18.out; have := HK3.out; first | omega | exact Nat.le_refl _⟩, ⟨KR_ HO_8.out⟩, ⟨KR_ HO_106003.out⟩, ⟨KB_ BK50.out⟩, ⟨KB_ BK101.out⟩, ⟨KB_ BK105.out⟩, ⟨B2_ HB.out GE101.out GE105.out⟩⟩
         rw [if_neg c26] at H
         have c26b0 : decide (x12_3 < a0_1) = false := decide_eq_false c26
         clear c26
         (first | rw [c26b0] | (simp only [qBj, qBz]; rw [c26b0]) | skip)
         have H' := Zz.mk H
         clear H
         have hnb43 := NB50_101.out
         have hnc43 := NB101_50.out
         have hnb44 := NB50_105.out
         have hnc44 := NB105_50.out
         obtain ⟨hcz45_0, hcz45_1, hcz45_2, hcz45_3, hfz45_0, hfz45_1, hfz45_2, hfz45_3⟩ := Z4f_ BK50.out
         go_wp2
         go_meet
         case rel => exact ⟨_, (x12_3), E_, H', ⟨by have := HK1.out; have := HJ18.out; have := HK3.out; first | omega | exact Nat.le_refl _⟩, ⟨KR_ HO_8.out⟩, ⟨KR_ HO_106003.out⟩, ⟨KB_ BK50.out⟩, ⟨KB_ BK101.out⟩, ⟨KB_ BK105.out⟩, ⟨B2_ HB.out GE101.out GE105.out⟩⟩
      case rest => as_aux_lemma =>
       clear HC25
       (try clear c24);(try clear hcz16_0);(try clear hcz16_1);(try clear hcz16_2);(try clear hcz16_3)
       (try clear hfz16_0);(try clear hfz16_1);(try clear hfz16_2);(try clear hfz16_3)
       obtain ⟨kq, x12_24, rfl, HA, HJ24, HO_8, HO_106003, BK50, BK101, BK105, HB⟩ := hcut
       cases kq with
       | zero => exact absurd HA.out (by simp [z119.j3])
       | succ kj24 =>
        have H := HA.out
        clear HA
        simp only [z119.j3] at H
        by_cases c46 : x12_24 = a0_1
        ·rw [if_pos c46] at H
         have c46b0 : (x12_24 == a0_1) = true := beq_iff_eq.mpr c46
         have c46b1 : (x12_24 != a0_1) = false := bne_eq_false_iff_eq.mpr c46
         clear c46
         have H' := Zz.mk H
         clear H
         have hnb47 := NB50_101.out
         have hnc47 := NB101_50.out
         have hnb48 := NB50_105.out
         have hnc48 := NB105_50.out
         obtain ⟨hcz49_0, hcz49_1, hcz49_2, hcz49_3, hfz49_0, hfz49_1, hfz49_2, hfz49_3⟩ := Z4f_ BK50.out
         go_wp2
         go_roundg kj24
         case measure => have := HK1.out; have := HJ18.out; have := HJ24.out; omega
         case rel => exact ⟨(x8_1), (x9_1), (x10_1), (wrap64 (x11_1 + 1)), (x106003_1), (u106003), E_, E_, E_, H', ⟨by have := HK1.out; have := HJ18.out; have := HJ24.out; omega⟩, ⟨KR_ HO_8.out⟩, ⟨KR_ HO_106003.out⟩, ⟨KB_ BK50.out⟩, ⟨KB_ BK101.out⟩, ⟨KB_ BK105.out⟩, ⟨B2_ HB.out GE101.out GE105.out⟩⟩
        rw [if_neg c46] at H
        have c46b0 : (x12_24 == a0_1) = false := beq_eq_false_iff_ne.mpr c46
        have c46b1 : (x12_24 != a0_1) = true := bne_iff_ne.mpr c46
        have HC50 := Zz.mk H
        clear H
        have hnb51 := NB50_101.out
        have hnc51 := NB101_50.out
        have hnb52 := NB50_105.out
        have hnc52 := NB105_50.out
        obtain ⟨hcz53_0, hcz53_1, hcz53_2, hcz53_3, hfz53_0, hfz53_1, hfz53_2, hfz53_3⟩ := Z4f_ BK50.out
        go_upto_if 90 with (fail)
        go_cut [9] (fun v9 wc => ∃ (kq : Nat) (x8_49 : List Int) (x9_49 : Int) (x106003_49 : List Int) (u106003 : Value), v9 = .int .i64 x9_49 ∧ Zz (z119.j5 kq a0_0 a0_2 x8_49 x9_49 x10_1 x11_1 a0_0 a0_1 a0_2 l0_3 a0_0 a0_1 a0_2 x106003_49 = some (r1, r2, r3, r4, r5, r6)) ∧ Zz (kq ≤ kj24) ∧ Zz (Kd.R (Kd.int .i64) 2 wc w.heap.size (fun k_ => some k_ ≠ (u106003 : Value).ownBlock) u8 x8_49) ∧ Zz (Kd.R (Kd.int .i64) 2 wc w.heap.size (fun k_ => some k_ ≠ (u8 : Value).ownBlock) u106003 x106003_49) ∧ Zz (wc.heap[gp0]? = some (.cells #[.int .i64 a0_0, .int .i64 a0_1, .int .i64 a0_2, (.slice A0_3 l0_3.length c0_3)] 55 (0, 0))) ∧ Zz (wc.heap[gb101]? = some (.cells #[.int .i64 0, .int .i64 0, .int .i64 0, (.slice none 0 0)] 55 (0, 0))) ∧ Zz (wc.heap[gb105]? = some (.cells #[.int .i64 a0_0, .int .i64 a0_1, .int .i64 a0_2, u106003] 55 (0, 0))) ∧ Zz (Below w.heap.size w wc))
        case first => as_aux_lemma =>
         have H := HC50.out
         clear HC50
         by_cases c54 : x12_24 = x10_1
         ·rw [if_pos c54] at H
          have c54b0 : (x12_24 == x10_1) = true := beq_iff_eq.mpr c54
          have c54b1 : (x12_24 != x10_1) = false := bne_eq_false_iff_eq.mpr c54
          clear c54
          (first | rw [c54b0] | (simp only [qBj, qBz]; rw [c54b0]) |rw [c54b1] | skip)
          have H' := Zz.mk H
          clear H
          go_wp2
          go_meet
          case rel => exact ⟨_, (x8_1), (x9_1), (x106003_1), (u106003), E_, H', ⟨by have := HK1.out; have := HJ18.out; have := HJ24.out; first | omega | exact Nat.le_refl _⟩, ⟨KR_ HO_8.out⟩, ⟨KR_ HO_106003.out⟩, ⟨KB_ BK50.out⟩, ⟨KB_ BK101.out⟩, ⟨KB_ BK105.out⟩, ⟨B2_ HB.out GE101.out GE105.out⟩⟩
         rw [if_neg c54] at H
         have c54b0 : (x12_24 == x10_1) = false := beq_eq_false_iff_ne.mpr c54
         have c54b1 : (x12_24 != x10_1) = true := bne_iff_ne.mpr c54
         (first | rw [c54b0] | (simp only [qBj, qBz]; rw [c54b0]) |rw [c54b1] | skip)
         have H' := Zz.mk H
         clear H
         go_wp2
         go_loopg [13] kj24 (fun kq v13 w' => ∃ (x8_4 : List Int) (x13_4 : Int) (x106003_4 : List Int) (u106003 : Value), v13 = .int .i64 x13_4 ∧ Zz (z119.l2 kq a0_0 a0_2 x8_4 (wrap64 (a0_0 - x9_1)) x10_1 x11_1 x12_24 x13_4 a0_0 a0_1 a0_2 l0_3 a0_0 a0_1 a0_2 x106003_4 = some (r1, r2, r3, r4, r5, r6)) ∧ Zz (kq ≤ kj24) ∧ Zz (Kd.R (Kd.int .i64) 2 w' w.heap.size (fun k_ => some k_ ≠ (u106003 : Value).ownBlock) u8 x8_4) ∧ Zz (Kd.R (Kd.int .i64) 2 w' w.heap.size (fun k_ => some k_ ≠ (u8 : Value).ownBlock) u106003 x106003_4) ∧ Zz (w'.heap[gp0]? = some (.cells #[.int .i64 a0_0, .int .i64 a0_1, .int .i64 a0_2, (.slice A0_3 l0_3.length c0_3)] 55 (0, 0))) ∧ Zz (w'.heap[gb101]? = some (.cells #[.int .i64 0, .int .i64 0, .int .i64 0, (.slice none 0 0)] 55 (0, 0))) ∧ Zz (w'.heap[gb105]? = some (.cells #[.int .i64 a0_0, .int .i64 a0_1, .int .i64 a0_2, u106003] 55 (0, 0))) ∧ Zz (Below w.heap.size w w'))
         case atStart => exact ⟨(x8_1), (0), (x106003_1), (u106003), E_, H', ⟨Nat.le_refl _⟩, ⟨KR_ HO_8.out⟩, ⟨KR_ HO_106003.out⟩, ⟨KB_ BK50.out⟩, ⟨KB_ BK101.out⟩, ⟨KB_ BK105.out⟩, ⟨B2_ HB.out GE101.out GE105.out⟩⟩
         case round => as_aux_lemma =>
          clear H'
          (try clear c24);(try clear c46);(try clear c46b0);(try clear c46b1);(try clear c54);(try clear c54b0);(try clear c54b1);(try clear hcz16_0);(try clear hcz16_1);(try clear hcz16_2);(try clear hcz16_3)
          (try clear hcz53_0);(try clear hcz53_1);(try clear hcz53_2);(try clear hcz53_3);(try clear hfz16_0);(try clear hfz16_1);(try clear hfz16_2);(try clear hfz16_3)
          (try clear hfz53_0);(try clear hfz53_1);(try clear hfz53_2);(try clear hfz53_3)
          obtain ⟨x8_4, x13_4, x106003_4, u106003, rfl, HA, HK4, HO_8, HO_106003, BK50, BK101, BK105, HB⟩ := hrel
          cases gk with
          | zero => exact absurd HA.out (by simp [z119.l2])
          | succ k4 =>
           have H := HA.out
           clear HA
           simp only [z119.l2] at H
           by_cases c55 : x13_4 < a0_2
           ·rw [if_pos c55] at H
            have c55b0 : decide (x13_4 < a0_2) = true := decide_eq_true c55
            clear c55
            obtain ⟨ji56, hji56⟩ : ∃ j_ : Int, (wrap64 ((wrap64 (x12_24 * a0_2)) + x13_4)) = j_ := ⟨_, rfl⟩
            replace H : (if 0 ≤ (ji56) then (if (ji56) < (x106003_4.length : Int) then (if 0 ≤ (wrap64 ((wrap64 (x10_1 * a0_2)) + x13_4)) then (if (wrap64 ((wrap64 (x10_1 * a0_2)) + x13_4)) < (x106003_4.length : Int) then (z119.l2 k4 a0_0 a0_2 x8_4 (wrap64 (a0_0 - x9_1)) x10_1 x11_1 x12_24 (wrap64 (x13_4 + 1)) a0_0 a0_1 a0_2 l0_3 a0_0 a0_1 a0_2 ((x106003_4.set ((ji56) : Int).toNat (rd x106003_4 (wrap64 ((wrap64 (x10_1 * a0_2)) + x13_4)))).set ((wrap64 ((wrap64 (x10_1 * a0_2)) + x13_4)) : Int).toNat (rd x106003_4 (ji56)))) else (none)) else (none)) else (none)) else (none)) = some (r1, r2, r3, r4, r5, r6) := by first | (rw [hji56] at H; exact H) | (simp only [hji56] at H ⊢; exact H)
            have hji56w : (IntKind.i64.wrap ((wrap64 (x12_24 * a0_2)) + x13_4)) = ji56 := (qBj _).trans hji56
            have c57b0 := O3_ H
            replace H := O2_ H
            have c58b0 := O3_ H
            replace H := O2_ H
            obtain ⟨ji59, hji59⟩ : ∃ j_ : Int, (wrap64 ((wrap64 (x10_1 * a0_2)) + x13_4)) = j_ := ⟨_, rfl⟩
            replace H : (if 0 ≤ (ji59) then (if (ji59) < (x106003_4.length : Int) then (z119.l2 k4 a0_0 a0_2 x8_4 (wrap64 (a0_0 - x9_1)) x10_1 x11_1 x12_24 (wrap64 (x13_4 + 1)) a0_0 a0_1 a0_2 l0_3 a0_0 a0_1 a0_2 ((x106003_4.set ((ji56) : Int).toNat (rd x106003_4 (ji59))).set ((ji59) : Int).toNat (rd x106003_4 (ji56)))) else (none)) else (none)) = some (r1, r2, r3, r4, r5, r6) := by first | (rw [hji59] at H; exact H) | (simp only [hji59] at H ⊢; exact H)
            have hji59w : (IntKind.i64.wrap ((wrap64 (x10_1 * a0_2)) + x13_4)) = ji59 := (qBj _).trans hji59
            have c60b0 := O3_ H
            replace H := O2_ H
            have c61b0 := O3_ H
            replace H := O2_ H
            obtain ⟨y112, hy112⟩ : ∃ y_ : List Int, y_ = (x106003_4.set ((ji56) : Int).toNat (rd x106003_4 (ji59))) := ⟨_, rfl⟩
            replace H : (z119.l2 k4 a0_0 a0_2 x8_4 (wrap64 (a0_0 - x9_1)) x10_1 x11_1 x12_24 (wrap64 (x13_4 + 1)) a0_0 a0_1 a0_2 l0_3 a0_0 a0_1 a0_2 (y112.set ((ji59) : Int).toNat (rd x106003_4 (ji56)))) = some (r1, r2, r3, r4, r5, r6) := Y_ hy112 H
            have Ny112 := Zz.mk hy112
            clear hy112
            obtain ⟨y113, hy113⟩ : ∃ y_ : List Int, y_ = (y112.set ((ji59) : Int).toNat (rd x106003_4 (ji56))) := ⟨_, rfl⟩
            replace H : (z119.l2 k4 a0_0 a0_2 x8_4 (wrap64 (a0_0 - x9_1)) x10_1 x11_1 x12_24 (wrap64 (x13_4 + 1)) a0_0 a0_1 a0_2 l0_3 a0_0 a0_1 a0_2 y113) = some (r1, r2, r3, r4, r5, r6) := Y_ hy113 H
            have Ny113 := Zz.mk hy113
            clear hy113
            have H' := Zz.mk H
            clear H
            have hnb64 := NB105_50.out
            have hnc64 := NB50_105.out
            have hnb65 := NB105_101.out
            have hnc65 := NB101_105.out
            obtain ⟨hcz66_0, hcz66_1, hcz66_2, hcz66_3, hfz66_0, hfz66_1, hfz66_2, hfz66_3⟩ := Z4f_ BK105.out
            obtain ⟨Ao67, co67, eo67⟩ := Kd.R_slice HO_106003.out
            subst eo67
            have p110 : 0 ≤ ((ji56) : Int) := D_
            have q110 : (ji56) < (x106003_4.length : Int) := D_
            obtain ⟨ad110, e110, hx110_0⟩ := Kd.at_int (Kd.R_reads' HO_106003.out).2.2 (ji56) p110 q110
            cases e110
            replace p110 := eq_true p110
            replace q110 := eq_true q110
            try go_wp2
            replace HO_8 := Zz.mk (Kd.R_drew HO_8.out)
            replace HO_106003 := Zz.mk (Kd.R_drew HO_106003.out)
            replace BK50 := Zz.mk (bD_ BK50.out)
            replace BK101 := Zz.mk (bD_ BK101.out)
            replace BK105 := Zz.mk (bD_ BK105.out)
            replace HB := Zz.mk (qAj HB.out)
            have p111 : 0 ≤ ((ji59) : Int) := D_
            have q111 : (ji59) < (x106003_4.length : Int) := D_
            obtain ⟨ad111, e111, hx111_0⟩ := Kd.at_int (Kd.R_reads' HO_106003.out).2.2 (ji59) p111 q111
            obtain rfl : ad110 = ad111 := (by injection e111)
            replace p111 := eq_true p111
            replace q111 := eq_true q111
            have p62 : 0 ≤ ((ji56) : Int) := D_
            have q62 : ((ji56) : Int) < ((x106003_4.length : Int) : Int) := D_
            obtain ⟨go62, co62, eo62, gb62, gl62, cl62, HG62⟩ := Kd.R_form HO_106003.out (by omega)
            (first | cases eo62 | (injection eo62 with ea_ en_ ec_; (first | subst ea_ | (injection ea_ with ea_; subst ea_)); subst ec_; clear en_))
            have GB62 := Zz.mk gb62
            have GG62 := Zz.mk HG62
            clear gb62 gl62 HG62
            (first | simp only [qA5] at hx110_0 | skip)
            (first | simp only [qA5] at hx111_0 | skip)
            obtain ⟨hx62_0, hf62_0⟩ := Kd.R_celln 0 HO_106003.out ((ji56) : Int) p62 q62
            replace p62 := eq_true p62
            replace q62 := eq_true q62
            have HP69 := Kd.R_putn HO_106003.out ((ji56) : Int) (rd x106003_4 (ji59))
            rw [← Ny112.out] at HP69
            have HQ69 := Zz.mk HP69
            clear HP69
            refine qBf (n := 18) (S := fun w' => w'.cell? ⟨gb105, 0, none⟩ = some (.int .i64 a0_0) ∧ w'.cell? ⟨gb105, 1, none⟩ = some (.int .i64 a0_1) ∧ w'.cell? ⟨gb105, 2, none⟩ = some (.int .i64 a0_2) ∧ w'.cell? ⟨gb105, 3, none⟩ = some (.slice (some ⟨go62, 0, none⟩) x106003_4.length co67) ∧ w'.cell? ⟨go62, ((ji59)).toNat, none⟩ = some (.int .i64 (rd x106003_4 (ji59)))) (ds := [17]) (tb_ 18 0) (by kernel_rfl) rfl rfl ⟨(bC_ BK105.out 0).trans rfl, (bC_ BK105.out 1).trans rfl, (bC_ BK105.out 2).trans rfl, (bC_ BK105.out 3).trans rfl, hx111_0⟩ (fun hHeld => ?_); refine qAv z119.tab20 z119.bits20 (fun HT_ HW_ => ?_)
            generalize wr.drew = w68 at HO_8 HO_106003 BK50 BK101 BK105 HB GG62 HQ69 hf62_0 hx110_0 hx111_0 hx62_0 hHeld ⊢
            refine PX_ 0 108 (tb_ 18 1) HT_ rfl rfl ?_
            refine PX_ 2 110 (tb_ 18 5) HT_ rfl rfl ?_
            refine PX_ 3 111 (tb_ 18 13) HT_ rfl rfl ?_
            refine PX_ 4 112 (tb_ 18 29) HT_ rfl rfl ?_
            refine PX_ 5 113 (tb_ 18 61) HT_ rfl rfl ?_
            refine PX_ 6 114 (tb_ 18 125) HT_ rfl rfl ?_
            refine PX_ 7 115 (tb_ 18 253) HT_ rfl rfl ?_
            refine PX_ 9 117 (tb_ 18 765) HT_ rfl rfl ?_
            refine PX_ 10 118 (tb_ 18 1789) HT_ rfl rfl ?_
            refine PX_ 11 119 (tb_ 18 3837) HT_ rfl rfl ?_
            refine PX_ 12 120 (tb_ 18 7933) HT_ rfl rfl ?_
            refine PX_ 13 121 (tb_ 18 16125) HT_ rfl rfl ?_
            refine TV_ (i := 1) (N := some 109) (tb_ 18 16127) HT_ HW_ rfl rfl hHeld (by rintro w' ⟨s0, s1, s2, s3, s4⟩; go_simp; with_reducible rfl) (h := ?_)
            refine TV_ (i := 8) (N := some 116) (tb_ 18 16383) HT_ HW_ rfl rfl hHeld (by rintro w' ⟨s0, s1, s2, s3, s4⟩; go_simp; with_reducible rfl) (h := ?_)
            refine PX_ 14 122 (tb_ 18 32767) HT_ rfl rfl ?_
            refine TV_ (i := 15) (N := some 123) (tb_ 18 65535) HT_ HW_ rfl rfl hHeld (by rintro w' ⟨s0, s1, s2, s3, s4⟩; go_simp; with_reducible rfl) (h := ?_)
            refine PX_ 16 124 (tb_ 18 131071) HT_ rfl rfl ?_
            refine qFt (i := 17) (N := none) (tb_ 18 262143) rfl rfl (qAs HT_.out (by kernel_rfl)) (by decide) (fun K hK => ?_)
            refine qEy (w1 := ?_) (by rfl) rfl ?_ ?_
            rotate_left
            ·go_simp
             rfl
            refine hK.out _ _ ?_
            clear hK K
            refine qB0 (qA4 HT_.out (by kernel_rfl)) ?_
            have n0_ : Zz (Kd.R (Kd.int .i64) 2 (w68.setCell ⟨go62, ((ji56) : Int).toNat, none⟩ (.int .i64 (rd x106003_4 (ji59)))) w.heap.size (fun k_ => some k_ ≠ (.slice (some ⟨go62, 0, none⟩) x106003_4.length co67 : Value).ownBlock) u8 x8_4) := ⟨by refine RW_ ?_; exact Kd.R_mono (Kd.R_far (p := ⟨go62, ((ji56) : Int).toNat, none⟩) (Kd.R_mono HO_8.out (fun k_ hk => (⟨hk, fun e_ => hk (by rw [e_]; rfl)⟩ : _ ∧ k_ ≠ go62))) (fun _ hk => hk.2) (.int .i64 (rd x106003_4 (ji59)))) (fun _ hk => hk.1)⟩
            have n1_ : Zz (Kd.R (Kd.int .i64) 2 (w68.setCell ⟨go62, ((ji56) : Int).toNat, none⟩ (.int .i64 (rd x106003_4 (ji59)))) w.heap.size (fun k_ => some k_ ≠ (u8 : Value).ownBlock) (.slice (some ⟨go62, 0, none⟩) x106003_4.length co67) y112) := ⟨KR_ HQ69.out⟩
            have n2_ : Zz ((w68.setCell ⟨go62, ((ji56) : Int).toNat, none⟩ (.int .i64 (rd x106003_4 (ji59)))).heap[gp0]? = some (.cells #[.int .i64 a0_0, .int .i64 a0_1, .int .i64 a0_2, .slice A0_3 l0_3.length c0_3] 55 (0, 0))) := ⟨by refine BW_ ?_; refine bR_ ?_ (by have h_ := Kd.R_ne HO_106003.out BK50.out (by decide); intro e_; exact h_ (by rw [e_]; rfl)) _; refine BW_ ?_; exact BK50.out⟩
            have n3_ : Zz ((w68.setCell ⟨go62, ((ji56) : Int).toNat, none⟩ (.int .i64 (rd x106003_4 (ji59)))).heap[gb101]? = some (.cells #[.int .i64 0, .int .i64 0, .int .i64 0, .slice none 0 0] 55 (0, 0))) := ⟨by refine BW_ ?_; refine bR_ ?_ (by have h_ := Kd.R_ne HO_106003.out BK101.out (by decide); intro e_; exact h_ (by rw [e_]; rfl)) _; refine BW_ ?_; exact BK101.out⟩
            have n4_ : Zz ((w68.setCell ⟨go62, ((ji56) : Int).toNat, none⟩ (.int .i64 (rd x106003_4 (ji59)))).heap[gb105]? = some (.cells #[.int .i64 a0_0, .int .i64 a0_1, .int .i64 a0_2, .slice (some ⟨go62, 0, none⟩) x106003_4.length co67] 55 (0, 0))) := ⟨by refine BW_ ?_; refine bR_ ?_ (by have h_ := Kd.R_ne HO_106003.out BK105.out (by decide); intro e_; exact h_ (by rw [e_]; rfl)) _; refine BW_ ?_; exact BK105.out⟩
            have n5_ : Zz (Below w.heap.size w (w68.setCell ⟨go62, ((ji56) : Int).toNat, none⟩ (.int .i64 (rd x106003_4 (ji59))))) := ⟨B3_ HB.out GB62.out GE101.out GE105.out⟩
            (try clear HO_8);(try clear HO_106003);(try clear BK50);(try clear BK101);(try clear BK105);(try clear HB)
            generalize (w68.setCell ⟨go62, ((ji56) : Int).toNat, none⟩ (.int .i64 (rd x106003_4 (ji59)))) = w70 at n0_ n1_ n2_ n3_ n4_ n5_ ⊢
            have HO_8 := n0_
            have HO_106003 := n1_
            have BK50 := n2_
            have BK101 := n3_
            have BK105 := n4_
            have HB := n5_
            clear n0_ n1_ n2_ n3_ n4_ n5_
            obtain ⟨hcz71_0, hcz71_1, hcz71_2, hcz71_3, hfz71_0, hfz71_1, hfz71_2, hfz71_3⟩ := Z4f_ BK105.out
            have p63 : 0 ≤ ((ji59) : Int) := D_
            have q63 : ((ji59) : Int) < ((x106003_4.length : Int) : Int) := D_
            obtain ⟨hx63_0, hf63_0⟩ := Kd.R_celln 0 HO_106003.out ((ji59) : Int) p63 q63
            replace p63 := eq_true p63
            replace q63 := eq_true q63
            obtain ⟨hy72_, hz72_⟩ := Kd.R_celln 0 HO_106003.out ((ji59) : Int) (D_) (D_)
            have HP72 := Kd.R_putg HO_106003.out ((ji59) : Int) (rd x106003_4 (ji56))
            try go_wp2_with (first | ((with_reducible refine qB7 (t := 2) (p := 133) rfl ?_); refine qB1 (t := 2) (p := 133) (v := ?vo_w73) (w1 := (w70.setCell ⟨go62, ((ji59) : Int).toNat, none⟩ (.int .i64 (rd x106003_4 (ji56))))) ?hg ?ho ?hn ?hr ?_; (case ho => rfl); (case hg => rfl); (case hn => rfl); (case hr => first | (go_simp; done) | (go_simp; rfl)); intro w73 hw; have hg : w70.grownBy w73 (some go62) := (by rw [hw]; exact HP72.2); have hp_ : Kd.R (Kd.int .i64) 2 w73 w.heap.size (fun k_ => some k_ ≠ (u8 : Value).ownBlock) (.slice (some ⟨go62, 0, none⟩) x106003_4.length co67) y113 := (by rw [hw, Ny113.out]; exact HP72.1); clear HP72; replace HO_8 := Zz.mk (Kd.R_after (v := (.slice (some ⟨go62, 0, none⟩) x106003_4.length co67)) (v1 := (.slice (some ⟨go62, 0, none⟩) x106003_4.length co67)) (ok := (fun _ => True)) (by refine RW_ ?_; exact Kd.R_mono HO_8.out (fun _ hk => ⟨trivial, hk⟩)) hg (.inl rfl)); replace BK50 := Zz.mk (qAy (g := gp0) (o := .cells #[.int .i64 a0_0, .int .i64 a0_1, .int .i64 a0_2, .slice A0_3 l0_3.length c0_3] 55 (0, 0)) (KB_ BK50.out) hg (Kd.R_ne HO_106003.out BK50.out (by decide))); replace BK101 := Zz.mk (qAy (g := gb101) (o := .cells #[.int .i64 0, .int .i64 0, .int .i64 0, .slice none 0 0] 55 (0, 0)) (KB_ BK101.out) hg (Kd.R_ne HO_106003.out BK101.out (by decide))); replace BK105 := Zz.mk (qAy (g := gb105) (o := .cells #[.int .i64 a0_0, .int .i64 a0_1, .int .i64 a0_2, .slice (some ⟨go62, 0, none⟩) x106003_4.length co67] 55 (0, 0)) (KB_ BK105.out) hg (Kd.R_ne HO_106003.out BK105.out (by decide))); replace HO_106003 := Zz.mk (hp_); replace HB := Zz.mk ((by rw [hw]; exact qAp (HB.out) GB62.out : Below w.heap.size w w73)); clear hg hw hp_))
            go_roundg k4
            case measure => have := HK1.out; have := HJ18.out; have := HJ24.out; have := HK4.out; omega
            case rel => exact ⟨(x8_4), (wrap64 (x13_4 + 1)), (y113), (.slice (some ⟨go62, 0, none⟩) x106003_4.length co67), E_, H', ⟨by have := HK1.out; have := HJ18.out; have := HJ24.out; have := HK4.out; omega⟩, ⟨by refine RW_ ?_; exact Kd.R_mono HO_8.out (fun _ hk => hk.2)⟩, ⟨KR_ HO_106003.out⟩, ⟨KB_ BK50.out⟩, ⟨KB_ BK101.out⟩, ⟨KB_ BK105.out⟩, ⟨B2_ HB.out GE101.out GE105.out⟩⟩
           rw [if_neg c55] at H
           have c55b0 : decide (x13_4 < a0_2) = false := decide_eq_false c55
           clear c55
           have H' := Zz.mk H
           clear H
           go_wp2
           go_meet
           case rel => exact ⟨_, (x8_4), ((wrap64 (a0_0 - x9_1))), (x106003_4), (u106003), E_, H', ⟨by have := HK1.out; have := HJ18.out; have := HJ24.out; have := HK4.out; first | omega | exact Nat.le_refl _⟩, ⟨KR_ HO_8.out⟩, ⟨KR_ HO_106003.out⟩, ⟨KB_ BK50.out⟩, ⟨KB_ BK101.out⟩, ⟨KB_ BK105.out⟩, ⟨B2_ HB.out GE101.out GE105.out⟩⟩
        case rest => as_aux_lemma =>
         clear HC50
         (try clear c24);(try clear c46);(try clear c46b0);(try clear c46b1)
         (try clear hcz16_0);(try clear hcz16_1);(try clear hcz16_2);(try clear hcz16_3)
         (try clear hcz53_0);(try clear hcz53_1);(try clear hcz53_2);(try clear hcz53_3);(try clear hfz16_0);(try clear hfz16_1);(try clear hfz16_2);(try clear hfz16_3)
         (try clear hfz53_0);(try clear hfz53_1);(try clear hfz53_2);(try clear hfz53_3)
         obtain ⟨kq, x8_49, x9_49, x106003_49, u106003, rfl, HA, HJ49, HO_8, HO_106003, BK50, BK101, BK105, HB⟩ := hcut
         cases kq with
         | zero => exact absurd HA.out (by simp [z119.j5])
         | succ kj49 =>
          have H := HA.out
          clear HA
          simp only [z119.j5] at H
          obtain ⟨ji74, hji74⟩ : ∃ j_ : Int, (wrap64 ((wrap64 (x10_1 * a0_2)) + x11_1)) = j_ := ⟨_, rfl⟩
          replace H : (if 0 ≤ (ji74) then (if (ji74) < (x106003_49.length : Int) then (if a0_0 = 0 then (none) else ((z137.f kj49 (rd x106003_49 (ji74)) a0_0).bind fun t115 => (z119.l3 kj49 a0_0 a0_2 x8_49 (Int.tmod (wrap64 (x9_49 * (rd x106003_49 (ji74)))) a0_0) x10_1 x11_1 t115 0 a0_0 a0_1 a0_2 l0_3 a0_0 a0_1 a0_2 x106003_49))) else (none)) else (none)) = some (r1, r2, r3, r4, r5, r6) := by first | (rw [hji74] at H; exact H) | (simp only [hji74] at H ⊢; exact H)
          have hji74w : (IntKind.i64.wrap ((wrap64 (x10_1 * a0_2)) + x11_1)) = ji74 := (qBj _).trans hji74
          have c75b0 := O3_ H
          replace H := O2_ H
          have c76b0 := O3_ H
          replace H := O2_ H
          by_cases c77 : a0_0 = 0
          ·rw [if_pos c77] at H
           exact X_ H
          rw [if_neg c77] at H
          have c77b0 : (a0_0 == 0) = false := beq_eq_false_iff_ne.mpr c77
          have c77b1 : (a0_0 != 0) = true := bne_iff_ne.mpr c77
          replace H := OB_ H
          obtain ⟨t115, A780, H⟩ := H
          replace H : (z119.l3 kj49 a0_0 a0_2 x8_49 (Int.tmod (wrap64 (x9_49 * (rd x106003_49 (ji74)))) a0_0) x10_1 x11_1 t115 0 a0_0 a0_1 a0_2 l0_3 a0_0 a0_1 a0_2 x106003_49) = some (r1, r2, r3, r4, r5, r6) := H
          have A78 := Zz.mk A780
          clear A780
          have H' := Zz.mk H
          clear H
          have hnb79 := NB105_50.out
          have hnc79 := NB50_105.out
          have hnb80 := NB105_101.out
          have hnc80 := NB101_105.out
          obtain ⟨hcz81_0, hcz81_1, hcz81_2, hcz81_3, hfz81_0, hfz81_1, hfz81_2, hfz81_3⟩ := Z4f_ BK105.out
          obtain ⟨Ao82, co82, eo82⟩ := Kd.R_slice HO_106003.out
          subst eo82
          have p114 : 0 ≤ ((ji74) : Int) := D_
          have q114 : (ji74) < (x106003_49.length : Int) := D_
          obtain ⟨ad114, e114, hx114_0⟩ := Kd.at_int (Kd.R_reads' HO_106003.out).2.2 (ji74) p114 q114
          cases e114
          replace p114 := eq_true p114
          replace q114 := eq_true q114
          go_wp2_with (first | ((with_reducible refine gC_ (f := 137) rfl ?_); refine qHv (some 150) rfl rfl Try.func137 (by kernel_rfl) rfl #[.int .i64 (rd x106003_49 (ji74)), .int .i64 a0_0] rfl (by (try simp only [List.map_toArray, List.map_cons, List.map_nil]); first | done | (simp only [hji74]; rfl) | rfl | (simp only [List.length_drop, List.length_take]; rfl)) ?_; (with_reducible refine (z137.calls kj49 (rd x106003_49 (ji74)) a0_0 t115 _ A78.out).mono ?_); rintro e w' ⟨rfl, ⟨nd, rfl⟩⟩; refine ⟨_, rfl, ?_⟩))
          go_loopg [17] kj49 (fun kq v17 w' => ∃ (x8_5 : List Int) (x17_5 : Int) (x106003_5 : List Int) (u106003 : Value), v17 = .int .i64 x17_5 ∧ Zz (z119.l3 kq a0_0 a0_2 x8_5 (Int.tmod (wrap64 (x9_49 * (rd x106003_49 (ji74)))) a0_0) x10_1 x11_1 t115 x17_5 a0_0 a0_1 a0_2 l0_3 a0_0 a0_1 a0_2 x106003_5 = some (r1, r2, r3, r4, r5, r6)) ∧ Zz (kq ≤ kj49) ∧ Zz (Kd.R (Kd.int .i64) 2 w' w.heap.size (fun k_ => some k_ ≠ (u106003 : Value).ownBlock) u8 x8_5) ∧ Zz (Kd.R (Kd.int .i64) 2 w' w.heap.size (fun k_ => some k_ ≠ (u8 : Value).ownBlock) u106003 x106003_5) ∧ Zz (w'.heap[gp0]? = some (.cells #[.int .i64 a0_0, .int .i64 a0_1, .int .i64 a0_2, (.slice A0_3 l0_3.length c0_3)] 55 (0, 0))) ∧ Zz (w'.heap[gb101]? = some (.cells #[.int .i64 0, .int .i64 0, .int .i64 0, (.slice none 0 0)] 55 (0, 0))) ∧ Zz (w'.heap[gb105]? = some (.cells #[.int .i64 a0_0, .int .i64 a0_1, .int .i64 a0_2, u106003] 55 (0, 0))) ∧ Zz (Below w.heap.size w w'))
          case atStart => exact ⟨(x8_49), (0), (x106003_49), (.slice (some ad114) x106003_49.length co82), E_, H', ⟨Nat.le_refl _⟩, ⟨KR_ HO_8.out⟩, ⟨KR_ HO_106003.out⟩, ⟨KB_ BK50.out⟩, ⟨KB_ BK101.out⟩, ⟨KB_ BK105.out⟩, ⟨B2_ HB.out GE101.out GE105.out⟩⟩
          case round => as_aux_lemma =>
           clear H'
           (try clear c24);(try clear c46);(try clear c46b0);(try clear c46b1)
           (try clear c75b0);(try clear c76b0);(try clear c77);(try clear c77b0);(try clear c77b1);(try clear hcz16_0);(try clear hcz16_1);(try clear hcz16_2);(try clear hcz16_3)
           (try clear hcz53_0);(try clear hcz53_1);(try clear hcz53_2);(try clear hcz53_3);(try clear hcz81_0);(try clear hcz81_1);(try clear hcz81_2);(try clear hcz81_3);(try clear hfz16_0);(try clear hfz16_1);(try clear hfz16_2);(try clear hfz16_3)
           (try clear hfz53_0);(try clear hfz53_1);(try clear hfz53_2);(try clear hfz53_3);(try clear hfz81_0);(try clear hfz81_1);(try clear hfz81_2);(try clear hfz81_3);(try clear hx114_0);(try clear p114)
           (try clear q114)
           obtain ⟨x8_5, x17_5, x106003_5, u106003, rfl, HA, HK5, HO_8, HO_106003, BK50, BK101, BK105, HB⟩ := hrel
           cases gk with
           | zero => exact absurd HA.out (by simp [z119.l3])
           | succ k5 =>
            have H := HA.out
            clear HA
            simp only [z119.l3] at H
            by_cases c83 : x17_5 < a0_2
            ·rw [if_pos c83] at H
             have c83b0 : decide (x17_5 < a0_2) = true := decide_eq_true c83
             clear c83
             obtain ⟨ji84, hji84⟩ : ∃ j_ : Int, (wrap64 ((wrap64 (x10_1 * a0_2)) + x17_5)) = j_ := ⟨_, rfl⟩
             replace H : (if 0 ≤ (ji84) then (if (ji84) < (x106003_5.length : Int) then (if a0_0 = 0 then (none) else (z119.l3 k5 a0_0 a0_2 x8_5 (Int.tmod (wrap64 (x9_49 * (rd x106003_49 (ji74)))) a0_0) x10_1 x11_1 t115 (wrap64 (x17_5 + 1)) a0_0 a0_1 a0_2 l0_3 a0_0 a0_1 a0_2 (x106003_5.set ((ji84) : Int).toNat (Int.tmod (wrap64 ((rd x106003_5 (ji84)) * t115)) a0_0)))) else (none)) else (none)) = some (r1, r2, r3, r4, r5, r6) := by first | (rw [hji84] at H; exact H) | (simp only [hji84] at H ⊢; exact H)
             have hji84w : (IntKind.i64.wrap ((wrap64 (x10_1 * a0_2)) + x17_5)) = ji84 := (qBj _).trans hji84
             have c85b0 := O3_ H
             replace H := O2_ H
             have c86b0 := O3_ H
             replace H := O2_ H
             by_cases c87 : a0_0 = 0
             ·rw [if_pos c87] at H
              exact X_ H
             rw [if_neg c87] at H
             have c87b0 : (a0_0 == 0) = false := beq_eq_false_iff_ne.mpr c87
             have c87b1 : (a0_0 != 0) = true := bne_iff_ne.mpr c87
             obtain ⟨y117, hy117⟩ : ∃ y_ : List Int, y_ = (x106003_5.set ((ji84) : Int).toNat (Int.tmod (wrap64 ((rd x106003_5 (ji84)) * t115)) a0_0)) := ⟨_, rfl⟩
             replace H : (z119.l3 k5 a0_0 a0_2 x8_5 (Int.tmod (wrap64 (x9_49 * (rd x106003_49 (ji74)))) a0_0) x10_1 x11_1 t115 (wrap64 (x17_5 + 1)) a0_0 a0_1 a0_2 l0_3 a0_0 a0_1 a0_2 y117) = some (r1, r2, r3, r4, r5, r6) := Y_ hy117 H
             have Ny117 := Zz.mk hy117
             clear hy117
             have H' := Zz.mk H
             clear H
             try go_wp2
             replace HO_8 := Zz.mk (Kd.R_drew HO_8.out)
             replace HO_106003 := Zz.mk (Kd.R_drew HO_106003.out)
             replace BK50 := Zz.mk (bD_ BK50.out)
             replace BK101 := Zz.mk (bD_ BK101.out)
             replace BK105 := Zz.mk (bD_ BK105.out)
             replace HB := Zz.mk (qAj HB.out)
             obtain ⟨Ao90, co90, eo90⟩ := Kd.R_slice HO_106003.out
             (first | subst eo90 | obtain ⟨rfl, rfl⟩ := sl_ eo90)
             have p116 : 0 ≤ ((ji84) : Int) := D_
             have q116 : (ji84) < (x106003_5.length : Int) := D_
             obtain ⟨ad116, e116, hx116_0⟩ := Kd.at_int (Kd.R_reads' HO_106003.out).2.2 (ji84) p116 q116
             cases e116
             replace p116 := eq_true p116
             replace q116 := eq_true q116
             have p88 : 0 ≤ ((ji84) : Int) := D_
             have q88 : ((ji84) : Int) < ((x106003_5.length : Int) : Int) := D_
             obtain ⟨go88, co88, eo88, gb88, gl88, cl88, HG88⟩ := Kd.R_form HO_106003.out (by omega)
             (first | cases eo88 | (injection eo88 with ea_ en_ ec_; (first | subst ea_ | (injection ea_ with ea_; subst ea_)); subst ec_; clear en_))
             have GB88 := Zz.mk gb88
             have GG88 := Zz.mk HG88
             clear gb88 gl88 HG88
             (first | simp only [qA5] at hx116_0 | skip)
             obtain ⟨hx88_0, hf88_0⟩ := Kd.R_celln 0 HO_106003.out ((ji84) : Int) p88 q88
             replace p88 := eq_true p88
             replace q88 := eq_true q88
             have HP91 := Kd.R_putn HO_106003.out ((ji84) : Int) (Int.tmod (wrap64 ((rd x106003_5 (ji84)) * t115)) a0_0)
             rw [← Ny117.out] at HP91
             have HQ91 := Zz.mk HP91
             clear HP91
             refine qBf (n := 22) (S := fun w' => w'.cell? ⟨gb105, 0, none⟩ = some (.int .i64 a0_0) ∧ w'.cell? ⟨gb105, 1, none⟩ = some (.int .i64 a0_1) ∧ w'.cell? ⟨gb105, 2, none⟩ = some (.int .i64 a0_2) ∧ w'.cell? ⟨gb105, 3, none⟩ = some (.slice (some ⟨go88, 0, none⟩) x106003_5.length co90) ∧ w'.cell? ⟨go88, ((ji84)).toNat, none⟩ = some (.int .i64 (rd x106003_5 (ji84)))) (ds := [21]) (tb_ 22 0) (by kernel_rfl) rfl rfl ⟨(bC_ BK105.out 0).trans rfl, (bC_ BK105.out 1).trans rfl, (bC_ BK105.out 2).trans rfl, (bC_ BK105.out 3).trans rfl, hx116_0⟩ (fun hHeld => ?_); refine qAv z119.tab28 z119.bits28 (fun HT_ HW_ => ?_)
             generalize wr.drew = w89 at HO_8 HO_106003 BK50 BK101 BK105 HB GG88 HQ91 hf88_0 hx116_0 hx88_0 hHeld ⊢
             refine PX_ 0 156 (tb_ 22 1) HT_ rfl rfl ?_
             refine PX_ 2 158 (tb_ 22 5) HT_ rfl rfl ?_
             refine PX_ 3 159 (tb_ 22 13) HT_ rfl rfl ?_
             refine PX_ 4 160 (tb_ 22 29) HT_ rfl rfl ?_
             refine PX_ 5 161 (tb_ 22 61) HT_ rfl rfl ?_
             refine PX_ 6 162 (tb_ 22 125) HT_ rfl rfl ?_
             refine PX_ 7 163 (tb_ 22 253) HT_ rfl rfl ?_
             refine PX_ 9 165 (tb_ 22 765) HT_ rfl rfl ?_
             refine PX_ 10 166 (tb_ 22 1789) HT_ rfl rfl ?_
             refine PX_ 11 167 (tb_ 22 3837) HT_ rfl rfl ?_
             refine PX_ 12 168 (tb_ 22 7933) HT_ rfl rfl ?_
             refine PX_ 13 169 (tb_ 22 16125) HT_ rfl rfl ?_
             refine PX_ 16 172 (tb_ 22 81661) HT_ rfl rfl ?_
             refine PX_ 18 174 (tb_ 22 343805) HT_ rfl rfl ?_
             refine TV_ (i := 1) (N := some 157) (tb_ 22 343807) HT_ HW_ rfl rfl hHeld (by rintro w' ⟨s0, s1, s2, s3, s4⟩; go_simp; with_reducible rfl) (h := ?_)
             refine TV_ (i := 8) (N := some 164) (tb_ 22 344063) HT_ HW_ rfl rfl hHeld (by rintro w' ⟨s0, s1, s2, s3, s4⟩; go_simp; with_reducible rfl) (h := ?_)
             refine PX_ 14 170 (tb_ 22 360447) HT_ rfl rfl ?_
             refine TV_ (i := 15) (N := some 171) (tb_ 22 393215) HT_ HW_ rfl rfl hHeld (by rintro w' ⟨s0, s1, s2, s3, s4⟩; go_simp; with_reducible rfl) (h := ?_)
             refine PX_ 17 173 (tb_ 22 524287) HT_ rfl rfl ?_
             refine PX_ 19 175 (tb_ 22 1048575) HT_ rfl rfl ?_
             refine PX_ 20 176 (tb_ 22 2097151) HT_ rfl rfl ?_
             refine qFt (i := 21) (N := none) (tb_ 22 4194303) rfl rfl (qAs HT_.out (by kernel_rfl)) (by decide) (fun K hK => ?_)
             refine qEy (w1 := ?_) (by rfl) rfl ?_ ?_
             rotate_left
             ·go_simp
              rfl
             refine hK.out _ _ ?_
             clear hK K
             refine qB0 (qA4 HT_.out (by kernel_rfl)) ?_
             try go_wp2
             go_roundg k5
             case measure => have := HK1.out; have := HJ18.out; have := HJ24.out; have := HJ49.out; have := HK5.out; omega
             case rel => exact ⟨(x8_5), (wrap64 (x17_5 + 1)), (y117), (.slice (some ⟨go88, 0, none⟩) x106003_5.length co90), E_, H', ⟨by have := HK1.out; have := HJ18.out; have := HJ24.out; have := HJ49.out; have := HK5.out; omega⟩, ⟨by refine RW_ ?_; exact Kd.R_mono (Kd.R_far (p := ⟨go88, ((ji84) : Int).toNat, none⟩) (Kd.R_mono HO_8.out (fun k_ hk => (⟨hk, fun e_ => hk (by rw [e_]; rfl)⟩ : _ ∧ k_ ≠ go88))) (fun _ hk => hk.2) (.int .i64 (Int.tmod (wrap64 ((rd x106003_5 (ji84)) * t115)) a0_0))) (fun _ hk => hk.1)⟩, ⟨KR_ HQ91.out⟩, ⟨by refine BW_ ?_; refine bR_ ?_ (by have h_ := Kd.R_ne HO_106003.out BK50.out (by decide); intro e_; exact h_ (by rw [e_]; rfl)) _; refine BW_ ?_; exact BK50.out⟩, ⟨by refine BW_ ?_; refine bR_ ?_ (by have h_ := Kd.R_ne HO_106003.out BK101.out (by decide); intro e_; exact h_ (by rw [e_]; rfl)) _; refine BW_ ?_; exact BK101.out⟩, ⟨by refine BW_ ?_; refine bR_ ?_ (by have h_ := Kd.R_ne HO_106003.out BK105.out (by decide); intro e_; exact h_ (by rw [e_]; rfl)) _; refine BW_ ?_; exact BK105.out⟩, ⟨B3_ HB.out GB88.out GE101.out GE105.out⟩⟩
            rw [if_neg c83] at H
            have c83b0 : decide (x17_5 < a0_2) = false := decide_eq_false c83
            clear c83
            have H' := Zz.mk H
            clear H
            go_wp2
            go_loopg [18] k5 (fun kq v18 w' => ∃ (x8_6 : List Int) (x18_6 : Int) (x106003_6 : List Int) (u106003 : Value), v18 = .int .i64 x18_6 ∧ Zz (z119.l4 kq a0_0 a0_2 x8_6 (Int.tmod (wrap64 (x9_49 * (rd x106003_49 (ji74)))) a0_0) x10_1 x11_1 x18_6 a0_0 a0_1 a0_2 l0_3 a0_0 a0_1 a0_2 x106003_6 = some (r1, r2, r3, r4, r5, r6)) ∧ Zz (kq ≤ k5) ∧ Zz (Kd.R (Kd.int .i64) 2 w' w.heap.size (fun k_ => some k_ ≠ (u106003 : Value).ownBlock) u8 x8_6) ∧ Zz (Kd.R (Kd.int .i64) 2 w' w.heap.size (fun k_ => some k_ ≠ (u8 : Value).ownBlock) u106003 x106003_6) ∧ Zz (w'.heap[gp0]? = some (.cells #[.int .i64 a0_0, .int .i64 a0_1, .int .i64 a0_2, (.slice A0_3 l0_3.length c0_3)] 55 (0, 0))) ∧ Zz (w'.heap[gb101]? = some (.cells #[.int .i64 0, .int .i64 0, .int .i64 0, (.slice none 0 0)] 55 (0, 0))) ∧ Zz (w'.heap[gb105]? = some (.cells #[.int .i64 a0_0, .int .i64 a0_1, .int .i64 a0_2, u106003] 55 (0, 0))) ∧ Zz (Below w.heap.size w w'))
            case atStart => exact ⟨(x8_5), (0), (x106003_5), (u106003), E_, H', ⟨Nat.le_refl _⟩, ⟨KR_ HO_8.out⟩, ⟨KR_ HO_106003.out⟩, ⟨KB_ BK50.out⟩, ⟨KB_ BK101.out⟩, ⟨KB_ BK105.out⟩, ⟨B2_ HB.out GE101.out GE105.out⟩⟩
            case round => as_aux_lemma =>
             clear H'
             (try clear c24);(try clear c46);(try clear c46b0);(try clear c46b1)
             (try clear c75b0);(try clear c76b0);(try clear c77);(try clear c77b0);(try clear c77b1);(try clear c83);(try clear c83b0);(try clear hcz16_0);(try clear hcz16_1);(try clear hcz16_2);(try clear hcz16_3)
             (try clear hcz53_0);(try clear hcz53_1);(try clear hcz53_2);(try clear hcz53_3);(try clear hcz81_0);(try clear hcz81_1);(try clear hcz81_2);(try clear hcz81_3);(try clear hfz16_0);(try clear hfz16_1);(try clear hfz16_2)
             (try clear hfz16_3);(try clear hfz53_0);(try clear hfz53_1);(try clear hfz53_2);(try clear hfz53_3);(try clear hfz81_0);(try clear hfz81_1);(try clear hfz81_2);(try clear hfz81_3)
             (try clear hx114_0);(try clear p114);(try clear q114)
             obtain ⟨x8_6, x18_6, x106003_6, u106003, rfl, HA, HK6, HO_8, HO_106003, BK50, BK101, BK105, HB⟩ := hrel
             cases gk with
             | zero => exact absurd HA.out (by simp [z119.l4])
             | succ k6 =>
              have H := HA.out
              clear HA
              simp only [z119.l4] at H
              by_cases c92 : x18_6 < a0_1
              ·rw [if_pos c92] at H
               have c92b0 : decide (x18_6 < a0_1) = true := decide_eq_true c92
               clear c92
               obtain ⟨ji93, hji93⟩ : ∃ j_ : Int, (wrap64 ((wrap64 (x18_6 * a0_2)) + x11_1)) = j_ := ⟨_, rfl⟩
               replace H : (if 0 ≤ (ji93) then (if (ji93) < (x106003_6.length : Int) then (if x18_6 = x10_1 then (z119.j8 k6 a0_0 a0_2 x8_6 (Int.tmod (wrap64 (x9_49 * (rd x106003_49 (ji74)))) a0_0) x10_1 x11_1 x18_6 (rd x106003_6 (ji93)) true a0_0 a0_1 a0_2 l0_3 a0_0 a0_1 a0_2 x106003_6) else (z119.j8 k6 a0_0 a0_2 x8_6 (Int.tmod (wrap64 (x9_49 * (rd x106003_49 (ji74)))) a0_0) x10_1 x11_1 x18_6 (rd x106003_6 (ji93)) ((rd x106003_6 (ji93)) == 0) a0_0 a0_1 a0_2 l0_3 a0_0 a0_1 a0_2 x106003_6)) else (none)) else (none)) = some (r1, r2, r3, r4, r5, r6) := by first | (rw [hji93] at H; exact H) | (simp only [hji93] at H ⊢; exact H)
               have hji93w : (IntKind.i64.wrap ((wrap64 (x18_6 * a0_2)) + x11_1)) = ji93 := (qBj _).trans hji93
               have c94b0 := O3_ H
               replace H := O2_ H
               have c95b0 := O3_ H
               replace H := O2_ H
               have HC96 := Zz.mk H
               clear H
               have hnb97 := NB50_101.out
               have hnc97 := NB101_50.out
               have hnb98 := NB50_105.out
               have hnc98 := NB105_50.out
               obtain ⟨hcz99_0, hcz99_1, hcz99_2, hcz99_3, hfz99_0, hfz99_1, hfz99_2, hfz99_3⟩ := Z4f_ BK50.out
               have hnb100 := NB105_101.out
               have hnc100 := NB101_105.out
               obtain ⟨hcz101_0, hcz101_1, hcz101_2, hcz101_3, hfz101_0, hfz101_1, hfz101_2, hfz101_3⟩ := Z4f_ BK105.out
               obtain ⟨Ao102, co102, eo102⟩ := Kd.R_slice HO_106003.out
               subst eo102
               have p121 : 0 ≤ ((ji93) : Int) := D_
               have q121 : (ji93) < (x106003_6.length : Int) := D_
               obtain ⟨ad121, e121, hx121_0⟩ := Kd.at_int (Kd.R_reads' HO_106003.out).2.2 (ji93) p121 q121
               cases e121
               replace p121 := eq_true p121
               replace q121 := eq_true q121
               go_upto_region 33 with (fail)
               go_cut [200] (fun v200 wc => ∃ (kq : Nat) (x200_95 : Bool), v200 = .bool x200_95 ∧ Zz (z119.j8 kq a0_0 a0_2 x8_6 (Int.tmod (wrap64 (x9_49 * (rd x106003_49 (ji74)))) a0_0) x10_1 x11_1 x18_6 (rd x106003_6 (ji93)) x200_95 a0_0 a0_1 a0_2 l0_3 a0_0 a0_1 a0_2 x106003_6 = some (r1, r2, r3, r4, r5, r6)) ∧ Zz (kq ≤ k6) ∧ Zz (Kd.R (Kd.int .i64) 2 wc w.heap.size (fun k_ => some k_ ≠ ((.slice (some ad121) x106003_6.length co102) : Value).ownBlock) u8 x8_6) ∧ Zz (Kd.R (Kd.int .i64) 2 wc w.heap.size (fun k_ => some k_ ≠ (u8 : Value).ownBlock) (.slice (some ad121) x106003_6.length co102) x106003_6) ∧ Zz (wc.heap[gp0]? = some (.cells #[.int .i64 a0_0, .int .i64 a0_1, .int .i64 a0_2, (.slice A0_3 l0_3.length c0_3)] 55 (0, 0))) ∧ Zz (wc.heap[gb101]? = some (.cells #[.int .i64 0, .int .i64 0, .int .i64 0, (.slice none 0 0)] 55 (0, 0))) ∧ Zz (wc.heap[gb105]? = some (.cells #[.int .i64 a0_0, .int .i64 a0_1, .int .i64 a0_2, (.slice (some ad121) x106003_6.length co102)] 55 (0, 0))) ∧ Zz (Below w.heap.size w wc))
               case first => as_aux_lemma =>
                have H := HC96.out
                clear HC96
                by_cases c103 : x18_6 = x10_1
                ·rw [if_pos c103] at H
                 have c103b0 : (x18_6 == x10_1) = true := beq_iff_eq.mpr c103
                 have c103b1 : (x18_6 != x10_1) = false := bne_eq_false_iff_eq.mpr c103
                 clear c103
                 (first | rw [c103b0] | (simp only [qBj, qBz]; rw [c103b0]) |rw [c103b1] | skip)
                 have H' := Zz.mk H
                 clear H
                 go_wp2
                 go_meet
                 case rel => exact ⟨_, (true), E_, H', ⟨by have := HK1.out; have := HJ18.out; have := HJ24.out; have := HJ49.out; have := HK5.out; have := HK6.out; first | omega | exact Nat.le_refl _⟩, ⟨KR_ HO_8.out⟩, ⟨KR_ HO_106003.out⟩, ⟨KB_ BK50.out⟩, ⟨KB_ BK101.out⟩, ⟨KB_ BK105.out⟩, ⟨B2_ HB.out GE101.out GE105.out⟩⟩
                rw [if_neg c103] at H
                have c103b0 : (x18_6 == x10_1) = false := beq_eq_false_iff_ne.mpr c103
                have c103b1 : (x18_6 != x10_1) = true := bne_iff_ne.mpr c103
                (first | rw [c103b0] | (simp only [qBj, qBz]; rw [c103b0]) |rw [c103b1] | skip)
                have H' := Zz.mk H
                clear H
                go_wp2
                go_meet
                case rel => exact ⟨_, (((rd x106003_6 (ji93)) == 0)), (by first | rfl | (simp; done) | (simp only [← hji93] <;> (first | rfl | simp)) | (simp [*]; done)), H', ⟨by have := HK1.out; have := HJ18.out; have := HJ24.out; have := HJ49.out; have := HK5.out; have := HK6.out; first | omega | exact Nat.le_refl _⟩, ⟨KR_ HO_8.out⟩, ⟨KR_ HO_106003.out⟩, ⟨KB_ BK50.out⟩, ⟨KB_ BK101.out⟩, ⟨KB_ BK105.out⟩, ⟨B2_ HB.out GE101.out GE105.out⟩⟩
               case rest => as_aux_lemma =>
                clear HC96
                (try clear c24)
                (try clear c46);(try clear c46b0);(try clear c46b1);(try clear c75b0);(try clear c76b0);(try clear c77);(try clear c77b0);(try clear c77b1);(try clear c83);(try clear c83b0);(try clear c92)
                (try clear c92b0);(try clear c94b0);(try clear c95b0);(try clear hcz101_0);(try clear hcz101_1);(try clear hcz101_2);(try clear hcz101_3);(try clear hcz16_0);(try clear hcz16_1);(try clear hcz16_2);(try clear hcz16_3)
                (try clear hcz53_0);(try clear hcz53_1);(try clear hcz53_2);(try clear hcz53_3);(try clear hcz81_0);(try clear hcz81_1);(try clear hcz81_2);(try clear hcz81_3);(try clear hcz99_0);(try clear hcz99_1);(try clear hcz99_2);(try clear hcz99_3);(try clear hfz101_0);(try clear hfz101_1);(try clear hfz101_2);(try clear hfz101_3);(try clear hfz16_0);(try clear hfz16_1);(try clear hfz16_2);(try clear hfz16_3)
                (try clear hfz53_0);(try clear hfz53_1);(try clear hfz53_2);(try clear hfz53_3);(try clear hfz81_0);(try clear hfz81_1);(try clear hfz81_2);(try clear hfz81_3);(try clear hfz99_0);(try clear hfz99_1);(try clear hfz99_2);(try clear hfz99_3);(try clear hx114_0);(try clear hx121_0);(try clear p114)
                (try clear p121);(try clear q114);(try clear q121)
                obtain ⟨kq, x200_95, rfl, HA, HJ95, HO_8, HO_106003, BK50, BK101, BK105, HB⟩ := hcut
                cases kq with
                | zero => exact absurd HA.out (by simp [z119.j8])
                | succ kj95 =>
                 have H := HA.out
                 clear HA
                 simp only [z119.j8] at H
                 by_cases c104 : x200_95 = true
                 ·subst c104
                  have H1 : (z119.l4 kj95 a0_0 a0_2 x8_6 (Int.tmod (wrap64 (x9_49 * (rd x106003_49 (ji74)))) a0_0) x10_1 x11_1 (wrap64 (x18_6 + 1)) a0_0 a0_1 a0_2 l0_3 a0_0 a0_1 a0_2 x106003_6) = some (r1, r2, r3, r4, r5, r6) := by rw [if_pos rfl] at H; exact H
                  clear H
                  have H := H1
                  clear H1
                  have H' := Zz.mk H
                  clear H
                  go_wp2
                  go_roundg kj95
                  case measure => have := HK1.out; have := HJ18.out; have := HJ24.out; have := HJ49.out; have := HK5.out; have := HK6.out; have := HJ95.out; omega
                  case rel => exact ⟨(x8_6), (wrap64 (x18_6 + 1)), (x106003_6), (.slice (some ad121) x106003_6.length co102), E_, H', ⟨by have := HK1.out; have := HJ18.out; have := HJ24.out; have := HJ49.out; have := HK5.out; have := HK6.out; have := HJ95.out; omega⟩, ⟨KR_ HO_8.out⟩, ⟨KR_ HO_106003.out⟩, ⟨KB_ BK50.out⟩, ⟨KB_ BK101.out⟩, ⟨KB_ BK105.out⟩, ⟨B2_ HB.out GE101.out GE105.out⟩⟩
                 replace c104 := Bool.eq_false_iff.mpr c104
                 subst c104
                 have H1 : (z119.l5 kj95 a0_0 a0_2 x8_6 (Int.tmod (wrap64 (x9_49 * (rd x106003_49 (ji74)))) a0_0) x10_1 x11_1 x18_6 (rd x106003_6 (ji93)) 0 a0_0 a0_1 a0_2 l0_3 a0_0 a0_1 a0_2 x106003_6) = some (r1, r2, r3, r4, r5, r6) := by rw [if_neg (show ¬ (false = true) by decide)] at H; exact H
                 clear H
                 have H := H1
                 clear H1
                 have H' := Zz.mk H
                 clear H
                 go_wp2
                 go_loopg [20] kj95 (fun kq v20 w' => ∃ (x8_8 : List Int) (x20_8 : Int) (x106003_8 : List Int) (u106003 : Value), v20 = .int .i64 x20_8 ∧ Zz (z119.l5 kq a0_0 a0_2 x8_8 (Int.tmod (wrap64 (x9_49 * (rd x106003_49 (ji74)))) a0_0) x10_1 x11_1 x18_6 (rd x106003_6 (ji93)) x20_8 a0_0 a0_1 a0_2 l0_3 a0_0 a0_1 a0_2 x106003_8 = some (r1, r2, r3, r4, r5, r6)) ∧ Zz (kq ≤ kj95) ∧ Zz (Kd.R (Kd.int .i64) 2 w' w.heap.size (fun k_ => some k_ ≠ (u106003 : Value).ownBlock) u8 x8_8) ∧ Zz (Kd.R (Kd.int .i64) 2 w' w.heap.size (fun k_ => some k_ ≠ (u8 : Value).ownBlock) u106003 x106003_8) ∧ Zz (w'.heap[gp0]? = some (.cells #[.int .i64 a0_0, .int .i64 a0_1, .int .i64 a0_2, (.slice A0_3 l0_3.length c0_3)] 55 (0, 0))) ∧ Zz (w'.heap[gb101]? = some (.cells #[.int .i64 0, .int .i64 0, .int .i64 0, (.slice none 0 0)] 55 (0, 0))) ∧ Zz (w'.heap[gb105]? = some (.cells #[.int .i64 a0_0, .int .i64 a0_1, .int .i64 a0_2, u106003] 55 (0, 0))) ∧ Zz (Below w.heap.size w w'))
                 case atStart => exact ⟨(x8_6), (0), (x106003_6), (.slice (some ad121) x106003_6.length co102), E_, H', ⟨Nat.le_refl _⟩, ⟨KR_ HO_8.out⟩, ⟨KR_ HO_106003.out⟩, ⟨KB_ BK50.out⟩, ⟨KB_ BK101.out⟩, ⟨KB_ BK105.out⟩, ⟨B2_ HB.out GE101.out GE105.out⟩⟩
                 case round => as_aux_lemma =>
                  clear H'
                  (try clear c24)
                  (try clear c46);(try clear c46b0);(try clear c46b1);(try clear c75b0);(try clear c76b0);(try clear c77);(try clear c77b0);(try clear c77b1);(try clear c83);(try clear c83b0);(try clear c92)
                  (try clear c92b0);(try clear c94b0);(try clear c95b0);(try clear c104);(try clear hcz101_0);(try clear hcz101_1);(try clear hcz101_2);(try clear hcz101_3);(try clear hcz16_0);(try clear hcz16_1);(try clear hcz16_2);(try clear hcz16_3)
                  (try clear hcz53_0);(try clear hcz53_1);(try clear hcz53_2);(try clear hcz53_3);(try clear hcz81_0);(try clear hcz81_1);(try clear hcz81_2);(try clear hcz81_3);(try clear hcz99_0);(try clear hcz99_1);(try clear hcz99_2);(try clear hcz99_3);(try clear hfz101_0);(try clear hfz101_1);(try clear hfz101_2);(try clear hfz101_3);(try clear hfz16_0);(try clear hfz16_1);(try clear hfz16_2);(try clear hfz16_3)
                  (try clear hfz53_0);(try clear hfz53_1);(try clear hfz53_2);(try clear hfz53_3);(try clear hfz81_0);(try clear hfz81_1);(try clear hfz81_2);(try clear hfz81_3);(try clear hfz99_0);(try clear hfz99_1);(try clear hfz99_2);(try clear hfz99_3);(try clear hx114_0);(try clear hx121_0)
                  (try clear p114);(try clear p121);(try clear q114);(try clear q121)
                  obtain ⟨x8_8, x20_8, x106003_8, u106003, rfl, HA, HK8, HO_8, HO_106003, BK50, BK101, BK105, HB⟩ := hrel
                  cases gk with
                  | zero => exact absurd HA.out (by simp [z119.l5])
                  | succ k8 =>
                   have H := HA.out
                   clear HA
                   simp only [z119.l5] at H
                   by_cases c105 : x20_8 < a0_2
                   ·rw [if_pos c105] at H
                    have c105b0 : decide (x20_8 < a0_2) = true := decide_eq_true c105
                    clear c105
                    obtain ⟨ji106, hji106⟩ : ∃ j_ : Int, (wrap64 ((wrap64 (x18_6 * a0_2)) + x20_8)) = j_ := ⟨_, rfl⟩
                    replace H : (if 0 ≤ (ji106) then (if (ji106) < (x106003_8.length : Int) then (if 0 ≤ (wrap64 ((wrap64 (x10_1 * a0_2)) + x20_8)) then (if (wrap64 ((wrap64 (x10_1 * a0_2)) + x20_8)) < (x106003_8.length : Int) then ((z138.f (wrap64 ((rd x106003_8 (ji106)) - (wrap64 ((rd x106003_6 (ji93)) * (rd x106003_8 (wrap64 ((wrap64 (x10_1 * a0_2)) + x20_8))))))) a0_0).bind fun t124 => (z119.l5 k8 a0_0 a0_2 x8_8 (Int.tmod (wrap64 (x9_49 * (rd x106003_49 (ji74)))) a0_0) x10_1 x11_1 x18_6 (rd x106003_6 (ji93)) (wrap64 (x20_8 + 1)) a0_0 a0_1 a0_2 l0_3 a0_0 a0_1 a0_2 (x106003_8.set ((ji106) : Int).toNat t124))) else (none)) else (none)) else (none)) else (none)) = some (r1, r2, r3, r4, r5, r6) := by first | (rw [hji106] at H; exact H) | (simp only [hji106] at H ⊢; exact H)
                    have hji106w : (IntKind.i64.wrap ((wrap64 (x18_6 * a0_2)) + x20_8)) = ji106 := (qBj _).trans hji106
                    have c107b0 := O3_ H
                    replace H := O2_ H
                    have c108b0 := O3_ H
                    replace H := O2_ H
                    obtain ⟨ji109, hji109⟩ : ∃ j_ : Int, (wrap64 ((wrap64 (x10_1 * a0_2)) + x20_8)) = j_ := ⟨_, rfl⟩
                    replace H : (if 0 ≤ (ji109) then (if (ji109) < (x106003_8.length : Int) then ((z138.f (wrap64 ((rd x106003_8 (ji106)) - (wrap64 ((rd x106003_6 (ji93)) * (rd x106003_8 (ji109)))))) a0_0).bind fun t124 => (z119.l5 k8 a0_0 a0_2 x8_8 (Int.tmod (wrap64 (x9_49 * (rd x106003_49 (ji74)))) a0_0) x10_1 x11_1 x18_6 (rd x106003_6 (ji93)) (wrap64 (x20_8 + 1)) a0_0 a0_1 a0_2 l0_3 a0_0 a0_1 a0_2 (x106003_8.set ((ji106) : Int).toNat t124))) else (none)) else (none)) = some (r1, r2, r3, r4, r5, r6) := by first | (rw [hji109] at H; exact H) | (simp only [hji109] at H ⊢; exact H)
                    have hji109w : (IntKind.i64.wrap ((wrap64 (x10_1 * a0_2)) + x20_8)) = ji109 := (qBj _).trans hji109
                    have c110b0 := O3_ H
                    replace H := O2_ H
                    have c111b0 := O3_ H
                    replace H := O2_ H
                    replace H := OB_ H
                    obtain ⟨t124, A1120, H⟩ := H
                    replace H : (z119.l5 k8 a0_0 a0_2 x8_8 (Int.tmod (wrap64 (x9_49 * (rd x106003_49 (ji74)))) a0_0) x10_1 x11_1 x18_6 (rd x106003_6 (ji93)) (wrap64 (x20_8 + 1)) a0_0 a0_1 a0_2 l0_3 a0_0 a0_1 a0_2 (x106003_8.set ((ji106) : Int).toNat t124)) = some (r1, r2, r3, r4, r5, r6) := H
                    have A112 := Zz.mk A1120
                    clear A1120
                    obtain ⟨y125, hy125⟩ : ∃ y_ : List Int, y_ = (x106003_8.set ((ji106) : Int).toNat t124) := ⟨_, rfl⟩
                    replace H : (z119.l5 k8 a0_0 a0_2 x8_8 (Int.tmod (wrap64 (x9_49 * (rd x106003_49 (ji74)))) a0_0) x10_1 x11_1 x18_6 (rd x106003_6 (ji93)) (wrap64 (x20_8 + 1)) a0_0 a0_1 a0_2 l0_3 a0_0 a0_1 a0_2 y125) = some (r1, r2, r3, r4, r5, r6) := Y_ hy125 H
                    have Ny125 := Zz.mk hy125
                    clear hy125
                    have H' := Zz.mk H
                    clear H
                    try go_wp2
                    replace HO_8 := Zz.mk (Kd.R_drew HO_8.out)
                    replace HO_106003 := Zz.mk (Kd.R_drew HO_106003.out)
                    replace BK50 := Zz.mk (bD_ BK50.out)
                    replace BK101 := Zz.mk (bD_ BK101.out)
                    replace BK105 := Zz.mk (bD_ BK105.out)
                    replace HB := Zz.mk (qAj HB.out)
                    obtain ⟨Ao115, co115, eo115⟩ := Kd.R_slice HO_106003.out
                    (first | subst eo115 | obtain ⟨rfl, rfl⟩ := sl_ eo115)
                    have p122 : 0 ≤ ((ji106) : Int) := D_
                    have q122 : (ji106) < (x106003_8.length : Int) := D_
                    obtain ⟨ad122, e122, hx122_0⟩ := Kd.at_int (Kd.R_reads' HO_106003.out).2.2 (ji106) p122 q122
                    cases e122
                    replace p122 := eq_true p122
                    replace q122 := eq_true q122
                    have p123 : 0 ≤ ((ji109) : Int) := D_
                    have q123 : (ji109) < (x106003_8.length : Int) := D_
                    obtain ⟨ad123, e123, hx123_0⟩ := Kd.at_int (Kd.R_reads' HO_106003.out).2.2 (ji109) p123 q123
                    obtain rfl : ad122 = ad123 := (by injection e123)
                    replace p123 := eq_true p123
                    replace q123 := eq_true q123
                    refine qBf (n := 32) (S := fun w' => w'.cell? ⟨gb105, 0, none⟩ = some (.int .i64 a0_0) ∧ w'.cell? ⟨gb105, 1, none⟩ = some (.int .i64 a0_1) ∧ w'.cell? ⟨gb105, 2, none⟩ = some (.int .i64 a0_2) ∧ w'.cell? ⟨gb105, 3, none⟩ = some (.slice (some ad122) x106003_8.length co115) ∧ w'.cell? (ad122.add ((ji106)).toNat) = some (.int .i64 (rd x106003_8 (ji106))) ∧ w'.cell? (ad122.add ((ji109)).toNat) = some (.int .i64 (rd x106003_8 (ji109)))) (ds := [31]) (tb_ 32 0) (by kernel_rfl) rfl rfl ⟨(bC_ BK105.out 0).trans rfl, (bC_ BK105.out 1).trans rfl, (bC_ BK105.out 2).trans rfl, (bC_ BK105.out 3).trans rfl, hx122_0, hx123_0⟩ (fun hHeld => ?_); refine qAv z119.tab37 z119.bits37 (fun HT_ HW_ => ?_)
                    generalize wr.drew = w114 at HO_8 HO_106003 BK50 BK101 BK105 HB hx122_0 hx123_0 hHeld ⊢
                    refine PX_ 0 206 (tb_ 32 1) HT_ rfl rfl ?_
                    refine PX_ 2 208 (tb_ 32 5) HT_ rfl rfl ?_
                    refine PX_ 3 209 (tb_ 32 13) HT_ rfl rfl ?_
                    refine PX_ 4 210 (tb_ 32 29) HT_ rfl rfl ?_
                    refine PX_ 5 211 (tb_ 32 61) HT_ rfl rfl ?_
                    refine PX_ 6 212 (tb_ 32 125) HT_ rfl rfl ?_
                    refine PX_ 7 213 (tb_ 32 253) HT_ rfl rfl ?_
                    refine PX_ 9 215 (tb_ 32 765) HT_ rfl rfl ?_
                    refine PX_ 10 216 (tb_ 32 1789) HT_ rfl rfl ?_
                    refine PX_ 11 217 (tb_ 32 3837) HT_ rfl rfl ?_
                    refine PX_ 12 218 (tb_ 32 7933) HT_ rfl rfl ?_
                    refine PX_ 13 219 (tb_ 32 16125) HT_ rfl rfl ?_
                    refine PX_ 16 222 (tb_ 32 81661) HT_ rfl rfl ?_
                    refine PX_ 17 223 (tb_ 32 212733) HT_ rfl rfl ?_
                    refine PX_ 19 225 (tb_ 32 737021) HT_ rfl rfl ?_
                    refine PX_ 20 226 (tb_ 32 1785597) HT_ rfl rfl ?_
                    refine PX_ 21 227 (tb_ 32 3882749) HT_ rfl rfl ?_
                    refine PX_ 22 228 (tb_ 32 8077053) HT_ rfl rfl ?_
                    refine PX_ 23 229 (tb_ 32 16465661) HT_ rfl rfl ?_
                    refine PX_ 28 234 (tb_ 32 284901117) HT_ rfl rfl ?_
                    refine TV_ (i := 1) (N := some 207) (tb_ 32 284901119) HT_ HW_ rfl rfl hHeld (by rintro w' ⟨s0, s1, s2, s3, s4, s5⟩; go_simp; with_reducible rfl) (h := ?_)
                    refine TV_ (i := 8) (N := some 214) (tb_ 32 284901375) HT_ HW_ rfl rfl hHeld (by rintro w' ⟨s0, s1, s2, s3, s4, s5⟩; go_simp; with_reducible rfl) (h := ?_)
                    refine PX_ 14 220 (tb_ 32 284917759) HT_ rfl rfl ?_
                    refine TV_ (i := 15) (N := some 221) (tb_ 32 284950527) HT_ HW_ rfl rfl hHeld (by rintro w' ⟨s0, s1, s2, s3, s4, s5⟩; go_simp; with_reducible rfl) (h := ?_)
                    refine TV_ (i := 18) (N := some 224) (tb_ 32 285212671) HT_ HW_ rfl rfl hHeld (by rintro w' ⟨s0, s1, s2, s3, s4, s5⟩; go_simp; with_reducible rfl) (h := ?_)
                    refine PX_ 24 230 (tb_ 32 301989887) HT_ rfl rfl ?_
                    refine TV_ (i := 25) (N := some 231) (tb_ 32 335544319) HT_ HW_ rfl rfl hHeld (by rintro w' ⟨s0, s1, s2, s3, s4, s5⟩; go_simp; with_reducible rfl) (h := ?_)
                    refine PX_ 26 232 (tb_ 32 402653183) HT_ rfl rfl ?_
                    refine PX_ 27 233 (tb_ 32 536870911) HT_ rfl rfl ?_
                    refine one_ (i := 29) (N := some 235) (tb_ 32 1073741823) rfl rfl (qAs HT_.out (by kernel_rfl)) (by decide) (fun K hK => ?_)
                    refine goes_ Try.func138 (by kernel_rfl) rfl #[.int .i64 (wrap64 ((rd x106003_8 (ji106)) - (wrap64 ((rd x106003_6 (ji93)) * (rd x106003_8 (ji109)))))), .int .i64 a0_0] (by rfl) rfl rfl (by (try simp only [List.map_toArray, List.map_cons, List.map_nil]); first | done | (simp only [hji106, hji109, hji93]; rfl) | rfl | (simp only [List.length_drop, List.length_take]; rfl)) ?_
                    with_reducible refine (z138.calls (wrap64 ((rd x106003_8 (ji106)) - (wrap64 ((rd x106003_6 (ji93)) * (rd x106003_8 (ji109)))))) a0_0 t124 _ A112.out).mono ?_
                    rintro e w' ⟨rfl, ⟨nd, rfl⟩⟩
                    refine ⟨_, rfl, ?_⟩
                    have p113 : 0 ≤ ((ji106) : Int) := D_
                    have q113 : ((ji106) : Int) < ((x106003_8.length : Int) : Int) := D_
                    obtain ⟨go113, co113, eo113, gb113, gl113, cl113, HG113⟩ := Kd.R_form HO_106003.out (by omega)
                    (first | cases eo113 | (injection eo113 with ea_ en_ ec_; (first | subst ea_ | (injection ea_ with ea_; subst ea_)); subst ec_; clear en_))
                    have GB113 := Zz.mk gb113
                    have GG113 := Zz.mk HG113
                    clear gb113 gl113 HG113
                    (first | simp only [qA5] at hx122_0 | skip)
                    (first | simp only [qA5] at hx123_0 | skip)
                    obtain ⟨hx113_0, hf113_0⟩ := Kd.R_celln 0 HO_106003.out ((ji106) : Int) p113 q113
                    replace p113 := eq_true p113
                    replace q113 := eq_true q113
                    have HP116 := Kd.R_putn HO_106003.out ((ji106) : Int) t124
                    rw [← Ny125.out] at HP116
                    have HQ116 := Zz.mk HP116
                    clear HP116
                    refine hK.out _ _ ⟨(bC_ BK105.out 0).trans rfl, (bC_ BK105.out 1).trans rfl, (bC_ BK105.out 2).trans rfl, (bC_ BK105.out 3).trans rfl, hHeld.2.2.2.2.1, hHeld.2.2.2.2.2⟩ (fun hHeld => ?_)
                    clear hK K
                    refine NM_ (N := (some 235)) (h := ?_)
                    refine PX_ 30 236 (tb_ 32 2147483647) HT_ rfl rfl ?_
                    refine qFt (i := 31) (N := none) (tb_ 32 4294967295) rfl rfl (qAs HT_.out (by kernel_rfl)) (by decide) (fun K hK => ?_)
                    refine qEy (w1 := ?_) (by rfl) rfl ?_ ?_
                    rotate_left
                    ·go_simp
                     rfl
                    refine hK.out _ _ ?_
                    clear hK K
                    refine qB0 (qA4 HT_.out (by kernel_rfl)) ?_
                    try go_wp2
                    go_roundg k8
                    case measure => have := HK1.out; have := HJ18.out; have := HJ24.out; have := HJ49.out; have := HK5.out; have := HK6.out; have := HJ95.out; have := HK8.out; omega
                    case rel => exact ⟨(x8_8), (wrap64 (x20_8 + 1)), (y125), (.slice (some ⟨go113, 0, none⟩) x106003_8.length co115), E_, H', ⟨by have := HK1.out; have := HJ18.out; have := HJ24.out; have := HJ49.out; have := HK5.out; have := HK6.out; have := HJ95.out; have := HK8.out; omega⟩, ⟨by refine RW_ ?_; exact Kd.R_mono (Kd.R_far (p := ⟨go113, ((ji106) : Int).toNat, none⟩) (Kd.R_mono HO_8.out (fun k_ hk => (⟨hk, fun e_ => hk (by rw [e_]; rfl)⟩ : _ ∧ k_ ≠ go113))) (fun _ hk => hk.2) (.int .i64 t124)) (fun _ hk => hk.1)⟩, ⟨KR_ HQ116.out⟩, ⟨by refine BW_ ?_; refine bR_ ?_ (by have h_ := Kd.R_ne HO_106003.out BK50.out (by decide); intro e_; exact h_ (by rw [e_]; rfl)) _; refine BW_ ?_; exact BK50.out⟩, ⟨by refine BW_ ?_; refine bR_ ?_ (by have h_ := Kd.R_ne HO_106003.out BK101.out (by decide); intro e_; exact h_ (by rw [e_]; rfl)) _; refine BW_ ?_; exact BK101.out⟩, ⟨by refine BW_ ?_; refine bR_ ?_ (by have h_ := Kd.R_ne HO_106003.out BK105.out (by decide); intro e_; exact h_ (by rw [e_]; rfl)) _; refine BW_ ?_; exact BK105.out⟩, ⟨B3_ HB.out GB113.out GE101.out GE105.out⟩⟩
                   rw [if_neg c105] at H
                   have c105b0 : decide (x20_8 < a0_2) = false := decide_eq_false c105
                   clear c105
                   have H' := Zz.mk H
                   clear H
                   go_wp2
                   go_roundg k8
                   case measure => have := HK1.out; have := HJ18.out; have := HJ24.out; have := HJ49.out; have := HK5.out; have := HK6.out; have := HJ95.out; have := HK8.out; omega
                   case rel => exact ⟨(x8_8), (wrap64 (x18_6 + 1)), (x106003_8), (u106003), E_, H', ⟨by have := HK1.out; have := HJ18.out; have := HJ24.out; have := HJ49.out; have := HK5.out; have := HK6.out; have := HJ95.out; have := HK8.out; omega⟩, ⟨KR_ HO_8.out⟩, ⟨KR_ HO_106003.out⟩, ⟨KB_ BK50.out⟩, ⟨KB_ BK101.out⟩, ⟨KB_ BK105.out⟩, ⟨B2_ HB.out GE101.out GE105.out⟩⟩
              rw [if_neg c92] at H
              have c92b0 : decide (x18_6 < a0_1) = false := decide_eq_false c92
              clear c92
              have c117 := O1_ H
              replace H := O2_ H
              have LMc117 := Zz.mk c117
              clear c117
              obtain ⟨y118, hy118⟩ : ∃ y_ : List Int, y_ = (x8_6 ++ [x11_1]) := ⟨_, rfl⟩
              replace H : (z119.l0 k6 a0_0 a0_2 y118 (Int.tmod (wrap64 (x9_49 * (rd x106003_49 (ji74)))) a0_0) (wrap64 (x10_1 + 1)) (wrap64 (x11_1 + 1)) a0_0 a0_1 a0_2 l0_3 a0_0 a0_1 a0_2 x106003_6) = some (r1, r2, r3, r4, r5, r6) := Y_ hy118 H
              have Ny118 := Zz.mk hy118
              clear hy118
              have H' := Zz.mk H
              clear H
              have hnb118 := NB50_101.out
              have hnc118 := NB101_50.out
              have hnb119 := NB50_105.out
              have hnc119 := NB105_50.out
              obtain ⟨hcz120_0, hcz120_1, hcz120_2, hcz120_3, hfz120_0, hfz120_1, hfz120_2, hfz120_3⟩ := Z4f_ BK50.out
              go_wp2_with (first | ((with_reducible refine qA0 (b := .append) (xs := #[.tmp 237, .tmp 239]) rfl ?_); at_builtin; refine Kd.R_append (Kd.int .i64) (w0 := w) w.heap.size rfl (.tmp 237) (.tmp 239) 40 2 (.int .i64 0) 8 rfl Try.underlying40 qEl rfl (by decide) (by omega) u8 x8_6 x11_1 [.int .i64 x11_1] (fun k_ => some k_ ≠ (u106003 : Value).ownBlock) (fun _ => False) rfl rfl ?aP (fun _ hk => hk.elim) ?aF ?aO ?aB ?aS ?aL ?_; (case aP => exact rfl); (case aB => exact (B2_ HB.out GE101.out GE105.out)); (case aF => exact (fun k_ hk => Kd.fresh' (Kd.R_lt (KR_ HO_106003.out)) k_ hk)); (case aO => exact (KR_ HO_8.out)); (case aS => exact (bS_ (B2_ HB.out GE101.out GE105.out))); (case aL => have := LMc117.out; omega); intro v119 w121 ho hb hg hat; rw [← Ny118.out] at ho; replace HO_106003 := Zz.mk (Kd.R_after (ok := (fun _ => True)) (by refine RW_ ?_; exact Kd.R_mono HO_106003.out (fun _ hk => ⟨trivial, hk⟩)) hg hat); replace BK50 := Zz.mk (qAy (g := gp0) (o := .cells #[.int .i64 a0_0, .int .i64 a0_1, .int .i64 a0_2, .slice A0_3 l0_3.length c0_3] 55 (0, 0)) (KB_ BK50.out) hg (Kd.R_ne HO_8.out BK50.out (by decide))); replace BK101 := Zz.mk (qAy (g := gb101) (o := .cells #[.int .i64 0, .int .i64 0, .int .i64 0, .slice none 0 0] 55 (0, 0)) (KB_ BK101.out) hg (Kd.R_ne HO_8.out BK101.out (by decide))); replace BK105 := Zz.mk (qAy (g := gb105) (o := .cells #[.int .i64 a0_0, .int .i64 a0_1, .int .i64 a0_2, u106003] 55 (0, 0)) (KB_ BK105.out) hg (Kd.R_ne HO_8.out BK105.out (by decide))); replace HB := Zz.mk (hb); have HO120 := Zz.mk (ho); clear HO_8; clear ho hb hg hat))
              go_roundg k6
              case measure => have := HK1.out; have := HJ18.out; have := HJ24.out; have := HJ49.out; have := HK5.out; have := HK6.out; omega
              case rel => exact ⟨(y118), ((Int.tmod (wrap64 (x9_49 * (rd x106003_49 (ji74)))) a0_0)), (wrap64 (x10_1 + 1)), (wrap64 (x11_1 + 1)), (x106003_6), (u106003), (by first | rfl | (simp; done) | (simp only [← hji74] <;> (first | rfl | simp)) | (simp [*]; done)), E_, E_, H', ⟨by have := HK1.out; have := HJ18.out; have := HJ24.out; have := HJ49.out; have := HK5.out; have := HK6.out; omega⟩, ⟨KR_ HO120.out⟩, ⟨by refine RW_ ?_; exact Kd.R_mono HO_106003.out (fun _ hk => hk.2)⟩, ⟨KB_ BK50.out⟩, ⟨KB_ BK101.out⟩, ⟨KB_ BK105.out⟩, ⟨B2_ HB.out GE101.out GE105.out⟩⟩
     replace c24 := Bool.eq_false_iff.mpr c24
     subst c24
     have H1 : (some (a0_0, a0_1, a0_2, x106003_1, x8_1, x9_1)) = some (r1, r2, r3, r4, r5, r6) := by rw [if_neg (show ¬ (false = true) by decide)] at H; exact H
     clear H
     have H := H1
     clear H1
     simp only [Option.some.injEq, Prod.mk.injEq] at H
     obtain ⟨rfl, rfl, rfl, rfl, rfl, rfl⟩ := H
     have hnb122 := NB105_50.out
     have hnc122 := NB50_105.out
     have hnb123 := NB105_101.out
     have hnc123 := NB101_105.out
     obtain ⟨hcz124_0, hcz124_1, hcz124_2, hcz124_3, hfz124_0, hfz124_1, hfz124_2, hfz124_3⟩ := Z4f_ BK105.out
     have hnb125 := NB101_50.out
     have hnc125 := NB50_101.out
     obtain ⟨hcz126_0, hcz126_1, hcz126_2, hcz126_3, hfz126_0, hfz126_1, hfz126_2, hfz126_3⟩ := Z4f_ BK101.out
     obtain ⟨Ao127, co127, eo127⟩ := Kd.R_slice HO_106003.out
     subst eo127
     go_wp2
     refine bodyPost_ret (qG4 rfl _ _ gb101 55 #[.int .i64 a0_0, .int .i64 a0_1, .int .i64 a0_2, .slice Ao127 x106003_1.length co127] (0, 0) _ rfl (by refine BW_ ?_; refine bP_ (cs := #[.int .i64 a0_0, .int .i64 a0_1, .int .i64 a0_2, .slice none 0 0]) ?_ 3 _ rfl; refine BW_ ?_; refine bP_ (cs := #[.int .i64 a0_0, .int .i64 a0_1, .int .i64 0, .slice none 0 0]) ?_ 2 _ rfl; refine BW_ ?_; refine bP_ (cs := #[.int .i64 a0_0, .int .i64 0, .int .i64 0, .slice none 0 0]) ?_ 1 _ rfl; refine BW_ ?_; refine bP_ (cs := #[.int .i64 0, .int .i64 0, .int .i64 0, .slice none 0 0]) ?_ 0 _ rfl; refine BW_ ?_; exact BK101.out) Try.underlying55 rfl (by kernel_rfl)) rfl ?_
     exact ⟨_, _, F_, by refine RW_ ?_; exact Kd.R_mono (Kd.R_far (p := ⟨gb101, 3, none⟩) (Kd.R_far (p := ⟨gb101, 2, none⟩) (Kd.R_far (p := ⟨gb101, 1, none⟩) (Kd.R_far (p := ⟨gb101, 0, none⟩) (Kd.R_types HO_106003.out BK101.out (by decide)) (fun _ hk => hk.2) (.int .i64 a0_0)) (fun _ hk => hk.2) (.int .i64 a0_1)) (fun _ hk => hk.2) (.int .i64 a0_2)) (fun _ hk => hk.2) (.slice Ao127 x106003_1.length co127)) (fun _ hk => hk.1), by refine RW_ ?_; exact Kd.R_mono (Kd.R_far (p := ⟨gb101, 3, none⟩) (Kd.R_far (p := ⟨gb101, 2, none⟩) (Kd.R_far (p := ⟨gb101, 1, none⟩) (Kd.R_far (p := ⟨gb101, 0, none⟩) (Kd.R_types HO_8.out BK101.out (by decide)) (fun _ hk => hk.2) (.int .i64 a0_0)) (fun _ hk => hk.2) (.int .i64 a0_1)) (fun _ hk => hk.2) (.int .i64 a0_2)) (fun _ hk => hk.2) (.slice Ao127 x106003_1.length co127)) (fun _ hk => hk.1), B2_ HB.out GE101.out GE105.out⟩
end Go.Proofs.Ytkgajpngeglkmaa.B
