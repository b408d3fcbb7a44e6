/- Printed proofs of functions of the program and of the reference, by a program of this work over the kit's printer. -/
import Derived.Test.YtipkciildhghiaaKFOPLED0
import Derived.Test.YtipkciildhghiaaKLCLAHA0
import Derived.Test.YtipkciildhghiaaKNDOBGI0
import Derived.Test.YtipkciildhghiaaKPPIGCD0
import Derived.Test.YtipkciildhghiaaKW0
import Derived.Shelf.SortG.Plain
import Derived.Test.YtipkciildhghiaaProg
/- The library's contracts laid at this program (a tool of the kit has written it). -/
namespace Go.Proofs.Ytipkciildhghiaa.B
open Go.Shelf
def sortIL_ren : Go.Shelf.Ren := ⟨fun | 53 => 87 | 64 => 131 | 63 => 130 | 78 => 169 | 79 => 170 | 70 => 160 | 71 => 161 | 72 => 162 | 73 => 163 | 74 => 164 | 75 => 165 | 59 => 166 | 76 => 167 | 77 => 168 | 88 => 192 | 89 => 193 | 90 => 194 | 91 => 195 | 92 => 196 | 68 => 197 | 96 => 203 | n => n, fun | 22 => 26 | 23 => 2 | 3 => 3 | 51 => 114 | 0 => 0 | 67 => 138 | 69 => 140 | 4 => 4 | 61 => 131 | 60 => 130 | 44 => 110 | 5 => 5 | 9 => 9 | 75 => 152 | 79 => 156 | 83 => 161 | 84 => 162 | n => n, fun | n => n⟩
theorem sortIL : Go.Proofs.SlLaysN.n53 Try.prog sortIL_ren := {
  mixed := by kernel_rfl
  f53 := ⟨Try.f87.name, by decide, Try.func87.trans (congrArg some (by kernel_rfl))⟩
  f59 := ⟨Try.f166.name, by decide, Try.func166.trans (congrArg some (by kernel_rfl))⟩
  f63 := ⟨Try.f130.name, by decide, Try.func130.trans (congrArg some (by kernel_rfl))⟩
  f64 := Try.func131.trans (congrArg some (by kernel_rfl))
  f68 := ⟨Try.f197.name, by decide, Try.func197.trans (congrArg some (by kernel_rfl))⟩
  f70 := ⟨Try.f160.name, by decide, Try.func160.trans (congrArg some (by kernel_rfl))⟩
  f71 := ⟨Try.f161.name, by decide, Try.func161.trans (congrArg some (by kernel_rfl))⟩
  f72 := ⟨Try.f162.name, by decide, Try.func162.trans (congrArg some (by kernel_rfl))⟩
  f73 := ⟨Try.f163.name, by decide, Try.func163.trans (congrArg some (by kernel_rfl))⟩
  f74 := ⟨Try.f164.name, by decide, Try.func164.trans (congrArg some (by kernel_rfl))⟩
  f75 := ⟨Try.f165.name, by decide, Try.func165.trans (congrArg some (by kernel_rfl))⟩
  f76 := ⟨Try.f167.name, by decide, Try.func167.trans (congrArg some (by kernel_rfl))⟩
  f77 := ⟨Try.f168.name, by decide, Try.func168.trans (congrArg some (by kernel_rfl))⟩
  f78 := Try.func169.trans (congrArg some (by kernel_rfl))
  f79 := Try.func170.trans (congrArg some (by kernel_rfl))
  f88 := ⟨Try.f192.name, by decide, Try.func192.trans (congrArg some (by kernel_rfl))⟩
  f89 := Try.func193.trans (congrArg some (by kernel_rfl))
  f90 := Try.func194.trans (congrArg some (by kernel_rfl))
  f91 := ⟨Try.f195.name, by decide, Try.func195.trans (congrArg some (by kernel_rfl))⟩
  f92 := ⟨Try.f196.name, by decide, Try.func196.trans (congrArg some (by kernel_rfl))⟩
  f96 := ⟨Try.f203.name, by decide, Try.func203.trans (congrArg some (by kernel_rfl))⟩
  t0 := Try.underlying0
  a0 := Try.isAgg0
  z0 := Try.sizeOf0
  v0 := Try.zeroValue0
  t3 := Try.underlying3
  a3 := Try.isAgg3
  z3 := Try.sizeOf3
  v3 := Try.zeroValue3
  t4 := Try.underlying4
  a4 := Try.isAgg4
  z4 := Try.sizeOf4
  v4 := Try.zeroValue4
  t5 := Try.underlying5
  a5 := Try.isAgg5
  z5 := Try.sizeOf5
  v5 := Try.zeroValue5
  t9 := Try.underlying9
  a9 := Try.isAgg9
  z9 := Try.sizeOf9
  v9 := Try.zeroValue9
  t22 := Try.underlying26
  a22 := Try.isAgg26
  z22 := Try.sizeOf26
  v22 := Try.zeroValue26
  t23 := Try.underlying2
  a23 := Try.isAgg2
  z23 := Try.sizeOf2
  v23 := Try.zeroValue2
  t44 := Try.underlying110
  a44 := Try.isAgg110
  z44 := Try.sizeOf110
  v44 := Try.zeroValue110
  t51 := Try.underlying114
  a51 := Try.isAgg114
  z51 := Try.sizeOf114
  v51 := Try.zeroValue114
  t60 := Try.underlying130
  a60 := Try.isAgg130
  z60 := Try.sizeOf130
  v60 := Try.zeroValue130
  t61 := Try.underlying131
  a61 := Try.isAgg131
  z61 := Try.sizeOf131
  v61 := Try.zeroValue131
  t67 := Try.underlying138
  a67 := Try.isAgg138
  z67 := Try.sizeOf138
  v67 := Try.zeroValue138
  t69 := Try.underlying140
  a69 := Try.isAgg140
  z69 := Try.sizeOf140
  v69 := Try.zeroValue140
  t75 := Try.underlying152
  a75 := Try.isAgg152
  z75 := Try.sizeOf152
  v75 := Try.zeroValue152
  t79 := Try.underlying156
  a79 := Try.isAgg156
  z79 := Try.sizeOf156
  v79 := Try.zeroValue156
  t83 := Try.underlying161
  a83 := Try.isAgg161
  z83 := Try.sizeOf161
  v83 := Try.zeroValue161
  t84 := Try.underlying162
  a84 := Try.isAgg162
  z84 := Try.sizeOf162
  v84 := Try.zeroValue162 }
end Go.Proofs.Ytipkciildhghiaa.B
/- slices.Sort of whole numbers: the library's contract in the words of the printed proofs (for this claim, by hand). -/
set_option linter.unusedVariables false
set_option linter.unusedSimpArgs false
namespace Go.Proofs.Ytipkciildhghiaa.B
open Go.RowKit Go.Shelf Go.Proofs.YtipkciildhghiaaW.PrintWords Go.Proofs.YtipkciildhghiaaW.PrintLast Go.Proofs.YtipkciildhghiaaW.PrintMore
open Go.Sort (Holds grow putRow mapBlock putCells onCells)
def sortI (l : List Int) : List Int := l.mergeSort fun x y => decide (x ≤ y)
theorem sortI_len (l : List Int) : (sortI l).length = l.length := by unfold sortI; exact List.length_mergeSort _
theorem R_put {er base g cap n q : Nat} {ok : Nat → Prop} {w : World} {l l' : List Int} {os : Array Obj} (h : Kd.R (Kd.int .i64) er w base ok (.slice (some ⟨g, 0, none⟩) n cap) l) (hl : l'.length = l.length) (hp : 0 < l.length) :
    Kd.R (Kd.int .i64) er (sortWorld (Value.int .i64) w g 0 q l'.toArray os) base ok (.slice (some ⟨g, 0, none⟩) n cap) l' := by
  obtain ⟨h0, inner, ⟨hi, hcase⟩, hr⟩ := h
  rcases hcase with ⟨hx, _⟩ | ⟨g9, cap9, cur9, he9, hb9, hh9, hn9, hm9, hs9, ht9⟩
  · cases hx
  injection he9 with ha9 hl9 hc9
  injection ha9 with ha9
  injection ha9 with ha9
  subst ha9; subst hc9; subst hl9
  rw [show (Kd.int .i64).sz = 1 from rfl, Nat.mul_one] at hs9
  refine ⟨h0, l'.map (Value.int .i64), ⟨?_, ?_⟩, ?_⟩
  · simp [show (Kd.int .i64).sz = 1 from rfl]
  · rw [hl]
    refine .inr ⟨_, _, _, rfl, hb9, sw_at _ _ _ _ _ _ _ hh9, hn9, hm9, by rw [show (Kd.int .i64).sz = 1 from rfl, Nat.mul_one]; simp [putCells, hs9], ?_⟩
    rw [show (Kd.int .i64).sz = 1 from rfl, Nat.mul_one]
    refine List.ext_getElem? (fun j => ?_)
    by_cases hj : j < l'.length
    · rw [List.getElem?_take, if_pos (by omega), Array.getElem?_toList, List.getElem?_map, List.getElem?_eq_getElem hj]
      have hjc : j < cur9.size := by omega
      simp only [putCells, Array.getElem?_mapIdx]
      rw [Array.getElem?_eq_getElem hjc]
      simp only [Option.map_some, Nat.zero_le, true_and, Nat.zero_add, Nat.sub_zero]
      rw [if_pos (by simpa using hj), getElem!_pos _ j (by simpa using hj)]
      simp
    rw [List.getElem?_eq_none (by simp; omega), List.getElem?_eq_none (by simp; omega)]
  refine ⟨by simp [show (Kd.int .i64).sz = 1 from rfl], fun j p hj => ?_⟩
  show _ = [Value.int .i64 p]
  rw [show (Kd.int .i64).sz = 1 from rfl, Nat.mul_one]
  have h1 : (l'.map (Value.int .i64))[j]? = some (Value.int .i64 p) := by rw [List.getElem?_map, hj]; rfl
  obtain ⟨h2, h3⟩ := List.getElem?_eq_some_iff.1 h1
  rw [List.drop_eq_getElem_cons h2, h3]; rfl
def slices_Sort_int64_int64.f (l0 : List Int) : Option (List Int) := if decide (1 ≤ l0.length) && decide (l0.length ≤ 1048576) then some (sortI l0) else none
theorem slices_Sort_int64_int64.calls (P0_ : Nat → Prop) (u : Value) (l0 : List Int) (r : List Int) (w0 w : World) (hB : Below w0.heap.size w0 w) (ho0 : Kd.R (Kd.int .i64) 2 w w0.heap.size P0_ u l0) (h : slices_Sort_int64_int64.f l0 = some r) :
    Calls Try.prog 87 #[u] w fun e w' => e = .returned (.tuple #[]) ∧ Kd.R (Kd.int .i64) 2 w' w0.heap.size (fun k_ => (P0_ k_ ∨ w.heap.size ≤ k_)) u r ∧ Below w0.heap.size w0 w' ∧ Kept w w' (fun k_ => P0_ k_) := by
  unfold slices_Sort_int64_int64.f at h
  obtain ⟨hcond, rfl⟩ : (decide (1 ≤ l0.length) && decide (l0.length ≤ 1048576)) = true ∧ sortI l0 = r := by
    split at h
    · rename_i hc
      injection h with h
      exact ⟨hc, h⟩
    cases h
  simp only [Bool.and_eq_true, decide_eq_true_eq] at hcond
  obtain ⟨g, cap, rfl, hg, hgl, cs, hh⟩ := Kd.R_form ho0 hcond.1
  have hH : Holds (Value.int .i64) w g 0 l0.toArray := by
    intro j hj
    have hj' : j < l0.length := by simpa using hj
    obtain ⟨h2, h3⟩ := Kd.R_celln (0 : Int) ho0 (j : Int) (by omega) (by omega)
    rw [Int.toNat_natCast] at h2 h3
    rw [Nat.zero_add]
    refine ⟨?_, h3⟩
    rw [h2, rdOf_nat, getElem!_pos _ j hj, List.getD_eq_getElem?_getD, List.getElem?_eq_getElem hj']
    simp
  refine (AnyG.slices_Sort_int sortIL g 0 cap l0 w hH hgl (by omega)).mono ?_
  rintro e w' ⟨rfl, q, os, rfl⟩
  have hR := R_put (q := q) (os := os) ho0 (sortI_len l0) hcond.1
  have hbel := sw_below (Value.int .i64) w0 w g 0 q (sortI l0).toArray os hB hg
  have hsz := sw_size (Value.int .i64) w g 0 q (sortI l0).toArray os
  have hkp := fun k hk hne => sw_heap (Value.int .i64) w g 0 q (sortI l0).toArray os k hk hne
  unfold sortWorld at hR hbel hsz hkp
  exact ⟨rfl, Kd.R_mono hR (fun k hk => .inl hk), hbel, hsz, fun k hk hnk => hkp k hk (fun h => hnk (by subst h; exact ho0.1 _ rfl))⟩
end Go.Proofs.Ytipkciildhghiaa.B
/- A literal of one row of the call's own (for this claim, by hand). -/
set_option linter.unusedVariables false
set_option linter.unusedSimpArgs false
namespace Go.Proofs.Ytipkciildhghiaa.B
open Go.RowKit Go.Proofs.YtipkciildhghiaaW.PrintWords Go.Proofs.YtipkciildhghiaaW.PrintLast Go.Proofs.YtipkciildhghiaaW.PrintMore
section
variable {P : Program} {ops : Array Oper} {rest : List Oper} {o : Oper} {a : Act} {Q : Exit → Act → World → Prop} {W : World}
theorem S_lit1 (et base e : Nat) (hgd : o.guard = none) {N : Tmp} (_hd : o.dst = some N) {x : List Int} {u : Value} {ok : Nat → Prop}
    (hrun : (execOp a.eval o).run P W = .ok (.value (.slice (some ⟨W.heap.size, 0, none⟩) [x].length [x].length)) (W.alloc (.cells [u].toArray e)))
    (hR : Kd.R (Kd.int .i64) et W base ok u x) (hfresh : ok W.heap.size) (hbase : base ≤ W.heap.size)
    (h : ∀ v1 w1, Kd.S (Kd.slice et (Kd.int .i64)) e w1 base ok v1 [x] → Below W.heap.size W w1 → W.grownBy w1 none → (∃ b, v1.ownBlock = some b ∧ W.heap.size ≤ b) → wpList P ops Q rest (a.put o.dst v1) w1) : wpList P ops Q (o :: rest) a W := by
  have hb : Below W.heap.size W (W.alloc (.cells [u].toArray e)) := below_alloc (Below.refl _ _) _
  refine Kd.event_run hgd hrun (h _ _ ⟨fun _ => 0, fun k hk => ?_, [u], ?_, ?_⟩ hb (World.grownBy_alloc W _ none) ⟨W.heap.size, by simp [Value.ownBlock], Nat.le_refl _⟩)
  · have : W.heap.size = k := by simpa [Value.ownBlock] using hk
    subst this
    exact hfresh
  · have h2 := World.ownsRow_lit (base := base) (e := e) (size := 1) W [u].toArray 1 hbase (by simp [maxLen]) (by simp)
    simpa [show (Kd.tag (fun _ => 0) (Kd.slice et (Kd.int .i64))).sz = 1 from rfl] using h2
  refine Reps.one (show Kd.M (Kd.tag (fun _ => 0) (Kd.slice et (Kd.int .i64))) _ _ _ (x, 0) [u] from ?_) (Reps.none _ _)
  refine ⟨u, rfl, ?_⟩
  have h3 := Kd.R_below (Kd.R_bound hR) hb
  refine Kd.R_mono h3 (fun k hk => ⟨⟨hk.1, fun he => ?_⟩, rfl⟩)
  have h4 : k = W.heap.size := by simpa [Value.ownBlock] using he
  have := hk.2.2.1
  omega
end
end Go.Proofs.Ytipkciildhghiaa.B
namespace Go.Proofs.Ytipkciildhghiaa.B
open Go.RowKit Go.Proofs.YtipkciildhghiaaW.PrintWords Go.Proofs.YtipkciildhghiaaW.PrintLast Go.Proofs.YtipkciildhghiaaW.PrintMore
attribute [local go_sem] max2_int min2_int max_two min_two max_three min_three max_four min_four
set_option linter.unusedVariables false
set_option linter.unusedSimpArgs false
mutual
def z81.l0 : Nat → List Int → Int → List Int → Bool → Int → Option (List Int)
 | 0, _, _, _, _, _ => none
 | k + 1, x0, x1, x5, x6, x7 => if x7 < (x0.length : Int) then (if x6 = true then (z81.j1 k x0 x1 x5 x6 x7 false) else (if 0 ≤ x7 then (z81.j1 k x0 x1 x5 x6 x7 (decide ((rd x0 x7) ≥ x1))) else (none))) else (if x6 = true then (some x5) else (if x5.length < 17592186044416 then (some (x5 ++ [x1])) else (none)))
def z81.j1 : Nat → List Int → Int → List Int → Bool → Int → Bool → Option (List Int)
 | 0, _, _, _, _, _, _ => none
 | k + 1, x0, x1, x5, x6, x7, x24 => if x24 = true then (if 0 ≤ x7 then (if x7 < (x0.length : Int) then (if (rd x0 x7) > x1 then (if x5.length < 17592186044416 then ((some (x5 ++ [x1] : List Int)).bind fun y109 => (if y109.length < 17592186044416 then (z81.l0 k x0 x1 (y109 ++ [rd x0 x7]) true (wrap64 (x7 + 1))) else (none))) else (none)) else (if x5.length < 17592186044416 then (z81.l0 k x0 x1 (x5 ++ [rd x0 x7]) true (wrap64 (x7 + 1))) else (none))) else (none)) else (none)) else (if 0 ≤ x7 then (if x7 < (x0.length : Int) then (if x5.length < 17592186044416 then (z81.l0 k x0 x1 (x5 ++ [rd x0 x7]) x6 (wrap64 (x7 + 1))) else (none)) else (none)) else (none))
end
def z81.f (k : Nat) (l0 : List Int) (a1 : Int) : Option (List Int) := z81.l0 k l0 a1 (([] : List Int)) false 0
set_option maxHeartbeats 8000000 in
set_option maxRecDepth 100000 in
theorem z81.calls (k : Nat) (A0 : Option Addr) (c0 : Nat) (l0 : List Int) (a1 : Int) (r : List Int) (w : World) (hr0 : Kd.C (Kd.int .i64) w A0 l0.length l0) (hc0 : l0.length ≤ c0) (h : z81.f k l0 a1 = some r) :
  Calls Try.prog 81 #[.slice A0 l0.length c0, .int .i64 a1] w fun e w' => ∃ v0_ : Value, e = .returned (v0_) ∧ Kd.R (Kd.int .i64) 2 w' w.heap.size (fun _ => True) v0_ r ∧ Below w.heap.size w w' := by
 have HR0 := Zz.mk hr0
 have HC0 := Zz.mk hc0
 clear hr0 hc0
 have HB := Zz.mk (Below.refl w.heap.size w)
 have H : (z81.l0 k l0 a1 (([] : List Int)) false 0) = some r := h
 clear h
 obtain ⟨y101, hy101⟩ : ∃ y_ : List Int, y_ = (([] : List Int)) := ⟨_, rfl⟩
 replace H : (z81.l0 k l0 a1 y101 false 0) = some r := Y_ hy101 H
 have Ny101 := Zz.mk hy101
 clear hy101
 have H' := Zz.mk H
 clear H
 go_enter Try.func81, Try.ntmps81
 go_wp2_with (first | ((with_reducible refine gate_dst (N := 8) rfl ?_); refine Kd.R_lit (Kd.int .i64) _ 2 ?hg (N := 8) ?hd (xs := ([] : List Int)) (inner := []) (ok := fun _ => True) (okp := fun _ => True) ?hr ?hp (fun _ hk => hk) trivial (Below.refl _ _) (Nat.le_refl _) (by simp) ?_; (case hd => rfl); (case hg => rfl); (case hr => first | (go_simp; done) | (go_simp; rfl)); (case hp => exact (Reps.none _ _)); intro v102 w3 ho4 hb hg_ hnew_; clear hg_ hnew_; (first | rw [← Ny101.out] at ho4 | (simp only [Int.reduceToNat] at ho4; rw [← Ny101.out] at ho4)); have HO103 := Zz.mk (Kd.R_lower ho4 (bS_ (B_ HB.out))); replace HB := Zz.mk (bT_ (B_ HB.out) hb); clear hb ho4))
 go_loopg [5, 6, 7] k (fun kq v5 v6 v7 w' => ∃ (x5_1 : List Int) (x6_1 : Bool) (x7_1 : Int), v6 = .bool x6_1 ∧ v7 = .int .i64 x7_1 ∧ Zz (z81.l0 kq l0 a1 x5_1 x6_1 x7_1 = some r) ∧ Zz (kq ≤ k) ∧ Zz (Kd.R (Kd.int .i64) 2 w' w.heap.size (fun _ => True) v5 x5_1) ∧ Zz (Below w.heap.size w w'))
 case atStart => exact ⟨(y101), (false), (0), E_, E_, H', ⟨Nat.le_refl _⟩, ⟨KR_ HO103.out⟩, ⟨B_ HB.out⟩⟩
 case round =>
  clear H'
  obtain ⟨x5_1, x6_1, x7_1, rfl, rfl, HA, HK1, HO_5, HB⟩ := hrel
  cases gk with
  | zero => exact absurd HA.out (by simp [z81.l0])
  | succ k1 =>
   have H := HA.out
   clear HA
   simp only [z81.l0] at H
   by_cases c5 : x7_1 < (l0.length : Int)
   ·rw [if_pos c5] at H
    have c5b0 : decide (x7_1 < (l0.length : Int)) = true := decide_eq_true c5
    clear c5
    have HC6 := Zz.mk H
    clear H
    go_upto_region 6 with (fail)
    go_cut [24] (fun v24 wc => ∃ (kq : Nat) (x24_5 : Bool), v24 = .bool x24_5 ∧ Zz (z81.j1 kq l0 a1 x5_1 x6_1 x7_1 x24_5 = some r) ∧ Zz (kq ≤ k1) ∧ Zz (Kd.R (Kd.int .i64) 2 wc w.heap.size (fun _ => True) u5 x5_1) ∧ Zz (Below w.heap.size w wc))
    case first =>
     have H := HC6.out
     clear HC6
     by_cases c7 : x6_1 = true
     ·subst c7
      replace H := T_ H
      have H' := Zz.mk H
      clear H
      go_wp2
      go_meet
      case rel => exact ⟨_, (false), E_, H', ⟨by have := HK1.out; first | omega | exact Nat.le_refl _⟩, ⟨KR_ HO_5.out⟩, ⟨B_ HB.out⟩⟩
     replace c7 := Bool.eq_false_iff.mpr c7
     subst c7
     replace H := N_ H
     have c8b0 := O3_ H
     replace H := O2_ H
     (first | rw [c8b0] | (simp only [i64_w, i32_w]; rw [c8b0]) | skip)
     have H' := Zz.mk H
     clear H
     have p107 : 0 ≤ (x7_1 : Int) := D_
     have q107 : x7_1 < (l0.length : Int) := D_
     obtain ⟨ad107, e107, hx107_0⟩ := Kd.at_int HR0.out x7_1 p107 q107
     cases e107
     replace hx107_0 := (HB.out.cell (World.block_lt_of_cell? w _ hx107_0)).trans hx107_0
     replace p107 := eq_true p107
     replace q107 := eq_true q107
     go_wp2
     go_meet
     case rel => exact ⟨_, (decide ((rd l0 x7_1) ≥ a1)), E_, H', ⟨by have := HK1.out; first | omega | exact Nat.le_refl _⟩, ⟨KR_ HO_5.out⟩, ⟨B_ HB.out⟩⟩
    case rest =>
     clear HC6
     (try clear c5);(try clear c5b0)
     obtain ⟨kq, x24_5, rfl, HA, HJ5, HO_5, HB⟩ := hcut
     cases kq with
     | zero => exact absurd HA.out (by simp [z81.j1])
     | succ kj5 =>
      have H := HA.out
      clear HA
      simp only [z81.j1] at H
      by_cases c9 : x24_5 = true
      ·subst c9
       replace H := T_ H
       have c10b0 := O3_ H
       replace H := O2_ H
       have c11b0 := O3_ H
       replace H := O2_ H
       by_cases c12 : (rd l0 x7_1) > a1
       ·rw [if_pos c12] at H
        have c12b0 : decide (a1 < (rd l0 x7_1)) = true := decide_eq_true c12
        clear c12
        have c13 := O1_ H
        replace H := O2_ H
        have LMc13 := Zz.mk c13
        clear c13
        obtain ⟨y109, hy109⟩ : ∃ y_ : List Int, y_ = (x5_1 ++ [a1]) := ⟨_, rfl⟩
        replace H : (if y109.length < 17592186044416 then (z81.l0 kj5 l0 a1 (y109 ++ [rd l0 x7_1]) true (wrap64 (x7_1 + 1))) else (none)) = some r := Y_ hy109 H
        have Ny109 := Zz.mk hy109
        clear hy109
        have c14 := O1_ H
        replace H := O2_ H
        have LMc14 := Zz.mk c14
        clear c14
        obtain ⟨y113, hy113⟩ : ∃ y_ : List Int, y_ = (y109 ++ [rd l0 x7_1]) := ⟨_, rfl⟩
        replace H : (z81.l0 kj5 l0 a1 y113 true (wrap64 (x7_1 + 1))) = some r := Y_ hy113 H
        have Ny113 := Zz.mk hy113
        clear hy113
        have H' := Zz.mk H
        clear H
        have p108 : 0 ≤ (x7_1 : Int) := D_
        have q108 : x7_1 < (l0.length : Int) := D_
        obtain ⟨ad108, e108, hx108_0⟩ := Kd.at_int HR0.out x7_1 p108 q108
        cases e108
        replace hx108_0 := (HB.out.cell (World.block_lt_of_cell? w _ hx108_0)).trans hx108_0
        replace p108 := eq_true p108
        replace q108 := eq_true q108
        go_wp2_with (first | ((with_reducible refine gate_builtin (b := .append) (xs := #[.tmp 31, .tmp 33]) rfl ?_); at_builtin; refine Kd.R_append (Kd.int .i64) (w0 := w) w.heap.size rfl (.tmp 31) (.tmp 33) 26 2 (.int .i64 0) 8 rfl Try.underlying26 info2 rfl (by decide) (by omega) u5 x5_1 a1 [.int .i64 a1] (fun _ => True) (fun _ => False) rfl rfl ?aP (fun _ hk => hk.elim) ?aF ?aO ?aB ?aS ?aL ?_; (case aP => exact rfl); (case aB => exact (B_ HB.out)); (case aF => exact (fun _ _ => trivial)); (case aO => exact (KR_ HO_5.out)); (case aS => exact (bS_ (B_ HB.out))); (case aL => have := LMc13.out; omega); intro v110 w15 ho hb hg hat; rw [← Ny109.out] at ho; replace HB := Zz.mk (hb); have HO111 := Zz.mk (ho); clear HO_5; clear ho hb hg hat; have p112 : 0 ≤ (x7_1 : Int) := D_; have q112 : x7_1 < (l0.length : Int) := D_; obtain ⟨ad112, e112, hx112_0⟩ := Kd.at_int HR0.out x7_1 p112 q112; obtain rfl : ad108 = ad112 := (by injection e112); replace hx112_0 := (HB.out.cell (World.block_lt_of_cell? w _ hx112_0)).trans hx112_0; replace p112 := eq_true p112; replace q112 := eq_true q112) | ((with_reducible refine gate_builtin (b := .append) (xs := #[.tmp 35, .tmp 40]) rfl ?_); at_builtin; refine Kd.R_append (Kd.int .i64) (w0 := w) w.heap.size rfl (.tmp 35) (.tmp 40) 26 2 (.int .i64 0) 8 rfl Try.underlying26 info2 rfl (by decide) (by omega) v110 y109 (rd l0 x7_1) [.int .i64 (rd l0 x7_1)] (fun _ => True) (fun _ => False) rfl rfl ?aP (fun _ hk => hk.elim) ?aF ?aO ?aB ?aS ?aL ?_; (case aP => exact rfl); (case aB => exact (B_ HB.out)); (case aF => exact (fun _ _ => trivial)); (case aO => exact (KR_ HO111.out)); (case aS => exact (bS_ (B_ HB.out))); (case aL => have := LMc14.out; omega); intro v114 w16 ho hb hg hat; rw [← Ny113.out] at ho; replace HB := Zz.mk (hb); have HO115 := Zz.mk (ho); clear HO111; clear ho hb hg hat))
        go_roundg kj5
        case measure => have := HK1.out; have := HJ5.out; omega
        case rel => exact ⟨(y113), (true), (wrap64 (x7_1 + 1)), E_, E_, H', ⟨by have := HK1.out; have := HJ5.out; omega⟩, ⟨KR_ HO115.out⟩, ⟨B_ HB.out⟩⟩
       rw [if_neg c12] at H
       have c12b0 : decide (a1 < (rd l0 x7_1)) = false := decide_eq_false c12
       clear c12
       have c17 := O1_ H
       replace H := O2_ H
       have LMc17 := Zz.mk c17
       clear c17
       obtain ⟨y117, hy117⟩ : ∃ y_ : List Int, y_ = (x5_1 ++ [rd l0 x7_1]) := ⟨_, rfl⟩
       replace H : (z81.l0 kj5 l0 a1 y117 true (wrap64 (x7_1 + 1))) = some r := Y_ hy117 H
       have Ny117 := Zz.mk hy117
       clear hy117
       have H' := Zz.mk H
       clear H
       have p108 : 0 ≤ (x7_1 : Int) := D_
       have q108 : x7_1 < (l0.length : Int) := D_
       obtain ⟨ad108, e108, hx108_0⟩ := Kd.at_int HR0.out x7_1 p108 q108
       cases e108
       replace hx108_0 := (HB.out.cell (World.block_lt_of_cell? w _ hx108_0)).trans hx108_0
       replace p108 := eq_true p108
       replace q108 := eq_true q108
       have p116 : 0 ≤ (x7_1 : Int) := D_
       have q116 : x7_1 < (l0.length : Int) := D_
       obtain ⟨ad116, e116, hx116_0⟩ := Kd.at_int HR0.out x7_1 p116 q116
       obtain rfl : ad108 = ad116 := (by injection e116)
       replace hx116_0 := (HB.out.cell (World.block_lt_of_cell? w _ hx116_0)).trans hx116_0
       replace p116 := eq_true p116
       replace q116 := eq_true q116
       go_wp2_with (first | ((with_reducible refine gate_builtin (b := .append) (xs := #[.tmp 35, .tmp 40]) rfl ?_); at_builtin; refine Kd.R_append (Kd.int .i64) (w0 := w) w.heap.size rfl (.tmp 35) (.tmp 40) 26 2 (.int .i64 0) 8 rfl Try.underlying26 info2 rfl (by decide) (by omega) u5 x5_1 (rd l0 x7_1) [.int .i64 (rd l0 x7_1)] (fun _ => True) (fun _ => False) rfl rfl ?aP (fun _ hk => hk.elim) ?aF ?aO ?aB ?aS ?aL ?_; (case aP => exact rfl); (case aB => exact (B_ HB.out)); (case aF => exact (fun _ _ => trivial)); (case aO => exact (KR_ HO_5.out)); (case aS => exact (bS_ (B_ HB.out))); (case aL => have := LMc17.out; omega); intro v118 w18 ho hb hg hat; rw [← Ny117.out] at ho; replace HB := Zz.mk (hb); have HO119 := Zz.mk (ho); clear HO_5; clear ho hb hg hat))
       go_roundg kj5
       case measure => have := HK1.out; have := HJ5.out; omega
       case rel => exact ⟨(y117), (true), (wrap64 (x7_1 + 1)), E_, E_, H', ⟨by have := HK1.out; have := HJ5.out; omega⟩, ⟨KR_ HO119.out⟩, ⟨B_ HB.out⟩⟩
      replace c9 := Bool.eq_false_iff.mpr c9
      subst c9
      replace H := N_ H
      have c19b0 := O3_ H
      replace H := O2_ H
      have c20b0 := O3_ H
      replace H := O2_ H
      have c21 := O1_ H
      replace H := O2_ H
      have LMc21 := Zz.mk c21
      clear c21
      obtain ⟨y121, hy121⟩ : ∃ y_ : List Int, y_ = (x5_1 ++ [rd l0 x7_1]) := ⟨_, rfl⟩
      replace H : (z81.l0 kj5 l0 a1 y121 x6_1 (wrap64 (x7_1 + 1))) = some r := Y_ hy121 H
      have Ny121 := Zz.mk hy121
      clear hy121
      have H' := Zz.mk H
      clear H
      have p120 : 0 ≤ (x7_1 : Int) := D_
      have q120 : x7_1 < (l0.length : Int) := D_
      obtain ⟨ad120, e120, hx120_0⟩ := Kd.at_int HR0.out x7_1 p120 q120
      cases e120
      replace hx120_0 := (HB.out.cell (World.block_lt_of_cell? w _ hx120_0)).trans hx120_0
      replace p120 := eq_true p120
      replace q120 := eq_true q120
      go_wp2_with (first | ((with_reducible refine gate_builtin (b := .append) (xs := #[.tmp 35, .tmp 40]) rfl ?_); at_builtin; refine Kd.R_append (Kd.int .i64) (w0 := w) w.heap.size rfl (.tmp 35) (.tmp 40) 26 2 (.int .i64 0) 8 rfl Try.underlying26 info2 rfl (by decide) (by omega) u5 x5_1 (rd l0 x7_1) [.int .i64 (rd l0 x7_1)] (fun _ => True) (fun _ => False) rfl rfl ?aP (fun _ hk => hk.elim) ?aF ?aO ?aB ?aS ?aL ?_; (case aP => exact rfl); (case aB => exact (B_ HB.out)); (case aF => exact (fun _ _ => trivial)); (case aO => exact (KR_ HO_5.out)); (case aS => exact (bS_ (B_ HB.out))); (case aL => have := LMc21.out; omega); intro v122 w22 ho hb hg hat; rw [← Ny121.out] at ho; replace HB := Zz.mk (hb); have HO123 := Zz.mk (ho); clear HO_5; clear ho hb hg hat))
      go_roundg kj5
      case measure => have := HK1.out; have := HJ5.out; omega
      case rel => exact ⟨(y121), (x6_1), (wrap64 (x7_1 + 1)), E_, E_, H', ⟨by have := HK1.out; have := HJ5.out; omega⟩, ⟨KR_ HO123.out⟩, ⟨B_ HB.out⟩⟩
   rw [if_neg c5] at H
   have c5b0 : decide (x7_1 < (l0.length : Int)) = false := decide_eq_false c5
   clear c5
   by_cases c23 : x6_1 = true
   ·subst c23
    replace H := T_ H
    obtain rfl := OI_ H
    go_wp2
    go_ret
    exact ⟨_, F_, KR_ HO_5.out, B_ HB.out⟩
   replace c23 := Bool.eq_false_iff.mpr c23
   subst c23
   replace H := N_ H
   have c24 := O1_ H
   replace H := O2_ H
   have LMc24 := Zz.mk c24
   clear c24
   obtain ⟨y104, hy104⟩ : ∃ y_ : List Int, y_ = (x5_1 ++ [a1]) := ⟨_, rfl⟩
   replace H : (some y104) = some r := Y_ hy104 H
   have Ny104 := Zz.mk hy104
   clear hy104
   obtain rfl := OI_ H
   go_wp2_with (first | ((with_reducible refine gate_builtin (b := .append) (xs := #[.tmp 44, .tmp 46]) rfl ?_); at_builtin; refine Kd.R_append (Kd.int .i64) (w0 := w) w.heap.size rfl (.tmp 44) (.tmp 46) 26 2 (.int .i64 0) 8 rfl Try.underlying26 info2 rfl (by decide) (by omega) u5 x5_1 a1 [.int .i64 a1] (fun _ => True) (fun _ => False) rfl rfl ?aP (fun _ hk => hk.elim) ?aF ?aO ?aB ?aS ?aL ?_; (case aP => exact rfl); (case aB => exact (B_ HB.out)); (case aF => exact (fun _ _ => trivial)); (case aO => exact (KR_ HO_5.out)); (case aS => exact (bS_ (B_ HB.out))); (case aL => have := LMc24.out; omega); intro v105 w25 ho hb hg hat; rw [← Ny104.out] at ho; replace HB := Zz.mk (hb); have HO106 := Zz.mk (ho); clear HO_5; clear ho hb hg hat))
   go_ret
   exact ⟨_, F_, KR_ HO106.out, B_ HB.out⟩
end Go.Proofs.Ytipkciildhghiaa.B
