/- Printed proofs of functions of the program and of the reference, by a program of this work over the kit's printer. -/
import Derived.Test.YtipkciildhghiaaKBDEGBD0
import Derived.Test.YtipkciildhghiaaKFPEGOA0
import Derived.Test.YtipkciildhghiaaKW0
set_option maxHeartbeats 8000000
set_option maxRecDepth 100000
namespace Go.Proofs.Ytipkciildhghiaa.B
open Go.RowKit Go.Proofs.YtipkciildhghiaaW.PrintWords Go.Proofs.YtipkciildhghiaaW.PrintLast Go.Proofs.YtipkciildhghiaaW.PrintMore
attribute [local go_sem] max2_int min2_int max_two min_two max_three min_three max_four min_four
set_option linter.unusedVariables false
set_option linter.unusedSimpArgs false
def z139.f (a0 : Int) (a1 : Int) : Option (Int) := if (Int.tmod a0 2) = 0 then (some 1) else (some (wrap64 (a1 - 1)))
theorem z139.calls (a0 : Int) (a1 : Int) (r : Int) (w : World) (h : z139.f a0 a1 = some r) :
  Calls Try.prog 139 #[.int .i64 a0, .int .i64 a1] w fun e w' => e = .returned (.int .i64 r) ∧ Dz w w' := by
 have H : (if (Int.tmod a0 2) = 0 then (some 1) else (some (wrap64 (a1 - 1)))) = some r := h
 clear h
 by_cases c3 : (Int.tmod a0 2) = 0
 ·rw [if_pos c3] at H
  have c3b0 : ((Int.tmod a0 2) == 0) = true := beq_iff_eq.mpr c3
  have c3b1 : ((Int.tmod a0 2) != 0) = false := bne_eq_false_iff_eq.mpr c3
  clear c3
  obtain rfl := OI_ H
  go_enter Try.func139, Try.ntmps139
  go_wp2
  go_ret
  exact eD_
 rw [if_neg c3] at H
 have c3b0 : ((Int.tmod a0 2) == 0) = false := beq_eq_false_iff_ne.mpr c3
 have c3b1 : ((Int.tmod a0 2) != 0) = true := bne_iff_ne.mpr c3
 obtain rfl := OI_ H
 go_enter Try.func139, Try.ntmps139
 go_wp2
 go_ret
 exact eD_
def z138.l0 : Nat → List Int → List (List Int) → Int → Int → List (List Int) → Option (List Int)
 | 0, _, _, _, _, _ => none
 | k + 1, x5, x13, x14, x15, x102000 => if x15 < x14 then (if 0 ≤ x15 then (if x15 < (x13.length : Int) then ((z84.f k x102000 (rI_ x13 x15)).bind fun t107 => (if x5.length < 17592186044416 then (z138.l0 k (x5 ++ [t107]) x13 x14 (wrap64 (x15 + 1)) x102000) else (none))) else (none)) else (none)) else (some x5)
def z138.f (k : Nat) (l0_0 : List (List Int)) (a1 : Int) : Option (List Int) := if 0 ≤ a1 then (if a1 < (l0_0.length : Int) then ((z110.f k (rI_ l0_0 a1)).bind fun t103 => (z138.l0 k ([] : List Int) t103 (t103.length : Int) 0 l0_0)) else (none)) else (none)
theorem z138.calls (k : Nat) (A0_0 : Option Addr) (c0_0 : Nat) (l0_0 : List (List Int)) (a1 : Int) (r : List Int) (w : World) (hr0_0 : Kd.C (Kd.slice 2 (Kd.int .i64)) w A0_0 l0_0.length l0_0) (hc0_0 : l0_0.length ≤ c0_0) (h : z138.f k l0_0 a1 = some r) :
  Calls Try.prog 138 #[.agg #[.slice A0_0 l0_0.length c0_0], .int .i64 a1] w fun e w' => ∃ v0_ : Value, e = .returned (v0_) ∧ Kd.R (Kd.int .i64) 2 w' w.heap.size (fun _ => True) v0_ r ∧ Below w.heap.size w w' := by
 have hu29 := Try.underlying29
 have HR0_0 := Zz.mk hr0_0
 have HC0_0 := Zz.mk hc0_0
 clear hr0_0 hc0_0
 have HB := Zz.mk (Below.refl w.heap.size w)
 have H : (if 0 ≤ a1 then (if a1 < (l0_0.length : Int) then ((z110.f k (rI_ l0_0 a1)).bind fun t103 => (z138.l0 k ([] : List Int) t103 (t103.length : Int) 0 l0_0)) else (none)) else (none)) = some r := h
 clear h
 have c3b0 := O3_ H
 replace H := O2_ H
 have c4b0 := O3_ H
 replace H := O2_ H
 replace H := OZ_ H
 obtain ⟨t103, A5, H⟩ := H
 have H' := Zz.mk H
 clear H
 go_enter Try.func138, Try.ntmps138
 go_wp2_with (first | ((with_reducible refine gate_dst (N := 2) rfl ?_); refine bx_ 2 #[.slice A0_0 l0_0.length c0_0] 29 ?_; intro gb101 hg w6 hbox hb; have BK101 := Zz.mk (hbox); have GW101 := Zz.mk ((gw_ hg (B_ HB.out))); have GE101 := GW101; replace HB := Zz.mk (bT_ (B_ HB.out) hb); clear hb hbox hg; obtain ⟨hcz7_0, hfz7_0⟩ := Z1f_ BK101.out; have p102 : 0 ≤ (a1 : Int) := D_; have q102 : a1 < (l0_0.length : Int) := D_; obtain ⟨ad102, A102_0, c102_0, e102, hx102_0, hl102_0, hi102_0⟩ := at_ListInt HR0_0.out a1 p102 q102; cases e102; replace hx102_0 := (HB.out.cell (World.block_lt_of_cell? w _ hx102_0)).trans hx102_0; have HR102_0 := Zz.mk hi102_0; have HC102_0 := Zz.mk hl102_0; clear hi102_0 hl102_0; replace p102 := eq_true p102; replace q102 := eq_true q102) | ((with_reducible refine gC_ (f := 110) rfl ?_); refine GL_ (some 13) rfl rfl Try.func110 #[.slice A102_0 (rI_ l0_0 a1).length c102_0] rfl (h := ?_); (with_reducible refine (z110.calls k (fun k_ => k_ < w.heap.size) _ _ (rI_ l0_0 a1) t103 _ ?side1 A5.out).mono ?_); (case side1 => exact Kd.V_mk HC102_0.out (Kd.F_below (Kd.C_F (Kd.heap_int .i64) HR102_0.out) (B1_ HB.out GE101.out))); rintro e w8 ⟨v104, rfl, ho0, hb⟩; refine ⟨_, rfl, ?_⟩; have HO105 := Zz.mk (Kd.N_lower (Kd.N_mono (ok' := fun k_ => k_ ≠ gb101) ho0 (fun k_ hk_ => Or.elim hk_ (fun hs_ => fun e_ => Nat.not_le.2 hs_ (by rw [e_]; exact GW101.out)) (fun hn_ => (Kd.freshB (g := gb101) (o := .cells #[.slice (some ad102) l0_0.length c0_0] 29 (0, 0)) (KB_ BK101.out) k_ hn_)))) (bS_ (B1_ HB.out GE101.out))); replace BK101 := Zz.mk (kb_ BK101.out hb); replace HB := Zz.mk (bT_ (B1_ HB.out GE101.out) hb); (try clear hb); (try clear ho0); obtain ⟨Ao9, co9, eo9⟩ := Kd.N_slice HO105.out; subst eo9))
 go_loopg [5, 15] k (fun kq v5 v15 w' => ∃ (x5_1 : List Int) (x15_1 : Int), v15 = .int .i64 x15_1 ∧ Zz (z138.l0 kq x5_1 t103 (t103.length : Int) x15_1 l0_0 = some r) ∧ Zz (kq ≤ k) ∧ Zz (Kd.R (Kd.int .i64) 2 w' w.heap.size (fun _ => True) v5 x5_1) ∧ Zz (Kd.N (Kd.slice 2 (Kd.int .i64)) 26 w' w.heap.size (fun k_ => some k_ ≠ (v5 : Value).ownBlock ∧ k_ ≠ gb101) (.slice Ao9 t103.length co9) t103) ∧ Zz (w'.heap[gb101]? = some (.cells #[(.slice (some ad102) l0_0.length c0_0)] 29 (0, 0))) ∧ Zz (Below w.heap.size w w'))
 case atStart => exact ⟨(([] : List Int)), (0), E_, H', ⟨Nat.le_refl _⟩, ⟨by first | exact Kd.R_nil _ _ _ _ _ | exact Kd.N_nil _ _ _ _ _ | exact Kd.V_nil _ _ _ _ _ | exact Kd.Q_nil _ _ _ _ _ | exact Kd.S_nil _ _ _ _ _⟩, ⟨by refine NW_ ?_; exact Kd.N_mono HO105.out (fun _ hk => ⟨(by simp [Value.ownBlock]), hk⟩)⟩, ⟨KB_ BK101.out⟩, ⟨B1_ HB.out GE101.out⟩⟩
 case round =>
  clear H'
  (try clear c3b0);(try clear c4b0);(try clear hcz7_0);(try clear hfz7_0);(try clear hx102_0);(try clear p102);(try clear q102)
  obtain ⟨x5_1, x15_1, rfl, HA, HK1, HO_5, HO_13, BK101, HB⟩ := hrel
  cases gk with
  | zero => exact absurd HA.out (by simp [z138.l0])
  | succ k1 =>
   have H := HA.out
   clear HA
   simp only [z138.l0] at H
   by_cases c10 : x15_1 < (t103.length : Int)
   ·rw [if_pos c10] at H
    have c10b0 : decide (x15_1 < (t103.length : Int)) = true := decide_eq_true c10
    clear c10
    have c11b0 := O3_ H
    replace H := O2_ H
    have c12b0 := O3_ H
    replace H := O2_ H
    replace H := OZ_ H
    obtain ⟨t107, A13, H⟩ := H
    have c14 := O1_ H
    replace H := O2_ H
    have LMc14 := Zz.mk c14
    clear c14
    obtain ⟨y108, hy108⟩ : ∃ y_ : List Int, y_ = (x5_1 ++ [t107]) := ⟨_, rfl⟩
    replace H : (z138.l0 k1 y108 t103 (t103.length : Int) (wrap64 (x15_1 + 1)) l0_0) = some r := Y_ hy108 H
    have Ny108 := Zz.mk hy108
    clear hy108
    have H' := Zz.mk H
    clear H
    have p106 : 0 ≤ (x15_1 : Int) := D_
    have q106 : x15_1 < (t103.length : Int) := D_
    obtain ⟨ad106, A106_0, c106_0, e106, hx106_0, hl106_0, hi106_0⟩ := at_ListInt (Kd.N_reads' HO_13.out).2.2 x15_1 p106 q106
    cases e106
    obtain ⟨ce106, hce106, hMe106, hcc106⟩ := Kd.N_get HO_13.out [] x15_1 p106 (by first | exact q106 | exact D_ | (have e_ := (Kd.N_reads' HO_13.out).1; omega))
    obtain ⟨ua106_0, uc106_0, rfl, ul106_0, ge106_0⟩ := Kd.FK_slice_open hMe106
    have hv106_0 := hcc106 0 _ rfl
    rw [Nat.add_zero, show ((Kd.slice 2 (Kd.int .i64))).sz = 1 from rfl, Nat.mul_one] at hv106_0
    replace hv106_0 := Option.some.inj (hv106_0.symm.trans hx106_0)
    injection hv106_0 with hva_ hvn_ hvc_
    rw [hva_] at ge106_0
    rw [hvc_] at ul106_0
    have HL106_0 := Zz.mk (show Kd.V (Kd.int .i64) 2 _ w.heap.size _ _ (rI_ t103 x15_1) from Kd.V_mk ul106_0 ge106_0)
    clear hva_ hvn_ hvc_ ge106_0 ul106_0
    clear hcc106 hce106
    have HR106_0 := Zz.mk hi106_0
    have HC106_0 := Zz.mk hl106_0
    clear hi106_0 hl106_0
    replace p106 := eq_true p106
    replace q106 := eq_true q106
    obtain ⟨hcz15_0, hfz15_0⟩ := Z1f_ BK101.out
    go_wp2_with (first | ((with_reducible refine gC_ (f := 84) rfl ?_); refine GL_ (some 22) rfl rfl Try.func84 #[.agg #[.slice (some ad102) l0_0.length c0_0], .slice A106_0 (rI_ t103 x15_1).length c106_0] rfl (h := ?_); (with_reducible refine (z84.calls k1 _ _ l0_0 _ _ (rI_ t103 x15_1) t107 _ ?side1 ?side2 ?side3 ?side4 A13.out).mono ?_); (case side1 => exact KC_ (Kd.C_below HR0_0.out HB.out)); (case side2 => exact HC0_0.out); (case side3 => exact KC_ (KC_ HR106_0.out)); (case side4 => exact HC106_0.out); rintro e w16 ⟨rfl, hb⟩; refine ⟨_, rfl, ?_⟩; replace HO_5 := Zz.mk (Kd.R_below (KR_ HO_5.out) hb); replace HO_13 := Zz.mk (Kd.N_below (KN_ HO_13.out) hb); replace HL106_0 := Zz.mk (Kd.V_below (by refine VW_ ?_; exact HL106_0.out) hb); replace BK101 := Zz.mk (kb_ BK101.out hb); replace HR106_0 := Zz.mk (Kd.C_below (KC_ HR106_0.out) hb); replace HB := Zz.mk (bT_ (B1_ HB.out GE101.out) hb); (try clear hb)) | ((with_reducible refine gate_builtin (b := .append) (xs := #[.tmp 19, .tmp 23]) rfl ?_); at_builtin; refine Kd.R_append (Kd.int .i64) (w0 := w) w.heap.size rfl (.tmp 19) (.tmp 23) 26 2 (.int .i64 0) 8 rfl Try.underlying26 info2 rfl (by decide) (by omega) u5 x5_1 t107 [.int .i64 t107] (fun _ => True) (fun _ => False) rfl rfl ?aP (fun _ hk => hk.elim) ?aF ?aO ?aB ?aS ?aL ?_; (case aP => exact rfl); (case aB => exact (B1_ HB.out GE101.out)); (case aF => exact (fun _ _ => trivial)); (case aO => exact (KR_ HO_5.out)); (case aS => exact (bS_ (B1_ HB.out GE101.out))); (case aL => have := LMc14.out; omega); intro v109 w17 ho hb hg hat; rw [← Ny108.out] at ho; replace HO_13 := Zz.mk (Kd.N_afterv (ok := (fun k_ => k_ ≠ gb101)) (by refine NW_ ?_; exact Kd.N_mono HO_13.out (fun _ hk => ⟨hk.2, hk.1⟩)) hg hat); replace BK101 := Zz.mk (blk_grown (g := gb101) (o := .cells #[.slice (some ad102) l0_0.length c0_0] 29 (0, 0)) (KB_ BK101.out) hg (Kd.R_ne HO_5.out BK101.out (by decide))); replace HL106_0 := Zz.mk (Kd.V_afterv (ok := (fun k_ => some k_ ≠ (.slice (some ad106) t103.length co9 : Value).ownBlock ∧ k_ ≠ gb101)) (by refine VW_ ?_; exact Kd.V_mono HL106_0.out (fun _ hk => ⟨⟨hk.2, hk.1.2⟩, hk.1.1⟩)) hg hat); replace HB := Zz.mk (hb); have HO110 := Zz.mk (ho); clear HO_5; clear ho hb hg hat))
    go_roundg k1
    case measure => exact Q1_ HK1
    case rel => exact ⟨(y108), (wrap64 (x15_1 + 1)), E_, H', ⟨Q1_ HK1⟩, ⟨KR_ HO110.out⟩, ⟨by refine NW_ ?_; exact Kd.N_mono HO_13.out (fun _ hk => ⟨hk.2, hk.1⟩)⟩, ⟨KB_ BK101.out⟩, ⟨B1_ HB.out GE101.out⟩⟩
   rw [if_neg c10] at H
   have c10b0 : decide (x15_1 < (t103.length : Int)) = false := decide_eq_false c10
   clear c10
   obtain rfl := OI_ H
   go_wp2
   go_ret
   exact ⟨_, F_, KR_ HO_5.out, B1_ HB.out GE101.out⟩
end Go.Proofs.Ytipkciildhghiaa.B
/- A call of a function value in a region, by its contract. -/
set_option linter.unusedVariables false
set_option linter.unusedSimpArgs false
namespace Go.Proofs.Ytipkciildhghiaa.B
open Go.RowKit Go.Proofs.YtipkciildhghiaaW.PrintWords Go.Proofs.YtipkciildhghiaaW.PrintLast Go.Proofs.YtipkciildhghiaaW.PrintMore
section
variable {P : Program} {ops : Array Oper} {Q : Exit → Act → World → Prop}
theorem GOF_ {oi : Oper} {N : Option Tmp} {a : Act} {w : World} {K : Act → World → Prop} {f : FuncId} {fn : Func} {as_ : Array Operand} {ts : Array TypeId} {op : Operand} {caps : Array Value} (hf : P.funcs[f]? = some fn) (args : Array Value) (hname : (fn.name == "runtime.NumGoroutine") = false := by kernel_rfl) (hb : fn.body.isSome = true := by exact rfl)
  (hw : Region.wanted oi (yielded ops a.tmps) = true := by rfl) (hN : oi.dst = N := by exact rfl) (hop : oi.op = .call { callee := .value op, args := as_, argTypes := ts } := by exact rfl) (heval : a.eval op = .func (.func f) #[] caps := by exact rfl) (hargs : as_.map a.eval ++ caps = args := by (try simp only [List.map_toArray, List.map_cons, List.map_nil]); first | done | rfl | (simp only [List.length_drop, List.length_take]; rfl))
  (h : Calls P f args w fun e w' => ∃ v, e = .returned v ∧ K (a.put N v) w') : if Region.wanted oi (yielded ops a.tmps) = true then Oper.wp P oi a w K Q else K (a.put N undef) w := by
  refine call_ f args hw hN ?_ h
  have he := enters_ hf hname hb args w
  unfold execOp
  simp [hop, resolve, Deferred.ofValue, invoke, heval, hargs, he]
end
end Go.Proofs.Ytipkciildhghiaa.B
namespace Go.Proofs.Ytipkciildhghiaa.B
open Go.RowKit Go.Proofs.YtipkciildhghiaaW.PrintWords Go.Proofs.YtipkciildhghiaaW.PrintLast Go.Proofs.YtipkciildhghiaaW.PrintMore
attribute [local go_sem] max2_int min2_int max_two min_two max_three min_three max_four min_four
set_option linter.unusedVariables false
set_option linter.unusedSimpArgs false
def z173.f (a0 : Int) (a1 : Int) : Option (Int) := some 0
theorem z173.calls (a0 : Int) (a1 : Int) (r : Int) (w : World) (h : z173.f a0 a1 = some r) :
  Calls Try.prog 173 #[.int .i64 a0, .int .i64 a1] w fun e w' => e = .returned (.int .i64 r) ∧ Dz w w' := by
 have H : (some 0) = some r := h
 clear h
 obtain rfl := OI_ H
 go_enter Try.func173, Try.ntmps173
 go_wp2
 go_ret
 exact eD_
def z134.f (a0 : Int) (a1 : Int) (a2 : Int) : Option (Int × Int × Int × List Int) := if 0 ≤ (wrap64 (a1 * a2)) then (if (wrap64 (a1 * a2) : Int).toNat ≤ 35184372088832 then (some (a0, a1, a2, (List.replicate (wrap64 (a1 * a2) : Int).toNat 0))) else (none)) else (none)
theorem z134.calls (a0 : Int) (a1 : Int) (a2 : Int) (r1 : Int) (r2 : Int) (r3 : Int) (r4 : List Int) (w : World) (h : z134.f a0 a1 a2 = some (r1, r2, r3, r4)) :
  Calls Try.prog 134 #[.int .i64 a0, .int .i64 a1, .int .i64 a2] w fun e w' => ∃ v3_ : Value, e = .returned (.agg #[.int .i64 r1, .int .i64 r2, .int .i64 r3, v3_]) ∧ Kd.R (Kd.int .i64) 2 w' w.heap.size (fun _ => True) v3_ r4 ∧ Below w.heap.size w w' := by
 have hu48 := Try.underlying48
 have HB := Zz.mk (Below.refl w.heap.size w)
 have H : (if 0 ≤ (wrap64 (a1 * a2)) then (if (wrap64 (a1 * a2) : Int).toNat ≤ 35184372088832 then (some (a0, a1, a2, (List.replicate (wrap64 (a1 * a2) : Int).toNat 0))) else (none)) else (none)) = some (r1, r2, r3, r4) := h
 clear h
 obtain ⟨ji4, hji4⟩ : ∃ j_ : Int, (wrap64 (a1 * a2)) = j_ := ⟨_, rfl⟩
 replace H : (if 0 ≤ (ji4) then (if (ji4 : Int).toNat ≤ 35184372088832 then (some (a0, a1, a2, (List.replicate (ji4 : Int).toNat 0))) else (none)) else (none)) = some (r1, r2, r3, r4) := by first | (rw [hji4] at H; exact H) | (simp only [hji4] at H ⊢; exact H)
 have hji4w : (IntKind.i64.wrap (a1 * a2)) = ji4 := (i64_w _).trans hji4
 have c5 := O1_ H
 replace H := O2_ H
 have c5b0 := eq_true c5
 have c5b1 : decide (0 ≤ (ji4)) = true := decide_eq_true c5
 clear c5
 have c6 := O1_ H
 replace H := O2_ H
 have c6b0 := eq_true c6
 have c6b1 : decide ((ji4 : Int).toNat ≤ 35184372088832) = true := decide_eq_true c6
 clear c6
 obtain ⟨y102, hy102⟩ : ∃ y_ : List Int, y_ = (List.replicate (ji4 : Int).toNat 0) := ⟨_, rfl⟩
 replace H : (some (a0, a1, a2, y102)) = some (r1, r2, r3, r4) := Y_ hy102 H
 have Ny102 := Zz.mk hy102
 clear hy102
 simp only [Option.some.injEq, Prod.mk.injEq] at H
 obtain ⟨rfl, rfl, rfl, rfl⟩ := H
 go_enter Try.func134, Try.ntmps134
 go_wp2_with (first | ((with_reducible refine gate_dst (N := 6) rfl ?_); refine bx_ 6 #[.int .i64 0, .int .i64 0, .int .i64 0, .slice none 0 0] 48 ?_; intro gb101 hg w7 hbox hb; have BK101 := Zz.mk (hbox); have GW101 := Zz.mk ((gw_ hg (B_ HB.out))); have GE101 := GW101; replace HB := Zz.mk (bT_ (B_ HB.out) hb); clear hb hbox hg) | ((with_reducible refine gate_dst (N := 13) rfl ?_); refine Kd.R_make (Kd.int .i64) _ 2 rfl (N := 13) rfl 26 _ _ rfl ji4 rfl rfl Try.underlying26 (.int .i64 0) 8 info2 rfl (by decide) (by omega) 0 (ok := fun _ => True) (okp := fun _ => True) rfl (fun _ hk => hk) trivial (D_) (Nat.le_trans (Nat.mul_le_mul_right _ (D_ : ji4.toNat ≤ 35184372088832)) (by omega)) (Below.refl _ _) (Nat.le_refl _) ?_; intro v103 w8 ho9 hb hg_ hnew_; clear hg_ hnew_; (first | rw [← Ny102.out] at ho9 | (simp only [Int.reduceToNat] at ho9; rw [← Ny102.out] at ho9)); have HO104 := Zz.mk (Kd.R_lower ho9 (bS_ (B1_ HB.out GE101.out))); replace BK101 := Zz.mk (kb_ BK101.out hb); replace HB := Zz.mk (bT_ (B1_ HB.out GE101.out) hb); clear hb ho9; obtain ⟨Ao10, co10, eo10⟩ := Kd.R_slice HO104.out; subst eo10; obtain ⟨hcz11_0, hcz11_1, hcz11_2, hcz11_3, hfz11_0, hfz11_1, hfz11_2, hfz11_3⟩ := Z4f_ BK101.out))
 refine bodyPost_ret (results_cell_row rfl _ _ gb101 48 #[.int .i64 a0, .int .i64 a1, .int .i64 a2, .slice Ao10 y102.length co10] (0, 0) _ rfl (by refine BW_ ?_; refine bP_ (cs := #[.int .i64 a0, .int .i64 a1, .int .i64 a2, .slice none 0 0]) ?_ 3 _ rfl; refine BW_ ?_; refine bP_ (cs := #[.int .i64 a0, .int .i64 a1, .int .i64 0, .slice none 0 0]) ?_ 2 _ rfl; refine BW_ ?_; refine bP_ (cs := #[.int .i64 a0, .int .i64 0, .int .i64 0, .slice none 0 0]) ?_ 1 _ rfl; refine BW_ ?_; refine bP_ (cs := #[.int .i64 0, .int .i64 0, .int .i64 0, .slice none 0 0]) ?_ 0 _ rfl; refine BW_ ?_; exact BK101.out) Try.underlying48 rfl (by kernel_rfl)) rfl ?_
 exact ⟨_, by first | rfl | (simp [errW_none, errW_some] <;> rfl) | (simp only [← hji4]; first | rfl | (simp [errW_none, errW_some] <;> rfl)) | (simp [*, errW_none, errW_some] <;> rfl), by refine RW_ ?_; exact Kd.R_mono (Kd.R_far (p := ⟨gb101, 3, none⟩) (Kd.R_far (p := ⟨gb101, 2, none⟩) (Kd.R_far (p := ⟨gb101, 1, none⟩) (Kd.R_far (p := ⟨gb101, 0, none⟩) (Kd.R_types HO104.out BK101.out (by decide)) (fun _ hk => hk.2) (.int .i64 a0)) (fun _ hk => hk.2) (.int .i64 a1)) (fun _ hk => hk.2) (.int .i64 a2)) (fun _ hk => hk.2) (.slice Ao10 y102.length co10)) (fun _ hk => trivial), B1_ HB.out GE101.out⟩
mutual
def z135.l0 : Nat → List Int → List Int → Int → List (List Int) → Option (List Int)
 | 0, _, _, _, _ => none
 | k + 1, x5, x6, x7, x51000 => if x7 < (x5.length : Int) then (z135.j1 k x5 x6 x7 (decide ((x5.length : Int) > 1)) x51000) else (z135.j1 k x5 x6 x7 false x51000)
def z135.j1 : Nat → List Int → List Int → Int → Bool → List (List Int) → Option (List Int)
 | 0, _, _, _, _, _ => none
 | k + 1, x5, x6, x7, x24, x51000 => if x24 = true then ((z108.f x5 x7).bind fun t105 => ((z80.f k x51000 t105).bind fun t108 => (if x6.length < 17592186044416 then (z135.l0 k x5 (x6 ++ [t108]) (wrap64 (x7 + 1)) x51000) else (none)))) else (some x6)
end
def z135.f (k : Nat) (l0_0 : List (List Int)) (a1 : Int) : Option (List Int) := if 0 ≤ a1 then (if a1 < (l0_0.length : Int) then (z135.l0 k (rI_ l0_0 a1) (([] : List Int)) 0 l0_0) else (none)) else (none)
theorem z135.calls (k : Nat) (gp0 : Nat) (A0_0 : Option Addr) (c0_0 : Nat) (l0_0 : List (List Int)) (a1 : Int) (r : List Int) (w : World) (hbp0 : w.heap[gp0]? = some (.cells #[.slice A0_0 l0_0.length c0_0] 29 (0, 0))) (hr0_0 : Kd.C (Kd.slice 2 (Kd.int .i64)) w A0_0 l0_0.length l0_0) (hc0_0 : l0_0.length ≤ c0_0) (h : z135.f k l0_0 a1 = some r) :
  Calls Try.prog 135 #[.pointer (some ⟨gp0, 0, none⟩), .int .i64 a1] w fun e w' => ∃ v0_ : Value, e = .returned (v0_) ∧ Kd.R (Kd.int .i64) 2 w' w.heap.size (fun _ => True) v0_ r ∧ Below w.heap.size w w' := by
 have HR0_0 := Zz.mk hr0_0
 have HC0_0 := Zz.mk hc0_0
 clear hr0_0 hc0_0
 have BK50 := Zz.mk hbp0
 clear hbp0
 have HB := Zz.mk (Below.refl w.heap.size w)
 have H : (if 0 ≤ a1 then (if a1 < (l0_0.length : Int) then (z135.l0 k (rI_ l0_0 a1) (([] : List Int)) 0 l0_0) else (none)) else (none)) = some r := h
 clear h
 have c3b0 := O3_ H
 replace H := O2_ H
 have c4b0 := O3_ H
 replace H := O2_ H
 obtain ⟨y102, hy102⟩ : ∃ y_ : List Int, y_ = (([] : List Int)) := ⟨_, rfl⟩
 replace H : (z135.l0 k (rI_ l0_0 a1) y102 0 l0_0) = some r := Y_ hy102 H
 have Ny102 := Zz.mk hy102
 clear hy102
 have H' := Zz.mk H
 clear H
 obtain ⟨hcz5_0, hfz5_0⟩ := Z1f_ BK50.out
 have p101 : 0 ≤ (a1 : Int) := D_
 have q101 : a1 < (l0_0.length : Int) := D_
 obtain ⟨ad101, A101_0, c101_0, e101, hx101_0, hl101_0, hi101_0⟩ := at_ListInt HR0_0.out a1 p101 q101
 cases e101
 have HR101_0 := Zz.mk hi101_0
 have HC101_0 := Zz.mk hl101_0
 clear hi101_0 hl101_0
 replace p101 := eq_true p101
 replace q101 := eq_true q101
 go_enter Try.func135, Try.ntmps135
 go_wp2_with (first | ((with_reducible refine gate_dst (N := 15) rfl ?_); (try (refine gate_guard (by rfl) ?_; dsimp only)); refine Kd.R_lit (Kd.int .i64) _ 2 ?hg (N := 15) ?hd (xs := ([] : List Int)) (inner := []) (ok := fun _ => True) (okp := fun _ => True) ?hr ?hp (fun _ hk => hk) trivial (Below.refl _ _) (Nat.le_refl _) (by simp) ?_; (case hd => rfl); (case hg => rfl); (case hr => first | (go_simp; done) | (go_simp; rfl)); (case hp => exact (Reps.none _ _)); intro v103 w6 ho7 hb hg_ hnew_; clear hg_ hnew_; (first | rw [← Ny102.out] at ho7 | (simp only [Int.reduceToNat] at ho7; rw [← Ny102.out] at ho7)); have HO104 := Zz.mk (Kd.R_lower ho7 (bS_ (B_ HB.out))); replace BK50 := Zz.mk (kb_ BK50.out hb); replace HB := Zz.mk (bT_ (B_ HB.out) hb); clear hb ho7))
 go_loopg [6, 7] k (fun kq v6 v7 w' => ∃ (x6_1 : List Int) (x7_1 : Int), v7 = .int .i64 x7_1 ∧ Zz (z135.l0 kq (rI_ l0_0 a1) x6_1 x7_1 l0_0 = some r) ∧ Zz (kq ≤ k) ∧ Zz (Kd.R (Kd.int .i64) 2 w' w.heap.size (fun _ => True) v6 x6_1) ∧ Zz (w'.heap[gp0]? = some (.cells #[(.slice (some ad101) l0_0.length c0_0)] 29 (0, 0))) ∧ Zz (Below w.heap.size w w'))
 case atStart => exact ⟨(y102), (0), E_, H', ⟨Nat.le_refl _⟩, ⟨KR_ HO104.out⟩, ⟨KB_ BK50.out⟩, ⟨B_ HB.out⟩⟩
 case round =>
  clear H'
  (try clear c3b0);(try clear c4b0);(try clear hcz5_0);(try clear hfz5_0);(try clear hx101_0);(try clear p101);(try clear q101)
  obtain ⟨x6_1, x7_1, rfl, HA, HK1, HO_6, BK50, HB⟩ := hrel
  cases gk with
  | zero => exact absurd HA.out (by simp [z135.l0])
  | succ k1 =>
   have H := HA.out
   clear HA
   simp only [z135.l0] at H
   have HC8 := Zz.mk H
   clear H
   go_upto_region 4 with (fail)
   go_cut [24] (fun v24 wc => ∃ (kq : Nat) (x24_7 : Bool), v24 = .bool x24_7 ∧ Zz (z135.j1 kq (rI_ l0_0 a1) x6_1 x7_1 x24_7 l0_0 = some r) ∧ Zz (kq ≤ k1) ∧ Zz (Kd.R (Kd.int .i64) 2 wc w.heap.size (fun _ => True) u6 x6_1) ∧ Zz (wc.heap[gp0]? = some (.cells #[(.slice (some ad101) l0_0.length c0_0)] 29 (0, 0))) ∧ Zz (Below w.heap.size w wc))
   case first =>
    have H := HC8.out
    clear HC8
    by_cases c9 : x7_1 < ((rI_ l0_0 a1).length : Int)
    ·rw [if_pos c9] at H
     have c9b0 : decide (x7_1 < ((rI_ l0_0 a1).length : Int)) = true := decide_eq_true c9
     clear c9
     (first | rw [c9b0] | (simp only [i64_w, i32_w]; rw [c9b0]) | skip)
     have H' := Zz.mk H
     clear H
     go_wp2
     go_meet
     case rel => exact ⟨_, (decide (((rI_ l0_0 a1).length : Int) > 1)), E_, H', ⟨by have := HK1.out; first | omega | exact Nat.le_refl _⟩, ⟨KR_ HO_6.out⟩, ⟨KB_ BK50.out⟩, ⟨B_ HB.out⟩⟩
    rw [if_neg c9] at H
    have c9b0 : decide (x7_1 < ((rI_ l0_0 a1).length : Int)) = false := decide_eq_false c9
    clear c9
    (first | rw [c9b0] | (simp only [i64_w, i32_w]; rw [c9b0]) | skip)
    have H' := Zz.mk H
    clear H
    go_wp2
    go_meet
    case rel => exact ⟨_, (false), E_, H', ⟨by have := HK1.out; first | omega | exact Nat.le_refl _⟩, ⟨KR_ HO_6.out⟩, ⟨KB_ BK50.out⟩, ⟨B_ HB.out⟩⟩
   case rest =>
    clear HC8
    (try clear c3b0);(try clear c4b0);(try clear hcz5_0);(try clear hfz5_0);(try clear hx101_0);(try clear p101);(try clear q101)
    obtain ⟨kq, x24_7, rfl, HA, HJ7, HO_6, BK50, HB⟩ := hcut
    cases kq with
    | zero => exact absurd HA.out (by simp [z135.j1])
    | succ kj7 =>
     have H := HA.out
     clear HA
     simp only [z135.j1] at H
     by_cases c10 : x24_7 = true
     ·subst c10
      replace H := T_ H
      replace H := OZ_ H
      obtain ⟨t105, A11, H⟩ := H
      replace H := OZ_ H
      obtain ⟨t108, A12, H⟩ := H
      have c13 := O1_ H
      replace H := O2_ H
      have LMc13 := Zz.mk c13
      clear c13
      obtain ⟨y109, hy109⟩ : ∃ y_ : List Int, y_ = (x6_1 ++ [t108]) := ⟨_, rfl⟩
      replace H : (z135.l0 kj7 (rI_ l0_0 a1) y109 (wrap64 (x7_1 + 1)) l0_0) = some r := Y_ hy109 H
      have Ny109 := Zz.mk hy109
      clear hy109
      have H' := Zz.mk H
      clear H
      go_wp2_with (first | ((with_reducible refine gC_ (f := 108) rfl ?_); refine GL_ (some 31) rfl rfl Try.func108 #[.slice A101_0 (rI_ l0_0 a1).length c101_0, .int .i64 x7_1] rfl (h := ?_); (with_reducible refine (z108.calls _ _ (rI_ l0_0 a1) x7_1 t105 _ ?side1 ?side2 A11.out).mono ?_); (case side1 => exact KC_ (Kd.C_below HR101_0.out HB.out)); (case side2 => exact HC101_0.out); rintro e w14 ⟨v106, rfl, ho0, hb⟩; refine ⟨_, rfl, ?_⟩; have HO107 := Zz.mk (Kd.R_lower (Kd.R_new' ho0 (Kd.R_lt (KR_ HO_6.out))) (bS_ (B_ HB.out))); replace HO_6 := Zz.mk (Kd.R_elder' (KR_ HO_6.out) (Kd.R_base ho0) hb); replace BK50 := Zz.mk (kb_ BK50.out hb); replace HB := Zz.mk (bT_ (B_ HB.out) hb); (try clear hb); (try clear ho0); obtain ⟨Ao15, co15, eo15⟩ := Kd.R_slice HO107.out; subst eo15) | ((with_reducible refine gC_ (f := 80) rfl ?_); refine GL_ (some 32) rfl rfl Try.func80 #[.pointer (some ⟨gp0, 0, none⟩), .slice Ao15 t105.length co15] rfl (h := ?_); (with_reducible refine (z80.calls kj7 gp0 (some ad101) c0_0 l0_0 _ _ t105 t108 _ ?side1 ?side2 ?side3 ?side4 ?side5 A12.out).mono ?_); (case side1 => refine BW_ ?_; exact BK50.out); (case side2 => exact KC_ (Kd.C_below HR0_0.out HB.out)); (case side3 => exact HC0_0.out); (case side4 => exact KC_ (Kd.R_reads' HO107.out).2.2); (case side5 => exact (Kd.R_reads' HO107.out).2.1); rintro e w' ⟨rfl, ⟨nd, rfl⟩⟩; refine ⟨_, rfl, ?_⟩) | ((with_reducible refine gate_builtin (b := .append) (xs := #[.tmp 27, .tmp 33]) rfl ?_); (try (refine gate_guard (by rfl) ?_; dsimp only)); at_builtin; refine Kd.R_append (Kd.int .i64) (w0 := w) w.heap.size rfl (.tmp 27) (.tmp 33) 26 2 (.int .i64 0) 8 rfl Try.underlying26 info2 rfl (by decide) (by omega) u6 x6_1 t108 [.int .i64 t108] (fun k_ => some k_ ≠ (.slice Ao15 t105.length co15 : Value).ownBlock) (fun _ => False) rfl rfl ?aP (fun _ hk => hk.elim) ?aF ?aO ?aB ?aS ?aL ?_; (case aP => exact rfl); (case aB => exact (B_ HB.out)); (case aF => exact (fun k_ hk => Kd.fresh' (Kd.R_lt (KR_ HO107.out)) k_ hk)); (case aO => exact (by refine RW_ ?_; exact Kd.R_mono HO_6.out (fun _ hk => hk.2))); (case aS => exact (bS_ (B_ HB.out))); (case aL => have := LMc13.out; omega); intro v110 w16 ho hb hg hat; rw [← Ny109.out] at ho; replace BK50 := Zz.mk (blk_grown (g := gp0) (o := .cells #[.slice (some ad101) l0_0.length c0_0] 29 (0, 0)) (KB_ BK50.out) hg (Kd.R_ne HO_6.out BK50.out (by decide))); replace HO107 := Zz.mk (Kd.R_after (ok := (fun _ => True)) (KR_ HO107.out) hg hat); replace HB := Zz.mk (hb); have HO111 := Zz.mk (ho); clear HO_6; clear ho hb hg hat))
      go_roundg kj7
      case measure => have := HK1.out; have := HJ7.out; omega
      case rel => exact ⟨(y109), (wrap64 (x7_1 + 1)), E_, H', ⟨by have := HK1.out; have := HJ7.out; omega⟩, ⟨by refine RW_ ?_; exact Kd.R_mono HO111.out (fun _ hk => trivial)⟩, ⟨KB_ BK50.out⟩, ⟨B_ HB.out⟩⟩
     replace c10 := Bool.eq_false_iff.mpr c10
     subst c10
     replace H := N_ H
     obtain rfl := OI_ H
     go_wp2
     go_ret
     exact ⟨_, F_, KR_ HO_6.out, B_ HB.out⟩
def z136.f (a0 : Int) (a1 : Int) : Option (Int) := if (Int.tmod a0 2) = 0 then (if a1 = 0 then (none) else (some ((1 : Int) % a1))) else (some (wrap64 (a1 - 1)))
theorem z136.calls (a0 : Int) (a1 : Int) (r : Int) (w : World) (h : z136.f a0 a1 = some r) :
  Calls Try.prog 136 #[.int .i64 a0, .int .i64 a1] w fun e w' => e = .returned (.int .i64 r) ∧ Dz w w' := by
 have H : (if (Int.tmod a0 2) = 0 then (if a1 = 0 then (none) else (some ((1 : Int) % a1))) else (some (wrap64 (a1 - 1)))) = some r := h
 clear h
 by_cases c3 : (Int.tmod a0 2) = 0
 ·rw [if_pos c3] at H
  have c3b0 : ((Int.tmod a0 2) == 0) = true := beq_iff_eq.mpr c3
  have c3b1 : ((Int.tmod a0 2) != 0) = false := bne_eq_false_iff_eq.mpr c3
  clear c3
  by_cases c4 : a1 = 0
  ·rw [if_pos c4] at H
   exact X_ H
  rw [if_neg c4] at H
  have c4b0 : (a1 == 0) = false := beq_eq_false_iff_ne.mpr c4
  have c4b1 : (a1 != 0) = true := bne_iff_ne.mpr c4
  obtain rfl := OI_ H
  go_enter Try.func136, Try.ntmps136
  go_wp2
  go_ret
  exact eD_
 rw [if_neg c3] at H
 have c3b0 : ((Int.tmod a0 2) == 0) = false := beq_eq_false_iff_ne.mpr c3
 have c3b1 : ((Int.tmod a0 2) != 0) = true := bne_iff_ne.mpr c3
 obtain rfl := OI_ H
 go_enter Try.func136, Try.ntmps136
 go_wp2
 go_ret
 exact eD_
end Go.Proofs.Ytipkciildhghiaa.B
