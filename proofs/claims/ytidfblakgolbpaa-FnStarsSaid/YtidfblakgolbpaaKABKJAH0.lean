/- Printed proofs of functions of the program and of the reference, by a program of this work over the kit's printer. -/
import Derived.Test.YtidfblakgolbpaaKFLJFCP0
import Derived.Test.YtidfblakgolbpaaKGBPODH0
import Derived.Test.YtidfblakgolbpaaKJCCDEM0
import Derived.Test.YtidfblakgolbpaaKLNICDK0
import Derived.Test.YtidfblakgolbpaaKW0
namespace Go.Proofs.Ytidfblakgolbpaa.B
open Go.RowKit Go.Proofs.YtidfblakgolbpaaW.PrintWords Go.Proofs.YtidfblakgolbpaaW.PrintLast Go.Proofs.YtidfblakgolbpaaW.PrintMore
attribute [local go_sem] max2_int min2_int max_two min_two max_three min_three max_four min_four
set_option linter.unusedVariables false
set_option linter.unusedSimpArgs false
def z17.l0 : Nat → List Int → List (List Int) → Int → Int → List (List Int) → Option (List Int)
 | 0, _, _, _, _, _ => none
 | k + 1, x5, x13, x14, x15, x102000 => if x15 < x14 then (if 0 ≤ x15 then (if x15 < (x13.length : Int) then ((z32.f k x102000 (rd_ListInt x13 x15)).bind fun t107 => (if x5.length < 17592186044416 then (z17.l0 k (x5 ++ [t107]) x13 x14 (wrap64 (x15 + 1)) x102000) else (none))) else (none)) else (none)) else (some x5)
def z17.f (k : Nat) (l0_0 : List (List Int)) (a1 : Int) : Option (List Int) := if 0 ≤ a1 then (if a1 < (l0_0.length : Int) then ((z31.f k (rd_ListInt l0_0 a1)).bind fun t103 => (z17.l0 k ([] : List Int) t103 (t103.length : Int) 0 l0_0)) else (none)) else (none)
set_option maxHeartbeats 8000000 in
set_option maxRecDepth 100000 in
theorem z17.calls (k : Nat) (A0_0 : Option Addr) (c0_0 : Nat) (l0_0 : List (List Int)) (a1 : Int) (r : List Int) (w : World) (hr0_0 : Kd.C (Kd.slice 2 (Kd.int .i64)) w A0_0 l0_0.length l0_0) (hc0_0 : l0_0.length ≤ c0_0) (h : z17.f k l0_0 a1 = some r) :
  Calls Try.prog 17 #[.agg #[.slice A0_0 l0_0.length c0_0], .int .i64 a1] w fun e w' => ∃ v0_ : Value, e = .returned (v0_) ∧ Kd.R (Kd.int .i64) 2 w' w.heap.size (fun _ => True) v0_ r ∧ Below w.heap.size w w' := by
 have hu26 := Try.underlying26
 have HR0_0 := Aside0.mk hr0_0
 have HC0_0 := Aside0.mk hc0_0
 clear hr0_0 hc0_0
 have HB := Aside0.mk (Below.refl w.heap.size w)
 have H : (if 0 ≤ a1 then (if a1 < (l0_0.length : Int) then ((z31.f k (rd_ListInt l0_0 a1)).bind fun t103 => (z17.l0 k ([] : List Int) t103 (t103.length : Int) 0 l0_0)) else (none)) else (none)) = some r := h
 clear h
 have c3 := O1_ H
 replace H := O2_ H
 have c3b0 := decide_eq_true c3
 clear c3
 have c4 := O1_ H
 replace H := O2_ H
 have c4b0 := decide_eq_true c4
 clear c4
 replace H := Option.bind_eq_some_iff.mp H
 obtain ⟨t103, A50, H⟩ := H
 have A5 := Aside0.mk A50
 clear A50
 have H' := Aside0.mk H
 clear H
 go_enter Try.func17, Try.ntmps17
 go_wp2_with (first | ((with_reducible refine gate_dst (N := 2) rfl ?_); refine box_event ?hg (N := 2) ?hd (cs := #[.slice A0_0 l0_0.length c0_0]) (t := 26) ?hr ?_; (case hd => rfl); (case hg => rfl); (case hr => first | (go_simp; done) | (go_simp; rfl)); intro gb101 hg w6 hbox hb; have n0_ := Aside0.mk (below_step (B_ HB.out) hb); have n1_ := Aside0.mk (hbox); have n2_ := Aside0.mk ((by rw [hg]; exact (below_size (B_ HB.out)) : w.heap.size ≤ gb101)); have n3_ := Aside0.mk ((by rw [hg]; exact (below_size (B_ HB.out)) : w.heap.size ≤ gb101)); clear HB; have HB := n0_; have BK101 := n1_; have GW101 := n2_; have GE101 := n3_; clear n0_ n1_ n2_ n3_; clear hb hbox hg; have hcz7_0 : w6.cell? ⟨gb101, 0, none⟩ = some (.slice A0_0 l0_0.length c0_0) := (blk_cell BK101.out 0).trans rfl; have hfz7_0 := blk_frozen BK101.out 0; have p102 : 0 ≤ (a1 : Int) := D_; have q102 : a1 < (l0_0.length : Int) := D_; obtain ⟨ad102, A102_0, c102_0, e102, hx102_0, hl102_0, hi102_0⟩ := at_ListInt HR0_0.out a1 p102 q102; cases e102; replace hx102_0 := (HB.out.cell (World.block_lt_of_cell? w _ hx102_0)).trans hx102_0; have HR102_0 := Aside0.mk hi102_0; have HC102_0 := Aside0.mk hl102_0; clear hi102_0 hl102_0; replace p102 := eq_true p102; replace q102 := eq_true q102) | ((with_reducible refine gate_callee (f := 31) rfl ?_); refine goesL_ (some 13) rfl rfl Try.func31 (by kernel_rfl) rfl #[.slice A102_0 (rd_ListInt l0_0 a1).length c102_0] rfl (by (try simp only [List.map_toArray, List.map_cons, List.map_nil]); first | done | rfl | (simp only [List.length_drop, List.length_take]; rfl)) ?_; (with_reducible refine (z31.calls k (fun k_ => k_ < w.heap.size) _ _ (rd_ListInt l0_0 a1) t103 _ ?side1 A5.out).mono ?_); (case side1 => exact Kd.V_mk HC102_0.out (Kd.F_below (Kd.C_F (Kd.heap_int .i64) HR102_0.out) (B1_ HB.out GE101.out))); rintro e w8 ⟨v104, rfl, ho0, hb⟩; refine ⟨_, rfl, ?_⟩; have HO105 := Aside0.mk (Kd.N_lower (Kd.N_mono (ok' := fun k_ => k_ ≠ gb101) ho0 (fun k_ hk_ => Or.elim hk_ (fun hs_ => fun e_ => Nat.not_le.2 hs_ (by rw [e_]; exact GW101.out)) (fun hn_ => (Kd.freshB (g := gb101) (o := .cells #[.slice (some ad102) l0_0.length c0_0] 26 (0, 0)) (KB_ BK101.out) k_ hn_)))) (below_size (B1_ HB.out GE101.out))); replace BK101 := Aside0.mk (blk_below (g := gb101) (o := .cells #[.slice (some ad102) l0_0.length c0_0] 26 (0, 0)) (KB_ BK101.out) hb); replace HB := Aside0.mk (below_step (B1_ HB.out GE101.out) hb); (try clear hb); (try clear hb2); (try clear hk); (try clear hi); (try clear ho0); obtain ⟨Ao9, co9, eo9⟩ := Kd.N_slice HO105.out; subst eo9))
 go_loopg [5, 15] k (fun kq v5 v15 w' => ∃ (x5_1 : List Int) (x15_1 : Int), v15 = .int .i64 x15_1 ∧ Aside0 (z17.l0 kq x5_1 t103 (t103.length : Int) x15_1 l0_0 = some r) ∧ Aside0 (kq ≤ k) ∧ Aside0 (Kd.R (Kd.int .i64) 2 w' w.heap.size (fun _ => True) v5 x5_1) ∧ Aside0 (Kd.N (Kd.slice 2 (Kd.int .i64)) 29 w' w.heap.size (fun k_ => some k_ ≠ (v5 : Value).ownBlock ∧ k_ ≠ gb101) (.slice Ao9 t103.length co9) t103) ∧ Aside0 (w'.heap[gb101]? = some (.cells #[(.slice (some ad102) l0_0.length c0_0)] 26 (0, 0))) ∧ Aside0 (Below w.heap.size w w'))
 case atStart => exact ⟨(([] : List Int)), (0), E_, H', ⟨Nat.le_refl _⟩, ⟨by first | exact Kd.R_nil _ _ _ _ _ | exact Kd.N_nil _ _ _ _ _ | exact Kd.V_nil _ _ _ _ _ | exact Kd.Q_nil _ _ _ _ _ | exact Kd.S_nil _ _ _ _ _⟩, ⟨by (with_reducible repeat (first | apply Kd.N_alloc | apply Kd.N_drewN | apply Kd.N_drew)); exact Kd.N_mono HO105.out (fun _ hk => ⟨(by simp [Value.ownBlock]), hk⟩)⟩, ⟨KB_ BK101.out⟩, ⟨B1_ HB.out GE101.out⟩⟩
 case round =>
  clear H'
  (try clear c1);(try clear p1);(try clear q1);(try clear hx1);(try clear p2);(try clear c3);(try clear c3b0);(try clear c4);(try clear c4b0);(try clear hcz7_0);(try clear hfz7_0);(try clear hx102_0);(try clear p102);(try clear q102)
  obtain ⟨x5_1, x15_1, rfl, HA, HK1, HO_5, HO_13, BK101, HB⟩ := hrel
  cases gk with
  | zero => exact absurd HA.out (by simp [z17.l0])
  | succ k1 =>
   have H := HA.out
   clear HA
   simp only [z17.l0] at H
   by_cases c10 : x15_1 < (t103.length : Int)
   ·rw [if_pos c10] at H
    have c10b0 : decide (x15_1 < (t103.length : Int)) = true := decide_eq_true c10
    clear c10
    have c11 := O1_ H
    replace H := O2_ H
    have c11b0 := decide_eq_true c11
    clear c11
    have c12 := O1_ H
    replace H := O2_ H
    have c12b0 := decide_eq_true c12
    clear c12
    replace H := Option.bind_eq_some_iff.mp H
    obtain ⟨t107, A130, H⟩ := H
    have A13 := Aside0.mk A130
    clear A130
    have c14 := O1_ H
    replace H := O2_ H
    have LMc14 := Aside0.mk c14
    clear c14
    obtain ⟨y108, hy108⟩ : ∃ y_ : List Int, y_ = (x5_1 ++ [t107]) := ⟨_, rfl⟩
    replace H : (z17.l0 k1 y108 t103 (t103.length : Int) (wrap64 (x15_1 + 1)) l0_0) = some r := Y_ hy108 H
    have Ny108 := Aside0.mk hy108
    clear hy108
    have H' := Aside0.mk H
    clear H
    have p106 : 0 ≤ (x15_1 : Int) := D_
    have q106 : x15_1 < (t103.length : Int) := D_
    obtain ⟨ad106, A106_0, c106_0, e106, hx106_0, hl106_0, hi106_0⟩ := at_ListInt (Kd.N_reads' HO_13.out).2.2 x15_1 p106 q106
    cases e106
    obtain ⟨ce106, hce106, hMe106, hcc106⟩ := Kd.N_get HO_13.out [] x15_1 p106 (by first | exact q106 | exact D_ | (have e_ := (Kd.N_reads' HO_13.out).1; omega))
    obtain ⟨ua106_0, uc106_0, rfl, ul106_0, ge106_0⟩ := Kd.FK_slice_open hMe106
    have hv106_0 := hcc106 0 _ rfl
    rw [Nat.add_zero, show ((Kd.slice 2 (Kd.int .i64))).sz = 1 from rfl, Nat.mul_one] at hv106_0
    replace hv106_0 := Option.some.inj (hv106_0.symm.trans hx106_0)
    injection hv106_0 with hva_ hvn_ hvc_
    rw [hva_] at ge106_0
    rw [hvc_] at ul106_0
    have HL106_0 := Aside0.mk (show Kd.V (Kd.int .i64) 2 _ w.heap.size _ _ (rd_ListInt t103 x15_1) from Kd.V_mk ul106_0 ge106_0)
    clear hva_ hvn_ hvc_ ge106_0 ul106_0
    clear hcc106 hce106
    have HR106_0 := Aside0.mk hi106_0
    have HC106_0 := Aside0.mk hl106_0
    clear hi106_0 hl106_0
    replace p106 := eq_true p106
    replace q106 := eq_true q106
    have hcz15_0 : wr.cell? ⟨gb101, 0, none⟩ = some (.slice (some ad102) l0_0.length c0_0) := (blk_cell BK101.out 0).trans rfl
    have hfz15_0 := blk_frozen BK101.out 0
    go_wp2_with (first | ((with_reducible refine gate_callee (f := 32) rfl ?_); refine goesL_ (some 22) rfl rfl Try.func32 (by kernel_rfl) rfl #[.agg #[.slice (some ad102) l0_0.length c0_0], .slice A106_0 (rd_ListInt t103 x15_1).length c106_0] rfl (by (try simp only [List.map_toArray, List.map_cons, List.map_nil]); first | done | rfl | (simp only [List.length_drop, List.length_take]; rfl)) ?_; (with_reducible refine (z32.calls k1 _ _ l0_0 _ _ (rd_ListInt t103 x15_1) t107 _ ?side1 ?side2 ?side3 ?side4 A13.out).mono ?_); (case side1 => exact KC_ (Kd.C_below HR0_0.out HB.out)); (case side2 => exact HC0_0.out); (case side3 => exact KC_ (KC_ HR106_0.out)); (case side4 => exact HC106_0.out); rintro e w16 ⟨rfl, hb⟩; refine ⟨_, rfl, ?_⟩; replace HO_5 := Aside0.mk (Kd.R_below (KR_ HO_5.out) hb); replace HO_13 := Aside0.mk (Kd.N_below (KN_ HO_13.out) hb); replace HL106_0 := Aside0.mk (Kd.V_below (by (with_reducible repeat (first | apply Kd.V_alloc | apply Kd.V_drewN | apply Kd.V_drew)); exact HL106_0.out) hb); replace BK101 := Aside0.mk (blk_below (g := gb101) (o := .cells #[.slice (some ad102) l0_0.length c0_0] 26 (0, 0)) (KB_ BK101.out) hb); replace HR106_0 := Aside0.mk (Kd.C_below (KC_ HR106_0.out) hb); replace HB := Aside0.mk (below_step (B1_ HB.out GE101.out) hb); (try clear hb); (try clear hb2); (try clear hk); (try clear hi)) | ((with_reducible refine gate_builtin (b := .append) (xs := #[.tmp 19, .tmp 23]) rfl ?_); at_builtin; refine Kd.R_append (Kd.int .i64) (w0 := w) w.heap.size rfl (.tmp 19) (.tmp 23) 29 2 (.int .i64 0) 8 rfl Try.underlying29 info2 rfl (by decide) (by omega) u5 x5_1 t107 [.int .i64 t107] (fun _ => True) (fun _ => False) rfl rfl ?aP (fun _ hk => hk.elim) ?aF ?aO ?aB ?aS ?aL ?_; (case aP => exact rfl); (case aB => exact (B1_ HB.out GE101.out)); (case aF => exact (fun _ _ => trivial)); (case aO => exact (KR_ HO_5.out)); (case aS => exact (below_size (B1_ HB.out GE101.out))); (case aL => have := LMc14.out; omega); intro v109 w17 ho hb hg hat; rw [← Ny108.out] at ho; replace HO_13 := Aside0.mk (Kd.N_afterv (ok := (fun k_ => k_ ≠ gb101)) (by (with_reducible repeat (first | apply Kd.N_alloc | apply Kd.N_drewN | apply Kd.N_drew)); exact Kd.N_mono HO_13.out (fun _ hk => ⟨hk.2, hk.1⟩)) hg hat); replace BK101 := Aside0.mk (blk_grown (g := gb101) (o := .cells #[.slice (some ad102) l0_0.length c0_0] 26 (0, 0)) (KB_ BK101.out) hg (Kd.R_ne HO_5.out BK101.out (by decide))); replace HL106_0 := Aside0.mk (Kd.V_afterv (ok := (fun k_ => some k_ ≠ (.slice (some ad106) t103.length co9 : Value).ownBlock ∧ k_ ≠ gb101)) (by (with_reducible repeat (first | apply Kd.V_alloc | apply Kd.V_drewN | apply Kd.V_drew)); exact Kd.V_mono HL106_0.out (fun _ hk => ⟨⟨hk.2, hk.1.2⟩, hk.1.1⟩)) hg hat); replace HB := Aside0.mk (hb); have HO110 := Aside0.mk (ho); clear HO_5; clear ho hb hg hat))
    go_roundg k1
    case measure => exact Q1_ HK1
    case rel => exact ⟨(y108), (wrap64 (x15_1 + 1)), E_, H', ⟨Q1_ HK1⟩, ⟨KR_ HO110.out⟩, ⟨by (with_reducible repeat (first | apply Kd.N_alloc | apply Kd.N_drewN | apply Kd.N_drew)); exact Kd.N_mono HO_13.out (fun _ hk => ⟨hk.2, hk.1⟩)⟩, ⟨KB_ BK101.out⟩, ⟨B1_ HB.out GE101.out⟩⟩
   ·rw [if_neg c10] at H
    have c10b0 : decide (x15_1 < (t103.length : Int)) = false := decide_eq_false c10
    clear c10
    obtain rfl := Option.some.inj H
    go_wp2
    go_ret
    exact ⟨_, F_, KR_ HO_5.out, B1_ HB.out GE101.out⟩
end Go.Proofs.Ytidfblakgolbpaa.B
/- impl.inOrder: copied, sorted, nothing twice: what it returns (for this claim, by hand). -/
set_option linter.unusedVariables false
set_option linter.unusedSimpArgs false
namespace Go.Proofs.Ytidfblakgolbpaa.B
open Go.RowKit Go.Proofs.YtidfblakgolbpaaW.PrintWords Go.Proofs.YtidfblakgolbpaaW.PrintLast Go.Proofs.YtidfblakgolbpaaW.PrintMore
open Go.Sort (SWO grow)
open SimT
theorem lt_scmp (x y : List Int) : ltOf scmp x y = slt x y := by
  unfold ltOf
  rw [Bool.eq_iff_iff, decide_eq_true_eq]
  exact scmp_neg x y
theorem swo_scmp : SWO (ltOf scmp) where
  irrefl x := by rw [lt_scmp]; exact slt_irrefl x
  trans x y z h1 h2 := by rw [lt_scmp] at *; exact slt_trans h1 h2
  ntrans x y z h1 h2 := by
    rw [lt_scmp] at *
    cases h : slt x z with
    | false => rfl
    | true =>
      rcases slt_tri x y with h3 | h3 | h3
      · rw [h3] at h1; cases h1
      · subst h3; rw [h] at h2; cases h2
      · have := slt_trans h3 h
        rw [this] at h2; cases h2
theorem tot_scmp (x y : List Int) (h1 : ltOf scmp x y = false) (h2 : ltOf scmp y x = false) : x = y := by
  rw [lt_scmp] at *
  rcases slt_tri x y with h3 | h3 | h3
  · rw [h3] at h1; cases h1
  · exact h3
  · rw [h3] at h2; cases h2
/-- Sorted. -/
def sortS (l : List (List Int)) : List (List Int) := l.mergeSort fun x y => !(slt y x)
theorem sortS_eq (l : List (List Int)) : (l.mergeSort fun x y => !(ltOf scmp) y x) = sortS l := by
  unfold sortS
  have : (fun x y : List Int => !(ltOf scmp) y x) = fun x y => !(slt y x) := by funext x y; rw [lt_scmp]
  rw [this]
/-- slices.SortFunc at compareSimplices. -/
theorem sort_simplices (u : Value) (l0 : List (List Int)) (w0 w : World) (hB : Below w0.heap.size w0 w) (ho0 : Kd.S (Kd.slice 2 (Kd.int .i64)) 29 w w0.heap.size (fun _ => True) u l0) (hs : l0.length ≤ 1048576) (hl : ∀ x ∈ l0, x.length ≤ 1048576) :
    Calls Try.prog 38 #[u, .func (.func 39) #[] #[]] w fun e w' => e = .returned (.tuple #[]) ∧ Kd.S (Kd.slice 2 (Kd.int .i64)) 29 w' w0.heap.size (fun _ => True) u (sortS l0) ∧ Below w0.heap.size w0 w' ∧ Kept w w' (fun _ => True) := by
  have eg : ∀ args w, (callFunc 39 args).run Try.prog w = .ok (.enter 39 args) w := enters_of Try.func39 (by kernel_rfl) rfl
  have h := sort_rows sortL 2 29 scmp 39 swo_scmp tot_scmp eg (fun W A A' c c' x y hC hc hC' hc' hx hy => by
    obtain ⟨K, hK⟩ := (compareS_ev x y (by omega) (by omega)).rounds
    exact (compareSimplices_grows K A c x A' c' y _ W hC hc hC' hc' hK).mono (fun _ _ h => ⟨h.1, h.2.out⟩)) (fun _ => True) u l0 w0 w hB ho0 (by omega) (fun x hx => by have := hl x hx; omega)
  rw [sortS_eq] at h
  exact h
def impl_inOrder.f (l0 : List (List Int)) : Option (List (List Int)) := if decide (l0.length ≤ 1048576) && l0.all (fun x => decide (x.length ≤ 1048576)) then some (dedup (sortS l0)) else none
set_option maxHeartbeats 4000000 in
set_option maxRecDepth 1000000 in
theorem impl_inOrder.calls (A0 : Option Addr) (c0 : Nat) (l0 : List (List Int)) (r : List (List Int)) (w : World) (hr0 : Kd.C (Kd.slice 2 (Kd.int .i64)) w A0 l0.length l0) (hc0 : l0.length ≤ c0) (h : impl_inOrder.f l0 = some r) :
    Calls Try.prog 19 #[.slice A0 l0.length c0] w fun e w' => ∃ v0_ : Value, e = .returned (.agg #[v0_]) ∧ Kd.S (Kd.slice 2 (Kd.int .i64)) 29 w' w.heap.size (fun _ => True) v0_ r ∧ Below w.heap.size w w' := by
  have hu29 := Try.underlying26
  unfold impl_inOrder.f at h
  obtain ⟨hcond, rfl⟩ : (decide (l0.length ≤ 1048576) && l0.all (fun x => decide (x.length ≤ 1048576))) = true ∧ dedup (sortS l0) = r := by
    split at h
    · rename_i hc
      injection h with h
      exact ⟨hc, h⟩
    · cases h
  simp only [Bool.and_eq_true, decide_eq_true_eq, List.all_eq_true] at hcond
  obtain ⟨hsz, hrow⟩ := hcond
  have hperm : (sortS l0).Perm l0 := List.mergeSort_perm _ _
  have hlen : (sortS l0).length = l0.length := hperm.length_eq
  have hsrow : ∀ x ∈ sortS l0, x.length ≤ 1048576 := fun x hx => hrow x (hperm.mem_iff.1 hx)
  obtain ⟨K, hK⟩ := (copyListsC_ev l0 hsz hrow).rounds
  have HR0 := Aside0.mk hr0
  have HC0 := Aside0.mk hc0
  have HK := Aside0.mk hK
  have HX := Aside0.mk (And.intro hsz (And.intro hrow (And.intro trivial (And.intro hlen hsrow))))
  clear hr0 hc0 hK h hsz hrow hlen hsrow hperm
  have HB := Aside0.mk (Below.refl w.heap.size w)
  go_enter Try.func19, Try.ntmps19
  go_wp2_with (first
    | ((with_reducible refine gate_dst (N := 2) rfl ?_); refine box_event ?hg (N := 2) ?hd (cs := #[.slice none 0 0]) (t := 26) ?hr ?_; (case hd => rfl); (case hg => rfl); (case hr => first | (go_simp; done) | (go_simp; rfl)); intro gb hgb w3 hbox hb; have HB3 := Aside0.mk (below_step (B_ HB.out) hb); have BK3 := Aside0.mk hbox; have GB3 := Aside0.mk ((by rw [hgb]; exact (below_size (B_ HB.out)) : w.heap.size ≤ gb)); clear hbox hb hgb))
  go_at_call 37
  refine (z37.calls K _ _ l0 l0 _ ?s1 HC0.out HK.out).mono ?_
  case s1 => exact Kd.C_below HR0.out (B_ HB3.out)
  rintro e w4 ⟨v4, rfl, hS4, hb4⟩
  have HS4 := Aside0.mk hS4
  have HB4 := Aside0.mk hb4
  clear hS4 hb4
  obtain ⟨A4, c4, e4⟩ := Kd.S_slice HS4.out
  subst e4
  go_wp2_with fail
  go_at_call 38
  refine (sort_simplices _ l0 w3 _ ?s1 ?s2 HX.out.1 HX.out.2.1).mono ?_
  case s1 => exact B_ HB4.out
  case s2 => (with_reducible repeat (first | apply Kd.S_alloc | apply Kd.S_drewN | apply Kd.S_drew)); exact HS4.out
  rintro e w5 ⟨rfl, hS5, hb5, _⟩
  rw [← HX.out.2.2.2.1] at hS5 ⊢
  have HS5 := Aside0.mk hS5
  have HB5 := Aside0.mk hb5
  have BK5 := Aside0.mk ((hb5.block gb (Array.getElem?_eq_some_iff.1 BK3.out).1).trans BK3.out)
  clear hS5 hb5 HS4 HB4
  go_wp2_with fail
  go_at_call 40
  refine (compact_rows (fun _ => True) _ A4 c4 (sortS l0) w3 _ ?s0 rfl ?s1 (by rw [HX.out.2.2.2.1]; exact HX.out.1) HX.out.2.2.2.2).mono ?_
  case s0 => exact B_ HB5.out
  case s1 => (with_reducible repeat (first | apply Kd.S_alloc | apply Kd.S_drewN | apply Kd.S_drew)); exact HS5.out
  rintro e w6 ⟨v6, rfl, hS6, hb6, hk6⟩
  have hne := Kd.S_ne HS5.out BK5.out (by decide)
  have hlt5 : gb < w5.heap.size := (Array.getElem?_eq_some_iff.1 BK5.out).1
  have BK6 := Aside0.mk ((hk6.2 gb hlt5 (fun h => hne h.symm)).trans BK5.out)
  have HS6 := Aside0.mk hS6
  have HB6 := Aside0.mk hb6
  clear hS6 hb6 hk6 hne hlt5
  obtain ⟨A6, c6, e6⟩ := Kd.S_slice HS6.out
  subst e6
  have hcell : w6.cell? ⟨gb, 0, none⟩ = some (.slice none 0 0) := (blk_cell BK6.out 0).trans rfl
  have hfroz : w6.frozen? ⟨gb, 0, none⟩ = false := blk_frozen BK6.out 0
  go_wp2_with fail
  refine bodyPost_ret (results_cell_row rfl _ _ gb 26 #[.slice A6 (dedup (sortS l0)).length c6] (0, 0) _ rfl (by (with_reducible repeat (first | refine blk_drewN ?_ _ | refine blk_drew ?_ | refine blk_alloc ?_ _)); refine blk_put (cs := #[.slice none 0 0]) ?_ 0 _ rfl; (with_reducible repeat (first | refine blk_drewN ?_ _ | refine blk_drew ?_ | refine blk_alloc ?_ _)); exact BK6.out) Try.underlying26 rfl (by kernel_rfl)) rfl ?_
  refine ⟨_, F_, ?_, ?_⟩
  · (with_reducible repeat (first | apply Kd.S_alloc | apply Kd.S_drewN | apply Kd.S_drew))
    exact Kd.S_lower (Kd.S_mono (Kd.S_far (p := ⟨gb, 0, none⟩) (Kd.S_types HS6.out BK6.out (by decide)) (fun _ hk => hk.2) _) (fun _ _ => trivial)) HB3.out.size
  · refine below_set ?_ GB3.out
    exact B_ (below_step HB3.out HB6.out)
end Go.Proofs.Ytidfblakgolbpaa.B
namespace Go.Proofs.Ytidfblakgolbpaa.B
open Go.RowKit Go.Proofs.YtidfblakgolbpaaW.PrintWords Go.Proofs.YtidfblakgolbpaaW.PrintLast Go.Proofs.YtidfblakgolbpaaW.PrintMore
attribute [local go_sem] max2_int min2_int max_two min_two max_three min_three max_four min_four
set_option linter.unusedVariables false
set_option linter.unusedSimpArgs false
def z11.f (k : Nat) (l0_0 : List (List Int)) : Option (Bool) := (z20.f k l0_0).bind fun t102 => (some t102)
set_option maxHeartbeats 8000000 in
set_option maxRecDepth 100000 in
theorem z11.calls (k : Nat) (A0_0 : Option Addr) (c0_0 : Nat) (l0_0 : List (List Int)) (r : Bool) (w : World) (hr0_0 : Kd.C (Kd.slice 2 (Kd.int .i64)) w A0_0 l0_0.length l0_0) (hc0_0 : l0_0.length ≤ c0_0) (h : z11.f k l0_0 = some r) :
  Calls Try.prog 11 #[.agg #[.slice A0_0 l0_0.length c0_0]] w fun e w' => e = .returned (.bool r) ∧ Below w.heap.size w w' := by
 have hu26 := Try.underlying26
 have HR0_0 := Aside0.mk hr0_0
 have HC0_0 := Aside0.mk hc0_0
 clear hr0_0 hc0_0
 have HB := Aside0.mk (Below.refl w.heap.size w)
 have H : ((z20.f k l0_0).bind fun t102 => (some t102)) = some r := h
 clear h
 replace H := Option.bind_eq_some_iff.mp H
 obtain ⟨t102, A20, H⟩ := H
 have A2 := Aside0.mk A20
 clear A20
 obtain rfl := Option.some.inj H
 go_enter Try.func11, Try.ntmps11
 go_wp2_with (first | ((with_reducible refine gate_dst (N := 1) rfl ?_); refine box_event ?hg (N := 1) ?hd (cs := #[.slice A0_0 l0_0.length c0_0]) (t := 26) ?hr ?_; (case hd => rfl); (case hg => rfl); (case hr => first | (go_simp; done) | (go_simp; rfl)); intro gb101 hg w3 hbox hb; have n0_ := Aside0.mk (below_step (B_ HB.out) hb); have n1_ := Aside0.mk (hbox); have n2_ := Aside0.mk ((by rw [hg]; exact (below_size (B_ HB.out)) : w.heap.size ≤ gb101)); have n3_ := Aside0.mk ((by rw [hg]; exact (below_size (B_ HB.out)) : w.heap.size ≤ gb101)); clear HB; have HB := n0_; have BK101 := n1_; have GW101 := n2_; have GE101 := n3_; clear n0_ n1_ n2_ n3_; clear hb hbox hg) | ((with_reducible refine gate_callee (f := 20) rfl ?_); refine goesL_ (some 3) rfl rfl Try.func20 (by kernel_rfl) rfl #[.pointer (some ⟨gb101, 0, none⟩)] rfl (by (try simp only [List.map_toArray, List.map_cons, List.map_nil]); first | done | rfl | (simp only [List.length_drop, List.length_take]; rfl)) ?_; (with_reducible refine (z20.calls k gb101 A0_0 c0_0 l0_0 t102 _ ?side1 ?side2 ?side3 A2.out).mono ?_); (case side1 => (with_reducible repeat (first | refine blk_drewN ?_ _ | refine blk_drew ?_ | refine blk_alloc ?_ _)); exact BK101.out); (case side2 => exact KC_ (Kd.C_below HR0_0.out HB.out)); (case side3 => exact HC0_0.out); rintro e w4 ⟨rfl, hb⟩; refine ⟨_, rfl, ?_⟩; replace BK101 := Aside0.mk (blk_below (g := gb101) (o := .cells #[.slice A0_0 l0_0.length c0_0] 26 (0, 0)) (KB_ BK101.out) hb); replace HB := Aside0.mk (below_step (B1_ HB.out GE101.out) hb); (try clear hb); (try clear hb2); (try clear hk); (try clear hi)))
 go_ret
 exact ⟨F_, B1_ HB.out GE101.out⟩
end Go.Proofs.Ytidfblakgolbpaa.B
