/- Printed proofs of functions of the program and of the reference, by a program of this work over the kit's printer. -/
import Derived.Test.YtipkciildhghiaaKIMPFPI0
import Derived.Test.YtipkciildhghiaaKLLNIJB0
import Derived.Test.YtipkciildhghiaaKMNGDAH0
import Derived.Test.YtipkciildhghiaaKW0
import Derived.Below
import Derived.ChangeOld
import Derived.Deep.Matrix
import Derived.Lib.SmallJoins
import Derived.OpenShut
import Derived.ProofKit
import Derived.Shelf.SlSortCmp.NoneTotal
import Derived.ShutString
import Derived.SizedLaws
import Derived.Sort.Grow
import Derived.Test.YtipkciildhghiaaProg
import Derived.WalkKit
set_option maxHeartbeats 8000000
set_option maxRecDepth 100000
namespace Go.Proofs.Ytipkciildhghiaa.B
open Go.RowKit Go.Proofs.YtipkciildhghiaaW.PrintWords Go.Proofs.YtipkciildhghiaaW.PrintLast Go.Proofs.YtipkciildhghiaaW.PrintMore
attribute [local go_sem] max2_int min2_int max_two min_two max_three min_three max_four min_four
set_option linter.unusedVariables false
set_option linter.unusedSimpArgs false
def z85.l0 : Nat → List (List Int) → List (List Int) → Int → Int → Option ((List (List Int)))
 | 0, _, _, _, _ => none
 | k + 1, x3, x6, x7, x8 => if x8 < x7 then (if 0 ≤ x8 then (if x8 < (x6.length : Int) then ((slices_Clone_int64_int64.f (rI_ x6 x8)).bind fun t102 => (if x3.length < 5864062014805 then (z85.l0 k (x3 ++ [t102]) x6 x7 (wrap64 (x8 + 1))) else (none))) else (none)) else (none)) else (some x3)
def z85.f (k : Nat) (l0 : List (List Int)) : Option ((List (List Int))) := z85.l0 k ([] : List (List Int)) l0 (l0.length : Int) 0
theorem z85.calls (k : Nat) (A0 : Option Addr) (c0 : Nat) (l0 : List (List Int)) (r : List (List Int)) (w : World) (hr0 : Kd.C (Kd.slice 2 (Kd.int .i64)) w A0 l0.length l0) (hc0 : l0.length ≤ c0) (h : z85.f k l0 = some r) :
  Calls Try.prog 85 #[.slice A0 l0.length c0] w fun e w' => ∃ v0_ : Value, e = .returned (v0_) ∧ Kd.S (Kd.slice 2 (Kd.int .i64)) 26 w' w.heap.size (fun _ => True) v0_ r ∧ Below w.heap.size w w' := by
 have HR0 := Zz.mk hr0
 have HC0 := Zz.mk hc0
 clear hr0 hc0
 have HB := Zz.mk (Below.refl w.heap.size w)
 have H : (z85.l0 k ([] : List (List Int)) l0 (l0.length : Int) 0) = some r := h
 clear h
 have H' := Zz.mk H
 clear H
 go_enter Try.func85, Try.ntmps85
 go_wp2
 go_loopg [3, 8] k (fun kq v3 v8 w' => ∃ (x3_1 : List (List Int)) (x8_1 : Int), v8 = .int .i64 x8_1 ∧ Zz (z85.l0 kq x3_1 l0 (l0.length : Int) x8_1 = some r) ∧ Zz (kq ≤ k) ∧ Zz (Kd.S (Kd.slice 2 (Kd.int .i64)) 26 w' w.heap.size (fun _ => True) v3 x3_1) ∧ Zz (Below w.heap.size w w'))
 case atStart => exact ⟨(([] : List (List Int))), (0), E_, H', ⟨Nat.le_refl _⟩, ⟨by first | exact Kd.S_nil _ _ _ _ _ | exact Kd.N_nil _ _ _ _ _ | exact Kd.V_nil _ _ _ _ _ | exact Kd.Q_nil _ _ _ _ _ | exact Kd.R_nil _ _ _ _ _⟩, ⟨B_ HB.out⟩⟩
 case round =>
  clear H'
  obtain ⟨x3_1, x8_1, rfl, HA, HK1, HO_3, HB⟩ := hrel
  cases gk with
  | zero => exact absurd HA.out (by simp [z85.l0])
  | succ k1 =>
   have H := HA.out
   clear HA
   simp only [z85.l0] at H
   by_cases c2 : x8_1 < (l0.length : Int)
   ·rw [if_pos c2] at H
    have c2b0 : decide (x8_1 < (l0.length : Int)) = true := decide_eq_true c2
    clear c2
    have c3b0 := O3_ H
    replace H := O2_ H
    have c4b0 := O3_ H
    replace H := O2_ H
    replace H := OZ_ H
    obtain ⟨t102, A5, H⟩ := H
    have c6 := O1_ H
    replace H := O2_ H
    have LMc6 := Zz.mk c6
    clear c6
    obtain ⟨y105, hy105⟩ : ∃ y_ : List (List Int), y_ = (x3_1 ++ [t102]) := ⟨_, rfl⟩
    replace H : (z85.l0 k1 y105 l0 (l0.length : Int) (wrap64 (x8_1 + 1))) = some r := Y_ hy105 H
    have Ny105 := Zz.mk hy105
    clear hy105
    have H' := Zz.mk H
    clear H
    have p101 : 0 ≤ (x8_1 : Int) := D_
    have q101 : x8_1 < (l0.length : Int) := D_
    obtain ⟨ad101, A101_0, c101_0, e101, hx101_0, hl101_0, hi101_0⟩ := at_ListInt HR0.out x8_1 p101 q101
    cases e101
    replace hx101_0 := (HB.out.cell (World.block_lt_of_cell? w _ hx101_0)).trans hx101_0
    have HR101_0 := Zz.mk hi101_0
    have HC101_0 := Zz.mk hl101_0
    clear hi101_0 hl101_0
    replace p101 := eq_true p101
    replace q101 := eq_true q101
    go_wp2_with (first | ((with_reducible refine gC_ (f := 86) rfl ?_); refine GL_ (some 14) rfl rfl Try.func86 #[.slice A101_0 (rI_ l0 x8_1).length c101_0] rfl (h := ?_); (with_reducible refine (slices_Clone_int64_int64.calls _ _ (rI_ l0 x8_1) t102 _ ?side1 ?side2 A5.out).mono ?_); (case side1 => exact KC_ (Kd.C_below HR101_0.out HB.out)); (case side2 => exact HC101_0.out); rintro e w7 ⟨v103, rfl, ho0, hb⟩; refine ⟨_, rfl, ?_⟩; replace HO_3 := Zz.mk (Kd.S_elder' (KS_ HO_3.out) (Kd.R_base ho0) hb); have HO104 := Zz.mk (Kd.R_lower ho0 (bS_ (B_ HB.out))); replace HB := Zz.mk (bT_ (B_ HB.out) hb); (try clear hb); (try clear ho0); obtain ⟨Ao9, co9, eo9⟩ := Kd.R_slice HO104.out; subst eo9) | ((with_reducible refine gate_builtin (b := .append) (xs := #[.tmp 12, .tmp 15]) rfl ?_); at_builtin; refine Kd.S_append (Kd.slice 2 (Kd.int .i64)) (w0 := w) w.heap.size rfl (.tmp 12) (.tmp 15) 22 26 (.slice none 0 0) 24 rfl Try.underlying22 info26 rfl (by decide) (by omega) u3 x3_1 t102 [.slice Ao9 t102.length co9] (fun _ => True) (fun k_ => some k_ = (.slice Ao9 t102.length co9 : Value).ownBlock) rfl rfl ?aP (fun k_ hk_ => ((Kd.R_mono (ok' := fun k_ => ((fun _ => True)) k_ ∧ some k_ ≠ (u3 : Value).ownBlock) (Kd.R_apart' (HO104.out) (Kd.S_typed HO_3.out) (by decide)) (fun k_ hk => ⟨trivial, hk.2⟩))).1 k_ hk_.symm) ?aF ?aO ?aB ?aS ?aL ?_; (case aP => exact Kd.M_row (Kd.R_mono (Kd.R_tight rfl (Kd.R_mono (ok' := fun k_ => ((fun _ => True)) k_ ∧ some k_ ≠ (u3 : Value).ownBlock) (Kd.R_apart' (HO104.out) (Kd.S_typed HO_3.out) (by decide)) (fun k_ hk => ⟨trivial, hk.2⟩))) (fun _ h_ => h_))); (case aB => exact (B_ HB.out)); (case aF => exact (fun _ _ => trivial)); (case aO => exact (by refine SW_ ?_; exact Kd.S_mono HO_3.out (fun k_ hk => ⟨trivial, fun e_ => hk.2 e_⟩))); (case aS => exact (bS_ (B_ HB.out))); (case aL => have := LMc6.out; omega); intro v106 w8 ho hb hg hat; rw [← Ny105.out] at ho; replace HB := Zz.mk (hb); have HO107 := Zz.mk (ho); clear HO_3; clear HO104; clear ho hb hg hat))
    go_roundg k1
    case measure => exact Q1_ HK1
    case rel => exact ⟨(y105), (wrap64 (x8_1 + 1)), E_, H', ⟨Q1_ HK1⟩, ⟨KS_ HO107.out⟩, ⟨B_ HB.out⟩⟩
   rw [if_neg c2] at H
   have c2b0 : decide (x8_1 < (l0.length : Int)) = false := decide_eq_false c2
   clear c2
   obtain rfl := OI_ H
   go_wp2
   go_ret
   exact ⟨_, F_, KS_ HO_3.out, B_ HB.out⟩
end Go.Proofs.Ytipkciildhghiaa.B
/- slices.SortFunc at a row of rows of the call's own: the library's contract in the words of the printed proofs (for this claim, by hand). -/
set_option linter.unusedVariables false
set_option linter.unusedSimpArgs false
namespace Go.Proofs.Ytipkciildhghiaa.B
open Go.RowKit Go.Shelf Go.Proofs.YtipkciildhghiaaW.PrintWords Go.Proofs.YtipkciildhghiaaW.PrintLast Go.Proofs.YtipkciildhghiaaW.PrintMore
open Go.Sort (Holds SWO SortedIn PermIn grow putRow mapBlock putCells onCells)
section
variable {α : Type} [Inhabited α]
theorem sw_heap (enc : α → Value) (w : World) (g off m : Nat) (dk : Array α) (os : Array Obj) (k : Nat) (hk : k < w.heap.size) (hne : k ≠ g) : (sortWorld enc w g off m dk os).heap[k]? = w.heap[k]? := by
  unfold sortWorld
  rw [Go.Sort.heap_grow_old _ _ (by rw [Go.Sort.size_putRow]; exact hk)]
  simp [putRow, mapBlock, Array.getElem?_modify, Ne.symm hne, Go.Sort.ahead]
theorem sw_at (enc : α → Value) (w : World) (g off m : Nat) (dk : Array α) (os : Array Obj) {cur : Array Value} {e : TypeId} {fr : Nat × Nat} (hg : w.heap[g]? = some (.cells cur e fr)) : (sortWorld enc w g off m dk os).heap[g]? = some (.cells (putCells enc off dk cur) e fr) := by
  have hk : g < w.heap.size := (Array.getElem?_eq_some_iff.1 hg).1
  unfold sortWorld
  rw [Go.Sort.heap_grow_old _ _ (by rw [Go.Sort.size_putRow]; exact hk)]
  simp [putRow, mapBlock, Array.getElem?_modify, hg, onCells, Go.Sort.ahead]
theorem sw_size (enc : α → Value) (w : World) (g off m : Nat) (dk : Array α) (os : Array Obj) : w.heap.size ≤ (sortWorld enc w g off m dk os).heap.size := by
  unfold sortWorld
  rw [Go.Sort.size_grow, Go.Sort.size_putRow]
  exact Nat.le_add_right _ _
theorem sw_below (enc : α → Value) (w0 w : World) (g off m : Nat) (dk : Array α) (os : Array Obj) (hb : Below w0.heap.size w0 w) (hg : w0.heap.size ≤ g) : Below w0.heap.size w0 (sortWorld enc w g off m dk os) :=
  ⟨hb.os, hb.tape, hb.output, Nat.le_trans hb.size (sw_size _ _ _ _ _ _ _), fun k hk => (sw_heap enc w g off m dk os k (Nat.lt_of_lt_of_le hk hb.size) (by omega)).trans (hb.block k hk)⟩
end
theorem sort_rows {P : Program} {ρ : Ren} (L : SlLaysF.n6 P ρ) (et er : Nat) (cf : List Int → List Int → Int) (gf : Nat) (hO : SWO (ltOf cf)) (hT : ∀ x y, ltOf cf x y = false → ltOf cf y x = false → x = y)
    (eg : ∀ args w, (callFunc gf args).run P w = .ok (.enter gf args) w)
    (hcmp : ∀ (W : World) (A A' : Option Addr) (c c' : Nat) (x y : List Int), Kd.C (Kd.int .i64) W A x.length x → x.length ≤ c → Kd.C (Kd.int .i64) W A' y.length y → y.length ≤ c' → x.length < 4611686018427387904 → y.length < 4611686018427387904 →
      Calls P gf #[.slice A x.length c, .slice A' y.length c'] W fun e w' => e = .returned (.int .i64 (cf x y)) ∧ ∃ q os, w' = grow (W.drewN q) os)
    (P0_ : Nat → Prop) (u : Value) (l0 : List (List Int)) (w0 w : World) (hB : Below w0.heap.size w0 w) (ho0 : Kd.S (Kd.slice et (Kd.int .i64)) er w w0.heap.size P0_ u l0) (hs : l0.length < 4611686018427387904) (hl : ∀ x ∈ l0, x.length < 4611686018427387904) :
    Calls P (ρ.f 6) #[u, .func (.func gf) #[] #[]] w fun e w' => e = .returned (.tuple #[]) ∧ Kd.S (Kd.slice et (Kd.int .i64)) er w' w0.heap.size P0_ u (l0.mergeSort fun x y => !(ltOf cf) y x) ∧ Below w0.heap.size w0 w' ∧ Kept w w' P0_ := by
  have hsv := ho0
  obtain ⟨f, h0, inner, ⟨hil, hcase⟩, hr⟩ := ho0
  rw [List.length_zipIdx] at hil hcase
  rcases Nat.eq_zero_or_pos l0.length with hz | hp
  · have hz' : l0 = [] := List.eq_nil_of_length_eq_zero hz
    subst hz'
    have hu : ∃ A c, u = .slice A 0 c := by
      rcases hcase with ⟨rfl, _⟩ | ⟨g, cap, cur, rfl, _⟩
      · exact ⟨_, _, rfl⟩
      exact ⟨_, _, rfl⟩
    obtain ⟨A, c, rfl⟩ := hu
    refine (AnyF.slices_SortFunc_none (P := P) (ρ := ρ) { L with } A c _ w).mono ?_
    rintro e w' ⟨rfl, rfl⟩
    exact ⟨rfl, by simpa using hsv, hB, Kept.refl _ _⟩
  rcases hcase with ⟨rfl, hn⟩ | ⟨g, cap, cur, rfl, hg, hh, hnc, hcm, hcs, hct⟩
  · omega
  obtain ⟨m, hm⟩ : ∃ m, l0.length = m + 1 := ⟨l0.length - 1, by omega⟩
  have hsz1 : (Kd.tag f (Kd.slice et (Kd.int .i64))).sz = 1 := rfl
  rw [hsz1, Nat.mul_one] at hil hcs hct
  -- each element's cell
  have hin : ∀ j, j < m + 1 → ∃ v, inner[j]? = some v ∧ ∃ A c, v = .slice A (l0.getD j []).length c := by
    intro j hj
    have hj' : j < l0.length := by omega
    have h1 := hr.2 j (l0[j], j) (Kd.zip_at (List.getElem?_eq_getElem hj'))
    rw [hsz1, Nat.mul_one] at h1
    obtain ⟨v, hv, hR⟩ := h1
    obtain ⟨A, c, he⟩ := Kd.R_slice hR
    have h2 : inner[j]? = some v := by
      have := congrArg (fun l => l[0]?) hv
      simpa [List.getElem?_take, List.getElem?_drop] using this
    refine ⟨v, h2, A, c, ?_⟩
    rw [he, List.getD_eq_getElem?_getD, List.getElem?_eq_getElem hj']; rfl
  let enc : Fin (m + 1) → Value := fun i => inner.getD i.val (.slice none 0 0)
  have henc : ∀ i : Fin (m + 1), inner[i.val]? = some (enc i) := by
    intro i
    obtain ⟨v, hv, _⟩ := hin i.val i.isLt
    show _ = some (inner.getD i.val _)
    rw [List.getD_eq_getElem?_getD, hv]; rfl
  have hone : OneCell enc := by
    intro i
    obtain ⟨v, hv, A, c, rfl⟩ := hin i.val i.isLt
    have := henc i
    rw [hv] at this
    injection this with this
    rw [← this]; rfl
  have hM : ∀ i : Fin (m + 1), (Kd.slice et (Kd.int .i64)).M w w0.heap.size (fun k => (P0_ k ∧ some k ≠ some g) ∧ f k = i.val) (l0.getD i.val []) [enc i] := by
    intro i
    have hj' : i.val < l0.length := by omega
    have h1 := hr.2 i.val (l0[i.val], i.val) (Kd.zip_at (List.getElem?_eq_getElem hj'))
    rw [hsz1, Nat.mul_one] at h1
    have h2 : (inner.drop i.val).take 1 = [enc i] := by
      have := henc i
      rw [List.getElem?_eq_some_iff] at this
      obtain ⟨h3, h4⟩ := this
      rw [List.drop_eq_getElem_cons h3, h4]; rfl
    rw [h2] at h1
    have h5 : l0.getD i.val [] = l0[i.val] := by rw [List.getD_eq_getElem?_getD, List.getElem?_eq_getElem hj']; rfl
    rw [h5]
    exact h1
  let d : Array (Fin (m + 1)) := (List.finRange (m + 1)).toArray
  have hds : d.size = m + 1 := by simp [d]
  have hdj : ∀ (j : Nat) (hj : j < m + 1), d[j]! = ⟨j, hj⟩ := by
    intro j hj
    rw [getElem!_pos d j (by omega)]
    simp [d]
  have hgs : g < w.heap.size := (Array.getElem?_eq_some_iff.1 hh).1
  have hcur : ∀ j, j < m + 1 → cur[j]? = inner[j]? := by
    intro j hj
    rw [← hct, List.getElem?_take, if_pos (by omega), Array.getElem?_toList]
  have hH : Holds enc w g 0 d := by
    intro j hj
    rw [hds] at hj
    rw [hdj j hj, Nat.zero_add]
    constructor
    · show (match w.heap[g]? with | some (.cells c _ _) => _ | _ => none) = _
      rw [hh]
      show cur[j]? = _
      rw [hcur j hj]
      exact henc ⟨j, hj⟩
    simp [World.frozen?, hh]
  let cfi : Fin (m + 1) → Fin (m + 1) → Int := fun i j => cf (l0.getD i.val []) (l0.getD j.val [])
  have hOi : SWO (ltOf cfi) := ⟨fun x => hO.irrefl _, fun x y z => hO.trans _ _ _, fun x y z => hO.ntrans _ _ _⟩
  have hmem : ∀ i : Fin (m + 1), l0.getD i.val [] ∈ l0 := by
    intro i
    have hj' : i.val < l0.length := by omega
    rw [List.getD_eq_getElem?_getD, List.getElem?_eq_getElem hj']
    exact List.getElem_mem _
  have hMW : ∀ (q : Nat) (dk : Array (Fin (m + 1))) (os : Array Obj) (i : Fin (m + 1)), (Kd.slice et (Kd.int .i64)).M (sortWorld enc w g 0 q dk os) w0.heap.size (fun k => (P0_ k ∧ some k ≠ some g) ∧ f k = i.val) (l0.getD i.val []) [enc i] := fun q dk os i =>
    Kd.M_step (hM i) (fun k hk hlt => sw_heap enc w g 0 q dk os k hlt (fun h => hk.1.2 (by rw [h])))
  have hcl : CmpLays1 P gf #[] enc cfi g 0 d.size w := by
    intro q os dk hdk x y
    obtain ⟨A, c, he, hlc, hC⟩ := (Kd.slice et (Kd.int .i64)).K_of_M (hMW q dk os x)
    obtain ⟨A', c', he', hlc', hC'⟩ := (Kd.slice et (Kd.int .i64)).K_of_M (hMW q dk os y)
    injection he with he _
    injection he' with he' _
    have := hcmp (sortWorld enc w g 0 q dk os) A A' c c' _ _ hC hlc hC' hlc' (hl _ (hmem x)) (hl _ (hmem y))
    rw [he, he']
    exact this
  have hS := Any.slices_SortFunc L enc hone cfi hOi gf #[] g 0 cap d w eg hcl hH hgs (by rw [hds]; omega)
  rw [hds] at hS
  rw [hm]
  refine hS.mono ?_
  rintro e w' ⟨rfl, d', q, os, hP, hSo, rfl⟩
  obtain ⟨hdz, -, hperm⟩ := hP
  rw [hds] at hdz
  have e1 := Array.extract_size (xs := d')
  have e2 := Array.extract_size (xs := d)
  rw [hdz] at e1
  rw [hds] at e2
  rw [e1, e2] at hperm
  have hD : d'.toList.Perm (List.finRange (m + 1)) := hperm
  have hnd : d'.toList.Nodup := hD.nodup_iff.2 (List.nodup_finRange _)
  have hDl : d'.toList.length = m + 1 := by simpa using hdz
  have hres : (l0.mergeSort fun x y => !(ltOf cf) y x) = d'.toList.map (fun i => l0.getD i.val []) := by
    refine (List.Perm.eq_of_pairwise (le := fun x y => (!(ltOf cf) y x) = true) ?_ ?_ ?_ ?_).symm
    · intro a b _ _ h1 h2
      simp only [Bool.not_eq_true'] at h1 h2
      exact hT a b h2 h1
    · rw [List.pairwise_map, List.pairwise_iff_getElem]
      intro i j hi hj hij
      have hi' : i < d'.size := by simpa using hi
      have hj' : j < d'.size := by simpa using hj
      have := hSo i j (Nat.zero_le _) hij (by omega)
      rw [getElem!_pos d' j hj', getElem!_pos d' i hi'] at this
      simpa [cfi, ltOf] using this
    · refine List.pairwise_mergeSort ?_ ?_ _
      · intro a b c h1 h2
        simp only [Bool.not_eq_true'] at h1 h2 ⊢
        exact hO.ntrans c b a h2 h1
      intro a b
      cases h : ltOf cf b a with
      | false => simp
      | true =>
        have : ltOf cf a b = false := by
          cases h2 : ltOf cf a b with
          | false => rfl
          | true => exact absurd (hO.trans _ _ _ h h2) (by rw [hO.irrefl]; simp)
        simp [this]
    refine List.Perm.trans (hD.map _) (List.Perm.trans (List.Perm.of_eq ?_) (List.mergeSort_perm _ _).symm)
    refine List.ext_getElem (by simp [hm]) (fun j h1 h2 => ?_)
    rw [List.getElem_map, List.getElem_finRange, List.getD_eq_getElem?_getD]
    simp [h2]
  obtain ⟨f', hf'⟩ : ∃ f' : Nat → Nat, ∀ (k j : Nat) (hj : j < d'.toList.length), (d'.toList[j]).val = f k → f' k = j := by
    classical
    refine ⟨fun k => if h : ∃ j, ∃ hj : j < d'.toList.length, (d'.toList[j]).val = f k then h.choose else 0, fun k j hj he => ?_⟩
    have hx : ∃ j, ∃ hj : j < d'.toList.length, (d'.toList[j]).val = f k := ⟨j, hj, he⟩
    show (if h : ∃ j, ∃ hj : j < d'.toList.length, (d'.toList[j]).val = f k then h.choose else 0) = j
    rw [dif_pos hx]
    obtain ⟨hj2, he2⟩ := hx.choose_spec
    have h3 : d'.toList[hx.choose] = d'.toList[j] := Fin.ext (he2.trans he.symm)
    have hpw := List.pairwise_iff_getElem.1 hnd
    rcases Nat.lt_trichotomy hx.choose j with h4 | h4 | h4
    · exact absurd h3 (hpw _ _ hj2 hj h4)
    · exact h4
    exact absurd h3.symm (hpw _ _ hj hj2 h4)
  refine ⟨rfl, ?_, sw_below enc w0 w g 0 q d' os hB hg, sw_size _ _ _ _ _ _ _, fun k hk hnk => sw_heap enc w g 0 q d' os k hk (fun h => hnk (by subst h; exact h0 _ rfl))⟩
  rw [hres]
  refine ⟨f', ?_, d'.toList.map enc, ⟨?_, .inr ⟨g, cap, putCells enc 0 d' cur, ?_, hg, sw_at enc w g 0 q d' os hh, ?_, hcm, ?_, ?_⟩⟩, ?_, ?_⟩
  · exact h0
  · rw [show (Kd.tag f' (Kd.slice et (Kd.int .i64))).sz = 1 from rfl, Nat.mul_one]; simp
  · simp [hdz]
  · simp [hdz]; omega
  · rw [show (Kd.tag f' (Kd.slice et (Kd.int .i64))).sz = 1 from rfl, Nat.mul_one]; simp [putCells, hcs]
  · rw [show (Kd.tag f' (Kd.slice et (Kd.int .i64))).sz = 1 from rfl, Nat.mul_one]
    refine List.ext_getElem? (fun j => ?_)
    by_cases hj : j < m + 1
    · rw [List.getElem?_take, if_pos (by simpa [hdz] using hj), Array.getElem?_toList]
      have hjc : j < cur.size := by omega
      simp [putCells, hdz, hj, hjc]
    rw [List.getElem?_eq_none (by simp; omega), List.getElem?_eq_none (by simp; omega)]
  · rw [show (Kd.tag f' (Kd.slice et (Kd.int .i64))).sz = 1 from rfl, Nat.mul_one]; simp
  intro j p hj
  rw [show (Kd.tag f' (Kd.slice et (Kd.int .i64))).sz = 1 from rfl, Nat.mul_one]
  have hjl : j < d'.toList.length := by
    have := (List.getElem?_eq_some_iff.1 hj).1
    simpa using this
  have hp' : p = (l0.getD (d'.toList[j]).val [], j) := by
    rw [Kd.zip_at (p := l0.getD (d'.toList[j]).val []) (by rw [List.getElem?_map, List.getElem?_eq_getElem hjl]; rfl)] at hj
    injection hj with hj
    exact hj.symm
  subst hp'
  have h2 : ((d'.toList.map enc).drop j).take 1 = [enc d'.toList[j]] := by
    rw [List.drop_eq_getElem_cons (by simpa using hjl), List.getElem_map]; rfl
  rw [h2]
  exact (Kd.slice et (Kd.int .i64)).M_mono (ok' := fun k => (P0_ k ∧ some k ≠ some g) ∧ f' k = j) (fun k hk => ⟨hk.1, hf' k j hjl hk.2.symm⟩) (hMW q d' os d'.toList[j])
end Go.Proofs.Ytipkciildhghiaa.B
/- impl.compareSimplices: what it does to the world, as an equation (for this claim, by hand). -/
set_option linter.unusedVariables false
set_option linter.unusedSimpArgs false
namespace Go.Proofs.Ytipkciildhghiaa.B
open Go.RowKit Go.Proofs.YtipkciildhghiaaW.PrintWords Go.Proofs.YtipkciildhghiaaW.PrintLast Go.Proofs.YtipkciildhghiaaW.PrintMore
open Go.Sort (grow)
structure GW (w w' : World) : Prop where mk :: (out : ∃ q os, w' = grow (w.drewN q) os)
theorem GW.refl (w : World) : GW w w := ⟨⟨0, #[], by rw [Go.Sort.grow_empty]; rfl⟩⟩
theorem GW.drewN {w w' : World} (h : GW w w') (n : Nat) : GW w (w'.drewN n) := by
  obtain ⟨q, os, rfl⟩ := h.out
  exact ⟨⟨q + n, os, by rw [← World.drewN_drewN]; rfl⟩⟩
theorem GW.drew {w w' : World} (h : GW w w') : GW w w'.drew := h.drewN 1
theorem GW.alloc {w w' : World} (h : GW w w') (o : Obj) : GW w (w'.alloc o) := by
  obtain ⟨q, os, rfl⟩ := h.out
  exact ⟨⟨q, os ++ #[o], by rw [Go.Sort.alloc_eq_grow, Go.Sort.grow_grow]⟩⟩
section
variable {P : Program} {ops : Array Oper} {rest : List Oper} {o : Oper} {a : Act} {Q : Exit → Act → World → Prop}
theorem litG {W : World} (e : Nat) (hgd : o.guard = none) (xs : List Int)
    (hrun : (execOp a.eval o).run P W = .ok (.value (.slice (some ⟨W.heap.size, 0, none⟩) xs.length xs.length)) (W.alloc (.cells (xs.map (Value.int .i64)).toArray e)))
    (hm : xs.length ≤ 9223372036854775807)
    (h : ∀ A w1, Kd.C (Kd.int .i64) w1 A xs.length xs → (∃ ob, w1 = W.alloc ob) → wpList P ops Q rest (a.put o.dst (.slice A xs.length xs.length)) w1) : wpList P ops Q (o :: rest) a W := by
  have hr : Reps ((Kd.int .i64).M (W.alloc (.cells (xs.map (Value.int .i64)).toArray e)) W.heap.size (fun _ => True)) 1 xs (xs.map (Value.int .i64)) := by
    refine ⟨by simp, fun j p hj => ?_⟩
    show _ = [Value.int .i64 p]
    rw [Nat.mul_one]
    have h1 : (xs.map (Value.int .i64))[j]? = some (Value.int .i64 p) := by rw [List.getElem?_map, hj]; rfl
    obtain ⟨h2, h3⟩ := List.getElem?_eq_some_iff.1 h1
    rw [List.drop_eq_getElem_cons h2, h3]; rfl
  have hR : Kd.R (Kd.int .i64) e (W.alloc (.cells (xs.map (Value.int .i64)).toArray e)) W.heap.size (fun _ => True) (.slice (some ⟨W.heap.size, 0, none⟩) xs.length xs.length) xs :=
    ⟨fun _ _ => trivial, OwnRow.lit W W.heap.size hr (Nat.le_refl _) hm⟩
  obtain ⟨A, c, he, _, hC⟩ := Kd.R_reads hR
  injection he with he _ _
  refine Kd.event_run hgd hrun ?_
  rw [he]
  exact h A _ hC ⟨_, rfl⟩
end
theorem compareSimplices_grows (k : Nat) (A0 : Option Addr) (c0 : Nat) (l0 : List Int) (A1 : Option Addr) (c1 : Nat) (l1 : List Int) (r : Int) (w : World) (hr0 : Kd.C (Kd.int .i64) w A0 l0.length l0) (hc0 : l0.length ≤ c0) (hr1 : Kd.C (Kd.int .i64) w A1 l1.length l1) (hc1 : l1.length ≤ c1) (h : z109.f k l0 l1 = some r) :
    Calls Try.prog 109 #[.slice A0 l0.length c0, .slice A1 l1.length c1] w fun e w' => e = .returned (.int .i64 r) ∧ GW w w' := by
  have HR0 := Zz.mk hr0
  have HC0 := Zz.mk hc0
  clear hr0 hc0
  have HR1 := Zz.mk hr1
  have HC1 := Zz.mk hc1
  clear hr1 hc1
  have H : ((z154.f (l0.length : Int) (l1.length : Int)).bind fun t101 => ((z155.f k l0 l1).bind fun t102 => ((z153.f k (([t101, t102] : List Int))).bind fun t106 => (some t106)))) = some r := h
  clear h
  replace H := OZ_ H
  obtain ⟨t101, A3, H⟩ := H
  replace H := OZ_ H
  obtain ⟨t102, A4, H⟩ := H
  replace H := OZ_ H
  obtain ⟨t106, A5, H⟩ := H
  obtain rfl := OI_ H
  clear H
  go_enter Try.func109, Try.ntmps109
  go_wp2_with (first | (go_at_call 154; refine (z154.calls (l0.length : Int) (l1.length : Int) t101 _ A3.out).mono ?_; rintro e w' ⟨rfl, ⟨nd, rfl⟩⟩) | (go_at_call 155; refine (z155.calls k _ _ l0 _ _ l1 t102 _ (KC_ HR0.out) HC0.out (KC_ HR1.out) HC1.out A4.out).mono ?_; rintro e w' ⟨rfl, ⟨nd, rfl⟩⟩) | ((with_reducible refine gate_dst (N := 13) rfl ?_); refine litG 3 rfl [t101, t102] (by first | (go_simp; done) | (go_simp; rfl)) (by simp) ?_; rintro AA w6 hC6 ⟨ob, hw6⟩; have HC6 := Zz.mk hC6; have HW6 := Zz.mk hw6; clear hC6 hw6) | (go_at_call 153; refine (z153.calls k _ _ [t101, t102] t106 _ (KC_ HC6.out) (Nat.le_refl _) A5.out).mono ?_; rintro e w' ⟨rfl, ⟨nd, rfl⟩⟩))
  go_ret
  refine ⟨rfl, ?_⟩
  have hw6 := HW6.out
  subst hw6
  repeat (first | exact GW.refl _ | apply GW.drewN | apply GW.drew | apply GW.alloc)
end Go.Proofs.Ytipkciildhghiaa.B
/- What comes in, opened for the laws' walks: whole numbers, rows, rows of rows, structs (for this claim, by hand). -/
set_option linter.unusedVariables false
set_option linter.unusedSimpArgs false
namespace Go.Proofs.Ytipkciildhghiaa.B
open Go.RowKit Go.ChangeShapes Go.WideShapes Go.Deep Go.Proofs.YtipkciildhghiaaW.PrintWords
def Wf (n : Int) : Prop := -9223372036854775808 ≤ n ∧ n ≤ 9223372036854775807
def WfL (l : List Int) : Prop := l.length ≤ 9223372036854775807 ∧ ∀ n ∈ l, Wf n
def WfLL (l : List (List Int)) : Prop := l.length ≤ 9223372036854775807 ∧ ∀ r ∈ l, WfL r
theorem wf_of {n : Int} (h : (Lit.int .i64 n).wf = true) : Wf n := by
  unfold Wf
  simp [Lit.wf, IntKind.min, IntKind.max, IntKind.bits, IntKind.signed] at h
  omega
section
variable {H : Type} {enc : TypeId × Value → H} {P : Program} {w : World} {base : Nat} {held : Bool} {fuel : Nat}
theorem opened_int {t : TypeId} {v : Value} {x : DataW H × List MemPlace} (ht : P.underlying t = some (.int .i64)) (h : DataW.trod enc P w base (fun _ => true) held fuel t [v] = some x) : ∃ n, v = .int .i64 n ∧ Wf n := by
  obtain ⟨n, he, _, hw⟩ := DataW.trod_int ht h
  exact ⟨n, by simpa using he, wf_of hw⟩
theorem opened_ints {t e : TypeId} {v : Value} {x : DataW H × List MemPlace} (ht : P.underlying t = some (.slice e)) (he : P.underlying e = some (.int .i64)) (hc : P.cellsOf e = 1) (h : DataW.trod enc P w base (fun _ => true) held fuel t [v] = some x) :
    ∃ A l c, v = .slice A l.length c ∧ (Kd.int .i64).C w A l.length l ∧ l.length ≤ c ∧ WfL l := by
  rcases open_ints ht he hc h with ⟨hcs, _⟩ | ⟨a, l, c, zs, hcs, _, hl, hm, hz, _, hcell, hwz⟩
  · refine ⟨none, [], 0, by simpa using hcs, ⟨rfl, by simp, fun h => by simp at h⟩, by simp, by simp [WfL]⟩
  simp only [if_true] at hz
  have hlen : (zs.take l).length = l := by rw [List.length_take]; omega
  refine ⟨some a, zs.take l, c, by rw [hlen]; simpa using hcs, ⟨rfl, by rw [hlen]; simp only [maxLen] at hm; omega, fun _ => ⟨a, rfl, fun j p hj => ?_⟩⟩, by omega, ?_, fun n hn => wf_of (hwz n (List.mem_of_mem_take hn))⟩
  · have hjl : j < l := by have := (List.getElem?_eq_some_iff.1 hj).1; omega
    refine ⟨[.int .i64 p], rfl, rfl, fun i u hu => ?_⟩
    cases i with
    | zero =>
      simp only [List.getElem?_cons_zero, Option.some.injEq] at hu
      subst hu
      rw [Nat.add_zero, show j * (Kd.int .i64).sz = j from Nat.mul_one j, hcell j (by omega)]
      rw [List.getElem?_take, if_pos hjl] at hj
      rw [List.getD_eq_getElem?_getD, hj]; rfl
    | succ i => simp at hu
  rw [hlen]; simp only [maxLen] at hm; omega
theorem opened_rows {t e q : TypeId} {v : Value} {x : DataW H × List MemPlace} (ht : P.underlying t = some (.slice e)) (he : P.underlying e = some (.slice q)) (hq : P.underlying q = some (.int .i64)) (ce : P.cellsOf e = 1) (cq : P.cellsOf q = 1) (h : DataW.trod enc P w base (fun _ => true) held fuel t [v] = some x) :
    ∃ A l c, v = .slice A l.length c ∧ (Kd.slice 2 (Kd.int .i64)).C w A l.length l ∧ l.length ≤ c ∧ WfLL l := by
  rcases open_slice1 ht ce h with ⟨hcs, _⟩ | ⟨a, l, c, m, n, V, D, Pl, hcs, _, hl, hm, hmm, _, hx⟩
  · refine ⟨none, [], 0, by simpa using hcs, ⟨rfl, by simp, fun h => by simp at h⟩, by simp, by simp [WfLL]⟩
  simp only [if_true] at hmm
  subst hmm
  have each : ∀ r, r < m → ∃ y : Option Addr × List Int × Nat, V r = .slice y.1 y.2.1.length y.2.2 ∧ (Kd.int .i64).C w y.1 y.2.1.length y.2.1 ∧ y.2.1.length ≤ y.2.2 ∧ WfL y.2.1 := by
    intro r hr
    obtain ⟨A, l, c, h1, h2, h3, h4⟩ := opened_ints he hq cq (hx r hr).2
    exact ⟨(A, l, c), h1, h2, h3, h4⟩
  obtain ⟨y, hy⟩ := choose_lt each
  have hlen : ((List.range l).map fun r => (y r).2.1).length = l := by simp
  refine ⟨some a, (List.range l).map fun r => (y r).2.1, m, by rw [hlen]; simpa using hcs, ⟨rfl, by rw [hlen]; simp only [maxLen] at hm; omega, fun _ => ⟨a, rfl, fun j p hj => ?_⟩⟩, by omega, ?_, ?_⟩
  · have hjl : j < l := by have := (List.getElem?_eq_some_iff.1 hj).1; omega
    rw [List.getElem?_map, List.getElem?_range hjl] at hj
    simp only [Option.map_some, Option.some.injEq] at hj
    subst hj
    obtain ⟨h1, h2, h3, h4⟩ := hy j (by omega)
    refine ⟨[.slice (y j).1 (y j).2.1.length (y j).2.2], rfl, ⟨_, _, rfl, h3, h2⟩, fun i u hu => ?_⟩
    cases i with
    | zero =>
      simp only [List.getElem?_cons_zero, Option.some.injEq] at hu
      subst hu
      rw [Nat.add_zero, show j * (Kd.slice 2 (Kd.int .i64)).sz = j from Nat.mul_one j, (hx j (by omega)).1, h1]
    | succ i => simp at hu
  · rw [hlen]; simp only [maxLen] at hm; omega
  intro r hr
  simp only [List.mem_map, List.mem_range] at hr
  obtain ⟨j, hj, rfl⟩ := hr
  exact (hy j (by omega)).2.2.2
theorem open_agg1 {r : Reach} {b0 : Nat} {t : TypeId} {f0 : Field} {v : Value} {d : DataW H} {p : List MemPlace} (hs : P.underlying t = some (.struct #[f0])) (hone : oneCellFields P #[f0] = true) (hC : P.cellsOf t = 1)
    (hv : Value.okWide P w r b0 t v) (h : DataW.Trod enc P w base (fun _ => true) held t v d p) :
    ∃ (v0 : Value) (y0 : DataW H × List MemPlace) (n : Nat), v = .agg #[v0] ∧ DataW.trod enc P w base (fun _ => true) held n f0.type [v0] = some y0 := by
  obtain ⟨cs, rfl, hsz⟩ := okWide_struct hs hv
  obtain ⟨c0, rfl⟩ : ∃ c0, cs = #[c0] := by
    have h1 : cs.size = 1 := hsz.trans hC
    match cs, h1 with | ⟨[c0]⟩, _ => exact ⟨c0, rfl⟩
  obtain ⟨fuel, hf⟩ := h
  obtain ⟨y0, n, hx, _, h0⟩ := trod_struct1 hs hf
  obtain ⟨o0, k0⟩ := hone_of hone 0 f0 rfl
  exact ⟨c0, y0, n, rfl, by simpa [Value.cells, o0, k0] using h0⟩
end
theorem own : ownKnob Try.prog.godebug = none := by kernel_rfl
theorem laidOut : laidOutB Try.prog = true := by kernel_rfl
end Go.Proofs.Ytipkciildhghiaa.B
/- What the laws' own helpers come to: sizes, copies, comparisons, marks (for this claim, by hand). -/
set_option linter.unusedVariables false
set_option linter.unusedSimpArgs false
namespace Go.Proofs.Ytipkciildhghiaa.B
open Go.RowKit Go.Proofs.YtipkciildhghiaaW.PrintWords
theorem szInt64S_val (l : List Int) (a : Int) (h0 : 0 ≤ a) (h1 : a ≤ 9223372036854775807) (hl : l.length ≤ 9223372036854775807) : z72.f l a = some (if a - l.length < 0 then -1 else a - l.length) := by
  unfold z72.f
  have e : wrap64 (a - (l.length : Int)) = a - l.length := wrap_small (by omega) (by omega)
  rw [e]
  split <;> rfl
theorem szInt64SS_ev (l : List (List Int)) (a : Int) (hw : WfLL l) (h0 : 0 ≤ a) (h1 : a ≤ 9223372036854775807) :
    (∃ t, Ev (fun k => z29.f k l a) t ∧ t < 0) ∨ (Ev (fun k => z29.f k l a) (a - l.length - total l) ∧ l.length + total l ≤ a) := by
  have loop : ∀ (d i : Nat) (b : Int), d + i = l.length → 0 ≤ b → b ≤ 9223372036854775807 → (∃ t, Ev (fun k => z29.l0 k l b (i : Int)) t ∧ t < 0) ∨ (Ev (fun k => z29.l0 k l b (i : Int)) (b - total (l.drop i)) ∧ total (l.drop i) ≤ b) := by
    intro d
    induction d with
    | zero =>
      intro i b hd hb0 hb1
      right
      have hi : l.length = i := by omega
      rw [List.drop_of_length_le (by omega)]
      refine ⟨Ev.step (fun k => z29.l0.eq_2 ..) (ev_neg (by omega) (ev_eq (Ev.now b) (by simp [total]))), by simpa [total] using hb0⟩
    | succ d ih =>
      intro i b hd hb0 hb1
      have hi : i < l.length := by omega
      have hdr : l.drop i = l.getD i [] :: l.drop (i + 1) := by
        rw [List.drop_eq_getElem_cons hi, List.getD_eq_getElem?_getD, List.getElem?_eq_getElem hi]; rfl
      have hm : l.getD i [] ∈ l := by
        rw [List.getD_eq_getElem?_getD, List.getElem?_eq_getElem hi]; exact List.getElem_mem hi
      have hrl := (hw.2 _ hm).1
      have hv := szInt64S_val (l.getD i []) b hb0 hb1 hrl
      have hrd : rI_ l (i : Int) = l.getD i [] := by simp [rI_]
      have hlen : l.length ≤ 9223372036854775807 := hw.1
      by_cases hneg : b - ((l.getD i []).length : Int) < 0
      · left
        rw [if_pos hneg] at hv
        refine ⟨-1, Ev.step (fun k => z29.l0.eq_2 ..) (ev_pos (by omega) (ev_pos (by omega) ?_)), by omega⟩
        rw [hrd]
        exact Ev.bind (ev_const hv) (ev_pos (by omega) (Ev.now _))
      rw [if_neg hneg] at hv
      rcases ih (i + 1) (b - ((l.getD i []).length : Int)) (by omega) (by omega) (by omega) with ⟨t, ht, htn⟩ | ⟨ht, htb⟩
      · left
        refine ⟨t, Ev.step (fun k => z29.l0.eq_2 ..) (ev_pos (by omega) (ev_pos (by omega) ?_)), htn⟩
        rw [hrd, wrap_succ (by omega)]
        exact Ev.bind (ev_const hv) (ev_neg (by omega) ht)
      right
      rw [hdr]
      simp only [total]
      refine ⟨Ev.step (fun k => z29.l0.eq_2 ..) (ev_pos (by omega) (ev_pos (by omega) ?_)), by omega⟩
      rw [hrd, wrap_succ (by omega)]
      exact Ev.bind (ev_const hv) (ev_neg (by omega) (ev_eq ht (by omega)))
  have hlen : l.length ≤ 9223372036854775807 := hw.1
  have e : wrap64 (a - (l.length : Int)) = a - l.length := wrap_small (by omega) (by omega)
  by_cases hneg : a - (l.length : Int) < 0
  · left
    refine ⟨-1, ?_, by omega⟩
    unfold z29.f
    rw [e]
    exact ev_pos hneg (Ev.now _)
  rcases loop l.length 0 (a - l.length) (by omega) (by omega) (by omega) with ⟨t, ht, htn⟩ | ⟨ht, htb⟩
  · left
    refine ⟨t, ?_, htn⟩
    unfold z29.f
    rw [e]
    exact ev_neg hneg ht
  right
  refine ⟨?_, by simp only [List.drop_zero] at htb; omega⟩
  unfold z29.f
  rw [e]
  exact ev_neg hneg ht
theorem toInt64S_ev (l : List Int) (hl : l.length ≤ 1048576) : Ev (fun k => z38.f k l) l := by
  have h := le_iter_inv (fun (s : List Int) (i : Nat) k => z38.l0 k l s (i : Int)) (fun i s => s.set i (l.getD i 0)) (fun i s => s = l.take i ++ List.replicate (l.length - i) 0) l.length 0 (List.replicate l.length 0) (by simp) (by
    intro j s _ hj hs
    refine ⟨fun r hr => Ev.step (fun k => z38.l0.eq_2 ..) (ev_pos (by omega) (ev_pos (by omega) (ev_pos ?_ ?_))), ?_⟩
    · subst hs; simp only [List.length_append, List.length_take, List.length_replicate]; omega
    · rw [wrap_succ (by omega), rd_nat, Int.toNat_natCast]; exact hr
    subst hs; exact set_prefix l j 0 (by omega) _ rfl)
  unfold z38.f
  refine ev_pos (by omega) (ev_pos (by omega) ?_)
  rw [Int.toNat_natCast]
  refine h.1 l (Ev.step (fun k => z38.l0.eq_2 ..) (ev_neg (by omega) (ev_eq (Ev.now _) ?_)))
  rw [h.2]
  simp
theorem toInt64SS_ev (l : List (List Int)) (hl : l.length ≤ 1048576) (hr : ∀ x ∈ l, x.length ≤ 1048576) : Ev (fun k => z31.f k l) l := by
  have h := le_iter_inv (fun (s : List (List Int)) (i : Nat) k => z31.l0 k l s (i : Int)) (fun i s => s.set i (l.getD i [])) (fun i s => s = l.take i ++ List.replicate (l.length - i) []) l.length 0 (List.replicate l.length []) (by simp) (by
    intro j s _ hj hs
    have hm : l.getD j [] ∈ l := by
      rw [List.getD_eq_getElem?_getD, List.getElem?_eq_getElem (by omega)]; exact List.getElem_mem _
    have hrd : rI_ l (j : Int) = l.getD j [] := by simp [rI_]
    refine ⟨fun r hr' => Ev.step (fun k => z31.l0.eq_2 ..) (ev_pos (by omega) (ev_pos (by omega) ?_)), ?_⟩
    · rw [hrd]
      refine Ev.bind (toInt64S_ev _ (hr _ hm)) (ev_pos ?_ ?_)
      · subst hs; simp only [List.length_append, List.length_take, List.length_replicate]; omega
      rw [wrap_succ (by omega), Int.toNat_natCast]; exact hr'
    subst hs; exact set_prefix l j [] (by omega) _ rfl)
  unfold z31.f
  refine ev_pos (by omega) (ev_pos (by omega) ?_)
  rw [Int.toNat_natCast]
  refine h.1 l (Ev.step (fun k => z31.l0.eq_2 ..) (ev_neg (by omega) (ev_eq (Ev.now _) ?_)))
  rw [h.2]
  simp
theorem list_eq_range {α : Type} [BEq α] [LawfulBEq α] (l m : List α) (z : α) (h : l.length = m.length) : (List.range l.length).all (fun i => l.getD i z == m.getD i z) = (l == m) := by
  rw [Bool.eq_iff_iff, List.all_eq_true, beq_iff_eq]
  constructor
  · intro e
    apply List.ext_getElem h
    intro i h1 h2
    have := e i (List.mem_range.2 h1)
    simpa [List.getD_eq_getElem?_getD, List.getElem?_eq_getElem h1, List.getElem?_eq_getElem h2] using this
  rintro rfl i _
  exact beq_self_eq_true _
theorem len_ne_beq {α : Type} [BEq α] [LawfulBEq α] {l m : List α} (h : l.length ≠ m.length) : (l == m) = false := by
  rw [Bool.eq_false_iff]; intro e; exact h (by rw [eq_of_beq e])
theorem eqInt64S_ev (l m : List Int) (hl : l.length < 9223372036854775807) : Ev (fun k => z19.f k l m) (l == m) := by
  unfold z19.f
  by_cases h : l.length = m.length
  · refine ev_pos (by omega) ?_
    rw [← list_eq_range l m 0 h]
    refine ev_all (fun (i : Nat) k => z19.l0 k l m (i : Int)) _ l.length (fun j hj hp r hr => ?_) (fun j hj hp => ?_) ?_
    · refine Ev.step (fun k => z19.l0.eq_2 ..) (ev_pos (by omega) (ev_pos (by omega) (ev_pos (by omega) (ev_pos ?_ ?_))))
      · rw [rd_nat, rd_nat]; exact eq_of_beq hp
      rw [wrap_succ (by omega)]; exact hr
    · refine Ev.step (fun k => z19.l0.eq_2 ..) (ev_pos (by omega) (ev_pos (by omega) (ev_pos (by omega) (ev_neg ?_ (Ev.now _)))))
      rw [rd_nat, rd_nat]; exact ne_of_beq_false hp
    exact Ev.step (fun k => z19.l0.eq_2 ..) (ev_neg (by omega) (Ev.now _))
  rw [len_ne_beq h]
  exact ev_neg (by omega) (Ev.now _)
theorem eqInt64SS_ev (l m : List (List Int)) (hl : l.length < 9223372036854775807) (hr : ∀ x ∈ l, x.length < 9223372036854775807) : Ev (fun k => z33.f k l m) (l == m) := by
  unfold z33.f
  by_cases h : l.length = m.length
  · refine ev_pos (by omega) ?_
    rw [← list_eq_range l m [] h]
    have hm : ∀ j, j < l.length → Ev (fun k => z19.f k (rI_ l (j : Int)) (rI_ m (j : Int))) (l.getD j [] == m.getD j []) := fun j hj => by
      have h1 : rI_ l (j : Int) = l.getD j [] := by simp [rI_]
      have h2 : rI_ m (j : Int) = m.getD j [] := by simp [rI_]
      rw [h1, h2]
      refine eqInt64S_ev _ _ (hr _ ?_)
      rw [List.getD_eq_getElem?_getD, List.getElem?_eq_getElem hj]; exact List.getElem_mem hj
    refine ev_all (fun (i : Nat) k => z33.l0 k l m (i : Int)) _ l.length (fun j hj hp r hr => ?_) (fun j hj hp => ?_) ?_
    · refine Ev.step (fun k => z33.l0.eq_2 ..) (ev_pos (by omega) (ev_pos (by omega) (ev_pos (by omega) (Ev.bind (hm j hj) (ev_pos hp ?_)))))
      rw [wrap_succ (by omega)]; exact hr
    · exact Ev.step (fun k => z33.l0.eq_2 ..) (ev_pos (by omega) (ev_pos (by omega) (ev_pos (by omega) (Ev.bind (hm j hj) (ev_neg (by rw [hp]; decide) (Ev.now _))))))
    exact Ev.step (fun k => z33.l0.eq_2 ..) (ev_neg (by omega) (Ev.now _))
  rw [len_ne_beq h]
  exact ev_neg (by omega) (Ev.now _)
end Go.Proofs.Ytipkciildhghiaa.B
/- Ranges and elements (for this claim, by hand). -/
set_option linter.unusedVariables false
set_option linter.unusedSimpArgs false
namespace Go.Proofs.Ytipkciildhghiaa.B
open Go.RowKit Go.Proofs.YtipkciildhghiaaW.PrintWords
theorem within_val (a b c : Int) : z113.f a b c = some (decide (b ≤ a) && decide (a ≤ c)) := by
  unfold z113.f
  by_cases h : a ≥ b
  · rw [if_pos h]; simp [h]
  rw [if_neg h]; simp; omega
theorem in_val (a b c : Int) : z79.f a b c = some (decide (b ≤ a) && decide (a ≤ c)) := by
  unfold z79.f
  by_cases h : a ≥ b
  · rw [if_pos h]; simp [h]
  rw [if_neg h]; simp; omega
theorem getD_mem {α : Type} {l : List α} {i : Nat} (z : α) (h : i < l.length) : l.getD i z ∈ l := by
  rw [List.getD_eq_getElem?_getD, List.getElem?_eq_getElem h]; exact List.getElem_mem h
theorem rdl_nat (l : List (List Int)) (i : Nat) : rI_ l (i : Int) = l.getD i [] := by simp [rI_]
end Go.Proofs.Ytipkciildhghiaa.B
namespace Go.Proofs.Ytipkciildhghiaa.B
open Go.RowKit Go.Proofs.YtipkciildhghiaaW.PrintWords Go.Proofs.YtipkciildhghiaaW.PrintLast Go.Proofs.YtipkciildhghiaaW.PrintMore
attribute [local go_sem] max2_int min2_int max_two min_two max_three min_three max_four min_four
set_option linter.unusedVariables false
set_option linter.unusedSimpArgs false
def slices_Equal_int64_int64.l0 : Nat → List Int → List Int → Int → Int → Option (Bool)
 | 0, _, _, _, _ => none
 | k + 1, x0, x1, x12, x13 => if x13 < x12 then (if 0 ≤ x13 then (if x13 < (x0.length : Int) then (if x13 < (x1.length : Int) then (if (rd x0 x13) = (rd x1 x13) then (slices_Equal_int64_int64.l0 k x0 x1 x12 (wrap64 (x13 + 1))) else (some false)) else (none)) else (none)) else (none)) else (some true)
def slices_Equal_int64_int64.f (k : Nat) (l0 : List Int) (l1 : List Int) : Option (Bool) := if (l0.length : Int) = (l1.length : Int) then (slices_Equal_int64_int64.l0 k l0 l1 (l0.length : Int) 0) else (some false)
theorem slices_Equal_int64_int64.calls (k : Nat) (A0 : Option Addr) (c0 : Nat) (l0 : List Int) (A1 : Option Addr) (c1 : Nat) (l1 : List Int) (r : Bool) (w : World) (hr0 : Kd.C (Kd.int .i64) w A0 l0.length l0) (hc0 : l0.length ≤ c0) (hr1 : Kd.C (Kd.int .i64) w A1 l1.length l1) (hc1 : l1.length ≤ c1) (h : slices_Equal_int64_int64.f k l0 l1 = some r) :
  Calls Try.prog 116 #[.slice A0 l0.length c0, .slice A1 l1.length c1] w fun e w' => e = .returned (.bool r) ∧ Dz w w' := by
 have HR0 := Zz.mk hr0
 have HC0 := Zz.mk hc0
 clear hr0 hc0
 have HR1 := Zz.mk hr1
 have HC1 := Zz.mk hc1
 clear hr1 hc1
 have H : (if (l0.length : Int) = (l1.length : Int) then (slices_Equal_int64_int64.l0 k l0 l1 (l0.length : Int) 0) else (some false)) = some r := h
 clear h
 by_cases c3 : (l0.length : Int) = (l1.length : Int)
 ·rw [if_pos c3] at H
  have c3b0 : ((l0.length : Int) == (l1.length : Int)) = true := beq_iff_eq.mpr c3
  have c3b1 : ((l0.length : Int) != (l1.length : Int)) = false := bne_eq_false_iff_eq.mpr c3
  have c3b2 : (l0.length == l1.length) = true := by first | simpa using c3 | (simp at c3 ⊢; omega)
  clear c3
  have H' := Zz.mk H
  clear H
  go_enter Try.func116, Try.ntmps116
  go_wp2
  repeat (go_quiet (fail); try go_wp2)
  go_loopg [13] k (fun kq v13 w' => ∃ (x13_1 : Int), v13 = .int .i64 x13_1 ∧ Zz (slices_Equal_int64_int64.l0 kq l0 l1 (l0.length : Int) x13_1 = some r) ∧ Zz (kq ≤ k) ∧ Dz w w')
  case atStart => exact ⟨(0), E_, H', ⟨Nat.le_refl _⟩, by repeat (first | exact Dz.refl _ | apply Dz.step)⟩
  case round =>
   clear H'
   (try clear c1);(try clear c3);(try clear c3b0);(try clear c3b1);(try clear c3b2)
   obtain ⟨x13_1, rfl, HA, HK1, ⟨m1, rfl⟩⟩ := hrel
   cases gk with
   | zero => exact absurd HA.out (by simp [slices_Equal_int64_int64.l0])
   | succ k1 =>
    have H := HA.out
    clear HA
    simp only [slices_Equal_int64_int64.l0] at H
    by_cases c4 : x13_1 < (l0.length : Int)
    ·rw [if_pos c4] at H
     have c4b0 : decide (x13_1 < (l0.length : Int)) = true := decide_eq_true c4
     clear c4
     have c5b0 := O3_ H
     replace H := O2_ H
     have c6b0 := O3_ H
     replace H := O2_ H
     have c7b0 := O3_ H
     replace H := O2_ H
     by_cases c8 : (rd l0 x13_1) = (rd l1 x13_1)
     ·rw [if_pos c8] at H
      have c8b0 : ((rd l0 x13_1) == (rd l1 x13_1)) = true := beq_iff_eq.mpr c8
      have c8b1 : ((rd l0 x13_1) != (rd l1 x13_1)) = false := bne_eq_false_iff_eq.mpr c8
      clear c8
      have H' := Zz.mk H
      clear H
      have p101 : 0 ≤ (x13_1 : Int) := D_
      have q101 : x13_1 < (l0.length : Int) := D_
      obtain ⟨ad101, e101, hx101_0⟩ := Kd.at_int HR0.out x13_1 p101 q101
      cases e101
      replace p101 := eq_true p101
      replace q101 := eq_true q101
      have p102 : 0 ≤ (x13_1 : Int) := D_
      have q102 : x13_1 < (l1.length : Int) := D_
      obtain ⟨ad102, e102, hx102_0⟩ := Kd.at_int HR1.out x13_1 p102 q102
      cases e102
      replace p102 := eq_true p102
      replace q102 := eq_true q102
      go_wp2
      repeat (go_quiet (fail); try go_wp2)
      go_roundg k1
      case measure => exact Q1_ HK1
      case rel => exact ⟨(wrap64 (x13_1 + 1)), E_, H', ⟨Q1_ HK1⟩, by repeat (first | exact Dz.refl _ | apply Dz.step)⟩
     rw [if_neg c8] at H
     have c8b0 : ((rd l0 x13_1) == (rd l1 x13_1)) = false := beq_eq_false_iff_ne.mpr c8
     have c8b1 : ((rd l0 x13_1) != (rd l1 x13_1)) = true := bne_iff_ne.mpr c8
     obtain rfl := OI_ H
     have p101 : 0 ≤ (x13_1 : Int) := D_
     have q101 : x13_1 < (l0.length : Int) := D_
     obtain ⟨ad101, e101, hx101_0⟩ := Kd.at_int HR0.out x13_1 p101 q101
     cases e101
     replace p101 := eq_true p101
     replace q101 := eq_true q101
     have p102 : 0 ≤ (x13_1 : Int) := D_
     have q102 : x13_1 < (l1.length : Int) := D_
     obtain ⟨ad102, e102, hx102_0⟩ := Kd.at_int HR1.out x13_1 p102 q102
     cases e102
     replace p102 := eq_true p102
     replace q102 := eq_true q102
     go_wp2
     repeat (go_quiet (fail); try go_wp2)
     go_ret
     exact eD_
    rw [if_neg c4] at H
    have c4b0 : decide (x13_1 < (l0.length : Int)) = false := decide_eq_false c4
    clear c4
    obtain rfl := OI_ H
    go_wp2
    repeat (go_quiet (fail); try go_wp2)
    go_ret
    exact eD_
 rw [if_neg c3] at H
 have c3b0 : ((l0.length : Int) == (l1.length : Int)) = false := beq_eq_false_iff_ne.mpr c3
 have c3b1 : ((l0.length : Int) != (l1.length : Int)) = true := bne_iff_ne.mpr c3
 have c3b2 : (l0.length == l1.length) = false := by first | simpa using c3 | (simp at c3 ⊢; omega)
 obtain rfl := OI_ H
 go_enter Try.func116, Try.ntmps116
 go_wp2
 repeat (go_quiet (fail); try go_wp2)
 go_ret
 exact eD_
end Go.Proofs.Ytipkciildhghiaa.B
/- Lists of numbers are compared (for this claim, by hand). -/
set_option linter.unusedVariables false
set_option linter.unusedSimpArgs false
namespace Go.Proofs.Ytipkciildhghiaa.B
open Go.RowKit Go.Proofs.YtipkciildhghiaaW.PrintWords
theorem slicesEqual_ev (l m : List Int) (hl : l.length < 9223372036854775807) : Ev (fun k => slices_Equal_int64_int64.f k l m) (l == m) := by
  unfold slices_Equal_int64_int64.f
  by_cases h : l.length = m.length
  · refine ev_pos (by omega) ?_
    rw [← list_eq_range l m 0 h]
    refine ev_all (fun (i : Nat) k => slices_Equal_int64_int64.l0 k l m (l.length : Int) (i : Int)) _ l.length (fun j hj hp r hr => ?_) (fun j hj hp => ?_) ?_
    · refine Ev.step (fun k => slices_Equal_int64_int64.l0.eq_2 ..) ?_
      refine ev_pos (by omega) (ev_pos (by omega) (ev_pos (by omega) (ev_pos (by omega) (ev_pos ?_ ?_))))
      · rw [rd_nat, rd_nat]; exact eq_of_beq hp
      rw [wrap_succ (by omega)]; exact hr
    · refine Ev.step (fun k => slices_Equal_int64_int64.l0.eq_2 ..) ?_
      refine ev_pos (by omega) (ev_pos (by omega) (ev_pos (by omega) (ev_pos (by omega) (ev_neg ?_ (Ev.now _)))))
      rw [rd_nat, rd_nat]; exact ne_of_beq_false hp
    refine Ev.step (fun k => slices_Equal_int64_int64.l0.eq_2 ..) ?_
    exact ev_neg (by omega) (Ev.now _)
  rw [len_ne_beq h]
  exact ev_neg (by omega) (Ev.now _)
theorem same_ev (l m : List Int) (hl : l.length < 9223372036854775807) : Ev (fun k => z128.f k l m) (l == m) := by
  unfold z128.f
  by_cases h : l.length = m.length
  · refine ev_pos (by omega) ?_
    rw [← list_eq_range l m 0 h]
    refine ev_all (fun (i : Nat) k => z128.l0 k l m (i : Int)) _ l.length (fun j hj hp r hr => ?_) (fun j hj hp => ?_) ?_
    · refine Ev.step (fun k => z128.l0.eq_2 ..) ?_
      refine ev_pos (by omega) (ev_pos (by omega) (ev_pos (by omega) (ev_pos ?_ ?_)))
      · rw [rd_nat, rd_nat]; exact eq_of_beq hp
      rw [wrap_succ (by omega)]; exact hr
    · refine Ev.step (fun k => z128.l0.eq_2 ..) ?_
      refine ev_pos (by omega) (ev_pos (by omega) (ev_pos (by omega) (ev_neg ?_ (Ev.now _))))
      rw [rd_nat, rd_nat]; exact ne_of_beq_false hp
    refine Ev.step (fun k => z128.l0.eq_2 ..) ?_
    exact ev_neg (by omega) (Ev.now _)
  rw [len_ne_beq h]
  exact ev_neg (by omega) (Ev.now _)
end Go.Proofs.Ytipkciildhghiaa.B
/- The library's contracts laid at this program (a tool of the kit has written it). -/
namespace Go.Proofs.Ytipkciildhghiaa.B
open Go.Shelf
def sortL_ren : Go.Shelf.Ren := ⟨fun | 6 => 114 | 15 => 131 | 14 => 157 | 28 => 169 | 29 => 170 | 20 => 184 | 21 => 185 | 22 => 186 | 23 => 187 | 24 => 188 | 25 => 189 | 26 => 190 | 27 => 191 | 46 => 200 | 47 => 193 | 48 => 194 | 49 => 201 | 50 => 202 | 57 => 206 | n => n, fun | 22 => 22 | 24 => 26 | 25 => 101 | 3 => 3 | 39 => 114 | 0 => 0 | 53 => 138 | 55 => 140 | 4 => 4 | 46 => 131 | 45 => 130 | 50 => 110 | 5 => 5 | 9 => 9 | 66 => 152 | 70 => 156 | 76 => 161 | 77 => 162 | n => n, fun | n => n⟩
theorem sortL : Go.Proofs.SlLaysF.n6 Try.prog sortL_ren := {
  mixed := by kernel_rfl
  f6 := ⟨Try.f114.name, by decide, Try.func114.trans (congrArg some (by kernel_rfl))⟩
  f14 := ⟨Try.f157.name, by decide, Try.func157.trans (congrArg some (by kernel_rfl))⟩
  f15 := Try.func131.trans (congrArg some (by kernel_rfl))
  f20 := ⟨Try.f184.name, by decide, Try.func184.trans (congrArg some (by kernel_rfl))⟩
  f21 := ⟨Try.f185.name, by decide, Try.func185.trans (congrArg some (by kernel_rfl))⟩
  f22 := ⟨Try.f186.name, by decide, Try.func186.trans (congrArg some (by kernel_rfl))⟩
  f23 := ⟨Try.f187.name, by decide, Try.func187.trans (congrArg some (by kernel_rfl))⟩
  f24 := ⟨Try.f188.name, by decide, Try.func188.trans (congrArg some (by kernel_rfl))⟩
  f25 := ⟨Try.f189.name, by decide, Try.func189.trans (congrArg some (by kernel_rfl))⟩
  f26 := ⟨Try.f190.name, by decide, Try.func190.trans (congrArg some (by kernel_rfl))⟩
  f27 := ⟨Try.f191.name, by decide, Try.func191.trans (congrArg some (by kernel_rfl))⟩
  f28 := Try.func169.trans (congrArg some (by kernel_rfl))
  f29 := Try.func170.trans (congrArg some (by kernel_rfl))
  f46 := ⟨Try.f200.name, by decide, Try.func200.trans (congrArg some (by kernel_rfl))⟩
  f47 := Try.func193.trans (congrArg some (by kernel_rfl))
  f48 := Try.func194.trans (congrArg some (by kernel_rfl))
  f49 := ⟨Try.f201.name, by decide, Try.func201.trans (congrArg some (by kernel_rfl))⟩
  f50 := ⟨Try.f202.name, by decide, Try.func202.trans (congrArg some (by kernel_rfl))⟩
  f57 := ⟨Try.f206.name, by decide, Try.func206.trans (congrArg some (by kernel_rfl))⟩
  t0 := Try.underlying0
  a0 := Try.isAgg0
  z0 := Try.sizeOf0
  v0 := Try.zeroValue0
  t3 := Try.underlying3
  a3 := Try.isAgg3
  z3 := Try.sizeOf3
  v3 := Try.zeroValue3
  t4 := Try.underlying4
  a4 := Try.isAgg4
  z4 := Try.sizeOf4
  v4 := Try.zeroValue4
  t5 := Try.underlying5
  a5 := Try.isAgg5
  z5 := Try.sizeOf5
  v5 := Try.zeroValue5
  t9 := Try.underlying9
  a9 := Try.isAgg9
  z9 := Try.sizeOf9
  v9 := Try.zeroValue9
  t22 := Try.underlying22
  a22 := Try.isAgg22
  z22 := Try.sizeOf22
  v22 := Try.zeroValue22
  a24 := Try.isAgg26
  z24 := Try.sizeOf26
  t25 := Try.underlying101
  a25 := Try.isAgg101
  z25 := Try.sizeOf101
  v25 := Try.zeroValue101
  t39 := Try.underlying114
  a39 := Try.isAgg114
  z39 := Try.sizeOf114
  v39 := Try.zeroValue114
  t45 := Try.underlying130
  a45 := Try.isAgg130
  z45 := Try.sizeOf130
  v45 := Try.zeroValue130
  t46 := Try.underlying131
  a46 := Try.isAgg131
  z46 := Try.sizeOf131
  v46 := Try.zeroValue131
  t50 := Try.underlying110
  a50 := Try.isAgg110
  z50 := Try.sizeOf110
  v50 := Try.zeroValue110
  t53 := Try.underlying138
  a53 := Try.isAgg138
  z53 := Try.sizeOf138
  v53 := Try.zeroValue138
  t55 := Try.underlying140
  a55 := Try.isAgg140
  z55 := Try.sizeOf140
  v55 := Try.zeroValue140
  t66 := Try.underlying152
  a66 := Try.isAgg152
  z66 := Try.sizeOf152
  v66 := Try.zeroValue152
  t70 := Try.underlying156
  a70 := Try.isAgg156
  z70 := Try.sizeOf156
  v70 := Try.zeroValue156
  t76 := Try.underlying161
  a76 := Try.isAgg161
  z76 := Try.sizeOf161
  v76 := Try.zeroValue161
  t77 := Try.underlying162
  a77 := Try.isAgg162
  z77 := Try.sizeOf162
  v77 := Try.zeroValue162 }
end Go.Proofs.Ytipkciildhghiaa.B
/- More loops: those that gather (for this claim, by hand). -/
set_option linter.unusedVariables false
set_option linter.unusedSimpArgs false
namespace Go.Proofs.Ytipkciildhghiaa.B
open Go.RowKit Go.Proofs.YtipkciildhghiaaW.PrintWords
def filt (p : Nat → Bool) (n : Nat) : List Int := ((List.range n).filter p).map fun i : Nat => (i : Int)
theorem filt_succ (p : Nat → Bool) (n : Nat) : filt p (n + 1) = filt p n ++ if p n then [(n : Int)] else [] := by
  unfold filt
  rw [List.range_succ, List.filter_append, List.map_append]
  congr 1
  cases h : p n <;> simp [List.filter_cons, h]
theorem filt_le (p : Nat → Bool) : ∀ n, (filt p n).length ≤ n
  | 0 => Nat.le_refl _
  | n + 1 => by
    have := filt_le p n
    rw [filt_succ, List.length_append]
    split <;> simp <;> omega
theorem filt_congr {p q : Nat → Bool} : ∀ n, (∀ i, i < n → p i = q i) → filt p n = filt q n
  | 0, _ => rfl
  | n + 1, h => by rw [filt_succ, filt_succ, filt_congr n (fun i hi => h i (by omega)), h n (by omega)]
theorem mem_filt {p : Nat → Bool} {n : Nat} {x : Int} : x ∈ filt p n ↔ ∃ i, i < n ∧ p i = true ∧ x = (i : Int) := by
  unfold filt
  rw [List.mem_map]
  constructor
  · rintro ⟨i, hi, rfl⟩
    obtain ⟨h1, h2⟩ := List.mem_filter.1 hi
    exact ⟨i, List.mem_range.1 h1, h2, rfl⟩
  rintro ⟨i, hi, hp, rfl⟩
  exact ⟨i, List.mem_filter.2 ⟨List.mem_range.2 hi, hp⟩, rfl⟩
theorem ev_filt {β : Type} (L : List Int → Nat → Nat → Option β) (p : Nat → Bool) : ∀ (n : Nat), (∀ j s, j < n → s.length ≤ j → p j = true → Le (L (s ++ [(j : Int)]) (j + 1)) (L s j)) → (∀ j s, j < n → s.length ≤ j → p j = false → Le (L s (j + 1)) (L s j)) → Le (L (filt p n) n) (L [] 0)
  | 0, _, _ => Le.refl _
  | n + 1, h1, h0 => by
    have ih := ev_filt L p n (fun j s hj => h1 j s (by omega)) (fun j s hj => h0 j s (by omega))
    refine Le.trans ?_ ih
    rw [filt_succ]
    cases hp : p n with
    | true => exact h1 n _ (by omega) (filt_le p n) hp
    | false => simpa using h0 n _ (by omega) (filt_le p n) hp
theorem ev_map {α β : Type} (L : List α → Nat → Nat → Option β) (g : Nat → α) : ∀ (n : Nat), (∀ j s, j < n → s = (List.range j).map g → Le (L (s ++ [g j]) (j + 1)) (L s j)) → Le (L ((List.range n).map g) n) (L [] 0)
  | 0, _ => Le.refl _
  | n + 1, h => by
    have ih := ev_map L g n (fun j s hj => h j s (by omega))
    refine Le.trans ?_ ih
    rw [List.range_succ, List.map_append]
    exact h n _ (by omega) rfl
theorem ev_all_then (L : Nat → Nat → Option Bool) (p : Nat → Bool) (b : Bool) : ∀ (n : Nat), (∀ j, j < n → (∀ m, m < j → p m = true) → p j = true → Le (L (j + 1)) (L j)) → (∀ j, j < n → (∀ m, m < j → p m = true) → p j = false → Ev (L j) false) → ((∀ m, m < n → p m = true) → Ev (L n) b) → Ev (L 0) ((List.range n).all p && b) := by
  intro n h1 h0 he
  have main : ∀ (d i : Nat), i + d = n → (∀ m, m < i → p m = true) → Ev (L i) ((List.range n).all p && b) := by
    intro d
    induction d with
    | zero =>
      intro i hi hall
      have : i = n := by omega
      subst this
      have e : (List.range i).all p = true := List.all_eq_true.2 (fun j hj => hall j (List.mem_range.1 hj))
      rw [e, Bool.true_and]; exact he hall
    | succ d ih =>
      intro i hi hall
      cases hp : p i with
      | true =>
        refine h1 i (by omega) hall hp _ (ih (i + 1) (by omega) (fun m hm => ?_))
        rcases Nat.lt_or_ge m i with hl | hg
        · exact hall m hl
        have : m = i := by omega
        subst this; exact hp
      | false =>
        have e : (List.range n).all p = false := by
          rw [Bool.eq_false_iff]
          intro h
          have := List.all_eq_true.1 h i (List.mem_range.2 (by omega))
          rw [hp] at this; cases this
        rw [e, Bool.false_and]
        exact h0 i (by omega) hall hp
  exact main n 0 (by omega) (fun m hm => by omega)
theorem map_range {α β : Type} (z : α) (g : α → β) (l : List α) : l.map g = (List.range l.length).map fun j => g (l.getD j z) := by
  apply List.ext_getElem
  · simp
  intro n h1 h2
  simp only [List.getElem_map, List.getElem_range, List.getD_eq_getElem?_getD]
  have : n < l.length := by simpa using h1
  simp [List.getElem?_eq_getElem this]
end Go.Proofs.Ytipkciildhghiaa.B
/- impl.copyLists (for this claim, by hand). -/
set_option linter.unusedVariables false
set_option linter.unusedSimpArgs false
namespace Go.Proofs.Ytipkciildhghiaa.B
open Go.RowKit Go.Proofs.YtipkciildhghiaaW.PrintWords
theorem cloneC_val (l : List Int) (hl : l.length ≤ 1048576) : slices_Clone_int64_int64.f l = some l := by
  unfold slices_Clone_int64_int64.f
  simp
  omega
theorem copyListsC_ev (l : List (List Int)) (hl : l.length ≤ 1048576) (hr : ∀ x ∈ l, x.length ≤ 1048576) : Ev (fun k => z85.f k l) l := by
  unfold z85.f
  have e : l = (List.range l.length).map fun j => id (l.getD j []) := by
    have := map_range ([] : List Int) id l
    rwa [List.map_id] at this
  refine ev_eq ?_ e.symm
  refine ev_map (fun s i k => z85.l0 k s l (l.length : Int) (i : Int)) (fun j => id (l.getD j [])) l.length (fun j s hj hs r hr' => ?_) _ ?_
  · have hsl : s.length = j := by rw [hs]; simp
    have := hr _ (getD_mem ([] : List Int) hj)
    refine Ev.step (fun k => z85.l0.eq_2 ..) ?_
    rw [rdl_nat]
    refine ev_pos (by omega) (ev_pos (by omega) (ev_pos (by omega) (Ev.bind (ev_const (cloneC_val _ this)) (ev_pos (by omega) ?_))))
    rw [wrap_succ (by omega)]; exact hr'
  refine Ev.step (fun k => z85.l0.eq_2 ..) ?_
  exact ev_neg (by omega) (Ev.now _)
end Go.Proofs.Ytipkciildhghiaa.B
/- The order of simplices, faces, closed sets of them: plain lists (for this claim, by hand). -/
set_option linter.unusedVariables false
set_option linter.unusedSimpArgs false
namespace Go.Proofs.Ytipkciildhghiaa.B.SimT
def lexlt : List Int → List Int → Bool
  | [], [] => false
  | [], _ :: _ => true
  | _ :: _, [] => false
  | a :: l, b :: m => if a < b then true else if b < a then false else lexlt l m
theorem lexlt_irrefl : ∀ l, lexlt l l = false
  | [] => rfl
  | a :: l => by simp [lexlt, lexlt_irrefl l]
theorem lexlt_trans : ∀ {a b c : List Int}, lexlt a b = true → lexlt b c = true → lexlt a c = true
  | [], [], _, h, _ => by cases h
  | [], _ :: _, [], _, h => by cases h
  | [], _ :: _, _ :: _, _, _ => rfl
  | _ :: _, [], _, h, _ => by cases h
  | _ :: _, _ :: _, [], _, h => by cases h
  | a :: l, b :: m, c :: o, h, h' => by
    simp only [lexlt] at h h' ⊢
    by_cases h1 : a < b
    · by_cases h2 : b < c
      · rw [if_pos (by omega)]
      rw [if_neg h2] at h'
      by_cases h3 : c < b
      · rw [if_pos h3] at h'; cases h'
      rw [if_pos (by omega)]
    rw [if_neg h1] at h
    by_cases h2 : b < a
    · rw [if_pos h2] at h; cases h
    rw [if_neg h2] at h
    have e : a = b := by omega
    subst e
    by_cases h3 : a < c
    · rw [if_pos h3]
    rw [if_neg h3] at h' ⊢
    by_cases h4 : c < a
    · rw [if_pos h4] at h'; cases h'
    rw [if_neg h4] at h' ⊢
    exact lexlt_trans h h'
theorem lexlt_tri : ∀ a b : List Int, lexlt a b = true ∨ a = b ∨ lexlt b a = true
  | [], [] => .inr (.inl rfl)
  | [], _ :: _ => .inl rfl
  | _ :: _, [] => .inr (.inr rfl)
  | a :: l, b :: m => by
    simp only [lexlt]
    rcases Int.lt_trichotomy a b with h | h | h
    · rw [if_pos h]; exact .inl rfl
    · subst h
      rw [if_neg (by omega), if_neg (by omega)]
      rcases lexlt_tri l m with h | h | h
      · exact .inl h
      · subst h; exact .inr (.inl rfl)
      rw [if_neg (by omega), if_neg (by omega)]; exact .inr (.inr h)
    rw [if_neg (by omega : ¬ a < b), if_pos h]
    rw [if_pos h]; exact .inr (.inr rfl)
def slt (a b : List Int) : Bool := decide (a.length < b.length) || (decide (a.length = b.length) && lexlt a b)
theorem slt_iff (a b : List Int) : slt a b = true ↔ a.length < b.length ∨ (a.length = b.length ∧ lexlt a b = true) := by simp [slt]
theorem slt_irrefl (a : List Int) : slt a a = false := by simp [slt, lexlt_irrefl]
theorem slt_trans {a b c : List Int} (h : slt a b = true) (h' : slt b c = true) : slt a c = true := by
  rw [slt_iff] at *
  rcases h with h | ⟨h1, h2⟩ <;> rcases h' with h' | ⟨h1', h2'⟩
  · exact .inl (by omega)
  · exact .inl (by omega)
  · exact .inl (by omega)
  exact .inr ⟨by omega, lexlt_trans h2 h2'⟩
theorem slt_tri (a b : List Int) : slt a b = true ∨ a = b ∨ slt b a = true := by
  rw [slt_iff, slt_iff]
  rcases Nat.lt_trichotomy a.length b.length with h | h | h
  · exact .inl (.inl h)
  · rcases lexlt_tri a b with h1 | h1 | h1
    · exact .inl (.inr ⟨h, h1⟩)
    · exact .inr (.inl h1)
    exact .inr (.inr (.inr ⟨h.symm, h1⟩))
  exact .inr (.inr (.inl h))
theorem slt_asymm {a b : List Int} (h : slt a b = true) : slt b a = false := by
  cases h' : slt b a with
  | false => rfl
  | true => have := slt_trans h h'; rw [slt_irrefl] at this; cases this
theorem slt_ne {a b : List Int} (h : slt a b = true) : a ≠ b := fun e => by subst e; rw [slt_irrefl] at h; cases h
def Srt (l : List (List Int)) : Prop := l.Pairwise fun a b => slt a b = true
theorem srt_ext : ∀ {l m : List (List Int)}, Srt l → Srt m → (∀ x, x ∈ l ↔ x ∈ m) → l = m
  | [], [], _, _, _ => rfl
  | [], b :: m, _, _, h => by have := (h b).2 List.mem_cons_self; cases this
  | a :: l, [], _, _, h => by have := (h a).1 List.mem_cons_self; cases this
  | a :: l, b :: m, hl, hm, h => by
    have hl' := List.pairwise_cons.1 hl
    have hm' := List.pairwise_cons.1 hm
    have e : a = b := by
      rcases List.mem_cons.1 ((h a).1 List.mem_cons_self) with h1 | h1
      · exact h1
      rcases List.mem_cons.1 ((h b).2 List.mem_cons_self) with h2 | h2
      · exact h2.symm
      have h3 := hm'.1 a h1
      have h4 := hl'.1 b h2
      rw [slt_asymm h3] at h4; cases h4
    subst e
    congr 1
    refine srt_ext hl'.2 hm'.2 (fun x => ⟨fun hx => ?_, fun hx => ?_⟩)
    · rcases List.mem_cons.1 ((h x).1 (List.mem_cons_of_mem _ hx)) with h1 | h1
      · subst h1; have := hl'.1 _ hx; rw [slt_irrefl] at this; cases this
      exact h1
    rcases List.mem_cons.1 ((h x).2 (List.mem_cons_of_mem _ hx)) with h1 | h1
    · subst h1; have := hm'.1 _ hx; rw [slt_irrefl] at this; cases this
    exact h1
theorem srt_get {l : List (List Int)} (h : Srt l) {i j : Nat} (hij : i < j) (hj : j < l.length) : slt (l.getD i []) (l.getD j []) = true := by
  have := List.pairwise_iff_getElem.1 h i j (by omega) hj hij
  simpa [List.getD_eq_getElem?_getD, List.getElem?_eq_getElem hj, List.getElem?_eq_getElem (show i < l.length by omega)] using this
theorem srt_of_get {l : List (List Int)} (h : ∀ i, i + 1 < l.length → slt (l.getD i []) (l.getD (i + 1) []) = true) : Srt l := by
  have main : ∀ d i, i + d + 1 < l.length → slt (l.getD i []) (l.getD (i + d + 1) []) = true := by
    intro d
    induction d with
    | zero => exact h
    | succ d ih =>
      intro i hi
      have h1 := ih i (by omega)
      have h2 := h (i + d + 1) (by omega)
      exact slt_trans h1 h2
  refine List.pairwise_iff_getElem.2 (fun i j hi hj hij => ?_)
  have := main (j - i - 1) i (by omega)
  rw [show i + (j - i - 1) + 1 = j by omega] at this
  simpa [List.getD_eq_getElem?_getD, List.getElem?_eq_getElem hj, List.getElem?_eq_getElem hi] using this
theorem srt_nodup {l : List (List Int)} (h : Srt l) : l.Nodup := h.imp fun h => slt_ne h
def drp (s : List Int) (k : Nat) : List Int := s.take k ++ s.drop (k + 1)
theorem drp_eq : ∀ (s : List Int) (k : Nat), drp s k = s.eraseIdx k
  | [], k => by cases k <;> rfl
  | a :: s, 0 => by simp [drp]
  | a :: s, k + 1 => by
    have := drp_eq s k
    simp only [drp] at this
    simp [drp, this]
theorem drp_length {s : List Int} {k : Nat} (h : k < s.length) : (drp s k).length = s.length - 1 := by
  rw [drp_eq, List.length_eraseIdx, if_pos h]
theorem drp_sub (s : List Int) (k : Nat) : (drp s k).Sublist s := by rw [drp_eq]; exact List.eraseIdx_sublist ..
theorem drp_slt {s : List Int} {k : Nat} (h : k < s.length) : slt (drp s k) s = true := by
  rw [slt_iff, drp_length h]; exact .inl (by omega)
def Inc (s : List Int) : Prop := s.Pairwise fun a b => a < b
theorem sub_drp : ∀ {t s : List Int}, t.Sublist s → t.length < s.length → ∃ k, k < s.length ∧ t.Sublist (drp s k)
  | _, _, .slnil, h => by simp at h
  | _, _, @List.Sublist.cons _ t s a h, hl => ⟨0, by simp, by simpa [drp] using h⟩
  | _, _, @List.Sublist.cons_cons _ t s a h, hl => by
    obtain ⟨k, hk, hs⟩ := sub_drp h (by simpa using hl)
    exact ⟨k + 1, by simpa using hk, by simpa [drp] using hs.cons_cons a⟩
def Closed (C : List (List Int)) : Prop := ∀ s, s ∈ C → 1 < s.length → ∀ k, k < s.length → drp s k ∈ C
theorem closed_sub {C : List (List Int)} (h : Closed C) : ∀ (d : Nat) {t s : List Int}, s ∈ C → t.Sublist s → t ≠ [] → s.length = t.length + d → t ∈ C
  | 0, t, s, hs, hts, _, hl => by have := hts.eq_of_length (by omega); subst this; exact hs
  | d + 1, t, s, hs, hts, hne, hl => by
    obtain ⟨k, hk, hk2⟩ := sub_drp hts (by omega)
    have htp : 0 < t.length := by cases t with | nil => exact absurd rfl hne | cons a t => simp
    exact closed_sub h d (h s hs (by omega) k hk) hk2 hne (by rw [drp_length hk]; omega)
theorem closed_mem {C : List (List Int)} (h : Closed C) {t s : List Int} (hs : s ∈ C) (hts : t.Sublist s) (hne : t ≠ []) : t ∈ C :=
  closed_sub h (s.length - t.length) hs hts hne (by have := hts.length_le; omega)
theorem inc_sub {t s : List Int} (h : t.Sublist s) (hs : Inc s) : Inc t := List.Pairwise.sublist h hs
theorem sub_of_mem : ∀ {t s : List Int}, Inc t → Inc s → (∀ x, x ∈ t → x ∈ s) → t.Sublist s
  | [], s, _, _, _ => List.nil_sublist s
  | a :: t, [], _, _, h => by have := h a List.mem_cons_self; cases this
  | a :: t, b :: s, ht, hs, h => by
    have ht' := List.pairwise_cons.1 ht
    have hs' := List.pairwise_cons.1 hs
    by_cases e : a = b
    · subst e
      refine List.Sublist.cons_cons a (sub_of_mem ht'.2 hs'.2 (fun x hx => ?_))
      rcases List.mem_cons.1 (h x (List.mem_cons_of_mem _ hx)) with h1 | h1
      · subst h1; have := ht'.1 _ hx; omega
      exact h1
    refine List.Sublist.cons b (sub_of_mem ht hs'.2 (fun x hx => ?_))
    rcases List.mem_cons.1 (h x hx) with h1 | h1
    · subst h1
      rcases List.mem_cons.1 hx with h2 | h2
      · exact absurd h2.symm e
      rcases List.mem_cons.1 (h a List.mem_cons_self) with h3 | h3
      · exact absurd h3 e
      have := ht'.1 _ h2; have := hs'.1 _ h3; omega
    exact h1
theorem inc_ext {t s : List Int} (ht : Inc t) (hs : Inc s) (h : ∀ x, x ∈ t ↔ x ∈ s) : t = s := by
  have h1 := sub_of_mem ht hs (fun x => (h x).1)
  have h2 := sub_of_mem hs ht (fun x => (h x).2)
  exact h1.eq_of_length (Nat.le_antisymm h1.length_le h2.length_le)
def ins (C : List (List Int)) (s : List Int) : List (List Int) := (C.takeWhile fun x => slt x s) ++ s :: (C.dropWhile fun x => slt x s)
theorem mem_ins {C : List (List Int)} {s x : List Int} : x ∈ ins C s ↔ x = s ∨ x ∈ C := by
  unfold ins
  have h : x ∈ C ↔ x ∈ (C.takeWhile fun x => slt x s) ∨ x ∈ (C.dropWhile fun x => slt x s) := by
    rw [← List.mem_append, List.takeWhile_append_dropWhile]
  rw [h, List.mem_append, List.mem_cons]
  constructor
  · rintro (h | h | h)
    · exact .inr (.inl h)
    · exact .inl h
    exact .inr (.inr h)
  rintro (h | h | h)
  · exact .inr (.inl h)
  · exact .inl h
  exact .inr (.inr h)
theorem ins_srt : ∀ {C : List (List Int)} {s : List Int}, Srt C → s ∉ C → Srt (ins C s)
  | [], s, _, _ => List.pairwise_singleton _ _
  | a :: C, s, h, hn => by
    have h' := List.pairwise_cons.1 h
    have hne : s ≠ a := fun e => hn (by rw [e]; exact List.mem_cons_self)
    have hnC : s ∉ C := fun hm => hn (List.mem_cons_of_mem _ hm)
    unfold ins
    by_cases hlt : slt a s = true
    · have e1 : (a :: C).takeWhile (fun x => slt x s) = a :: C.takeWhile (fun x => slt x s) := by simp [List.takeWhile_cons, hlt]
      have e2 : (a :: C).dropWhile (fun x => slt x s) = C.dropWhile (fun x => slt x s) := by simp [List.dropWhile_cons, hlt]
      rw [e1, e2, List.cons_append]
      refine List.pairwise_cons.2 ⟨fun x hx => ?_, ins_srt h'.2 hnC⟩
      rcases (mem_ins (C := C)).1 hx with rfl | hx
      · exact hlt
      exact h'.1 x hx
    have hf : slt a s = false := by simpa using hlt
    have e1 : (a :: C).takeWhile (fun x => slt x s) = [] := by simp [List.takeWhile_cons, hf]
    have e2 : (a :: C).dropWhile (fun x => slt x s) = a :: C := by simp [List.dropWhile_cons, hf]
    rw [e1, e2, List.nil_append]
    have hsa : slt s a = true := by
      rcases slt_tri a s with h1 | h1 | h1
      · exact absurd h1 hlt
      · exact absurd h1.symm hne
      exact h1
    refine List.pairwise_cons.2 ⟨fun x hx => ?_, h⟩
    rcases List.mem_cons.1 hx with rfl | hx
    · exact hsa
    exact slt_trans hsa (h'.1 x hx)
def putN : Nat → List (List Int) → List Int → List (List Int)
  | 0, C, _ => C
  | n + 1, C, s => if s ∈ C then C else ins ((List.range s.length).foldl (fun C k => if 1 < s.length then putN n C (drp s k) else C) C) s
theorem sub_cases {x s : List Int} : x.Sublist s ↔ x = s ∨ ∃ k, k < s.length ∧ x.Sublist (drp s k) := by
  constructor
  · intro h
    rcases Nat.lt_or_ge x.length s.length with hl | hg
    · exact .inr (sub_drp h hl)
    exact .inl (h.eq_of_length (Nat.le_antisymm h.length_le hg))
  rintro (rfl | ⟨k, _, h⟩)
  · exact List.Sublist.refl _
  exact h.trans (drp_sub s k)
theorem putN_spec : ∀ (n : Nat) {C : List (List Int)} {s : List Int}, s.length ≤ n → s ≠ [] → Srt C → Closed C →
    Srt (putN n C s) ∧ Closed (putN n C s) ∧ ∀ x, x ∈ putN n C s ↔ x ∈ C ∨ (x.Sublist s ∧ x ≠ [])
  | 0, C, s, hl, hne, _, _ => by
    cases s with
    | nil => exact absurd rfl hne
    | cons a s => simp at hl
  | n + 1, C, s, hl, hne, hs, hc => by
    simp only [putN]
    by_cases hm : s ∈ C
    · rw [if_pos hm]
      refine ⟨hs, hc, fun x => ⟨.inl, ?_⟩⟩
      rintro (h | ⟨h1, h2⟩)
      · exact h
      exact closed_mem hc hm h1 h2
    rw [if_neg hm]
    by_cases h1 : 1 < s.length
    · simp only [if_pos h1]
      have hfold : ∀ (m : Nat), m ≤ s.length → Srt ((List.range m).foldl (fun C k => putN n C (drp s k)) C) ∧ Closed ((List.range m).foldl (fun C k => putN n C (drp s k)) C) ∧
          ∀ x, x ∈ (List.range m).foldl (fun C k => putN n C (drp s k)) C ↔ x ∈ C ∨ ((∃ k, k < m ∧ x.Sublist (drp s k)) ∧ x ≠ []) := by
        intro m
        induction m with
        | zero => intro _; exact ⟨hs, hc, fun x => ⟨.inl, fun h => h.elim id (fun ⟨⟨k, hk, _⟩, _⟩ => by omega)⟩⟩
        | succ m ih =>
          intro hm
          obtain ⟨i1, i2, i3⟩ := ih (by omega)
          rw [List.range_succ, List.foldl_append, List.foldl_cons, List.foldl_nil]
          have hdl : (drp s m).length = s.length - 1 := drp_length (by omega)
          obtain ⟨j1, j2, j3⟩ := putN_spec n (s := drp s m) (by omega) (fun e => by rw [e] at hdl; simp at hdl; omega) i1 i2
          refine ⟨j1, j2, fun x => ?_⟩
          rw [j3, i3]
          constructor
          · rintro ((h | ⟨⟨k, hk, hx⟩, hne⟩) | ⟨hx, hne⟩)
            · exact .inl h
            · exact .inr ⟨⟨k, by omega, hx⟩, hne⟩
            exact .inr ⟨⟨m, by omega, hx⟩, hne⟩
          rintro (h | ⟨⟨k, hk, hx⟩, hne⟩)
          · exact .inl (.inl h)
          rcases Nat.lt_or_ge k m with hkm | hkm
          · exact .inl (.inr ⟨⟨k, hkm, hx⟩, hne⟩)
          have : k = m := by omega
          subst this; exact .inr ⟨hx, hne⟩
      obtain ⟨i1, i2, i3⟩ := hfold s.length (Nat.le_refl _)
      generalize (List.range s.length).foldl (fun C k => putN n C (drp s k)) C = C' at i1 i2 i3
      have hsC : s ∉ C' := fun hm' => by
        rcases (i3 s).1 hm' with h | ⟨⟨k, hk, hx⟩, _⟩
        · exact hm h
        have := hx.length_le
        rw [drp_length hk] at this; omega
      refine ⟨ins_srt i1 hsC, fun t ht htl k hk => ?_, fun x => ?_⟩
      · rw [mem_ins] at ht ⊢
        right
        rcases ht with rfl | ht
        · refine (i3 _).2 (.inr ⟨⟨k, hk, List.Sublist.refl _⟩, fun e => ?_⟩)
          have := drp_length hk
          rw [e] at this; simp at this; omega
        exact i2 t ht htl k hk
      rw [mem_ins, i3, sub_cases (x := x) (s := s)]
      constructor
      · rintro (rfl | h | ⟨h, hne⟩)
        · exact .inr ⟨.inl rfl, hne⟩
        · exact .inl h
        exact .inr ⟨.inr h, hne⟩
      rintro (h | ⟨h | h, hne⟩)
      · exact .inr (.inl h)
      · exact .inl h
      exact .inr (.inr ⟨h, hne⟩)
    simp only [if_neg h1]
    have hfold : ∀ (l : List Nat), l.foldl (fun (C : List (List Int)) (_ : Nat) => C) C = C := by
      intro l; induction l with
      | nil => rfl
      | cons a l ih => simpa using ih
    rw [hfold]
    refine ⟨ins_srt hs hm, fun t ht htl k hk => ?_, fun x => ?_⟩
    · rw [mem_ins] at ht ⊢
      rcases ht with rfl | ht
      · omega
      exact .inr (hc t ht htl k hk)
    rw [mem_ins, sub_cases (x := x) (s := s)]
    constructor
    · rintro (rfl | h)
      · exact .inr ⟨.inl rfl, hne⟩
      exact .inl h
    rintro (h | ⟨h | ⟨k, hk, hx⟩, hx2⟩)
    · exact .inr h
    · exact .inl h
    have h3 := hx.length_le
    rw [drp_length hk] at h3
    cases x with
    | nil => exact absurd rfl hx2
    | cons a x => simp at h3; omega
theorem put_all : ∀ (L : List (List Int)) {C : List (List Int)}, (∀ s, s ∈ L → s ≠ []) → Srt C → Closed C →
    Srt (L.foldl (fun C s => putN s.length C s) C) ∧ Closed (L.foldl (fun C s => putN s.length C s) C) ∧ ∀ x, x ∈ L.foldl (fun C s => putN s.length C s) C ↔ x ∈ C ∨ ((∃ s, s ∈ L ∧ x.Sublist s) ∧ x ≠ [])
  | [], C, _, hs, hc => ⟨hs, hc, fun x => ⟨.inl, fun h => h.elim id (fun ⟨⟨s, h, _⟩, _⟩ => by cases h)⟩⟩
  | s :: L, C, hne, hs, hc => by
    obtain ⟨i1, i2, i3⟩ := putN_spec s.length (Nat.le_refl _) (hne s List.mem_cons_self) hs hc
    obtain ⟨j1, j2, j3⟩ := put_all L (fun t ht => hne t (List.mem_cons_of_mem _ ht)) i1 i2
    refine ⟨j1, j2, fun x => ?_⟩
    rw [List.foldl_cons, j3, i3]
    constructor
    · rintro ((h | ⟨h, hx⟩) | ⟨⟨t, ht, h⟩, hx⟩)
      · exact .inl h
      · exact .inr ⟨⟨s, List.mem_cons_self, h⟩, hx⟩
      exact .inr ⟨⟨t, List.mem_cons_of_mem _ ht, h⟩, hx⟩
    rintro (h | ⟨⟨t, ht, h⟩, hx⟩)
    · exact .inl (.inl h)
    rcases List.mem_cons.1 ht with rfl | ht
    · exact .inl (.inr ⟨h, hx⟩)
    exact .inr ⟨⟨t, ht, h⟩, hx⟩
end Go.Proofs.Ytipkciildhghiaa.B.SimT
/- What the program's and the reference's orders of simplices come to (for this claim, by hand). -/
set_option linter.unusedVariables false
set_option linter.unusedSimpArgs false
namespace Go.Proofs.Ytipkciildhghiaa.B
open Go.RowKit Go.Proofs.YtipkciildhghiaaW.PrintWords
open SimT
def lexcmp : List Int → List Int → Int
  | [], [] => 0
  | [], _ :: _ => -1
  | _ :: _, [] => 1
  | a :: l, b :: m => if a < b then -1 else if a > b then 1 else lexcmp l m
theorem lexcmp_neg : ∀ l m, lexcmp l m < 0 ↔ lexlt l m = true
  | [], [] => by simp [lexcmp, lexlt]
  | [], _ :: _ => by simp [lexcmp, lexlt]
  | _ :: _, [] => by simp [lexcmp, lexlt]
  | a :: l, b :: m => by
    simp only [lexcmp, lexlt]
    by_cases h1 : a < b
    · rw [if_pos h1, if_pos h1]; simp
    rw [if_neg h1, if_neg h1]
    by_cases h2 : b < a
    · rw [if_pos h2, if_pos h2]; simp
    rw [if_neg h2, if_neg h2]; exact lexcmp_neg l m
theorem lexcmp_zero : ∀ l m, lexcmp l m = 0 ↔ l = m
  | [], [] => by simp [lexcmp]
  | [], _ :: _ => by simp [lexcmp]
  | _ :: _, [] => by simp [lexcmp]
  | a :: l, b :: m => by
    simp only [lexcmp]
    by_cases h1 : a < b
    · rw [if_pos h1]
      refine ⟨fun h => by omega, fun h => ?_⟩
      injection h with h _; omega
    rw [if_neg h1]
    by_cases h2 : a > b
    · rw [if_pos h2]
      refine ⟨fun h => by omega, fun h => ?_⟩
      injection h with h _; omega
    rw [if_neg h2, lexcmp_zero l m]
    have : a = b := by omega
    subst this
    exact ⟨fun h => by rw [h], fun h => by injection h⟩
def icmp (a b : Int) : Int := if a < b then -1 else if a > b then 1 else 0
theorem cmpInt_val (a b : Int) : z154.f a b = some (icmp a b) := by
  unfold z154.f z181.f icmp
  simp only [bne_self_eq_false, Option.bind_some, Bool.false_eq_true, if_false]
  split
  · rfl
  split <;> rfl
theorem cmpInt64_val (a b : Int) : z182.f a b = some (icmp a b) := by
  unfold z182.f z197.f icmp
  simp only [bne_self_eq_false, Option.bind_some, Bool.false_eq_true, if_false]
  split
  · rfl
  split <;> rfl
theorem drop_cons {l : List Int} {i : Nat} (h : i < l.length) : l.drop i = l.getD i 0 :: l.drop (i + 1) := by
  rw [List.drop_eq_getElem_cons h, List.getD_eq_getElem?_getD, List.getElem?_eq_getElem h]; rfl
theorem slicesCompare_ev (l m : List Int) (hl : l.length < 9223372036854775807) (hm : m.length < 9223372036854775807) : Ev (fun k => z155.f k l m) (lexcmp l m) := by
  have main : ∀ (d i : Nat), i + d = l.length → i ≤ m.length → Ev (fun k => z155.l0 k l m l (l.length : Int) (i : Int)) (lexcmp (l.drop i) (m.drop i)) := by
    intro d
    induction d with
    | zero =>
      intro i hi him
      rw [List.drop_of_length_le (show l.length ≤ i by omega)]
      refine Ev.step (fun k => z155.l0.eq_2 ..) ?_
      refine ev_neg (by omega) ?_
      by_cases h : i < m.length
      · rw [drop_cons h]
        exact ev_pos (by omega) (Ev.now _)
      rw [List.drop_of_length_le (show m.length ≤ i by omega)]
      exact ev_neg (by omega) (Ev.now _)
    | succ d ih =>
      intro i hi him
      rw [drop_cons (show i < l.length by omega)]
      refine Ev.step (fun k => z155.l0.eq_2 ..) ?_
      refine ev_pos (by omega) (ev_pos (by omega) (ev_pos (by omega) ?_))
      by_cases h : i < m.length
      · rw [drop_cons h, rd_nat, rd_nat, wrap_succ (by omega)]
        refine ev_neg (by omega) (ev_pos (by omega) (Ev.bind (ev_const (cmpInt64_val _ _)) ?_))
        simp only [lexcmp]
        unfold icmp
        by_cases h1 : l.getD i 0 < m.getD i 0
        · rw [if_pos h1, if_pos h1]; exact ev_neg (by omega) (Ev.now _)
        rw [if_neg h1, if_neg h1]
        by_cases h2 : l.getD i 0 > m.getD i 0
        · rw [if_pos h2, if_pos h2]; exact ev_neg (by omega) (Ev.now _)
        rw [if_neg h2, if_neg h2]; exact ev_pos rfl (ih (i + 1) (by omega) (by omega))
      rw [List.drop_of_length_le (show m.length ≤ i by omega)]
      exact ev_pos (by omega) (Ev.now _)
  have := main l.length 0 (by omega) (by omega)
  simpa [z155.f] using this
def scmp (a b : List Int) : Int := if icmp (a.length : Int) (b.length : Int) = 0 then lexcmp a b else icmp (a.length : Int) (b.length : Int)
theorem scmp_neg (a b : List Int) : scmp a b < 0 ↔ slt a b = true := by
  rw [slt_iff]
  unfold scmp icmp
  rcases Nat.lt_trichotomy a.length b.length with h | h | h
  · rw [if_pos (show (a.length : Int) < b.length by omega)]; simp [h]
  · rw [if_neg (show ¬ (a.length : Int) < b.length by omega), if_neg (show ¬ (a.length : Int) > b.length by omega), if_pos rfl, lexcmp_neg]
    constructor
    · exact fun h' => .inr ⟨h, h'⟩
    rintro (h' | h')
    · omega
    exact h'.2
  rw [if_neg (show ¬ (a.length : Int) < b.length by omega), if_pos (show (a.length : Int) > b.length by omega)]
  simp
  omega
theorem scmp_zero (a b : List Int) : scmp a b = 0 ↔ a = b := by
  unfold scmp icmp
  rcases Nat.lt_trichotomy a.length b.length with h | h | h
  · rw [if_pos (show (a.length : Int) < b.length by omega)]
    simp
    intro e; subst e; omega
  · rw [if_neg (show ¬ (a.length : Int) < b.length by omega), if_neg (show ¬ (a.length : Int) > b.length by omega), if_pos rfl, lexcmp_zero]
  rw [if_neg (show ¬ (a.length : Int) < b.length by omega), if_pos (show (a.length : Int) > b.length by omega)]
  simp
  intro e; subst e; omega
theorem cmpOr_ev (a b : Int) : Ev (fun k => z153.f k [a, b]) (if a = 0 then b else a) := by
  unfold z153.f
  refine Ev.step (fun k => z153.l0.eq_2 ..) ?_
  refine ev_pos (by simp) (ev_pos (by omega) (ev_pos (by simp) ?_))
  simp only [rd, Int.toNat_zero, List.getD_cons_zero]
  by_cases h : a = 0
  · rw [if_pos h]
    refine ev_pos h ?_
    refine Ev.step (fun k => z153.l0.eq_2 ..) ?_
    simp only [show wrap64 (0 + 1) = 1 by unfold wrap64; omega]
    refine ev_pos (by simp) (ev_pos (by omega) (ev_pos (by simp) ?_))
    simp only [rd, show Int.toNat 1 = 1 from rfl, List.getD_cons_succ, List.getD_cons_zero]
    by_cases h2 : b = 0
    · refine ev_pos h2 ?_
      refine Ev.step (fun k => z153.l0.eq_2 ..) ?_
      simp only [show wrap64 (1 + 1) = 2 by unfold wrap64; omega]
      refine ev_neg (by simp) (ev_eq (Ev.now _) h2.symm)
    exact ev_neg h2 (Ev.now _)
  rw [if_neg h]
  exact ev_neg h (Ev.now _)
theorem compareS_ev (a b : List Int) (ha : a.length < 9223372036854775807) (hb : b.length < 9223372036854775807) : Ev (fun k => z109.f k a b) (scmp a b) := by
  unfold z109.f
  refine Ev.bind (ev_const (cmpInt_val _ _)) (Ev.bind (slicesCompare_ev a b ha hb) (Ev.bind (cmpOr_ev _ _) ?_))
  exact Ev.now _
theorem before_ev (a b : List Int) (ha : a.length < 9223372036854775807) : Ev (fun k => z107.f k a b) (slt a b) := by
  unfold z107.f
  by_cases hab : a.length = b.length
  · refine ev_pos (by omega) ?_
    have e : slt a b = lexlt a b := by simp [slt, hab]
    rw [e]
    have main : ∀ (d i : Nat), i + d = a.length → Ev (fun k => z107.l0 k a b (i : Int)) (lexlt (a.drop i) (b.drop i)) := by
      intro d
      induction d with
      | zero =>
        intro i hi
        rw [List.drop_of_length_le (show a.length ≤ i by omega), List.drop_of_length_le (show b.length ≤ i by omega)]
        refine Ev.step (fun k => z107.l0.eq_2 ..) ?_
        exact ev_neg (by omega) (Ev.now _)
      | succ d ih =>
        intro i hi
        rw [drop_cons (show i < a.length by omega), drop_cons (show i < b.length by omega)]
        refine Ev.step (fun k => z107.l0.eq_2 ..) ?_
        refine ev_pos (by omega) (ev_pos (by omega) (ev_pos (by omega) ?_))
        rw [rd_nat, rd_nat, wrap_succ (by omega)]
        simp only [lexlt]
        by_cases h : a.getD i 0 = b.getD i 0
        · refine ev_pos h ?_
          rw [if_neg (by omega), if_neg (by omega)]
          exact ih (i + 1) (by omega)
        refine ev_neg h ?_
        by_cases h1 : a.getD i 0 < b.getD i 0
        · rw [if_pos h1]; exact ev_eq (Ev.now _) (decide_eq_true h1)
        rw [if_neg h1, if_pos (by omega)]; exact ev_eq (Ev.now _) (decide_eq_false h1)
    have := main a.length 0 (by omega)
    simpa using this
  refine ev_neg (by omega) (ev_eq (Ev.now _) ?_)
  rw [Bool.eq_iff_iff, slt_iff, decide_eq_true_iff]
  constructor
  · exact fun h => .inl (by omega)
  rintro (h | h)
  · omega
  exact absurd h.1 hab
def idx (l : List (List Int)) (s : List Int) : Int := if s ∈ l then ((l.idxOf s : Nat) : Int) else -1
theorem idx_neg (l : List (List Int)) (s : List Int) : idx l s < 0 ↔ s ∉ l := by
  unfold idx
  by_cases h : s ∈ l
  · rw [if_pos h]
    exact ⟨fun h' => by omega, fun h' => absurd h h'⟩
  rw [if_neg h]
  exact ⟨fun _ => h, fun _ => by omega⟩
theorem idx_get {l : List (List Int)} {s : List Int} (h : s ∈ l) : ∃ i, i < l.length ∧ idx l s = (i : Int) ∧ l.getD i [] = s ∧ ∀ j, j < i → l.getD j [] ≠ s := by
  refine ⟨l.idxOf s, List.idxOf_lt_length_of_mem h, by unfold idx; rw [if_pos h], ?_, fun j hj e => ?_⟩
  · have hl := List.idxOf_lt_length_of_mem h
    rw [List.getD_eq_getElem?_getD, List.getElem?_eq_getElem hl]
    exact List.getElem_idxOf hl
  have hl := List.idxOf_lt_length_of_mem h
  have := List.not_of_lt_findIdx (p := fun x => x == s) (xs := l) (i := j) hj
  have hjl : j < l.length := by omega
  rw [List.getD_eq_getElem?_getD, List.getElem?_eq_getElem hjl] at e
  simp at e this
  exact this e
theorem idx_of {l : List (List Int)} {s : List Int} {i : Nat} (hi : i < l.length) (he : l.getD i [] = s) (hb : ∀ j, j < i → l.getD j [] ≠ s) : idx l s = (i : Int) := by
  have hm : s ∈ l := he ▸ getD_mem [] hi
  obtain ⟨j, hj, e1, e2, e3⟩ := idx_get hm
  rw [e1]
  rcases Nat.lt_trichotomy i j with h | h | h
  · exact absurd he (e3 i h)
  · rw [h]
  exact absurd e2 (hb j h)
theorem find_ev (l : List (List Int)) (s : List Int) (hl : l.length < 9223372036854775807) (hr : ∀ x ∈ l, x.length < 9223372036854775807) : Ev (fun k => z80.f k l s) (idx l s) := by
  unfold z80.f
  refine ev_find (fun (i : Nat) k => z80.l0 k s (i : Int) l) (fun i => l.getD i [] == s) l.length 0 (fun j _ hj hp r hr' => ?_) (fun j _ hj hp hb => ?_) (fun hall => ?_)
  · refine Ev.step (fun k => z80.l0.eq_2 ..) ?_
    refine ev_pos (by omega) (ev_pos (by omega) ?_)
    rw [rdl_nat, wrap_succ (by omega)]
    exact Ev.bind (same_ev _ _ (hr _ (getD_mem [] (by omega)))) (ev_neg (by rw [hp]; decide) hr')
  · have e : idx l s = (j : Int) := idx_of (by omega) (eq_of_beq hp) (fun m hm he => by have := hb m (Nat.zero_le _) hm; rw [he] at this; simp at this)
    rw [e]
    refine Ev.step (fun k => z80.l0.eq_2 ..) ?_
    refine ev_pos (by omega) (ev_pos (by omega) ?_)
    rw [rdl_nat]
    exact Ev.bind (same_ev _ _ (hr _ (getD_mem [] (by omega)))) (ev_pos hp (Ev.now _))
  have e : idx l s = -1 := by
    unfold idx
    rw [if_neg]
    intro hm
    obtain ⟨i, hi, _, e2, _⟩ := idx_get hm
    have := hall i (Nat.zero_le _) (by omega)
    rw [e2] at this; simp at this
  rw [e]
  refine Ev.step (fun k => z80.l0.eq_2 ..) ?_
  exact ev_neg (by omega) (Ev.now _)
theorem srt_take {l : List (List Int)} (h : Srt l) (k : Nat) : Srt (l.take k) := List.Pairwise.sublist (List.take_sublist k l) h
theorem search_ev (l : List (List Int)) (s : List Int) (hl : l.length < 4611686018427387904) (hr : ∀ x ∈ l, x.length < 9223372036854775807) (hs : s.length < 9223372036854775807) (hsrt : Srt l) :
    ∃ t, Ev (fun k => z227.f k l s) t ∧ (if t.2 = true then t.1 else -1) = idx l s := by
  have lo_of : ∀ i, i < l.length → slt (l.getD i []) s = true → ∀ j, j ≤ i → slt (l.getD j []) s = true := fun i hi h j hj => by
    rcases Nat.eq_or_lt_of_le hj with rfl | hlt
    · exact h
    exact slt_trans (srt_get hsrt hlt hi) h
  have hi_of : ∀ i, i < l.length → slt (l.getD i []) s = false → ∀ j, i ≤ j → j < l.length → slt (l.getD j []) s = false := fun i hi h j hj hjl => by
    cases hh : slt (l.getD j []) s with
    | false => rfl
    | true => rw [lo_of j hjl hh i hj] at h; cases h
  have main : ∀ (d lo hi : Nat), lo ≤ hi → hi - lo ≤ d → hi ≤ l.length → (∀ j, j < lo → slt (l.getD j []) s = true) → (∀ j, hi ≤ j → j < l.length → slt (l.getD j []) s = false) →
      ∃ t, Ev (fun k => z227.l0 k l s (l.length : Int) (lo : Int) (hi : Int)) t ∧ (if t.2 = true then t.1 else -1) = idx l s := by
    intro d
    induction d with
    | zero =>
      intro lo hi h1 h2 h3 hlo hhi
      have : lo = hi := by omega
      subst this
      by_cases hn : lo < l.length
      · refine ⟨((lo : Int), (scmp (l.getD lo []) s == 0)), ?_, ?_⟩
        · refine Ev.step (fun k => z227.l0.eq_2 ..) ?_
          refine ev_neg (by omega) (ev_pos (by omega) (ev_pos (by omega) (ev_pos (by omega) ?_)))
          rw [rdl_nat]
          exact Ev.bind (compareS_ev _ _ (hr _ (getD_mem [] hn)) hs) (Ev.now _)
        by_cases he : l.getD lo [] = s
        · have : (scmp (l.getD lo []) s == 0) = true := by rw [beq_iff_eq, scmp_zero]; exact he
          simp only [this, if_true]
          exact (idx_of hn he (fun j hj e => by have := hlo j hj; rw [e, slt_irrefl] at this; cases this)).symm
        have : (scmp (l.getD lo []) s == 0) = false := by rw [beq_eq_false_iff_ne]; exact fun h => he ((scmp_zero _ _).1 h)
        simp only [this, Bool.false_eq_true, if_false]
        have hnm : s ∉ l := fun hm => by
          obtain ⟨i, hi, _, e2, _⟩ := idx_get hm
          rcases Nat.lt_trichotomy i lo with h | h | h
          · have := hlo i h; rw [e2, slt_irrefl] at this; cases this
          · subst h; exact he e2
          have h5 := srt_get hsrt h hi
          rw [e2] at h5
          have := hhi lo (Nat.le_refl _) hn
          rw [h5] at this; cases this
        unfold idx; rw [if_neg hnm]
      refine ⟨((lo : Int), false), ?_, ?_⟩
      · refine Ev.step (fun k => z227.l0.eq_2 ..) ?_
        exact ev_neg (by omega) (ev_neg (by omega) (Ev.now _))
      simp only [Bool.false_eq_true, if_false]
      have hnm : s ∉ l := fun hm => by
        obtain ⟨i, hi, _, e2, _⟩ := idx_get hm
        have := hlo i (by omega); rw [e2, slt_irrefl] at this; cases this
      unfold idx; rw [if_neg hnm]
    | succ d ih =>
      intro lo hi h1 h2 h3 hlo hhi
      by_cases hlt : lo < hi
      · have em : wrap64 (IntKind.u64.wrap (wrap64 ((lo : Int) + (hi : Int))) / 2) = (((lo + hi) / 2 : Nat) : Int) := by
          have e1 : wrap64 ((lo : Int) + (hi : Int)) = (lo : Int) + (hi : Int) := wrap_small (by omega) (by omega)
          have e2 : IntKind.u64.wrap ((lo : Int) + (hi : Int)) = (lo : Int) + (hi : Int) := by
            simp [IntKind.wrap, IntKind.bits, IntKind.signed]; omega
          rw [e1, e2, wrap_small (by omega) (by omega)]; omega
        have hm : (lo + hi) / 2 < l.length := by omega
        have hmr := hr _ (getD_mem ([] : List Int) hm)
        cases hc : slt (l.getD ((lo + hi) / 2) []) s with
        | true =>
          obtain ⟨t, ht, hv⟩ := ih ((lo + hi) / 2 + 1) hi (by omega) (by omega) h3 (fun j hj => lo_of _ hm hc j (by omega)) hhi
          refine ⟨t, ?_, hv⟩
          refine Ev.step (fun k => z227.l0.eq_2 ..) ?_
          rw [em, rdl_nat, wrap_succ (by omega)]
          refine ev_pos (by omega) (ev_pos (by omega) (ev_pos (by omega) (Ev.bind (compareS_ev _ _ hmr hs) (ev_pos ((scmp_neg _ _).2 hc) ht))))
        | false =>
          obtain ⟨t, ht, hv⟩ := ih lo ((lo + hi) / 2) (by omega) (by omega) (by omega) hlo (fun j hj hjl => hi_of _ hm hc j hj hjl)
          refine ⟨t, ?_, hv⟩
          refine Ev.step (fun k => z227.l0.eq_2 ..) ?_
          rw [em, rdl_nat, wrap_succ (by omega)]
          refine ev_pos (by omega) (ev_pos (by omega) (ev_pos (by omega) (Ev.bind (compareS_ev _ _ hmr hs) (ev_neg (fun h => ?_) ht))))
          have := (scmp_neg _ _).1 h
          rw [hc] at this; cases this
      exact ih lo hi h1 (by omega) h3 hlo hhi
  exact main l.length 0 l.length (by omega) (by omega) (Nat.le_refl _) (fun j hj => by omega) (fun j h1 h2 => by omega)
theorem indexOf_ev (l : List (List Int)) (s : List Int) (hl : l.length < 4611686018427387904) (hr : ∀ x ∈ l, x.length < 9223372036854775807) (hs : s.length < 9223372036854775807) (hsrt : Srt l) : Ev (fun k => z84.f k l s) (idx l s) := by
  obtain ⟨t, ht, hv⟩ := search_ev l s hl hr hs hsrt
  unfold z84.f
  refine Ev.bind ht ?_
  rw [← hv]
  cases h : t.2 with
  | true => exact ev_pos rfl (ev_eq (Ev.now _) (by simp))
  | false => exact ev_neg (by simp) (ev_eq (Ev.now _) (by simp))
end Go.Proofs.Ytipkciildhghiaa.B
namespace Go.Proofs.Ytipkciildhghiaa.B
open Go.RowKit Go.Proofs.YtipkciildhghiaaW.PrintWords Go.Proofs.YtipkciildhghiaaW.PrintLast Go.Proofs.YtipkciildhghiaaW.PrintMore
attribute [local go_sem] max2_int min2_int max_two min_two max_three min_three max_four min_four
set_option linter.unusedVariables false
set_option linter.unusedSimpArgs false
def z26.f (k : Nat) (l0_0 : List (List Int)) (a1 : Int) : Option (Int) := (z51.f k l0_0 a1).bind fun t102 => (if t102 < 0 then (some (-1)) else (some t102))
theorem z26.calls (k : Nat) (A0_0 : Option Addr) (c0_0 : Nat) (l0_0 : List (List Int)) (a1 : Int) (r : Int) (w : World) (hr0_0 : Kd.C (Kd.slice 2 (Kd.int .i64)) w A0_0 l0_0.length l0_0) (hc0_0 : l0_0.length ≤ c0_0) (h : z26.f k l0_0 a1 = some r) :
  Calls Try.prog 26 #[.agg #[.slice A0_0 l0_0.length c0_0], .int .i64 a1] w fun e w' => e = .returned (.int .i64 r) ∧ Below w.heap.size w w' := by
 have hu29 := Try.underlying29
 have HR0_0 := Zz.mk hr0_0
 have HC0_0 := Zz.mk hc0_0
 clear hr0_0 hc0_0
 have HB := Zz.mk (Below.refl w.heap.size w)
 have H : ((z51.f k l0_0 a1).bind fun t102 => (if t102 < 0 then (some (-1)) else (some t102))) = some r := h
 clear h
 replace H := OZ_ H
 obtain ⟨t102, A3, H⟩ := H
 by_cases c4 : t102 < 0
 ·rw [if_pos c4] at H
  have c4b0 : decide (t102 < 0) = true := decide_eq_true c4
  clear c4
  obtain rfl := OI_ H
  go_enter Try.func26, Try.ntmps26
  go_wp2_with (first | ((with_reducible refine gate_dst (N := 2) rfl ?_); refine bx_ 2 #[.slice A0_0 l0_0.length c0_0] 29 ?_; intro gb101 hg w5 hbox hb; have BK101 := Zz.mk (hbox); have GW101 := Zz.mk ((gw_ hg (B_ HB.out))); have GE101 := GW101; replace HB := Zz.mk (bT_ (B_ HB.out) hb); clear hb hbox hg; obtain ⟨hcz6_0, hfz6_0⟩ := Z1f_ BK101.out) | ((with_reducible refine gC_ (f := 51) rfl ?_); refine GL_ (some 8) rfl rfl Try.func51 #[.slice A0_0 l0_0.length c0_0, .int .i64 a1] rfl (h := ?_); (with_reducible refine (z51.calls k _ _ l0_0 a1 t102 _ ?side1 ?side2 A3.out).mono ?_); (case side1 => exact KC_ (Kd.C_below HR0_0.out HB.out)); (case side2 => exact HC0_0.out); rintro e w' ⟨rfl, ⟨nd, rfl⟩⟩; refine ⟨_, rfl, ?_⟩))
  go_ret
  exact ⟨F_, B1_ HB.out GE101.out⟩
 rw [if_neg c4] at H
 have c4b0 : decide (t102 < 0) = false := decide_eq_false c4
 clear c4
 obtain rfl := OI_ H
 go_enter Try.func26, Try.ntmps26
 go_wp2_with (first | ((with_reducible refine gate_dst (N := 2) rfl ?_); refine bx_ 2 #[.slice A0_0 l0_0.length c0_0] 29 ?_; intro gb101 hg w7 hbox hb; have BK101 := Zz.mk (hbox); have GW101 := Zz.mk ((gw_ hg (B_ HB.out))); have GE101 := GW101; replace HB := Zz.mk (bT_ (B_ HB.out) hb); clear hb hbox hg; obtain ⟨hcz8_0, hfz8_0⟩ := Z1f_ BK101.out) | ((with_reducible refine gC_ (f := 51) rfl ?_); refine GL_ (some 8) rfl rfl Try.func51 #[.slice A0_0 l0_0.length c0_0, .int .i64 a1] rfl (h := ?_); (with_reducible refine (z51.calls k _ _ l0_0 a1 t102 _ ?side1 ?side2 A3.out).mono ?_); (case side1 => exact KC_ (Kd.C_below HR0_0.out HB.out)); (case side2 => exact HC0_0.out); rintro e w' ⟨rfl, ⟨nd, rfl⟩⟩; refine ⟨_, rfl, ?_⟩))
 go_ret
 exact ⟨F_, B1_ HB.out GE101.out⟩
end Go.Proofs.Ytipkciildhghiaa.B
