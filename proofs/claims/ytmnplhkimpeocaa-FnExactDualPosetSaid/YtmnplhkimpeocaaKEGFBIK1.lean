/- Printed proofs of functions of the program and of the reference, by a program of this work over the kit's printer. -/
import Derived.Test.YtmnplhkimpeocaaKEGFBIK0
import Derived.Test.YtmnplhkimpeocaaKW0
/- The marks that the exact laws write into a row of rows: proved by hand (the printer takes flat rows alone). -/
set_option linter.unusedVariables false
set_option linter.unusedSimpArgs false
namespace Go.Proofs.Ytmnplhkimpeocaa.B
open Go.RowKit Go.Proofs.YtmnplhkimpeocaaW.PrintWords Go.Proofs.YtmnplhkimpeocaaW.PrintLast Go.Proofs.YtmnplhkimpeocaaW.PrintMore
/-- The flat marks, as the printed function tells them. -/
theorem markInt64S_ev : ∀ (d : Nat) (xs : List Int) (pre post : List Int) (a : Int), post.length = d → xs = pre ++ post → 0 ≤ a → a + d ≤ 9223372036854775807 → (xs.length : Int) ≤ 9223372036854775807 →
    Ev (fun k => z38.l0 k xs a (pre.length : Int)) (a + d, pre ++ markInts post a)
  | 0, xs, pre, post, a, hd, hx, h0, h1, hl => by
    have hp : post = [] := List.eq_nil_of_length_eq_zero hd
    subst hp
    refine Ev.step (f := fun _ => some (a, xs)) (fun k => ?_) ?_
    · simp only [z38.l0]
      rw [if_neg (by subst hx; simp)]
    · subst hx
      simpa [markInts] using Ev.now (a, pre ++ ([] : List Int))
  | d + 1, xs, pre, post, a, hd, hx, h0, h1, hl => by
    obtain ⟨y, post, rfl⟩ : ∃ y p, post = y :: p := by cases post with | nil => simp at hd | cons y p => exact ⟨y, p, rfl⟩
    have ih := markInt64S_ev d (xs.set pre.length a) (pre ++ [a]) post (a + 1) (by simpa using hd) (by subst hx; simp) (by omega) (by omega) (by simpa using hl)
    refine Ev.step (f := fun k => z38.l0 k (xs.set pre.length a) (a + 1) ((pre ++ [a]).length : Int)) (fun k => ?_) ?_
    · simp only [z38.l0]
      have hlen : (xs.length : Int) = pre.length + (post.length + 1) := by subst hx; simp
      rw [if_pos (by omega), if_pos (by omega)]
      congr 1
      · unfold wrap64; omega
      · simp only [List.length_append, List.length_singleton]; unfold wrap64; omega
    · have e : (a + ((d : Nat) + 1 : Nat) : Int) = a + 1 + d := by omega
      rw [e]
      simpa [markInts] using ih
theorem markInt64S_all (l : List Int) (a : Int) (h0 : 0 ≤ a) (h1 : a + l.length ≤ 9223372036854775807) : ∃ k, z38.f k l a = some (a + l.length, markInts l a) := by
  have := (markInt64S_ev l.length l [] l a rfl rfl h0 h1 (by omega)).rounds
  simpa [z38.f] using this
def laws_markInt64SS.f (l0 : List (List Int)) (a1 : Int) : Option (Int × List (List Int)) :=
  if 0 ≤ a1 ∧ a1 + total l0 ≤ 9223372036854775807 then some (a1 + total l0, markRows l0 a1) else none
theorem laws_markInt64SS.inv {l0 : List (List Int)} {a1 r1 : Int} {r2 : List (List Int)} (h : laws_markInt64SS.f l0 a1 = some (r1, r2)) : 0 ≤ a1 ∧ a1 + total l0 ≤ 9223372036854775807 ∧ a1 + total l0 = r1 ∧ markRows l0 a1 = r2 := by
  unfold laws_markInt64SS.f at h
  split at h
  · rename_i hc
    simp only [Option.some.injEq, Prod.mk.injEq] at h
    exact ⟨hc.1, hc.2, h.1, h.2⟩
  · cases h
/-- What the row is, k of its rows being marked. -/
def partM (l0 : List (List Int)) (a1 : Int) (k : Nat) : List (List Int) := markRows (l0.take k) a1 ++ l0.drop k
theorem partM_length (l0 : List (List Int)) (a1 : Int) (k : Nat) : (partM l0 a1 k).length = l0.length := by simp [partM, markRows_length]; omega
theorem partM_get (l0 : List (List Int)) (a1 : Int) (k : Nat) (hk : k < l0.length) : (partM l0 a1 k).getD k [] = l0.getD k [] := by
  have hl : (markRows (l0.take k) a1).length = k := by rw [markRows_length, List.length_take]; omega
  simp only [partM, List.getD_eq_getElem?_getD]
  rw [List.getElem?_append_right (by omega), hl, Nat.sub_self, List.getElem?_drop, Nat.add_zero]
theorem partM_set (l0 : List (List Int)) (a1 : Int) (k : Nat) (hk : k < l0.length) : (partM l0 a1 k).set k (markInts (l0.getD k []) (a1 + total (l0.take k))) = partM l0 a1 (k + 1) := by
  have hl : (markRows (l0.take k) a1).length = k := by rw [markRows_length, List.length_take]; omega
  have hd : l0.drop k = l0.getD k [] :: l0.drop (k + 1) := by
    rw [List.drop_eq_getElem_cons hk, List.getD_eq_getElem?_getD, List.getElem?_eq_getElem hk]; rfl
  have ht : l0.take (k + 1) = l0.take k ++ [l0.getD k []] := by
    rw [List.take_succ_eq_append_getElem hk, List.getD_eq_getElem?_getD, List.getElem?_eq_getElem hk]; rfl
  simp only [partM]
  rw [List.set_append_right _ _ (by omega), hl, Nat.sub_self, hd, List.set_cons_zero, ht, markRows_append]
  simp [markRows]
theorem total_take_succ (l0 : List (List Int)) (k : Nat) (hk : k < l0.length) : total (l0.take (k + 1)) = total (l0.take k) + (l0.getD k []).length := by
  have ht : l0.take (k + 1) = l0.take k ++ [l0.getD k []] := by
    rw [List.take_succ_eq_append_getElem hk, List.getD_eq_getElem?_getD, List.getElem?_eq_getElem hk]; rfl
  rw [ht, total_append]; simp [total]
theorem total_take_le (l0 : List (List Int)) (k : Nat) : total (l0.take k) ≤ total l0 := by
  have h := total_append (l0.take k) (l0.drop k)
  rw [List.take_append_drop] at h
  have := total_nonneg (l0.drop k)
  omega
set_option maxHeartbeats 2000000 in
theorem laws_markInt64SS.calls (P0_ : Nat → Prop) (u : Value) (l0 : List (List Int)) (a1 : Int) (r1 : Int) (r2 : List (List Int)) (w0 w : World) (hB : Below w0.heap.size w0 w) (ho0 : Kd.S (Kd.slice 2 (Kd.int .i64)) 36 w w0.heap.size P0_ u l0) (h : laws_markInt64SS.f l0 a1 = some (r1, r2)) :
    Calls Try.prog 19 #[u, .int .i64 a1] w fun e w' => e = .returned (.int .i64 r1) ∧ Kd.S (Kd.slice 2 (Kd.int .i64)) 36 w' w0.heap.size P0_ u r2 ∧ Below w0.heap.size w0 w' ∧ Kept w w' P0_ := by
  obtain ⟨ha, hb, rfl, rfl⟩ := laws_markInt64SS.inv h
  obtain ⟨A, c, rfl⟩ := Kd.S_slice ho0
  have hlen : l0.length ≤ 9223372036854775807 := (Kd.S_reads' ho0).2.2.2.1
  have HS := Aside0.mk ho0
  have HB := Aside0.mk hB
  clear ho0 hB h
  go_enter Try.func19, Try.ntmps19
  go_wp2
  go_loopg [1, 5] l0.length (fun gg v1 v5 wr => ∃ kk : Nat, kk ≤ l0.length ∧ l0.length - kk ≤ gg ∧ v5 = .int .i64 kk ∧ v1 = .int .i64 (a1 + total (l0.take kk)) ∧ Aside0 (Kd.S (Kd.slice 2 (Kd.int .i64)) 36 wr w0.heap.size P0_ (.slice A l0.length c) (partM l0 a1 kk)) ∧ Aside0 (Below w0.heap.size w0 wr) ∧ Aside0 (Kept w wr P0_))
  case atStart => exact ⟨0, Nat.zero_le _, by omega, rfl, by simp [total], by simpa [partM, markRows] using HS, HB, ⟨Kept.refl _ _⟩⟩
  case round =>
    obtain ⟨kk, hkk, hg, rfl, rfl, HS1, HB1, HK1⟩ := hrel
    clear HS HB
    by_cases hlt : kk < l0.length
    · have hltz : (kk : Int) < (l0.length : Int) := by omega
      obtain ⟨g, cap, he, _⟩ := Kd.S_form HS1.out (by rw [partM_length]; omega)
      injection he with he1 he2 he3
      subst he1; subst he3
      clear he2
      obtain ⟨oki, cc, hcl, hM, hcc, hoki, hH⟩ := Kd.S_lend HS1.out ([] : List Int) (kk : Int) (by omega) (by omega)
      obtain ⟨v, rfl, hR⟩ := hM
      rw [Int.toNat_natCast, partM_get l0 a1 kk hlt] at hR
      obtain ⟨A1, c1, rfl⟩ := Kd.R_slice hR
      have hcell := hcc 0 _ rfl
      simp only [Int.toNat_natCast, Nat.add_zero, Nat.mul_one] at hcell
      have hcell2 : wr.cell? ⟨g, kk, none⟩ = some (.slice A1 (l0.getD kk []).length c1) := by simpa [show (Kd.slice 2 (Kd.int .i64)).sz = 1 from rfl] using hcell
      clear hcell hcc
      have hts := total_take_succ l0 kk hlt
      have htl := total_take_le l0 (kk + 1)
      have htn := total_nonneg (l0.take kk)
      obtain ⟨K, hk⟩ := markInt64S_all (l0.getD kk []) (a1 + total (l0.take kk)) (by omega) (by omega)
      have hcall := z38.calls K oki _ _ _ _ _ w0 wr HB1.out hR hk
      have HR1 := Aside0.mk hR.1
      have HH := Aside0.mk hH
      have HO := Aside0.mk hoki
      have HT := Aside0.mk hts
      clear hH hoki hts htl htn hR hk
      generalize hx : (l0.getD kk []).length = m at hcall hcell2
      have HX := Aside0.mk hx
      clear hx
      go_wp2_with (go_at_call 38; refine hcall.mono ?_; rintro e w' ⟨rfl, hR2, hB2, hK2⟩)
      go_roundg (l0.length - (kk + 1))
      case measure => omega
      case rel =>
        have hx := HX.out
        subst hx
        refine ⟨kk + 1, by omega, by omega, by go_num, ?_, ?_, ⟨hB2⟩, ⟨?_⟩⟩
        · rw [HT.out, ← Int.add_assoc]
        · refine ⟨?_⟩
          have h1 := Kd.H_step HH.out (w1 := w') (fun k hk hnk hlt => hK2.2 k hlt hnk)
          have h2 := Kd.H_back h1 (x' := markInts (l0.getD kk []) (a1 + total (l0.take kk))) (okp := oki) ⟨_, rfl, Kd.R_reok rfl hR2 (fun k e => ?_)⟩ (fun _ hk => hk)
          · rw [Int.toNat_natCast, partM_set l0 a1 kk hlt] at h2
            exact h2
          · exact HR1.out k e
        · exact Kept.then_ HK1.out hK2 (fun k hk => .inl (HO.out k hk).1)
    · have hltz : ¬ (kk : Int) < (l0.length : Int) := by omega
      have : kk = l0.length := by omega
      subst this
      go_wp2
      go_ret
      refine ⟨rfl, ?_, HB1.out, HK1.out⟩
      simpa [partM] using HS1.out
end Go.Proofs.Ytmnplhkimpeocaa.B
/- markPoset: by hand, over the marks of a row of rows. -/
set_option linter.unusedVariables false
namespace Go.Proofs.Ytmnplhkimpeocaa.B
open Go.RowKit Go.Proofs.YtmnplhkimpeocaaW.PrintWords Go.Proofs.YtmnplhkimpeocaaW.PrintLast Go.Proofs.YtmnplhkimpeocaaW.PrintMore
def laws_markPoset.f (a0_0 : Int) (l0_1 : List (List Int)) (a1 : Int) : Option (Int × List (List Int)) := laws_markInt64SS.f l0_1 a1
set_option maxHeartbeats 1000000 in
theorem laws_markPoset.calls (a0_0 : Int) (P0_ : Nat → Prop) (u : Value) (l0_1 : List (List Int)) (a1 : Int) (r1 : Int) (r2 : List (List Int)) (w0 w : World) (hB : Below w0.heap.size w0 w) (ho0 : Kd.S (Kd.slice 2 (Kd.int .i64)) 36 w w0.heap.size P0_ u l0_1) (h : laws_markPoset.f a0_0 l0_1 a1 = some (r1, r2)) :
    Calls Try.prog 9 #[.agg #[.int .i64 a0_0, u], .int .i64 a1] w fun e w' => e = .returned (.int .i64 r1) ∧ Kd.S (Kd.slice 2 (Kd.int .i64)) 36 w' w0.heap.size P0_ u r2 ∧ Below w0.heap.size w0 w' ∧ Kept w w' P0_ := by
  obtain ⟨A, c, rfl⟩ := Kd.S_slice ho0
  have h1 := laws_markInt64SS.calls P0_ _ l0_1 a1 r1 r2 w0 (w.alloc (.cells #[.int .i64 a0_0, .slice A l0_1.length c] 26)) (hB.alloc hB.size _) (Kd.S_alloc ho0 _) h
  have hu := Try.underlying26
  clear ho0 hB h
  go_enter Try.func9, Try.ntmps9
  go_wp2_with (go_at_call 19; refine h1.mono ?_; rintro e w' ⟨rfl, hS, hB2, hK⟩)
  go_ret
  exact ⟨rfl, hS, hB2, Kept.then_ (Kept.alloc (Kept.refl _ _) _) hK (fun k hk => .inl hk)⟩
end Go.Proofs.Ytmnplhkimpeocaa.B
