/- Printed proofs of functions of the program and of the reference, by a program of this work over the kit's printer. -/
import Derived.Test.YtidfblakgolbpaaKGBPODH0
import Derived.Test.YtidfblakgolbpaaKW0
import Derived.Lib.SlKept
import Derived.Shelf.SlicesE.Compact
/- slices.CompactFunc of rows by slices.Equal: what it leaves (for this claim, by hand). -/
set_option linter.unusedVariables false
set_option linter.unusedSimpArgs false
namespace Go.Proofs.Ytidfblakgolbpaa.B
open Go.RowKit Go.Lib Go.Sort Go.Proofs.YtidfblakgolbpaaW.PrintWords Go.Proofs.YtidfblakgolbpaaW.PrintLast Go.Proofs.YtidfblakgolbpaaW.PrintMore
set_option maxHeartbeats 4000000 in
set_option maxRecDepth 1000000 in
theorem compact_gen {α : Type} [Inhabited α] (enc : α → Value) (hO : OneCell enc) (eqp : α → α → Bool) (zr : α) (v23 : ∀ w, (zeroValue 29).run Try.prog w = .ok (enc zr) w) (blk off cap : Nat) (d : Array α) (w : World) (hH : Holds enc w blk off d) (hsz : d.size ≤ 1048576) (hcap : d.size ≤ cap)
    (hcall : ∀ (dk : Array α) (x y : α) (q : Nat), dk.size = d.size → Calls Try.prog 41 #[enc x, enc y] (putRow enc (Go.Sort.ahead w q) blk off dk) fun e w' => e = .returned (.bool (eqp x y)) ∧ ∃ m, w' = (putRow enc (Go.Sort.ahead w q) blk off dk).drewN m) (kp : Nat → Bool) (hkp : ∀ j, kp j = (j == 0 || !(eqp d[j]! d[j - 1]!))) :
    Calls Try.prog 40 #[.slice (some ⟨blk, off, none⟩) d.size cap, .func (.func 41) #[] #[]] w fun e w' => e = .returned (.slice (some ⟨blk, off, none⟩) (keptUpTo kp d d.size).length cap) ∧ ∃ q, w' = putRow enc (Go.Sort.ahead w q) blk off (keptUpTo kp d d.size ++ List.replicate (d.size - (keptUpTo kp d d.size).length) zr).toArray := by
  have t22 := Try.underlying24
  have hcl0 := hO.cells
  simp only [Value.cells] at hcl0
  have hst := hO.store Try.prog
  have same : ∀ q, (∀ j, j < d.size → kp j = true) → (keptUpTo kp d d.size).length = d.size ∧ w.drewN q = putRow enc (Go.Sort.ahead w q) blk off (keptUpTo kp d d.size ++ List.replicate (d.size - (keptUpTo kp d d.size).length) zr).toArray := by
    intro q hall
    have e : keptUpTo kp d d.size = d.toList := by rw [keptUpTo_all kp d _ hall, range_map_get]
    rw [e]
    refine ⟨by simp, ?_⟩
    simp only [Array.length_toList, Nat.sub_self, List.replicate_zero, List.append_nil, Array.toArray_toList]
    exact (putRow_self enc (Go.Sort.ahead w q) blk off d (holds_ahead enc w q blk off d hH)).symm
  have HS := Aside0.mk same
  clear same
  have HC := Aside0.mk hcall
  clear hcall
  have hk0 : ∀ j, j < 1 → kp j = true := fun j hj => by
    have : j = 0 := by omega
    subst this
    rw [hkp]; rfl
  have HK0 := Aside0.mk hk0
  have HKP := Aside0.mk hkp
  clear hk0 hkp
  by_cases h2 : (d.size : Int) < 2
  · have HH := Aside0.mk hH
    clear hH
    go_enter Try.func40, Try.ntmps40
    go_wp2
    go_ret
    obtain ⟨e1, e2⟩ := HS.out 0 (fun j hj => HK0.out j (by omega))
    exact ⟨by rw [e1]; rfl, 0, e2⟩
  · go_enter Try.func40, Try.ntmps40
    go_wp2
    go_loopg [5] d.size (fun gg v5 wr => ∃ t q : Nat, t + 1 ≤ d.size ∧ d.size - t ≤ gg ∧ v5 = .int .i64 ((t : Int) + 1) ∧ wr = w.drewN q ∧ ∀ j, j < t + 1 → kp j = true)
    case atStart => exact ⟨0, 0, by omega, by omega, rfl, rfl, HK0.out⟩
    case round =>
      obtain ⟨t, q, ht, hg, rfl, hwr, hall⟩ := hrel
      by_cases hlt : t + 1 < d.size
      · have hltz : (t : Int) + 1 < (d.size : Int) := by omega
        have hHr : Holds enc wr blk off d := by rw [hwr]; exact holds_ahead enc w q blk off d hH
        obtain ⟨c1, f1⟩ := hHr (t + 1) hlt
        obtain ⟨c0, f0⟩ := hHr t (by omega)
        have A := Aside0.mk hall
        have HH := Aside0.mk hH
        have HW := Aside0.mk hwr
        clear hall hH f1 f0 hHr hwr
        have hkt : kp (t + 1) = !(eqp d[t + 1]! d[t]!) := by rw [HKP.out]; simp
        have HT := Aside0.mk hkt
        clear hkt
        generalize hx : d[t + 1]! = x at c1 HT
        generalize hy : d[t]! = y at c0 HT
        clear hx hy
        have hcall : ∀ n, Calls Try.prog 41 #[enc x, enc y] (wr.drewN n) fun e w' => e = .returned (.bool (eqp x y)) ∧ ∃ m, w' = (wr.drewN n).drewN m := fun n => by
          have := HC.out d x y (q + n) rfl
          rw [putRow_self enc (Go.Sort.ahead w (q + n)) blk off d (holds_ahead enc w (q + n) blk off d HH.out)] at this
          rw [HW.out, World.drewN_drewN]
          exact this
        have HC1 := Aside0.mk hcall
        clear hcall
        have pa : (0 : Int) ≤ (t : Int) + 1 := by omega
        have ra : IntKind.i64.wrap ((t : Int) + 1) = (t : Int) + 1 := by rw [IntKind.wrap_i64]; omega
        have pc : (0 : Int) ≤ (t : Int) := by omega
        have bc : (t : Int) < (d.size : Int) := by omega
        have rc : IntKind.i64.wrap ((t : Int)) = (t : Int) := by rw [IntKind.wrap_i64]; omega
        generalize hb : eqp x y = b at HC1 HT
        clear hb
        cases b with
        | true =>
          go_wp2_with fail
          go_quiet (refine Calls.quiet_of (HC1.out _))
          go_wp2
          clear c0 c1
          go_loopg [5, 7] d.size (fun gg v5 v7 wr2 => ∃ (kk t2 q2 : Nat) (dk : Array α), v5 = .int .i64 kk ∧ v7 = .int .i64 ((t2 : Int) + 1) ∧ (t + 1) + (t2 + 1) ≤ d.size ∧ d.size - ((t + 1) + t2) ≤ gg ∧ wr2 = putRow enc (Go.Sort.ahead w q2) blk off dk ∧ KeptInv kp d ((t + 1) + (t2 + 1)) kk dk)
          case atStart =>
            refine ⟨t + 1, 0, q + nq, d, by go_num, by go_num, by omega, by omega, ?_, KeptInv.start A.out HT.out⟩
            rw [HW.out, World.drewN_drewN]
            exact (putRow_self enc (Go.Sort.ahead w (q + nq)) blk off d (holds_ahead enc w (q + nq) blk off d HH.out)).symm
          case round =>
            obtain ⟨kk, t2, q2, dk, rfl, rfl, hle, hg2, hwr, hI⟩ := hrel
            have hkk := hI.lt
            have hds := hI.size
            have hHk : Holds enc wr blk off dk := by rw [hwr]; exact holds_putRow enc _ blk off d dk (holds_ahead enc w q2 blk off d HH.out) hds
            have W2 := Aside0.mk hwr
            have I2 := Aside0.mk hI
            have D2 := Aside0.mk hds
            clear hwr
            by_cases hlt2 : (t + 1) + (t2 + 1) < d.size
            · have hltz2 : (t2 : Int) + 1 < ((d.size - (t + 1) : Nat) : Int) := by omega
              obtain ⟨cm, _⟩ := hHk ((t + 1) + (t2 + 1)) (by omega)
              obtain ⟨cp, _⟩ := hHk ((t + 1) + t2) (by omega)
              obtain ⟨ck, fk⟩ := hHk kk (by omega)
              rw [hI.high ((t + 1) + (t2 + 1)) (by omega), show off + ((t + 1) + (t2 + 1)) = off + (t + 1) + (t2 + 1) by omega] at cm
              rw [hI.high ((t + 1) + t2) (by omega), show off + ((t + 1) + t2) = off + (t + 1) + t2 by omega] at cp
              clear hHk hI hds
              have hkt : kp ((t + 1) + (t2 + 1)) = !(eqp d[(t + 1) + (t2 + 1)]! d[(t + 1) + t2]!) := by
                rw [HKP.out, show (t + 1) + (t2 + 1) - 1 = (t + 1) + t2 by omega, show (((t + 1) + (t2 + 1)) == 0) = false from beq_eq_false_iff_ne.2 (by omega), Bool.false_or]
              have HT2 := Aside0.mk hkt
              clear hkt
              obtain ⟨u, hu⟩ : ∃ u, d[(t + 1) + (t2 + 1)]! = u := ⟨_, rfl⟩
              rw [hu] at cm HT2
              generalize d[(t + 1) + t2]! = v at cp HT2
              generalize dk[kk]! = old at ck
              have HU := Aside0.mk hu
              clear hu
              have hcall : ∀ n, Calls Try.prog 41 #[enc u, enc v] (wr.drewN n) fun e w' => e = .returned (.bool (eqp u v)) ∧ ∃ m, w' = (wr.drewN n).drewN m := fun n => by
                have := HC.out dk u v (q2 + n) D2.out
                rw [W2.out, show (putRow enc (Go.Sort.ahead w q2) blk off dk).drewN n = putRow enc (Go.Sort.ahead w (q2 + n)) blk off dk from putRow_drewN _ _ _ _ _ _ _]
                exact this
              have HC2 := Aside0.mk hcall
              clear hcall
              have pa2 : (0 : Int) ≤ (t2 : Int) + 1 := by omega
              have ra2 : IntKind.i64.wrap ((t2 : Int) + 1) = (t2 : Int) + 1 := by rw [IntKind.wrap_i64]; omega
              have pc2 : (0 : Int) ≤ (t2 : Int) := by omega
              have bc2 : (t2 : Int) < ((d.size - (t + 1) : Nat) : Int) := by omega
              have rc2 : IntKind.i64.wrap ((t2 : Int)) = (t2 : Int) := by rw [IntKind.wrap_i64]; omega
              generalize hb2 : eqp u v = b2 at HC2 HT2
              clear hb2
              cases b2 with
              | true =>
                go_wp2_with fail
                go_quiet (refine Calls.quiet_of (HC2.out _))
                go_wp2
                go_roundg (d.size - ((t + 1) + (t2 + 1)))
                case measure => omega
                case rel =>
                  refine ⟨kk, t2 + 1, q2 + nq, dk, rfl, by go_num, by omega, by omega, ?_, ?_⟩
                  · rw [W2.out]
                    exact putRow_drewN _ _ _ _ _ _ _
                  · exact I2.out.skip HT2.out
              | false =>
                go_wp2_with fail
                go_quiet (refine Calls.quiet_of (HC2.out _))
                go_wp2
                go_roundg (d.size - ((t + 1) + (t2 + 1)))
                case measure => omega
                case rel =>
                  refine ⟨kk + 1, t2 + 1, q2 + nq, dk.setIfInBounds kk u, by go_num, by go_num, by omega, by omega, ?_, ?_⟩
                  · rw [W2.out, show (putRow enc (Go.Sort.ahead w q2) blk off dk).drewN nq = putRow enc (Go.Sort.ahead w (q2 + nq)) blk off dk from putRow_drewN _ _ _ _ _ _ _]
                    exact putRow_set enc _ blk off dk kk u (by have := D2.out; omega)
                  · have := I2.out.keep hlt2 HT2.out
                    rwa [HU.out] at this
            · have hltz2 : ¬ (t2 : Int) + 1 < ((d.size - (t + 1) : Nat) : Int) := by omega
              have hend : (t + 1) + (t2 + 1) = d.size := by omega
              have hcl : ∀ ty, (Builtin.clear_ #[24] ty #[.slice (some ⟨blk, off + kk, none⟩) (d.size - kk) (cap - kk)]).run Try.prog wr = .ok (.tuple #[]) (wr.setCells blk (off + kk) (List.replicate (d.size - kk) (enc zr))) :=
                fun ty => Lib.run_clear_slice wr _ _ ty _ t22 v23 (hO.cells zr) (hO zr) blk (off + kk) _ _ (by omega) (fun j hj => by rw [show off + kk + j = off + (kk + j) by omega, (hHk (kk + j) (by omega)).1]; rfl) (fun j hj => by rw [show off + kk + j = off + (kk + j) by omega]; exact (hHk (kk + j) (by omega)).2)
              clear hHk hI
              go_wp2
              go_ret
              have hI := I2.out
              rw [hend] at hI
              refine ⟨by rw [hI.len]; rfl, q2, ?_⟩
              rw [hI.len, ← hI.done zr, ← putRow_setCells enc _ blk off _ dk kk (by simp; omega), ← W2.out, List.map_replicate]
        | false =>
          go_wp2_with fail
          go_quiet (refine Calls.quiet_of (HC1.out _))
          go_wp2
          go_roundg (d.size - (t + 1))
          case measure => omega
          case rel =>
            refine ⟨t + 1, _, by omega, by omega, by go_num, by rw [HW.out, World.drewN_drewN], fun j hj => ?_⟩
            by_cases e : j = t + 1
            · subst e
              exact HT.out
            · exact A.out j (by omega)
      · have hltz : ¬ (t : Int) + 1 < (d.size : Int) := by omega
        have HH := Aside0.mk hH
        clear hH
        go_wp2
        go_ret
        obtain ⟨e1, e2⟩ := HS.out q (fun j hj => hall j (by omega))
        exact ⟨by rw [e1]; rfl, q, by first | exact e2 | exact hwr.trans e2⟩
/-- A place is kept where the row isn't the one ahead of it. -/
def keepAt (l : List (List Int)) (j : Nat) : Bool := j == 0 || !(l.getD j [] == l.getD (j - 1) [])
def keepIx (l : List (List Int)) : List Nat := (List.range l.length).filter (keepAt l)
def dedup (l : List (List Int)) : List (List Int) := (keepIx l).map fun j => l.getD j []
theorem compact_rows (P0_ : Nat → Prop) (u : Value) (A : Option Addr) (c : Nat) (l0 : List (List Int)) (w0 w : World) (hB : Below w0.heap.size w0 w) (hu : u = .slice A l0.length c) (ho0 : Kd.S (Kd.slice 2 (Kd.int .i64)) 29 w w0.heap.size P0_ u l0) (hs : l0.length ≤ 1048576) (hl : ∀ x ∈ l0, x.length ≤ 1048576) :
    Calls Try.prog 40 #[u, .func (.func 41) #[] #[]] w fun e w' => ∃ v, e = .returned v ∧ Kd.S (Kd.slice 2 (Kd.int .i64)) 29 w' w0.heap.size P0_ v (dedup l0) ∧ Below w0.heap.size w0 w' ∧ Kept w w' (fun k => u.ownBlock = some k) := by
  have hsv := ho0
  obtain ⟨f, h0, inner, ⟨hil, hcase⟩, hr⟩ := ho0
  rw [List.length_zipIdx] at hil hcase
  rcases Nat.eq_zero_or_pos l0.length with hz | hp
  · have hz' : l0 = [] := List.eq_nil_of_length_eq_zero hz
    subst hz'
    subst hu
    have HS := Aside0.mk hsv
    have HB := Aside0.mk hB
    clear hsv hB hcase hr h0 hil
    go_enter Try.func40, Try.ntmps40
    go_wp2
    go_ret
    exact ⟨_, rfl, by simpa [dedup, keepIx] using HS.out, HB.out, Kept.refl _ _⟩
  rcases hcase with ⟨hu2, hn⟩ | ⟨g, cap, cur, hu2, hg, hh, hnc, hcm, hcs, hct⟩
  · omega
  subst hu2
  clear hu
  obtain ⟨m, hm⟩ : ∃ m, l0.length = m + 1 := ⟨l0.length - 1, by omega⟩
  have hsz1 : (Kd.tag f (Kd.slice 2 (Kd.int .i64))).sz = 1 := rfl
  rw [hsz1, Nat.mul_one] at hil hcs hct
  have hin : ∀ j, j < m + 1 → ∃ v, inner[j]? = some v ∧ ∃ A c, v = .slice A (l0.getD j []).length c := by
    intro j hj
    have hj' : j < l0.length := by omega
    have h1 := hr.2 j (l0[j], j) (Kd.zip_at (List.getElem?_eq_getElem hj'))
    rw [hsz1, Nat.mul_one] at h1
    obtain ⟨v, hv, hR⟩ := h1
    obtain ⟨A, c, he⟩ := Kd.R_slice hR
    have h2 : inner[j]? = some v := by
      have := congrArg (fun l => l[0]?) hv
      simpa [List.getElem?_take, List.getElem?_drop] using this
    refine ⟨v, h2, A, c, ?_⟩
    rw [he, List.getD_eq_getElem?_getD, List.getElem?_eq_getElem hj']; rfl
  let enc : Option (Fin (m + 1)) → Value := fun o => match o with
    | none => .slice none 0 0
    | some i => inner.getD i.val (.slice none 0 0)
  let val : Option (Fin (m + 1)) → List Int := fun o => match o with
    | none => []
    | some i => l0.getD i.val []
  have henc : ∀ i : Fin (m + 1), inner[i.val]? = some (enc (some i)) := by
    intro i
    obtain ⟨v, hv, _⟩ := hin i.val i.isLt
    show _ = some (inner.getD i.val _)
    rw [List.getD_eq_getElem?_getD, hv]; rfl
  have hone : OneCell enc := by
    intro o
    cases o with
    | none => rfl
    | some i =>
      obtain ⟨v, hv, A, c, rfl⟩ := hin i.val i.isLt
      have := henc i
      rw [hv] at this
      injection this with this
      rw [← this]; rfl
  have hM : ∀ i : Fin (m + 1), (Kd.slice 2 (Kd.int .i64)).M w w0.heap.size (fun k => (P0_ k ∧ some k ≠ some g) ∧ f k = i.val) (l0.getD i.val []) [enc (some i)] := by
    intro i
    have hj' : i.val < l0.length := by omega
    have h1 := hr.2 i.val (l0[i.val], i.val) (Kd.zip_at (List.getElem?_eq_getElem hj'))
    rw [hsz1, Nat.mul_one] at h1
    have h2 : (inner.drop i.val).take 1 = [enc (some i)] := by
      have := henc i
      rw [List.getElem?_eq_some_iff] at this
      obtain ⟨h3, h4⟩ := this
      rw [List.drop_eq_getElem_cons h3, h4]; rfl
    rw [h2] at h1
    have h5 : l0.getD i.val [] = l0[i.val] := by rw [List.getD_eq_getElem?_getD, List.getElem?_eq_getElem hj']; rfl
    rw [h5]
    exact h1
  let d : Array (Option (Fin (m + 1))) := ((List.finRange (m + 1)).map some).toArray
  have hds : d.size = m + 1 := by simp [d]
  have hdj : ∀ (j : Nat) (hj : j < m + 1), d[j]! = some ⟨j, hj⟩ := by
    intro j hj
    rw [getElem!_pos d j (by omega)]
    simp [d]
  have hgs : g < w.heap.size := (Array.getElem?_eq_some_iff.1 hh).1
  have hcur : ∀ j, j < m + 1 → cur[j]? = inner[j]? := by
    intro j hj
    rw [← hct, List.getElem?_take, if_pos (by omega), Array.getElem?_toList]
  have hH : Holds enc w g 0 d := by
    intro j hj
    rw [hds] at hj
    rw [hdj j hj, Nat.zero_add]
    constructor
    · show (match w.heap[g]? with | some (.cells c _ _) => _ | _ => none) = _
      rw [hh]
      show cur[j]? = _
      rw [hcur j hj]
      exact henc ⟨j, hj⟩
    · simp [World.frozen?, hh]
  have hmem : ∀ i : Fin (m + 1), l0.getD i.val [] ∈ l0 := by
    intro i
    have hj' : i.val < l0.length := by omega
    rw [List.getD_eq_getElem?_getD, List.getElem?_eq_getElem hj']
    exact List.getElem_mem _
  have hMW : ∀ (q : Nat) (dk : Array (Option (Fin (m + 1)))) (i : Fin (m + 1)), (Kd.slice 2 (Kd.int .i64)).M (putRow enc (Go.Sort.ahead w q) g 0 dk) w0.heap.size (fun k => (P0_ k ∧ some k ≠ some g) ∧ f k = i.val) (l0.getD i.val []) [enc (some i)] := fun q dk i =>
    Kd.M_step (hM i) (fun k hk hlt => by
      have := sw_heap enc w g 0 q dk #[] k hlt (fun h => hk.1.2 (by rw [h]))
      unfold sortWorld at this
      rwa [grow_empty] at this)
  have hCW : ∀ (q : Nat) (dk : Array (Option (Fin (m + 1)))) (o : Option (Fin (m + 1))), ∃ A c, enc o = .slice A (val o).length c ∧ (val o).length ≤ c ∧ Kd.C (Kd.int .i64) (putRow enc (Go.Sort.ahead w q) g 0 dk) A (val o).length (val o) := by
    intro q dk o
    cases o with
    | none => exact ⟨none, 0, rfl, Nat.le_refl _, Kd.C_nil _ _⟩
    | some i =>
      obtain ⟨A, c, he, hlc, hC⟩ := (Kd.slice 2 (Kd.int .i64)).K_of_M (hMW q dk i)
      injection he with he _
      exact ⟨A, c, he, hlc, hC⟩
  have hvl : ∀ o : Option (Fin (m + 1)), (val o).length ≤ 1048576 := by
    intro o
    cases o with
    | none => exact Nat.zero_le _
    | some i => exact hl _ (hmem i)
  have hcall : ∀ (dk : Array (Option (Fin (m + 1)))) (x y : Option (Fin (m + 1))) (q : Nat), dk.size = d.size → Calls Try.prog 41 #[enc x, enc y] (putRow enc (Go.Sort.ahead w q) g 0 dk) fun e w' => e = .returned (.bool (val x == val y)) ∧ ∃ m, w' = (putRow enc (Go.Sort.ahead w q) g 0 dk).drewN m := by
    intro dk x y q _
    obtain ⟨A, c, he, hlc, hC⟩ := hCW q dk x
    obtain ⟨A', c', he', hlc', hC'⟩ := hCW q dk y
    obtain ⟨K, hK⟩ := (slicesEqual_ev (val x) (val y) (by have := hvl x; omega)).rounds
    rw [he, he']
    exact (z41.calls K A c _ A' c' _ _ _ hC hlc hC' hlc' hK).mono (fun _ _ h => ⟨h.1, h.2.out⟩)
  have hgen := compact_gen enc hone (fun x y => val x == val y) none (fun w => Try.zeroValue29 w) g 0 cap d w hH (by omega) (by omega) hcall (fun j => j == 0 || !(val d[j]! == val d[j - 1]!)) (fun _ => rfl)
  have hix : (List.range d.size).filter (fun j => j == 0 || !(val d[j]! == val d[j - 1]!)) = keepIx l0 := by
    unfold keepIx
    rw [hds, hm]
    refine List.filter_congr (fun j hj => ?_)
    rw [List.mem_range] at hj
    unfold keepAt
    rw [hdj j hj, hdj (j - 1) (by omega)]
  have hkl : ∀ j ∈ keepIx l0, j < m + 1 := fun j hj => by
    have := (List.mem_filter.1 hj).1
    rw [List.mem_range] at this
    omega
  have hknd : (keepIx l0).Nodup := List.Pairwise.filter _ List.nodup_range
  have hkle : (keepIx l0).length ≤ m + 1 := by
    unfold keepIx
    refine Nat.le_trans (List.length_filter_le _ _) ?_
    rw [List.length_range]; omega
  unfold Go.Lib.keptUpTo at hgen
  rw [hix, hds, List.length_map] at hgen
  rw [hm]
  refine hgen.mono ?_
  rintro e w' ⟨rfl, q, rfl⟩
  refine ⟨_, rfl, ?_⟩
  generalize hdk : (((keepIx l0).map (d[·]!)) ++ List.replicate (m + 1 - (keepIx l0).length) none).toArray = dk
  have hdkz : dk.size = m + 1 := by rw [← hdk]; simp; omega
  have hsw : putRow enc (Go.Sort.ahead w q) g 0 dk = sortWorld enc w g 0 q dk #[] := by unfold sortWorld; rw [grow_empty]
  refine ⟨?_, by rw [hsw]; exact sw_below enc w0 w g 0 q dk #[] hB hg, by rw [hsw]; exact sw_size _ _ _ _ _ _ _, fun k hk hnk => by rw [hsw]; exact sw_heap enc w g 0 q dk #[] k hk (fun h => hnk (by rw [h]; rfl))⟩
  obtain ⟨f', hf'⟩ : ∃ f' : Nat → Nat, ∀ (k j : Nat) (hj : j < (keepIx l0).length), (keepIx l0)[j] = f k → f' k = j := by
    classical
    refine ⟨fun k => if h : ∃ j, ∃ hj : j < (keepIx l0).length, (keepIx l0)[j] = f k then h.choose else 0, fun k j hj he => ?_⟩
    have hx : ∃ j, ∃ hj : j < (keepIx l0).length, (keepIx l0)[j] = f k := ⟨j, hj, he⟩
    show (if h : ∃ j, ∃ hj : j < (keepIx l0).length, (keepIx l0)[j] = f k then h.choose else 0) = j
    rw [dif_pos hx]
    obtain ⟨hj2, he2⟩ := hx.choose_spec
    have h3 : (keepIx l0)[hx.choose] = (keepIx l0)[j] := he2.trans he.symm
    have hpw := List.pairwise_iff_getElem.1 hknd
    rcases Nat.lt_trichotomy hx.choose j with h4 | h4 | h4
    · exact absurd h3 (hpw _ _ hj2 hj h4)
    · exact h4
    · exact absurd h3.symm (hpw _ _ hj hj2 h4)
  have hdkj : ∀ (j : Nat) (hj : j < (keepIx l0).length), dk[j]! = some ⟨(keepIx l0)[j], hkl _ (List.getElem_mem hj)⟩ := by
    intro j hj
    rw [← hdk, getElem!_pos _ j (by simp; omega)]
    simp only [List.getElem_toArray]
    rw [List.getElem_append_left (by simpa using hj), List.getElem_map, hdj]
  have hinl : ((keepIx l0).length) = (dedup l0).length := by unfold dedup; rw [List.length_map]
  refine ⟨f', ?_, (List.range (keepIx l0).length).map (fun j => enc dk[j]!), ⟨?_, .inr ⟨g, cap, putCells enc 0 dk cur, ?_, hg, by rw [hsw]; exact sw_at enc w g 0 q dk #[] hh, ?_, hcm, ?_, ?_⟩⟩, ?_, ?_⟩
  · exact h0
  · rw [show (Kd.tag f' (Kd.slice 2 (Kd.int .i64))).sz = 1 from rfl, Nat.mul_one]; simp [hinl]
  · rw [List.length_zipIdx, ← hinl]
  · rw [List.length_zipIdx, ← hinl]; omega
  · rw [show (Kd.tag f' (Kd.slice 2 (Kd.int .i64))).sz = 1 from rfl, Nat.mul_one]; simp [putCells, hcs]
  · rw [show (Kd.tag f' (Kd.slice 2 (Kd.int .i64))).sz = 1 from rfl, Nat.mul_one, List.length_zipIdx, ← hinl]
    refine List.ext_getElem? (fun j => ?_)
    by_cases hj : j < (keepIx l0).length
    · rw [List.getElem?_take, if_pos hj, Array.getElem?_toList, List.getElem?_map, List.getElem?_range hj]
      have hjc : j < cur.size := by omega
      simp only [putCells, Array.getElem?_mapIdx]
      rw [Array.getElem?_eq_getElem hjc]
      simp only [Option.map_some, Nat.zero_le, true_and, Nat.zero_add, Nat.sub_zero]
      rw [if_pos (by omega)]
    · rw [List.getElem?_eq_none (by simp; omega), List.getElem?_eq_none (by simp; omega)]
  · rw [show (Kd.tag f' (Kd.slice 2 (Kd.int .i64))).sz = 1 from rfl, Nat.mul_one]; simp [hinl]
  · intro j p hj
    rw [show (Kd.tag f' (Kd.slice 2 (Kd.int .i64))).sz = 1 from rfl, Nat.mul_one]
    have hjl : j < (keepIx l0).length := by
      have := (List.getElem?_eq_some_iff.1 hj).1
      rw [List.length_zipIdx] at this
      omega
    have hp' : p = (l0.getD (keepIx l0)[j] [], j) := by
      rw [Kd.zip_at (p := l0.getD (keepIx l0)[j] []) (by unfold dedup; rw [List.getElem?_map, List.getElem?_eq_getElem hjl]; rfl)] at hj
      injection hj with hj
      exact hj.symm
    subst hp'
    have h2 : (((List.range (keepIx l0).length).map (fun j => enc dk[j]!)).drop j).take 1 = [enc dk[j]!] := by
      rw [List.drop_eq_getElem_cons (by simpa using hjl), List.getElem_map, List.getElem_range]; rfl
    rw [h2, hdkj j hjl]
    exact (Kd.slice 2 (Kd.int .i64)).M_mono (ok' := fun k => (P0_ k ∧ some k ≠ some g) ∧ f' k = j) (fun k hk => ⟨hk.1, hf' k j hjl hk.2.symm⟩) (hMW q dk ⟨(keepIx l0)[j], hkl _ (List.getElem_mem hjl)⟩)
end Go.Proofs.Ytidfblakgolbpaa.B
