/- Printed proofs of functions of the program and of the reference, by a program of this work over the kit's printer. -/
import Derived.Test.YtpgjfppbbbnclaaKAJDMGE0
import Derived.Test.YtpgjfppbbbnclaaKLEKPEN0
import Derived.Test.YtpgjfppbbbnclaaKPJHBFI0
import Derived.Test.YtpgjfppbbbnclaaKW0
namespace Go.Proofs.Ytpgjfppbbbnclaa.B
open Go.RowKit Go.Proofs.YtpgjfppbbbnclaaW.PrintWords Go.Proofs.YtpgjfppbbbnclaaW.PrintLast Go.Proofs.YtpgjfppbbbnclaaW.PrintMore
attribute [local go_sem] qAh qAf qAl qAk qAc qAb qAg qAe
set_option linter.unusedVariables false
set_option linter.unusedSimpArgs false
def z17.f (k : Nat) (l0_0 : List (List Int)) (a1 : Int) (a2 : Int) : Option (Int) := (z32.f k l0_0 a1 a2).bind fun bt101 => ((z32.f k l0_0 (wrap64 (a1 + 1)) a2).bind fun bt108 => ((z33.f k bt101.1 bt101.2.1 bt101.2.2.1 bt101.2.2.2).bind fun t115 => ((z33.f k bt108.1 bt108.2.1 bt108.2.2.1 bt108.2.2.2).bind fun t116 => (some (wrap64 ((wrap64 (bt101.2.2.1 - t115)) - t116))))))
set_option maxHeartbeats 8000000 in
set_option maxRecDepth 100000 in
theorem z17.calls (k : Nat) (gp0 : Nat) (A0_0 : Option Addr) (c0_0 : Nat) (l0_0 : List (List Int)) (a1 : Int) (a2 : Int) (r : Int) (w : World) (hbp0 : w.heap[gp0]? = some (.cells #[.slice A0_0 l0_0.length c0_0] 29 (0, 0))) (hr0_0 : Kd.C (Kd.slice 2 (Kd.int .i64)) w A0_0 l0_0.length l0_0) (hc0_0 : l0_0.length ≤ c0_0) (h : z17.f k l0_0 a1 a2 = some r) :
  Calls Try.prog 17 #[.pointer (some ⟨gp0, 0, none⟩), .int .i64 a1, .int .i64 a2] w fun e w' => e = .returned (.int .i64 r) ∧ Below w.heap.size w w' := by
 have hu51 := Try.underlying51
 have HR0_0 := Zz.mk hr0_0
 have HC0_0 := Zz.mk hc0_0
 clear hr0_0 hc0_0
 have BK50 := Zz.mk hbp0
 clear hbp0
 have HB := Zz.mk (Below.refl w.heap.size w)
 have H : ((z32.f k l0_0 a1 a2).bind fun bt101 => ((z32.f k l0_0 (wrap64 (a1 + 1)) a2).bind fun bt108 => ((z33.f k bt101.1 bt101.2.1 bt101.2.2.1 bt101.2.2.2).bind fun t115 => ((z33.f k bt108.1 bt108.2.1 bt108.2.2.1 bt108.2.2.2).bind fun t116 => (some (wrap64 ((wrap64 (bt101.2.2.1 - t115)) - t116))))))) = some r := h
 clear h
 replace H := OB_ H
 obtain ⟨⟨t101, t102, t103, t104⟩, A40, H⟩ := H
 try dsimp only at H
 have A4 := Zz.mk A40
 clear A40
 replace H := OB_ H
 obtain ⟨⟨t108, t109, t110, t111⟩, A50, H⟩ := H
 try dsimp only at H
 have A5 := Zz.mk A50
 clear A50
 replace H := OZ_ H
 obtain ⟨t115, A6, H⟩ := H
 replace H := OZ_ H
 obtain ⟨t116, A7, H⟩ := H
 obtain rfl := OI_ H
 go_enter Try.func17, Try.ntmps17
 try go_wp2_with (first | ((with_reducible refine gC_ (f := 32) rfl ?_); refine GL_ (some 12) rfl rfl Try.func32 #[.pointer (some ⟨gp0, 0, none⟩), .int .i64 a1, .int .i64 a2] rfl (h := ?_); (with_reducible refine (z32.calls k gp0 A0_0 c0_0 l0_0 a1 a2 t101 t102 t103 t104 _ ?side1 ?side2 ?side3 A4.out).mono ?_); (case side1 => refine BW_ ?_; exact BK50.out); (case side2 => exact KC_ HR0_0.out); (case side3 => exact HC0_0.out); rintro e w8 ⟨v105, rfl, ho0, hb⟩; refine ⟨_, rfl, ?_⟩; have HO106 := Zz.mk (Kd.R_lower ho0 (bS_ (B_ HB.out))); replace BK50 := Zz.mk (kb_ BK50.out hb); replace HB := Zz.mk (bT_ (B_ HB.out) hb); (try clear hb); (try clear ho0)) | ((with_reducible refine qAm (N := 7) rfl ?_); refine bx_ 7 #[.int .i64 0, .int .i64 0, .int .i64 0, .slice none 0 0] 51 ?_; intro gb107 hg w9 hbox hb; have BK107 := Zz.mk (hbox); have GW107 := Zz.mk ((gw_ hg (B_ HB.out))); have GE107 := GW107; have NB50_107 := Zz.mk ((nb_ BK50.out hg)); have NB107_50 := Zz.mk NB50_107.out.symm; replace HO106 := Zz.mk (Kd.R_below (KR_ HO106.out) hb); replace BK50 := Zz.mk (kb_ BK50.out hb); replace HB := Zz.mk (bT_ (B_ HB.out) hb); clear hb hbox hg; have hnb10 := NB107_50.out; have hnc10 := NB50_107.out; obtain ⟨hcz11_0, hcz11_1, hcz11_2, hcz11_3, hfz11_0, hfz11_1, hfz11_2, hfz11_3⟩ := Z4f_ BK107.out; obtain ⟨Ao12, co12, eo12⟩ := Kd.R_slice HO106.out; subst eo12) | ((with_reducible refine gC_ (f := 32) rfl ?_); refine GL_ (some 17) rfl rfl Try.func32 #[.pointer (some ⟨gp0, 0, none⟩), .int .i64 (wrap64 (a1 + 1)), .int .i64 a2] rfl (h := ?_); (with_reducible refine (z32.calls k gp0 A0_0 c0_0 l0_0 (wrap64 (a1 + 1)) a2 t108 t109 t110 t111 _ ?side1 ?side2 ?side3 A5.out).mono ?_); (case side1 => refine BW_ ?_; refine bR_ ?_ NB50_107.out _; refine BW_ ?_; refine bR_ ?_ NB50_107.out _; refine BW_ ?_; refine bR_ ?_ NB50_107.out _; refine BW_ ?_; refine bR_ ?_ NB50_107.out _; refine BW_ ?_; exact BK50.out); (case side2 => exact Kd.C_below HR0_0.out (B1_ HB.out GE107.out)); (case side3 => exact HC0_0.out); rintro e w13 ⟨v112, rfl, ho0, hb⟩; refine ⟨_, rfl, ?_⟩; have HO113 := Zz.mk (Kd.R_lower (Kd.R_new' ho0 (Kd.R_lt (by refine RW_ ?_; exact (Kd.R_mono (Kd.R_far (p := ⟨gb107, 3, none⟩) (Kd.R_far (p := ⟨gb107, 2, none⟩) (Kd.R_far (p := ⟨gb107, 1, none⟩) (Kd.R_far (p := ⟨gb107, 0, none⟩) (Kd.R_types HO106.out BK107.out (by decide)) (fun _ hk => hk.2) (.int .i64 t101)) (fun _ hk => hk.2) (.int .i64 t102)) (fun _ hk => hk.2) (.int .i64 t103)) (fun _ hk => hk.2) (.slice Ao12 t104.length co12)) (fun _ h_ => h_.1))))) (bS_ (B1_ HB.out GE107.out))); replace HO106 := Zz.mk (Kd.R_elder' (by refine RW_ ?_; exact (Kd.R_mono (Kd.R_far (p := ⟨gb107, 3, none⟩) (Kd.R_far (p := ⟨gb107, 2, none⟩) (Kd.R_far (p := ⟨gb107, 1, none⟩) (Kd.R_far (p := ⟨gb107, 0, none⟩) (Kd.R_types HO106.out BK107.out (by decide)) (fun _ hk => hk.2) (.int .i64 t101)) (fun _ hk => hk.2) (.int .i64 t102)) (fun _ hk => hk.2) (.int .i64 t103)) (fun _ hk => hk.2) (.slice Ao12 t104.length co12)) (fun _ h_ => h_.1))) (Kd.R_base ho0) hb); replace BK50 := Zz.mk (bB_ (g := gp0) (o := .cells #[.slice A0_0 l0_0.length c0_0] 29 (0, 0)) (by refine BW_ ?_; refine bR_ ?_ NB50_107.out _; refine BW_ ?_; refine bR_ ?_ NB50_107.out _; refine BW_ ?_; refine bR_ ?_ NB50_107.out _; refine BW_ ?_; refine bR_ ?_ NB50_107.out _; refine BW_ ?_; exact BK50.out) hb); replace BK107 := Zz.mk (bB_ (g := gb107) (o := .cells #[.int .i64 t101, .int .i64 t102, .int .i64 t103, .slice Ao12 t104.length co12] 51 (0, 0)) (by refine BW_ ?_; refine bP_ (cs := #[.int .i64 t101, .int .i64 t102, .int .i64 t103, .slice none 0 0]) ?_ 3 _ rfl; refine BW_ ?_; refine bP_ (cs := #[.int .i64 t101, .int .i64 t102, .int .i64 0, .slice none 0 0]) ?_ 2 _ rfl; refine BW_ ?_; refine bP_ (cs := #[.int .i64 t101, .int .i64 0, .int .i64 0, .slice none 0 0]) ?_ 1 _ rfl; refine BW_ ?_; refine bP_ (cs := #[.int .i64 0, .int .i64 0, .int .i64 0, .slice none 0 0]) ?_ 0 _ rfl; refine BW_ ?_; exact BK107.out) hb); replace HB := Zz.mk (bT_ (B1_ HB.out GE107.out) hb); (try clear hb); (try clear ho0)) | ((with_reducible refine qAm (N := 8) rfl ?_); refine bx_ 8 #[.int .i64 0, .int .i64 0, .int .i64 0, .slice none 0 0] 51 ?_; intro gb114 hg w14 hbox hb; have BK114 := Zz.mk (hbox); have GW114 := Zz.mk ((gw_ hg (B1_ HB.out GE107.out))); have GE114 := GW114; have NB50_114 := Zz.mk ((nb_ BK50.out hg)); have NB114_50 := Zz.mk NB50_114.out.symm; have NB107_114 := Zz.mk ((nb_ BK107.out hg)); have NB114_107 := Zz.mk NB107_114.out.symm; replace HO106 := Zz.mk (Kd.R_below (KR_ HO106.out) hb); replace HO113 := Zz.mk (Kd.R_below (KR_ HO113.out) hb); replace BK50 := Zz.mk (kb_ BK50.out hb); replace BK107 := Zz.mk (kb_ BK107.out hb); replace HB := Zz.mk (bT_ (B1_ HB.out GE107.out) hb); clear hb hbox hg; have hnb15 := NB114_50.out; have hnc15 := NB50_114.out; have hnb16 := NB114_107.out; have hnc16 := NB107_114.out; obtain ⟨hcz17_0, hcz17_1, hcz17_2, hcz17_3, hfz17_0, hfz17_1, hfz17_2, hfz17_3⟩ := Z4f_ BK114.out; obtain ⟨Ao18, co18, eo18⟩ := Kd.R_slice HO113.out; subst eo18))
 have n0_ : Zz (Kd.R (Kd.int .i64) 2 ((((w14.setCell ⟨gb114, 0, none⟩ (.int .i64 t108)).setCell ⟨gb114, 1, none⟩ (.int .i64 t109)).setCell ⟨gb114, 2, none⟩ (.int .i64 t110)).setCell ⟨gb114, 3, none⟩ (.slice Ao18 t111.length co18)) w.heap.size (fun k_ => some k_ ≠ (.slice Ao18 t111.length co18 : Value).ownBlock) (.slice Ao12 t104.length co12) t104) := ⟨by refine RW_ ?_; exact Kd.R_mono (Kd.R_far (p := ⟨gb114, 3, none⟩) (Kd.R_far (p := ⟨gb114, 2, none⟩) (Kd.R_far (p := ⟨gb114, 1, none⟩) (Kd.R_far (p := ⟨gb114, 0, none⟩) (Kd.R_types HO106.out BK114.out (by decide)) (fun _ hk => hk.2) (.int .i64 t108)) (fun _ hk => hk.2) (.int .i64 t109)) (fun _ hk => hk.2) (.int .i64 t110)) (fun _ hk => hk.2) (.slice Ao18 t111.length co18)) (fun _ hk => hk.1.2)⟩
 have n1_ : Zz (Kd.R (Kd.int .i64) 2 ((((w14.setCell ⟨gb114, 0, none⟩ (.int .i64 t108)).setCell ⟨gb114, 1, none⟩ (.int .i64 t109)).setCell ⟨gb114, 2, none⟩ (.int .i64 t110)).setCell ⟨gb114, 3, none⟩ (.slice Ao18 t111.length co18)) w.heap.size (fun k_ => some k_ ≠ (.slice Ao12 t104.length co12 : Value).ownBlock) (.slice Ao18 t111.length co18) t111) := ⟨by refine RW_ ?_; exact Kd.R_mono (Kd.R_far (p := ⟨gb114, 3, none⟩) (Kd.R_far (p := ⟨gb114, 2, none⟩) (Kd.R_far (p := ⟨gb114, 1, none⟩) (Kd.R_far (p := ⟨gb114, 0, none⟩) (Kd.R_types HO113.out BK114.out (by decide)) (fun _ hk => hk.2) (.int .i64 t108)) (fun _ hk => hk.2) (.int .i64 t109)) (fun _ hk => hk.2) (.int .i64 t110)) (fun _ hk => hk.2) (.slice Ao18 t111.length co18)) (fun _ hk => hk.1.2)⟩
 have n2_ : Zz (((((w14.setCell ⟨gb114, 0, none⟩ (.int .i64 t108)).setCell ⟨gb114, 1, none⟩ (.int .i64 t109)).setCell ⟨gb114, 2, none⟩ (.int .i64 t110)).setCell ⟨gb114, 3, none⟩ (.slice Ao18 t111.length co18)).heap[gp0]? = some (.cells #[.slice A0_0 l0_0.length c0_0] 29 (0, 0))) := ⟨by refine BW_ ?_; refine bR_ ?_ NB50_114.out _; refine BW_ ?_; refine bR_ ?_ NB50_114.out _; refine BW_ ?_; refine bR_ ?_ NB50_114.out _; refine BW_ ?_; refine bR_ ?_ NB50_114.out _; refine BW_ ?_; exact BK50.out⟩
 have n3_ : Zz (((((w14.setCell ⟨gb114, 0, none⟩ (.int .i64 t108)).setCell ⟨gb114, 1, none⟩ (.int .i64 t109)).setCell ⟨gb114, 2, none⟩ (.int .i64 t110)).setCell ⟨gb114, 3, none⟩ (.slice Ao18 t111.length co18)).heap[gb107]? = some (.cells #[.int .i64 t101, .int .i64 t102, .int .i64 t103, .slice Ao12 t104.length co12] 51 (0, 0))) := ⟨by refine BW_ ?_; refine bR_ ?_ NB107_114.out _; refine BW_ ?_; refine bR_ ?_ NB107_114.out _; refine BW_ ?_; refine bR_ ?_ NB107_114.out _; refine BW_ ?_; refine bR_ ?_ NB107_114.out _; refine BW_ ?_; exact BK107.out⟩
 have n4_ : Zz (((((w14.setCell ⟨gb114, 0, none⟩ (.int .i64 t108)).setCell ⟨gb114, 1, none⟩ (.int .i64 t109)).setCell ⟨gb114, 2, none⟩ (.int .i64 t110)).setCell ⟨gb114, 3, none⟩ (.slice Ao18 t111.length co18)).heap[gb114]? = some (.cells #[.int .i64 t108, .int .i64 t109, .int .i64 t110, .slice Ao18 t111.length co18] 51 (0, 0))) := ⟨by refine BW_ ?_; refine bP_ (cs := #[.int .i64 t108, .int .i64 t109, .int .i64 t110, .slice none 0 0]) ?_ 3 _ rfl; refine BW_ ?_; refine bP_ (cs := #[.int .i64 t108, .int .i64 t109, .int .i64 0, .slice none 0 0]) ?_ 2 _ rfl; refine BW_ ?_; refine bP_ (cs := #[.int .i64 t108, .int .i64 0, .int .i64 0, .slice none 0 0]) ?_ 1 _ rfl; refine BW_ ?_; refine bP_ (cs := #[.int .i64 0, .int .i64 0, .int .i64 0, .slice none 0 0]) ?_ 0 _ rfl; refine BW_ ?_; exact BK114.out⟩
 have n5_ : Zz (Below w.heap.size w ((((w14.setCell ⟨gb114, 0, none⟩ (.int .i64 t108)).setCell ⟨gb114, 1, none⟩ (.int .i64 t109)).setCell ⟨gb114, 2, none⟩ (.int .i64 t110)).setCell ⟨gb114, 3, none⟩ (.slice Ao18 t111.length co18))) := ⟨B2_ HB.out GE107.out GE114.out⟩
 (try clear HO106);(try clear HO113);(try clear BK50);(try clear BK107);(try clear BK114);(try clear HB)
 generalize ((((w14.setCell ⟨gb114, 0, none⟩ (.int .i64 t108)).setCell ⟨gb114, 1, none⟩ (.int .i64 t109)).setCell ⟨gb114, 2, none⟩ (.int .i64 t110)).setCell ⟨gb114, 3, none⟩ (.slice Ao18 t111.length co18)) = w19 at n0_ n1_ n2_ n3_ n4_ n5_ ⊢
 have HO106 := n0_
 have HO113 := n1_
 have BK50 := n2_
 have BK107 := n3_
 have BK114 := n4_
 have HB := n5_
 clear n0_ n1_ n2_ n3_ n4_ n5_
 replace HO106 := Zz.mk (Kd.R_drew HO106.out)
 replace HO113 := Zz.mk (Kd.R_drew HO113.out)
 replace BK50 := Zz.mk (bD_ BK50.out)
 replace BK107 := Zz.mk (bD_ BK107.out)
 replace BK114 := Zz.mk (bD_ BK114.out)
 replace HB := Zz.mk (qAq HB.out)
 refine qBx (n := 7) (S := fun w' => w'.cell? ⟨gb107, 0, none⟩ = some (.int .i64 t101) ∧ w'.cell? ⟨gb107, 1, none⟩ = some (.int .i64 t102) ∧ w'.cell? ⟨gb107, 2, none⟩ = some (.int .i64 t103) ∧ w'.cell? ⟨gb107, 3, none⟩ = some (.slice Ao12 t104.length co12)) (ds := []) (tb_ 7 0) (by kernel_rfl) rfl rfl (Z4_ BK107.out) (fun hHeld => ?_)
 generalize w19.drew = w20 at HO106 HO113 BK50 BK107 BK114 HB hHeld ⊢
 refine qFt (i := 0) (N := some 18) (v := ?_) (a' := ?_) (tb_ 7 1) rfl rfl (by kernel_rfl) (fun _ _ _ h => h) (Or.inl ⟨by rfl, ?_⟩) ?_ ?_
 rotate_left
 ·intro w'
  go_simp
  with_reducible rfl
 rotate_left
 ·simp only [Act.put, List.setIfInBounds_toArray, List.set_cons_zero, List.set_cons_succ, qA6, qBh]
  rfl
 refine take_ (i := 1) (N := some 19) (v := ?_) (a' := ?_) (tb_ 7 3) rfl rfl (by kernel_rfl) (fun _ _ _ h => h) (Or.inl ⟨by rfl, ?_⟩) hHeld ?_ ?_
 rotate_left
 ·rintro w' ⟨s0, s1, s2, s3⟩
  go_simp
  with_reducible rfl
 rotate_left
 ·simp only [Act.put, List.setIfInBounds_toArray, List.set_cons_zero, List.set_cons_succ, qA6, qBh]
  rfl
 refine one_ (i := 2) (N := some 20) (tb_ 7 7) rfl rfl (by kernel_rfl) (by decide) (fun K hK => ?_)
 refine GO_ Try.func33 #[.pointer (some ⟨gb107, 0, none⟩)] (h := ?_)
 with_reducible refine (z33.calls k gb107 t101 t102 t103 Ao12 co12 t104 t115 _ ?side1 ?side2 ?side3 A6.out).mono ?_
 (case side1 => refine BW_ ?_; exact BK107.out)
 (case side2 => exact KC_ (Kd.R_reads' HO106.out).2.2)
 (case side3 => exact (Kd.R_reads' HO106.out).2.1)
 rintro e w21 ⟨rfl, hb⟩
 refine ⟨_, rfl, ?_⟩
 replace HO106 := Zz.mk (Kd.R_below (KR_ HO106.out) hb)
 replace HO113 := Zz.mk (Kd.R_below (KR_ HO113.out) hb)
 replace BK50 := Zz.mk (kb_ BK50.out hb)
 replace BK107 := Zz.mk (kb_ BK107.out hb)
 replace BK114 := Zz.mk (kb_ BK114.out hb)
 replace HB := Zz.mk (bT_ (B2_ HB.out GE107.out GE114.out) hb)
 (try clear hb);(try clear hk)
 refine hK.out _ _ (Z4_ BK107.out) (fun hHeld => ?_)
 clear hK K
 refine NM_ (N := (some 20)) (h := ?_)
 refine qFt (i := 3) (N := some 21) (v := ?_) (a' := ?_) (tb_ 7 15) rfl rfl (by kernel_rfl) (fun _ _ _ h => h) (Or.inl ⟨by rfl, ?_⟩) ?_ ?_
 rotate_left
 ·intro w'
  go_simp
  with_reducible rfl
 rotate_left
 ·simp only [Act.put, List.setIfInBounds_toArray, List.set_cons_zero, List.set_cons_succ, qA6, qBh]
  rfl
 refine one_ (i := 4) (N := some 22) (tb_ 7 31) rfl rfl (by kernel_rfl) (by decide) (fun K hK => ?_)
 refine GO_ Try.func33 #[.pointer (some ⟨gb114, 0, none⟩)] (h := ?_)
 with_reducible refine (z33.calls k gb114 t108 t109 t110 Ao18 co18 t111 t116 _ ?side1 ?side2 ?side3 A7.out).mono ?_
 (case side1 => refine BW_ ?_; exact BK114.out)
 (case side2 => exact KC_ (Kd.R_reads' HO113.out).2.2)
 (case side3 => exact (Kd.R_reads' HO113.out).2.1)
 rintro e w22 ⟨rfl, hb⟩
 refine ⟨_, rfl, ?_⟩
 replace HO106 := Zz.mk (Kd.R_below (KR_ HO106.out) hb)
 replace HO113 := Zz.mk (Kd.R_below (KR_ HO113.out) hb)
 replace BK50 := Zz.mk (kb_ BK50.out hb)
 replace BK107 := Zz.mk (kb_ BK107.out hb)
 replace BK114 := Zz.mk (kb_ BK114.out hb)
 replace HB := Zz.mk (bT_ (B2_ HB.out GE107.out GE114.out) hb)
 (try clear hb);(try clear hk)
 refine hK.out _ _ (Z4_ BK107.out) (fun hHeld => ?_)
 clear hK K
 refine NM_ (N := (some 22)) (h := ?_)
 refine qFt (i := 5) (N := some 23) (v := ?_) (a' := ?_) (tb_ 7 63) rfl rfl (by kernel_rfl) (fun _ _ _ h => h) (Or.inl ⟨by rfl, ?_⟩) ?_ ?_
 rotate_left
 ·intro w'
  go_simp
  with_reducible rfl
 rotate_left
 ·simp only [Act.put, List.setIfInBounds_toArray, List.set_cons_zero, List.set_cons_succ, qA6, qBh]
  rfl
 refine qFt (i := 6) (N := some 6) (v := ?_) (a' := ?_) (tb_ 7 127) rfl rfl (by kernel_rfl) (fun _ _ _ h => h) (Or.inl ⟨by rfl, ?_⟩) ?_ ?_
 rotate_left
 ·intro w'
  go_simp
  with_reducible rfl
 rotate_left
 ·simp only [Act.put, List.setIfInBounds_toArray, List.set_cons_zero, List.set_cons_succ, qA6, qBh]
  rfl
 refine qCp (by kernel_rfl) ?_
 try go_wp2
 go_ret
 exact ⟨F_, B2_ HB.out GE107.out GE114.out⟩
end Go.Proofs.Ytpgjfppbbbnclaa.B
