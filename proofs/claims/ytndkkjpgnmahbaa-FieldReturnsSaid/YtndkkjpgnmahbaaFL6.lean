/- Part 6 of the texts of a claim about Ytndkkjpgnmahbaa, put together by a program of this work: what the Go functions do, and that their calls do so. -/
import Derived.Test.YtndkkjpgnmahbaaFL4
import Derived.Test.YtndkkjpgnmahbaaFL5
import Derived.SizedLaws
import Derived.ChangeSlices
section
namespace Go.Proofs.Ytndkkjpgnmahbaa.Print
open Go.RowKit Go.Proofs.YtndkkjpgnmahbaaW.PrintWords Go.Proofs.YtndkkjpgnmahbaaW.PrintLast Go.Proofs.YtndkkjpgnmahbaaW.PrintMore Go.Proofs.Ytndkkjpgnmahbaa.H Go.Proofs.Field
attribute [local go_sem] max2_int min2_int max_two min_two max_three min_three max_four min_four
set_option linter.unusedVariables false
set_option linter.unusedSimpArgs false
attribute [local go_sem high] eqA42
def retF.T20 : Bool × List (List Nat × List Nat) := (true, [([], []), ([], []), ([], []), ([1, 2], [1, 2]), ([3], [3]), ([4], [4]), ([5], [5]), ([], []), ([], []), ([7, 8], [7, 8]), ([9], [9]), ([10], [10]), ([11], [11]), ([0, 6, 12], [0, 6, 12]), ([13], [13]), ([14], [14]), ([14], [14]), ([], []), ([17, 15, 13, 0, 1, 2, 3, 4, 5, 6, 7, 8, 9, 10, 11, 12, 13, 14, 15, 17], [15, 17]), ([16, 18, 0, 1, 2, 3, 4, 5, 6, 7, 8, 9, 10, 11, 12, 13, 14, 15, 16, 17, 18], [16])])
def retF.B20 : List Nat := [0, 0, 0, 6, 14, 30, 62, 0, 0, 384, 896, 1920, 3968, 8191, 16383, 32767, 32767, 0, 196607, 524287]
theorem retF.tab20 : rtab .any (opsOf Try.f18 20) = retF.T20 := by kernel_rfl
theorem retF.bits20 : waitsOk retF.T20.2 retF.B20 = true := by kernel_rfl
set_option maxHeartbeats 64000000 in
set_option maxRecDepth 100000 in
theorem returns_calls (A0 : Option Addr) (c0 : Nat) (l0 : List Int) (a1 a2 a3 a4 : Int) (w : World) (hr0 : Kd.C (Kd.int .i64) w A0 l0.length l0) (hc0 : l0.length ≤ c0) :
  Calls Try.prog 18 #[.slice A0 l0.length c0, .int .i64 a1, .int .i64 a2, .int .i64 a3, .int .i64 a4] w fun e w' => e = .returned (.bool true) ∧ Below w.heap.size w w' := by
 obtain ⟨s0, hs0⟩ : ∃ s, thermionkit_NewDice.f l0 = some s := ⟨_, rfl⟩
 obtain ⟨W', H', R', C', s1, hpl, hpos, hsm⟩ := plan_total s0 8 6 (by omega) (by omega)
 obtain ⟨W2, H2, R2, C2, s2, KT, htu, hlen2, hpos2⟩ := tube_total s1 7 4 (by omega) (by omega)
 obtain ⟨m1, hm1, hm1'⟩ := mod_eq a1 3 (by omega) (by omega)
 obtain ⟨m2, hm2, hm2'⟩ := mod_eq a2 5 (by omega) (by omega)
 obtain ⟨m3, hm3, hm3'⟩ := mod_eq a3 5 (by omega) (by omega)
 obtain ⟨n, hn, hn'⟩ := mod_eq a4 21 (by omega) (by omega)
 obtain ⟨e, he⟩ : ∃ e : Int, 1 + (m1 : Int) = e := ⟨_, rfl⟩
 obtain ⟨dx, hdx⟩ : ∃ e : Int, (m2 : Int) - 2 = e := ⟨_, rfl⟩
 obtain ⟨dy, hdy⟩ : ∃ e : Int, (m3 : Int) - 2 = e := ⟨_, rfl⟩
 have v1 : IntKind.i64.wrap (1 + (m1 : Int)) = e := by rw [he]; exact IntWalk.i64_in _ (by omega)
 have v2 : IntKind.i64.wrap ((m2 : Int) - 2) = dx := by rw [hdx]; exact IntWalk.i64_in _ (by omega)
 have v3 : IntKind.i64.wrap ((m3 : Int) - 2) = dy := by rw [hdy]; exact IntWalk.i64_in _ (by omega)
 obtain ⟨nx, hnx⟩ : ∃ z : Int, -dx = z := ⟨_, rfl⟩
 obtain ⟨ny, hny⟩ : ∃ z : Int, -dy = z := ⟨_, rfl⟩
 have v4 : IntKind.i64.wrap (-dx) = nx := by rw [hnx]; exact IntWalk.i64_in _ (by omega)
 have v5 : IntKind.i64.wrap (-dy) = ny := by rw [hny]; exact IntWalk.i64_in _ (by omega)
 generalize hq : shiftE W' H' R' C' e dx dy = q
 obtain ⟨q1, q2, q3, q4, q5⟩ := q
 generalize hb : shiftE q1 q2 q3 q4 e nx ny = bb
 obtain ⟨b1, b2, b3, b4, b5⟩ := bb
 have hback : q5 = 0 → W' = b1 ∧ H' = b2 ∧ R' = b3 ∧ C' = b4 ∧ b5 = 0 := fun z => by
  subst z
  have h := shift_back (by omega) (by omega) hq
  rw [hnx, hny, hb] at h
  simp only [Prod.mk.injEq] at h
  exact ⟨h.1.symm, h.2.1.symm, h.2.2.1.symm, h.2.2.2.1.symm, h.2.2.2.2⟩
 have hq4 := shiftE_len hq
 obtain ⟨KS, hKS⟩ := refsame_eq W' H' R' C' W' H' R' C' (by omega)
 have hks := hKS KS (Nat.le_refl _)
 rw [show decide (W' = W' ∧ H' = H' ∧ R' = R' ∧ C' = C') = true by simp] at hks
 generalize hp : playE W2 H2 R2 C2 n 1 2 3 = pp
 obtain ⟨pl, pe⟩ := pp
 obtain ⟨hpe, hpl0⟩ := play_nonneg hp
 obtain ⟨KA, hKA⟩ := ampE_ev W2 H2 R2 C2 n 1 2 3 (by omega)
 have hka := hKA KA (Nat.le_refl _)
 generalize hx : ampE W2 H2 R2 C2 n 1 2 3 = x at hpe hka
 obtain ⟨x1, x2, x3⟩ := x
 have hpe' : x3 = pe := hpe.symm
 clear hpe
 subst hpe'
 have HPL := Aside0.mk hpl
 have HTU := Aside0.mk htu
 have HPOS := Aside0.mk hpos
 have HPOS2 := Aside0.mk hpos2
 have HSMA := Aside0.mk (And.intro hsm hlen2)
 have HND := Aside0.mk hs0
 have HM1 := Aside0.mk hm1
 have HM2 := Aside0.mk hm2
 have HM3 := Aside0.mk hm3
 have HMN := Aside0.mk hn
 have HQE := Aside0.mk hq
 have HBE := Aside0.mk hb
 have HBK := Aside0.mk hback
 have HQL := Aside0.mk hq4
 have HKS := Aside0.mk hks
 have HPE := Aside0.mk hp
 have HP0 := Aside0.mk hpl0
 have HKA := Aside0.mk hka
 have HXE := Aside0.mk hx
 have HAW := Aside0.mk awake_true
 have HR0 := Aside0.mk hr0
 have HC0 := Aside0.mk hc0
 have HM := Aside0.mk (Mem.start w)
 have hu24 := Try.underlying24
 have hu42 := Try.underlying42
 have hu22 := Try.underlying22
 have hu46 := Try.underlying46
 clear hr0 hc0 hs0 hpl htu hpos hpos2 hsm hlen2 hm1 hm2 hm3 hn hm1' hm2' hm3' hn' he hdx hdy hnx hny hq hb hback hq4 hKS hks hp hpl0 hKA hka hx
 go_enter Try.func18, Try.ntmps18
 go_upto_region 5 with (first
  | (go_at_call 21; (with_reducible refine (thermionkit_NewDice.calls A0 c0 l0 s0 w w (Below.refl _ _) HR0.out HC0.out HND.out).mono ?_); rintro e1 w1 ⟨g, rfl, hI, hB, hb⟩; have HMa := Aside0.mk (HM.out.add hb hI.1 hI.2); clear hI hB hb HND HM)
  | (go_at_call 22; (with_reducible refine (thermionkit_PlanOf.calls g s0 8 6 W' H' R' C' s1 w _ (dice_is HMa.out) HMa.out.below HPL.out).mono ?_); rintro e1 w2 ⟨vp, rfl, hR, hI, hB, hK⟩; obtain ⟨gC, cC, cuC, rfl, hcC, hnC, hm1⟩ := dice_row HMa.out hK hB hI hR HPOS.out; have HNC := Aside0.mk (And.intro hnC hcC); have HMb := Aside0.mk hm1; clear hR hI hB hK hcC hnC hm1 HMa HPL)
  | (go_at_call 54; (with_reducible refine (thermionkit_Tube.calls KT g s1 7 4 W2 H2 R2 C2 s2 w _ (dice_is HMb.out.swap) HMb.out.swap.below HTU.out).mono ?_); rintro e1 w3 ⟨vp, rfl, hR, hI, hB, hK⟩; obtain ⟨g2, c2, cu2, rfl, hcC, hnC, hm1⟩ := dice_row HMb.out.swap hK hB hI hR HPOS2.out; have HN2 := Aside0.mk (And.intro hnC hcC); have HMc := Aside0.mk hm1; clear hR hI hB hK hcC hnC hm1 HMb HTU)
  | ((with_reducible refine gate_dst (N := 12) rfl ?_); refine ev_new HMc.out rfl 24 rfl info24 ?_; intro g12 w4 hm1 hq1; have HM4 := Aside0.mk hm1; clear hm1 hq1 HMc)
  | ((with_reducible refine gate_dst (N := 13) rfl ?_); refine ev_new HM4.out rfl 24 rfl info24 ?_; intro g13 w5 hm1 hq1; have HM5 := Aside0.mk hm1; clear hm1 hq1 HM4)
  | ((with_reducible refine gate_store (t := 24) (p := 12) rfl ?_); refine ev_store HM5.out.swap rfl 24 (.tmp 12) (.tmp 31) rfl rfl (cs := #[.int .i64 W', .int .i64 H', .bool R', .slice (some ⟨gC, 0, none⟩) C'.length cC]) rfl size24 rfl rfl (by simp [Value.oneCell']) ?_; intro w6 hm1 hq1; have HM6 := Aside0.mk hm1; clear hm1 hq1 HM5)
  | ((with_reducible refine gate_store (t := 24) (p := 13) rfl ?_); refine ev_store HM6.out.swap rfl 24 (.tmp 13) (.tmp 33) rfl rfl (cs := #[.int .i64 W2, .int .i64 H2, .bool R2, .slice (some ⟨g2, 0, none⟩) C2.length c2]) rfl size24 rfl rfl (by simp [Value.oneCell']) ?_; intro w7 hm1 hq1; have HM7 := Aside0.mk hm1; clear hm1 hq1 HM6)
  | (go_at_call 28; (with_reducible refine (thermionkit_Mod.calls a1 3 m1 _ HM1.out).mono ?_); rintro e8 w8 ⟨rfl, hb⟩; have HM8 := Aside0.mk (HM7.out.step hb.below); clear hb HM7 HM1)
  | (go_at_call 28; (with_reducible refine (thermionkit_Mod.calls a2 5 m2 _ HM2.out).mono ?_); rintro e9 w9 ⟨rfl, hb⟩; have HM9 := Aside0.mk (HM8.out.step hb.below); clear hb HM8 HM2)
  | (go_at_call 28; (with_reducible refine (thermionkit_Mod.calls a3 5 m3 _ HM3.out).mono ?_); rintro e10 w10 ⟨rfl, hb⟩; have HM10 := Aside0.mk (HM9.out.step hb.below); clear hb HM9 HM3)
  | ((with_reducible refine gate_dst (N := 44) rfl ?_); refine ev_load (HM10.out.second) rfl 24 (.tmp 12) rfl rfl _ Try.underlying24 rfl size24 rfl ?_)
  | (go_at_call 58; (with_reducible refine (field_Shift.calls W' H' R' (some ⟨gC, 0, none⟩) cC C' e dx dy q1 q2 q3 q4 q5 _ (C_mem (HM10.out.blk (gC, cuC, 3) (by simp)) HNC.out.1) HNC.out.2 (by have := HSMA.out.1; omega) HQE.out).mono ?_); rintro e11 w11 ⟨vq, rfl, hR, hb⟩; obtain ⟨Aq, cq, eq⟩ := Kd.R_slice hR; subst eq; have hr1 := Kd.R_reads' hR; have HRQ := Aside0.mk (And.intro hr1.2.2 hr1.2.1); have HM11 := Aside0.mk (HM10.out.step hb); clear hb hR hr1 HM10 )
  | ((with_reducible refine gate_dst (N := 14) rfl ?_); refine ev_new (Mem.start w11) rfl 24 rfl info24 ?_; intro g14 w12 hm1 hq1; have HX := Aside0.mk hm1; clear hm1 hq1)
  | ((with_reducible refine gate_store (t := 24) (p := 14) rfl ?_); refine ev_store HX.out rfl 24 (.tmp 14) (.tmp 49) rfl rfl (cs := #[.int .i64 q1, .int .i64 q2, .bool q3, .slice Aq q4.length cq]) rfl size24 rfl rfl (by simp [Value.oneCell']) ?_; intro w13 hm1 hq1; have HM13 := Aside0.mk (mem_join HM11.out hm1); replace HRQ := Aside0.mk (And.intro (Kd.C_below HRQ.out.1 hm1.below) HRQ.out.2); clear hm1 hq1 HX HM11))
 by_cases z0 : q5 = 0
 case' neg =>
  have z1 : (q5 == 0) = false := beq_eq_false_iff_ne.mpr z0
  clear z0
  go_upto_region 9 with fail
  have HQ := HM13
  clear HM13 z1
 case' pos =>
  obtain ⟨e1, e2, e3, e4, e5⟩ := HBK.out z0
  subst z0 e1 e2 e3 e4 e5
  have z1 : ((0 : Int) == 0) = true := rfl
  have z2 : ((0 : Int) != 0) = false := rfl
  go_upto_region 9 with (first
   | ((with_reducible refine gate_dst (N := 54) rfl ?_); refine ev_load (HM13.out.head) rfl 24 (.tmp 14) rfl rfl _ Try.underlying24 rfl size24 rfl ?_)
   | (go_at_call 58; (with_reducible refine (field_Shift.calls q1 q2 q3 Aq cq q4 e nx ny W' H' R' C' 0 _ (Kd.C_below HRQ.out.1 (Below.refl _ _)) HRQ.out.2 (by have := HSMA.out.1; have := HQL.out; omega) HBE.out).mono ?_); rintro e14 w14 ⟨vq, rfl, hR, hb⟩; obtain ⟨Ab, cb, eq⟩ := Kd.R_slice hR; subst eq; have hr1 := Kd.R_reads' hR; have HRB := Aside0.mk (And.intro hr1.2.2 hr1.2.1); have HM14 := Aside0.mk (HM13.out.step hb); clear hb hR hr1 HM13 )
   | ((with_reducible refine gate_dst (N := 16) rfl ?_); refine ev_new (Mem.start w14) rfl 24 rfl info24 ?_; intro g16 w15 hm1 hq1; have HX := Aside0.mk hm1; clear hm1 hq1)
   | ((with_reducible refine gate_store (t := 24) (p := 16) rfl ?_); refine ev_store HX.out rfl 24 (.tmp 16) (.tmp 61) rfl rfl (cs := #[.int .i64 W', .int .i64 H', .bool R', .slice Ab C'.length cb]) rfl size24 rfl rfl (by simp [Value.oneCell']) ?_; intro w16 hm1 hq1; have HM16 := Aside0.mk (mem_join HM14.out hm1); replace HRB := Aside0.mk (And.intro (Kd.C_below HRB.out.1 hm1.below) HRB.out.2); clear hm1 hq1 HX HM14)
   | ((with_reducible refine gate_dst (N := 66) rfl ?_); (try (refine gate_guard (by rfl) ?_; dsimp only)); refine ev_load (HM16.out.head) rfl 24 (.tmp 16) rfl rfl _ Try.underlying24 rfl size24 rfl ?_)
   | ((with_reducible refine gate_dst (N := 67) rfl ?_); (try (refine gate_guard (by rfl) ?_; dsimp only)); refine ev_load (HM16.out.blk4) rfl 24 (.tmp 12) rfl rfl _ Try.underlying24 rfl size24 rfl ?_)
   | (go_at_call 29; (with_reducible refine (thermionref01_Same.calls KS W' H' R' Ab cb C' W' H' R' (some ⟨gC, 0, none⟩) cC C' true _ HRB.out.1 HRB.out.2 (C_mem (HM16.out.blk (gC, cuC, 3) (by simp)) HNC.out.1) HNC.out.2 HKS.out).mono ?_); rintro e17 w17 ⟨rfl, hb⟩; have HM17 := Aside0.mk (HM16.out.step hb); clear hb HM16 ))
  have HQ := HM17
  clear HM17 z1 z2
 all_goals
  clear HBE HBK HKS v1 v2 v3 v4 v5 HQE HRQ
  go_upto_region 12 with (first
   | (go_at_call 28; (with_reducible refine (thermionkit_Mod.calls a4 21 n _ HMN.out).mono ?_); rintro e1 wq ⟨rfl, hb⟩; have HQ2 := Aside0.mk (HQ.out.step hb.below); clear hb HQ HMN; have HQ := HQ2; clear HQ2)
   | ((with_reducible refine gate_dst (N := 74) rfl ?_); refine ev_load (HQ.out.blk (g13, #[.int .i64 W2, .int .i64 H2, .bool R2, .slice (some ⟨g2, 0, none⟩) C2.length c2], 24) (by simp)) rfl 24 (.tmp 13) rfl rfl _ Try.underlying24 rfl size24 rfl ?_)
   | (go_at_call 61; (with_reducible refine (field_Play.calls W2 H2 R2 (some ⟨g2, 0, none⟩) c2 C2 n 1 2 3 pl x3 _ (C_mem (HQ.out.blk (g2, cu2, 3) (by simp)) HN2.out.1) HN2.out.2 (by have := HSMA.out.2; omega) HPE.out).mono ?_); rintro e1 wq ⟨rfl, hb⟩; have HQ2 := Aside0.mk (HQ.out.step hb); clear hb HQ ; have HQ := HQ2; clear HQ2)
   | ((with_reducible refine gate_dst (N := 80) rfl ?_); refine ev_load (HQ.out.blk (g13, #[.int .i64 W2, .int .i64 H2, .bool R2, .slice (some ⟨g2, 0, none⟩) C2.length c2], 24) (by simp)) rfl 24 (.tmp 13) rfl rfl _ Try.underlying24 rfl size24 rfl ?_)
   | (go_at_call 56; (with_reducible refine (field_Amplification.calls KA W2 H2 R2 (some ⟨g2, 0, none⟩) c2 C2 n 1 2 3 x1 x2 x3 _ (C_mem (HQ.out.blk (g2, cu2, 3) (by simp)) HN2.out.1) HN2.out.2 HKA.out).mono ?_); rintro e1 wq ⟨rfl, hb⟩; have HQ2 := Aside0.mk (HQ.out.step hb); clear hb HQ HKA; have HQ := HQ2; clear HQ2)
   | ((with_reducible refine gate_dst (N := 20) rfl ?_); refine ev_new HQ.out rfl 42 rfl info42_ ?_; intro g20 wq2 hm1 hq1; have HQ2 := Aside0.mk hm1; clear hm1 hq1 HQ; have HQ := HQ2; clear HQ2)
   | ((with_reducible refine gate_store (t := 42) (p := 20) rfl ?_); refine ev_store HQ.out rfl 42 (.tmp 20) (.tmp 83) rfl rfl (cs := #[.int .i64 x1, .int .i64 x2]) rfl size42_ rfl rfl (by simp [Value.oneCell']) ?_; intro wq3 hm1 hq1; have HQ2 := Aside0.mk hm1; clear hm1 hq1 HQ; have HQ := HQ2; clear HQ2))
  have HB := Aside0.mk HQ.out.below
  have f1 : (x3 != x3) = false := bne_eq_false_iff_eq.mpr rfl
  have f2 : decide (pl < 0) = false := decide_eq_false (by have := HP0.out; omega)
  by_cases z3 : x3 = 0
  rotate_left
  ·have f3 : (x3 == 0) = false := beq_eq_false_iff_ne.mpr z3
   have f4 : (x3 != 0) = true := bne_iff_ne.mpr z3
   clear z3
   go_wp2_with (first
    | (go_at_call 20; (with_reducible refine (thermionlaw01_awake.calls 10 true _ HAW.out).mono ?_); rintro e1 wE ⟨rfl, hb⟩; have HE := Aside0.mk (below_step HB.out hb); clear hb))
   go_ret
   exact ⟨rfl, HE.out⟩
  ·subst z3
   have f3 : ((0 : Int) == 0) = true := rfl
   have f4 : ((0 : Int) != 0) = false := rfl
   by_cases z4 : 0 < pl
   ·have f5 : decide (pl > 0) = true := decide_eq_true z4
    clear z4
    go_wp2_with (first
     | (go_at_call 20; (with_reducible refine (thermionlaw01_awake.calls 10 true _ HAW.out).mono ?_); rintro e1 wE ⟨rfl, hb⟩; have HE := Aside0.mk (below_step HB.out hb); clear hb))
    go_ret
    exact ⟨rfl, HE.out⟩
   ·obtain rfl : pl = 0 := by have := HP0.out; omega
    have f5 : decide ((0 : Int) > 0) = false := rfl
    clear z4
    go_wp2_with (first
     | ((with_reducible refine gate_dst (N := 103) rfl ?_); refine ev_lit HQ.out rfl [.int .i64 1, .int .i64 0] 2 3 ?hrl ?_; (case hrl => first | (go_simp; done) | (go_simp; rfl)); intro gw1 wlgw1 hm1 hq1; have HQ2 := Aside0.mk hm1; clear hm1 hq1 HQ; have HQ := HQ2; clear HQ2)
     | ((with_reducible refine gate_dst (N := 104) rfl ?_); refine ev_lit HQ.out rfl [.int .i64 (-1), .int .i64 0] 2 3 ?hrl ?_; (case hrl => first | (go_simp; done) | (go_simp; rfl)); intro gw2 wlgw2 hm1 hq1; have HQ2 := Aside0.mk hm1; clear hm1 hq1 HQ; have HQ := HQ2; clear HQ2)
     | ((with_reducible refine gate_dst (N := 105) rfl ?_); refine ev_lit HQ.out rfl [.int .i64 0, .int .i64 1] 2 3 ?hrl ?_; (case hrl => first | (go_simp; done) | (go_simp; rfl)); intro gw3 wlgw3 hm1 hq1; have HQ2 := Aside0.mk hm1; clear hm1 hq1 HQ; have HQ := HQ2; clear HQ2)
     | ((with_reducible refine gate_dst (N := 106) rfl ?_); refine ev_lit HQ.out rfl [.int .i64 0, .int .i64 (-1)] 2 3 ?hrl ?_; (case hrl => first | (go_simp; done) | (go_simp; rfl)); intro gw4 wlgw4 hm1 hq1; have HQ2 := Aside0.mk hm1; clear hm1 hq1 HQ; have HQ := HQ2; clear HQ2)
     | ((with_reducible refine gate_dst (N := 107) rfl ?_); refine ev_lit HQ.out rfl [.slice (some ⟨gw1, 0, none⟩) 2 2, .slice (some ⟨gw2, 0, none⟩) 2 2, .slice (some ⟨gw3, 0, none⟩) 2 2, .slice (some ⟨gw4, 0, none⟩) 2 2] 4 22 ?hrl ?_; (case hrl => first | (go_simp; done) | (go_simp; rfl)); intro gL wlgL hm1 hq1; have HQ2 := Aside0.mk hm1; clear hm1 hq1 HQ; have HQ := HQ2; clear HQ2))
    clear f1 f2 f3 f4 f5 HB
    have HW1 := Aside0.mk HQ.out
    go_loopg [23] 4 (fun k v23 w' => ∃ (i : Nat), v23 = .int .i64 (i : Int) ∧ Aside0 (i + k = 4) ∧ Aside0 (Below wlgL.heap.size wlgL w'))
    case atStart => exact ⟨0, by go_num, ⟨by omega⟩, ⟨Below.refl _ _⟩⟩
    case round =>
     obtain ⟨i, rfl, HK, HBW⟩ := hrel
     by_cases hi : i < 4
     ·have HI := Aside0.mk hi
      have HQR := Aside0.mk (HW1.out.step HBW.out)
      have d1 : decide ((i : Int) < 4) = true := by simp; omega
      have d2 : decide (i < 4) = true := by simp; omega
      have d3 : (0 : Int) ≤ (i : Int) := by omega
      have d4 : (i : Int) < 4 := by omega
      have d5 : wrap64 ((i : Int) + 1) = ((i + 1 : Nat) : Int) := by rw [IntWalk.wrap64_in _ (by omega)]; omega
      obtain ⟨gw, dx, dy, hdw, HCW⟩ : ∃ (gw : Nat) (dx dy : Int), (dx, dy) ∈ Go.Proofs.Ytndkkjpgnmahbaa.Print.ways ∧ Aside0 (∀ V, Below wr.heap.size wr V → V.cell? ⟨gL, i, none⟩ = some (.slice (some ⟨gw, 0, none⟩) 2 2) ∧ V.cell? ⟨gw, 0, none⟩ = some (.int .i64 dx) ∧ V.cell? ⟨gw, 1, none⟩ = some (.int .i64 dy)) := by
       have hL := HQR.out.head
       rcases (show i = 0 ∨ i = 1 ∨ i = 2 ∨ i = 3 by omega) with rfl | rfl | rfl | rfl
       ·exact ⟨gw1, 1, 0, by simp [Go.Proofs.Ytndkkjpgnmahbaa.Print.ways], ⟨fun V hV => ⟨(blk_cell (blk_below hL hV) 0).trans rfl, pair_cells (blk_below (HQR.out.blk (gw1, #[.int .i64 1, .int .i64 0], 3) (by simp)) hV) rfl rfl⟩⟩⟩
       ·exact ⟨gw2, -1, 0, by simp [Go.Proofs.Ytndkkjpgnmahbaa.Print.ways], ⟨fun V hV => ⟨(blk_cell (blk_below hL hV) 1).trans rfl, pair_cells (blk_below (HQR.out.blk (gw2, #[.int .i64 (-1), .int .i64 0], 3) (by simp)) hV) rfl rfl⟩⟩⟩
       ·exact ⟨gw3, 0, 1, by simp [Go.Proofs.Ytndkkjpgnmahbaa.Print.ways], ⟨fun V hV => ⟨(blk_cell (blk_below hL hV) 2).trans rfl, pair_cells (blk_below (HQR.out.blk (gw3, #[.int .i64 0, .int .i64 1], 3) (by simp)) hV) rfl rfl⟩⟩⟩
       ·exact ⟨gw4, 0, -1, by simp [Go.Proofs.Ytndkkjpgnmahbaa.Print.ways], ⟨fun V hV => ⟨(blk_cell (blk_below hL hV) 3).trans rfl, pair_cells (blk_below (HQR.out.blk (gw4, #[.int .i64 0, .int .i64 (-1)], 3) (by simp)) hV) rfl rfl⟩⟩⟩
      have HP13 := Aside0.mk (HQR.out.blk (g13, #[.int .i64 W2, .int .i64 H2, .bool R2, .slice (some ⟨g2, 0, none⟩) C2.length c2], 24) (by simp))
      have HT2 := Aside0.mk (C_mem (HQR.out.blk (g2, cu2, 3) (by simp)) HN2.out.1)
      have HBR := Aside0.mk HQR.out.below
      have HR20 := Aside0.mk (pair_cells (HQR.out.blk (g20, #[.int .i64 x1, .int .i64 x2], 42) (by simp)) rfl rfl)
      have HB20 := Aside0.mk (HQR.out.blk (g20, #[.int .i64 x1, .int .i64 x2], 42) (by simp))
      generalize hq' : shiftE W2 H2 R2 C2 2 dx dy = q'
      obtain ⟨q1', q2', q3', q4', q5'⟩ := q'
      have HQE := Aside0.mk hq'
      have hql := shiftE_len hq'
      obtain ⟨KA', hKA'⟩ := ampE_ev q1' q2' q3' q4' n 1 2 3 (by have := HSMA.out.2; omega)
      have hka' := hKA' KA' (Nat.le_refl _)
      generalize hs' : ampE q1' q2' q3' q4' n 1 2 3 = s' at hka'
      obtain ⟨s1', s2', s3'⟩ := s'
      have HKA2 := Aside0.mk hka'
      have HZ : Aside0 (q5' = 0 → s3' = 0 → s1' = x1 ∧ s2' = x2 ∧ x1 = x2) := ⟨fun z1 z2 => by
       subst z1 z2
       exact play_zero (by have := HSMA.out.2; omega) HPE.out HXE.out hdw hq' hs'⟩
      clear hdw hq' hql hKA' hka' hs' hi HQR
      have HQ1 := Aside0.mk (Mem.start wr)
      go_upto_region 20 with fail
      go_cut [24, 25] (fun v24 v25 wc => ∃ (g24 : Nat) (Aq : Option Addr) (cq : Nat), v24 = .pointer (some ⟨g24, 0, none⟩) ∧ v25 = .int .i64 q5' ∧ Aside0 (Kd.C (Kd.int .i64) wc Aq q4'.length q4' ∧ q4'.length ≤ cq) ∧ Aside0 (Mem wr wc [(g24, #[.int .i64 q1', .int .i64 q2', .bool q3', .slice Aq q4'.length cq], 24)]))
      case first =>
       have HQ := Aside0.mk HQ1.out.drew
       clear HQ1
       refine start_ (n := 20) (S := fun w' => w'.cell? ⟨g13, 0, none⟩ = some (.int .i64 W2) ∧ w'.cell? ⟨g13, 1, none⟩ = some (.int .i64 H2) ∧ w'.cell? ⟨g13, 2, none⟩ = some (.bool R2) ∧ w'.cell? ⟨g13, 3, none⟩ = some (.slice (some ⟨g2, 0, none⟩) C2.length c2) ∧ w'.cell? ⟨gL, i, none⟩ = some (.slice (some ⟨gw, 0, none⟩) 2 2) ∧ w'.cell? ⟨gw, 0, none⟩ = some (.int .i64 dx) ∧ w'.cell? ⟨gw, 1, none⟩ = some (.int .i64 dy)) (ds := [18, 19]) (bS 20 0) (by kernel_rfl) rfl rfl (cells7 (plan_cells (blk_below HP13.out HQ.out.below)) (HCW.out _ HQ.out.below)) (fun hHeld => ?_); refine with_tabW retF.tab20 retF.bits20 (fun HT_ HW_ => ?_)
       refine pu_ 1 116 (bS 20 2) HT_ ?_
       refine pu_ 2 117 (bS 20 6) HT_ ?_
       refine pu_ 3 118 (bS 20 14) HT_ ?_
       refine pu_ 7 122 (bS 20 142) HT_ ?_
       refine pu_ 8 123 (bS 20 398) HT_ ?_
       refine pu_ 9 124 (bS 20 910) HT_ ?_
       refine ta_ 0 115 (bS 20 911) HT_ HW_ hHeld ?_
       refine ta_ 4 119 (bS 20 927) HT_ HW_ hHeld ?_
       refine pu_ 5 120 (bS 20 959) HT_ ?_
       refine ta_ 6 121 (bS 20 1023) HT_ HW_ hHeld ?_
       refine ta_ 10 125 (bS 20 2047) HT_ HW_ hHeld ?_
       refine pu_ 11 126 (bS 20 4095) HT_ ?_
       refine ta_ 12 127 (bS 20 8191) HT_ HW_ hHeld ?_
       refine two_ (i := 13) (j := 17) (Ni := some 128) (Nj := some 24) (bS 20 16383) (bS 20 139263) rfl rfl rfl rfl (two_of HT_.out (by kernel_rfl)) (by decide) (by decide) (fun K hK => ?_) (fun K hK => ?_)
       ·refine goes_ Try.func58 (by kernel_rfl) rfl #[.agg #[.int .i64 W2, .int .i64 H2, .bool R2, .slice (some ⟨g2, 0, none⟩) C2.length c2], .int .i64 2, .int .i64 dx, .int .i64 dy] (by rfl) rfl rfl aA ?_
        with_reducible refine (field_Shift.calls W2 H2 R2 (some ⟨g2, 0, none⟩) c2 C2 2 dx dy q1' q2' q3' q4' q5' _ (Kd.C_below HT2.out HQ.out.below) HN2.out.2 (by have := HSMA.out.2; omega) HQE.out).mono ?_
        rintro e1 wq ⟨vq, rfl, hR, hb⟩
        obtain ⟨Aq, cq, eq⟩ := Kd.R_slice hR
        subst eq
        have HRQ := Aside0.mk hR
        have HQ2 := Aside0.mk (HQ.out.step hb)
        clear hb hR HQ
        have HQ := HQ2
        clear HQ2
        refine ⟨_, rfl, ?_⟩
        refine hK.out _ _ (cells7 (plan_cells (blk_below HP13.out HQ.out.below)) (HCW.out _ HQ.out.below)) (fun hHeld => ?_)
        clear hK K
        refine nm_ ?_
        refine pu_ 14 114 (bS 20 32767) HT_ ?_
        refine pu_ 15 129 (bS 20 65535) HT_ ?_
        refine pu_ 16 130 (bS 20 131071) HT_ ?_
        refine one_ (i := 17) (N := some 24) (bS 20 262143) rfl rfl (one_of HT_.out (by kernel_rfl)) (by decide) (fun K hK => ?_)
        refine new_stepB HQ.out (by rfl) rfl 24 rfl info24 (fun g24 wq hm1 hq1 => ?_)
        have HQ2 := Aside0.mk hm1
        replace HRQ := Aside0.mk (Kd.R_below HRQ.out hq1)
        clear hm1 hq1 HQ
        have HQ := HQ2
        clear HQ2
        refine hK.out _ _ (cells7 (plan_cells (blk_below HP13.out HQ.out.below)) (HCW.out _ HQ.out.below)) (fun hHeld => ?_)
        clear hK K
        refine nm_ ?_
        refine last_ (i := 18) (N := none) (bS 20 524287) rfl rfl (one_of HT_.out (by kernel_rfl)) (by decide) (fun K hK => ?_)
        refine store_stepB HQ.out (by rfl) rfl 24 (.tmp 24) (.tmp 129) rfl rfl rfl (cs := #[.int .i64 q1', .int .i64 q2', .bool q3', .slice Aq q4'.length cq]) size24 rfl rfl (by simp [Value.oneCell']) HRQ.out (by decide) (fun wq hm1 hr1 => ?_)
        have HQ2 := Aside0.mk hm1
        replace HRQ := Aside0.mk hr1
        clear hm1 hr1 HQ
        have HQ := HQ2
        clear HQ2
        refine hK.out _ _ ?_
        clear hK K
        refine nm0_ ?_
        refine pu_ 19 25 (bS 20 1048575) HT_ ?_
        refine done_ (done_of HT_.out (by kernel_rfl)) ?_
        clear hHeld HT_ HW_
        go_wp2
        go_meet
        case rel => exact ⟨g24, Aq, cq, rfl, rfl, ⟨(Kd.R_reads' HRQ.out).2.2, (Kd.R_reads' HRQ.out).2.1⟩, HQ⟩
       ·refine new_stepB HQ.out (by rfl) rfl 24 rfl info24 (fun g24 wq hm1 hq1 => ?_)
        have HQ2 := Aside0.mk hm1
        clear hm1 hq1 HQ
        have HQ := HQ2
        clear HQ2
        refine hK.out _ _ (cells7 (plan_cells (blk_below HP13.out HQ.out.below)) (HCW.out _ HQ.out.below)) (fun hHeld => ?_)
        clear hK K
        refine nm_ ?_
        refine one_ (i := 13) (N := some 128) (bS 20 147455) rfl rfl (one_of HT_.out (by kernel_rfl)) (by decide) (fun K hK => ?_)
        refine goes_ Try.func58 (by kernel_rfl) rfl #[.agg #[.int .i64 W2, .int .i64 H2, .bool R2, .slice (some ⟨g2, 0, none⟩) C2.length c2], .int .i64 2, .int .i64 dx, .int .i64 dy] (by rfl) rfl rfl aA ?_
        with_reducible refine (field_Shift.calls W2 H2 R2 (some ⟨g2, 0, none⟩) c2 C2 2 dx dy q1' q2' q3' q4' q5' _ (Kd.C_below HT2.out HQ.out.below) HN2.out.2 (by have := HSMA.out.2; omega) HQE.out).mono ?_
        rintro e1 wq ⟨vq, rfl, hR, hb⟩
        obtain ⟨Aq, cq, eq⟩ := Kd.R_slice hR
        subst eq
        have HRQ := Aside0.mk hR
        have HQ2 := Aside0.mk (HQ.out.step hb)
        clear hb hR HQ
        have HQ := HQ2
        clear HQ2
        refine ⟨_, rfl, ?_⟩
        refine hK.out _ _ (cells7 (plan_cells (blk_below HP13.out HQ.out.below)) (HCW.out _ HQ.out.below)) (fun hHeld => ?_)
        clear hK K
        refine nm_ ?_
        refine pu_ 14 114 (bS 20 163839) HT_ ?_
        refine pu_ 15 129 (bS 20 196607) HT_ ?_
        refine pu_ 16 130 (bS 20 262143) HT_ ?_
        refine last_ (i := 18) (N := none) (bS 20 524287) rfl rfl (one_of HT_.out (by kernel_rfl)) (by decide) (fun K hK => ?_)
        refine store_stepB HQ.out (by rfl) rfl 24 (.tmp 24) (.tmp 129) rfl rfl rfl (cs := #[.int .i64 q1', .int .i64 q2', .bool q3', .slice Aq q4'.length cq]) size24 rfl rfl (by simp [Value.oneCell']) HRQ.out (by decide) (fun wq hm1 hr1 => ?_)
        have HQ2 := Aside0.mk hm1
        replace HRQ := Aside0.mk hr1
        clear hm1 hr1 HQ
        have HQ := HQ2
        clear HQ2
        refine hK.out _ _ ?_
        clear hK K
        refine nm0_ ?_
        refine pu_ 19 25 (bS 20 1048575) HT_ ?_
        refine done_ (done_of HT_.out (by kernel_rfl)) ?_
        clear hHeld HT_ HW_
        go_wp2
        go_meet
        case rel => exact ⟨g24, Aq, cq, rfl, rfl, ⟨(Kd.R_reads' HRQ.out).2.2, (Kd.R_reads' HRQ.out).2.1⟩, HQ⟩
      case rest =>
      obtain ⟨g24, Aq, cq, rfl, rfl, HRQ, HQ⟩ := hcut
      clear HQ1
      go_upto_region 22 with (first
       | ((with_reducible refine gate_dst (N := 132) rfl ?_); refine ev_load (HQ.out.head) rfl 24 (.tmp 24) rfl rfl _ Try.underlying24 rfl size24 rfl ?_)
       | (go_at_call 56; (with_reducible refine (field_Amplification.calls KA' q1' q2' q3' Aq cq q4' n 1 2 3 s1' s2' s3' _ HRQ.out.1 HRQ.out.2 HKA2.out).mono ?_); rintro e61 w61 ⟨rfl, hb⟩; have HM61 := Aside0.mk (HQ.out.step hb); clear hb HQ )
       | ((with_reducible refine gate_dst (N := 26) rfl ?_); refine ev_new HM61.out rfl 42 rfl info42_ ?_; intro g26 w62 hm1 hq1; have HM62 := Aside0.mk hm1; clear hm1 hq1 HM61)
       | ((with_reducible refine gate_store (t := 42) (p := 26) rfl ?_); refine ev_store HM62.out rfl 42 (.tmp 26) (.tmp 135) rfl rfl (cs := #[.int .i64 s1', .int .i64 s2']) rfl size42_ rfl rfl (by simp [Value.oneCell']) ?_; intro w63 hm1 hq1; have HM63 := Aside0.mk hm1; clear hm1 hq1 HM62))
      obtain ⟨c20_0, c20_1⟩ := pair_cells (blk_below HB20.out HM63.out.below) rfl rfl
      by_cases z5 : q5' = 0
      rotate_left
      ·have k1 : (q5' == 0) = false := beq_eq_false_iff_ne.mpr z5
       clear z5 c20_0 c20_1
       go_wp2_with fail
       go_roundg (4 - (i + 1))
       case measure => have := HK.out; have := HI.out; omega
       case rel => exact ⟨i + 1, by first | exact congrArg _ d5 | go_num, ⟨by have := HK.out; have := HI.out; omega⟩, ⟨below_step HBW.out HM63.out.below⟩⟩
      ·subst z5
       have k1 : ((0 : Int) == 0) = true := rfl
       by_cases z6 : s3' = 0
       rotate_left
       ·have k2 : (s3' == 0) = false := beq_eq_false_iff_ne.mpr z6
        clear z6 c20_0 c20_1
        go_wp2_with fail
        go_roundg (4 - (i + 1))
        case measure => have := HK.out; have := HI.out; omega
        case rel => exact ⟨i + 1, by first | exact congrArg _ d5 | go_num, ⟨by have := HK.out; have := HI.out; omega⟩, ⟨below_step HBW.out HM63.out.below⟩⟩
       ·subst z6
        obtain ⟨e1, e2, e3⟩ := HZ.out rfl rfl
        subst e1 e2 e3
        have k2 : (s1' != s1') = false := bne_eq_false_iff_eq.mpr rfl
        go_wp2_with (first
         | ((with_reducible refine gate_dst (N := 144) rfl ?_); (try (refine gate_guard (by rfl) ?_; dsimp only)); refine ev_load (HM63.out.head) rfl 42 (.tmp 26) rfl rfl _ Try.underlying42 rfl size42_ rfl ?_)
         | ((with_reducible refine gate_dst (N := 145) rfl ?_); (try (refine gate_guard (by rfl) ?_; dsimp only)); refine ev_load (blk_below HB20.out HM63.out.below) rfl 42 (.tmp 20) rfl rfl _ Try.underlying42 rfl size42_ rfl ?_))
        go_roundg (4 - (i + 1))
        case measure => have := HK.out; have := HI.out; omega
        case rel => exact ⟨i + 1, by first | exact congrArg _ d5 | go_num, ⟨by have := HK.out; have := HI.out; omega⟩, ⟨below_step HBW.out HM63.out.below⟩⟩
     ·obtain rfl : i = 4 := by have := HK.out; omega
      have d1 : decide (((4 : Nat) : Int) < 4) = false := by simp
      go_wp2_with (first
       | (go_at_call 20; (with_reducible refine (thermionlaw01_awake.calls 10 true _ HAW.out).mono ?_); rintro e1 wE ⟨rfl, hb⟩; have HE := Aside0.mk (below_step HW1.out.below (below_step HBW.out hb)); clear hb))
      go_ret
      exact ⟨rfl, HE.out⟩
end Go.Proofs.Ytndkkjpgnmahbaa.Print
end

section
namespace Go.Proofs.YtndkkjpgnmahbaaW.PrintWords
open Go.ChangeShapes Go.WideShapes
end Go.Proofs.YtndkkjpgnmahbaaW.PrintWords
end
