/- Part 6 of the texts of a claim about Ytndkkjpgnmahbaa, put together by a program of this work: what the Go functions do, and that their calls do so. -/
import Derived.Test.YtndkkjpgnmahbaaFX5
import Derived.Test.YtndkkjpgnmahbaaFX4
import Derived.SizedLaws
import Derived.ChangeSlices
set_option linter.unusedVariables false
set_option linter.unusedSimpArgs false
set_option maxRecDepth 100000
set_option maxHeartbeats 64000000
section
namespace Go.Proofs.Ytndkkjpgnmahbaa.Print
open Go.RowKit YtndkkjpgnmahbaaW.PrintWords YtndkkjpgnmahbaaW.PrintLast YtndkkjpgnmahbaaW.PrintMore Ytndkkjpgnmahbaa.H Proofs.Field
attribute [local go_sem] max2_int min2_int max_two min_two max_three min_three max_four min_four
def exF.T8 : Bool × List (List Nat × List Nat) := (true, [([], []), ([0], [0]), ([], []), ([], []), ([3], [3]), ([1, 2, 0, 1, 2, 3, 4], [1, 2]), ([5, 4, 4, 0, 1, 2, 3, 4], [4, 5])])
def exF.B8 : List Nat := [0, 1, 0, 0, 8, 31, 63]
theorem exF.tab8 : rtab .any (opsOf Try.f5 8) = exF.T8 := by kernel_rfl
theorem exF.bits8 : waitsOk exF.T8.2 exF.B8 = true := by kernel_rfl
def exF.T16 : Bool × List (List Nat × List Nat) := (true, [([], []), ([], []), ([], []), ([2], [2]), ([0, 1, 3, 3], [0, 1, 3]), ([4], [4]), ([5], [5]), ([5], [5]), ([], []), ([8, 6, 4, 0, 1, 2, 3, 4, 5, 6, 8], [6, 8]), ([7, 9, 0, 1, 2, 3, 4, 5, 6, 7, 8, 9], [7])])
def exF.B16 : List Nat := [0, 0, 0, 4, 15, 31, 63, 63, 0, 383, 1023]
theorem exF.tab16 : rtab .any (opsOf Try.f5 16) = exF.T16 := by kernel_rfl
theorem exF.bits16 : waitsOk exF.T16.2 exF.B16 = true := by kernel_rfl
def exF.T27 : Bool × List (List Nat × List Nat) := (true, [([], []), ([], []), ([], []), ([1, 2], [1, 2]), ([3], [3]), ([], []), ([0, 4, 5], [0, 4, 5]), ([6, 6, 0, 1, 2, 3, 4, 5, 6], [6])])
def exF.B27 : List Nat := [0, 0, 0, 6, 14, 0, 63, 127]
theorem exF.tab27 : rtab .any (opsOf Try.f5 27) = exF.T27 := by kernel_rfl
theorem exF.bits27 : waitsOk exF.T27.2 exF.B27 = true := by kernel_rfl
def exF.T28 : Bool × List (List Nat × List Nat) := (true, [([], []), ([], []), ([0, 1], [0, 1]), ([2], [2]), ([], []), ([], []), ([], []), ([5, 6], [5, 6]), ([7], [7]), ([], []), ([8, 9], [8, 9]), ([10], [10]), ([], []), ([11, 12], [11, 12]), ([3, 4, 0, 1, 2, 3, 4, 5, 6, 7, 8, 9, 10, 11, 12, 13], [3, 4]), ([14, 13, 0, 1, 2, 3, 4, 5, 6, 7, 8, 9, 10, 11, 12, 13], [13, 14])])
def exF.B28 : List Nat := [0, 0, 3, 7, 0, 0, 0, 96, 224, 0, 992, 2016, 0, 8160, 16383, 32767]
theorem exF.tab28 : rtab .any (opsOf Try.f5 28) = exF.T28 := by kernel_rfl
theorem exF.bits28 : waitsOk exF.T28.2 exF.B28 = true := by kernel_rfl
def exF.T30 : Bool × List (List Nat × List Nat) := (true, [([], []), ([], []), ([], []), ([], []), ([2, 3], [2, 3]), ([4], [4]), ([], []), ([], []), ([], []), ([8], [8]), ([], []), ([9, 10], [9, 10]), ([11], [11]), ([12], [12]), ([7, 13], [7, 13]), ([14], [14]), ([6, 15], [6, 15]), ([5, 16], [5, 16]), ([0, 1, 0, 1, 2, 3, 4, 5, 6, 7, 8, 9, 10, 11, 12, 13, 14, 15, 16, 17], [0, 1]), ([18, 17, 0, 1, 2, 3, 4, 5, 6, 7, 8, 9, 10, 11, 12, 13, 14, 15, 16, 17], [17, 18])])
def exF.B30 : List Nat := [0, 0, 0, 0, 12, 28, 0, 0, 0, 256, 0, 1792, 3840, 7936, 16256, 32640, 65472, 131068, 262143, 524287]
theorem exF.tab30 : rtab .any (opsOf Try.f5 30) = exF.T30 := by kernel_rfl
theorem exF.bits30 : waitsOk exF.T30.2 exF.B30 = true := by kernel_rfl
def exF.T35 : Bool × List (List Nat × List Nat) := (true, [([], []), ([], []), ([0, 1], [0, 1]), ([2], [2]), ([], []), ([], []), ([], []), ([], []), ([6, 7], [6, 7]), ([8], [8]), ([], []), ([], []), ([10, 11], [10, 11]), ([12], [12]), ([5, 9, 13], [5, 9, 13]), ([14], [14]), ([3, 4, 0, 1, 2, 3, 4, 5, 6, 7, 8, 9, 10, 11, 12, 13, 14, 15], [3, 4]), ([16, 15, 14, 0, 1, 2, 3, 4, 5, 6, 7, 8, 9, 10, 11, 12, 13, 14, 15], [15, 16])])
def exF.B35 : List Nat := [0, 0, 3, 7, 0, 0, 0, 0, 192, 448, 0, 0, 3072, 7168, 16352, 32736, 65535, 131071]
theorem exF.tab35 : rtab .any (opsOf Try.f5 35) = exF.T35 := by kernel_rfl
theorem exF.bits35 : waitsOk exF.T35.2 exF.B35 = true := by kernel_rfl
theorem cells5 {a b c d e : Prop} (h1 : a ∧ b ∧ c ∧ d) (h2 : e) : a ∧ b ∧ c ∧ d ∧ e := ⟨h1.1, h1.2.1, h1.2.2.1, h1.2.2.2, h2⟩
theorem addr_at (g j : Nat) : (⟨g, 0, none⟩ : Addr).add j = ⟨g, j, none⟩ := by unfold Addr.add; split <;> simp_all
theorem acc_fit {k : Nat} {B P x u : Int} (hk : k ≤ 3) (hB : -100000 ≤ B ∧ B ≤ 100000) (hP : -(6 * 1000) ≤ P ∧ P ≤ 6 * 1000) (he : x * u = P) : IntKind.i64.wrap ((k : Int) + 1 - 1) = (k : Int) ∧ IntKind.i64.wrap (x * u) = P ∧ IntKind.i64.wrap (B + P) = B + P ∧ wrap64 (k : Int) = (k : Int) := by
 rw [he]
 refine ⟨?_, IntWalk.i64_in _ (by omega), IntWalk.i64_in _ (by omega), IntWalk.wrap64_in _ (by omega)⟩
 rw [IntWalk.i64_in _ (by omega)]; omega
theorem cell_drew {W : World} {p : Addr} {v : Value} (h : W.cell? p = some v) : W.drew.cell? p = some v := h
section
variable {w W : World} {ga m i q c gb : Nat} {gs cap : Nat → Nat} {Wd Hd : Nat} {R : Bool} {zs : List Nat} {S x : Int} {b r : List Int} {k : Nat}
theorem last_row : row (doneM Wd Hd R zs i ++ [r]) i = r := by
 have h := row_snoc (M := doneM Wd Hd R zs i) (r := r)
 rw [doneM_length] at h
 exact h
theorem row_cells (h : AB w W ga m (i + 1) m gs cap (doneM Wd Hd R zs i ++ [rowF Wd Hd R zs i q 0]) gb b) (hi : i < m) (hm : zs.length = m) (hc : zs.getD i 0 = c) (hS : sumTo (fun p => netM Wd Hd R c p) q = S) :
  W.cell? ⟨ga, i, none⟩ = some (.slice (some ⟨gs i, 0, none⟩) m (cap i)) ∧ W.cell? ⟨gs i, i, none⟩ = some (.int .i64 S) := by
 refine ⟨h.tbl.head (Nat.lt_succ_self i), ?_⟩
 have h1 := h.tbl.cell (Nat.lt_succ_self i) hi
 rw [last_row, fn_rowF (by omega), if_pos rfl, hc, hS] at h1
 exact h1
theorem last_set : (doneM Wd Hd R zs i ++ [r]).set i (r.set k x) = doneM Wd Hd R zs i ++ [r.set k x] := by
 rw [List.set_append_right _ _ (by rw [doneM_length]; exact Nat.le_refl _), doneM_length, Nat.sub_self]
 rfl
theorem row_add (h : AB w W ga m (i + 1) m gs cap ((doneM Wd Hd R zs i ++ [rowF Wd Hd R zs i q 0]).set i ((row (doneM Wd Hd R zs i ++ [rowF Wd Hd R zs i q 0]) i).set i (S + x))) gb b) (hi : i < m) (hm : zs.length = m) (hc : zs.getD i 0 = c) (hS : sumTo (fun p => netM Wd Hd R c p) q = S) (hx : netM Wd Hd R c q = x) :
  AB w W ga m (i + 1) m gs cap (doneM Wd Hd R zs i ++ [rowF Wd Hd R zs i (q + 1) 0]) gb b := by
 rw [last_row, last_set, ← hS, ← hx, ← hc, rowF_add (by omega)] at h
 exact h
theorem row_neg {c2 : Nat} {y : Int} (h : AB w W ga m (i + 1) m gs cap ((doneM Wd Hd R zs i ++ [rowF Wd Hd R zs i q k]).set i ((row (doneM Wd Hd R zs i ++ [rowF Wd Hd R zs i q k]) i).set k (-y))) gb b) (hk : k < m) (hm : zs.length = m) (hc : zs.getD i 0 = c) (hc2 : zs.getD k 0 = c2) (hy : netM Wd Hd R c c2 = y) (hne : k ≠ i) :
  AB w W ga m (i + 1) m gs cap (doneM Wd Hd R zs i ++ [rowF Wd Hd R zs i q (k + 1)]) gb b := by
 rw [last_row, last_set, ← hy, ← hc, ← hc2, rowF_neg (by omega) hne] at h
 exact h
end
theorem rowF_pass2 {W H : Nat} {R : Bool} {s : List Nat} {i q k : Nat} (h : k = i) : rowF W H R s i q k = rowF W H R s i q (k + 1) := by
 subst h; exact rowF_pass
theorem neg_fit {y : Int} (h0 : 0 ≤ y) (h1 : y ≤ 6) : IntKind.i64.wrap (-y) = -y ∧ wrap64 (-y) = -y := ⟨IntWalk.i64_in _ (by omega), IntWalk.wrap64_in _ (by omega)⟩
theorem last_fit {x1 x2 U l : Int} (h : -400000000000 ≤ U ∧ U ≤ 400000000000 ∧ x1 * l ≤ U ∧ U ≤ x2 * l ∧ (-1000000 ≤ x1 ∧ x1 ≤ 1000000) ∧ (-1000000 ≤ x2 ∧ x2 ≤ 1000000)) (hl : 1 ≤ l ∧ l ≤ 1000000) :
  ∃ X1 X2, IntKind.i64.wrap (x1 * l) = X1 ∧ IntKind.i64.wrap (x2 * l) = X2 ∧ decide (X1 > U) = false ∧ decide (X2 < U) = false := by
 have h1 := mul_abs (x := x1) (y := l) (X := 1000000) (Y := 1000000) h.2.2.2.2.1 (by omega)
 have h2 := mul_abs (x := x2) (y := l) (X := 1000000) (Y := 1000000) h.2.2.2.2.2 (by omega)
 refine ⟨x1 * l, x2 * l, IntWalk.i64_in _ (by omega), IntWalk.i64_in _ (by omega), decide_eq_false (by omega), decide_eq_false (by omega)⟩
theorem cells7 {a b c d e f g : Prop} (h0 : a) (h1 : b ∧ c ∧ d ∧ e) (h2 : f) (h3 : g) : a ∧ b ∧ c ∧ d ∧ e ∧ f ∧ g := ⟨h0, h1.1, h1.2.1, h1.2.2.1, h1.2.2.2, h2, h3⟩
theorem lt_of_get {cu : Array Value} {i : Nat} {v : Value} (h : cu[i]? = some v) : i < cu.size := (Array.getElem?_eq_some_iff.1 h).1
theorem exact_calls (A0 : Option Addr) (c0 : Nat) (l0 : List Int) (a1 : Int) (w : World) (hr0 : Kd.C (Kd.int .i64) w A0 l0.length l0) (hc0 : l0.length ≤ c0) :
  Calls Try.prog 5 #[.slice A0 l0.length c0, .int .i64 a1] w fun e w' => e = .returned (.bool true) ∧ Below w.heap.size w w' := by
 obtain ⟨s0, hs0⟩ : ∃ s, thermionkit_NewDice.f l0 = some s := ⟨_, rfl⟩
 obtain ⟨W, H, R, C, s1, hpl, hW1, hW3, hH1, hH3, hlen, hsm, hrng, hck⟩ := dealt_plan s0 3 3 (by omega) (by omega)
 obtain ⟨n, hn, hn'⟩ := mod_eq a1 31 (by omega) (by omega)
 have hpos : 0 < C.length := by rw [hlen]; exact Nat.mul_pos hW1 hH1
 have HWH : Aside0 (1 ≤ W ∧ W ≤ 3 ∧ 1 ≤ H ∧ H ≤ 3) := ⟨by omega⟩
 have HLEN := Aside0.mk hlen
 have HCK := Aside0.mk hck
 have HPL := Aside0.mk hpl
 have HPOS := Aside0.mk hpos
 have HSM : Aside0 (C.length ≤ 9) := ⟨by have := Nat.mul_le_mul (show W ≤ 3 by omega) (show H ≤ 3 by omega); omega⟩
 have HND := Aside0.mk hs0
 have HMD := Aside0.mk hn
 have HNL := Aside0.mk hn'
 have HTH := Aside0.mk (Thin.start hrng)
 have HAW := Aside0.mk awake_true
 have HR0 := Aside0.mk hr0
 have HC0 := Aside0.mk hc0
 have HM := Aside0.mk (Mem.start w)
 have hu24 := Try.underlying24
 have hu33 := Try.underlying33
 have hu22 := Try.underlying22
 have hu46 := Try.underlying46
 clear hr0 hc0 hs0 hpl hW1 hW3 hH1 hH3 hlen hsm hrng hck hn hn' hpos
 go_enter Try.func5, Try.ntmps5
 go_upto_region 4 with (first
   | (go_at_call 21; refine (thermionkit_NewDice.calls A0 c0 l0 s0 w w (Below.refl _ _) HR0.out HC0.out HND.out).mono ?_; rintro e1 w1 ⟨g, rfl, hI, hB, hb⟩; have HMa := Aside0.mk (HM.out.add hb hI.1 hI.2); clear hI hB hb HND HM)
   | (go_at_call 22; refine (thermionkit_PlanOf.calls g s0 3 3 W H R C s1 w _ (dice_is HMa.out) HMa.out.below HPL.out).mono ?_; rintro e1 w2 ⟨vp, rfl, hR, hI, hB, hK⟩; obtain ⟨gC, cC, cuC, rfl, hcC, hnC, hm1⟩ := dice_row HMa.out hK hB hI hR HPOS.out; have HNC := Aside0.mk (And.intro hnC hcC); have HMb := Aside0.mk hm1; clear hR hI hB hK hcC hnC hm1 HMa HPL)
   | ((with_reducible refine gate_dst (N := 6) rfl ?_); refine ev_new HMb.out rfl 24 rfl info24 ?_; intro g6 w3 hm1 hq1; have HMc := Aside0.mk hm1; clear hm1 hq1 HMb)
   | ((with_reducible refine gate_store (t := 24) (p := 6) rfl ?_); refine ev_store HMc.out rfl 24 (.tmp 6) (.tmp 25) rfl rfl (cs := (planV W H R (some ⟨gC, 0, none⟩) C.length cC)) rfl size24 rfl rfl (by simp [Value.oneCell']) ?_; intro w4 hm1 hq1; have HMd := Aside0.mk hm1; clear hm1 hq1 HMc))
 go_cut [5, 6, 7, 8] (fun v5 v6 v7 v8 wc => v5 = .pointer (some ⟨g, 0, none⟩) ∧ v6 = .pointer (some ⟨g6, 0, none⟩) ∧ v7 = .slice none 0 0 ∧ v8 = .int .i64 0 ∧ Aside0 (E0 w wc g s1 g6 (planV W H R (some ⟨gC, 0, none⟩) C.length cC) gC cuC (.slice none 0 0) []))
 case first => as_aux_lemma =>
  go_wp2_with fail
  go_meet
  case rel => exact ⟨rfl, rfl, rfl, rfl, ⟨⟨HMd.out.swap.third3, Kd.R_nil _ _ _ _ _⟩⟩⟩
 case rest =>
 obtain ⟨rfl, rfl, rfl, rfl, HE0⟩ := hcut
 clear HMd
 go_wp2_with fail
 go_loopg [7, 8] C.length (fun d v7 v8 w' => ∃ (i : Nat) (vA : Value) (s : Int) (cu : Array Value) (cur : List Int), v7 = vA ∧ v8 = .int .i64 (i : Int) ∧ Aside0 (i + d = C.length) ∧ Aside0 (Thin C cur i) ∧ Aside0 (IsNums cu cur) ∧ Aside0 (E0 w w' g s g6 (planV W H R (some ⟨gC, 0, none⟩) C.length cC) gC cu vA (ints (zerosTo cur i))))
 case atStart => exact ⟨0, _, s1, cuC, C, rfl, rfl, ⟨Nat.zero_add _⟩, HTH, ⟨HNC.out.1⟩, HE0⟩
 case round => as_aux_lemma =>
  clear HE0 HTH
  obtain ⟨i, vA, s, cu, cur, rfl, rfl, HK, HT, HCN, HE⟩ := hrel
  have q3 : wr.cell? ⟨g6, 3, none⟩ = some (.slice (some ⟨gC, 0, none⟩) C.length cC) := (plan_cells HE.out.m.third).2.2.2
  by_cases hi : i < C.length
  ·have HI := Aside0.mk hi
   have d1 : decide ((i : Int) < (C.length : Int)) = true := decide_eq_true (by omega)
   have d2 := decide_eq_true hi
   have d3 : (0 : Int) ≤ (i : Int) := by omega
   have d4 : (i : Int) < (C.length : Int) := by omega
   have d5 : wrap64 ((i : Int) + 1) = ((i + 1 : Nat) : Int) := by rw [IntWalk.wrap64_in _ (by have := HSM.out; omega)]; omega
   have qi : wr.cell? ⟨gC, i, none⟩ = some (.int .i64 (fn cur i)) := (blk_cell HE.out.m.second i).trans (HCN.out.2 i (by rw [HT.out.len]; exact hi))
   obtain ⟨A, c, eA⟩ := Kd.R_slice HE.out.at_
   subst eA
   obtain ⟨m, hm⟩ : ∃ m, (ints (zerosTo cur i)).length = m := ⟨_, rfl⟩
   have HML := Aside0.mk hm
   rw [hm] at HE ⊢
   have hm2 : (zerosTo cur i).length = m := by rw [← hm, ints_length]
   have HM4 : Aside0 (m ≤ 4) := ⟨by rw [← hm2]; exact HT.out.few⟩
   obtain ⟨z, hz⟩ : ∃ z, fn cur i = z := ⟨_, rfl⟩
   have HCU : Aside0 (cu[i]? = some (.int .i64 z)) := ⟨by rw [← hz]; exact HCN.out.2 i (by rw [HT.out.len]; exact hi)⟩
   rw [hz] at qi
   by_cases hz0 : z = 0
   ·subst hz0
    have e1 : ((0 : Int) == 0) = true := rfl
    by_cases h4 : m = 4
    ·subst h4
     obtain ⟨x, hx, hx1, hx3⟩ := between_eq s 1 3 (by omega) (by omega) (by omega)
     have HBT := Aside0.mk hx
     have HP := Aside0.mk (HT.out.put hi hz hx1 hx3)
     have HX : Aside0 (1 ≤ x) := ⟨hx1⟩
     clear hi hz hm hm2 hx hx1 hx3
     go_upto_region 8 with fail
     have HQ := Aside0.mk (HE.out.step (below_drew1 (Below.refl wr.heap.size wr)))
     clear HE q3 qi
     refine start_ (n := 7) (S := fun w' => w'.cell? ⟨g6, 3, none⟩ = some (.slice (some ⟨gC, 0, none⟩) C.length cC)) (ds := [6]) (bS 7 0) (by kernel_rfl) rfl rfl ((plan_cells HQ.out.m.third).2.2.2) (fun hHeld => ?_); refine with_tabW exF.tab8 exF.bits8 (fun HT_ HW_ => ?_)
     refine pu_ 0 44 (bS 7 1) HT_ ?_
     refine pu_ 2 46 (bS 7 5) HT_ ?_
     refine pu_ 3 47 (bS 7 13) HT_ ?_
     refine ta_ 1 45 (bS 7 15) HT_ HW_ hHeld ?_
     refine on_ 4 48 (bS 7 31) (fun K hK => ?_) (one_of HT_.out (by kernel_rfl))
     refine goes_ Try.func32 (by kernel_rfl) rfl #[.pointer (some ⟨g, 0, none⟩), .int .i64 1, .int .i64 3] (by rfl) rfl rfl aA ?_
     with_reducible refine (thermionkit_Dice_Between.calls g s 1 3 x (nextWord s) w _ (dice_is HQ.out.m) HQ.out.m.below HBT.out).mono ?_
     rintro e1 wq ⟨rfl, hI, hB, hK⟩
     have HQ2 := Aside0.mk (HQ.out.dice hK hB hI)
     clear hI hB hK HQ
     have HQ := HQ2
     clear HQ2
     refine ⟨_, rfl, ?_⟩
     refine hK.out _ _ ((plan_cells HQ.out.m.third).2.2.2) (fun hHeld => ?_)
     clear hK K
     refine nm_ ?_
     refine pu_ 5 49 (bS 7 63) HT_ ?_
     refine la_ 6 (bS 7 127) (fun K hK => ?_) (one_of HT_.out (by kernel_rfl))
     have cX := (blk_cell HQ.out.m.second i).trans HCU.out
     have fX := blk_frozen HQ.out.m.second i
     go_simp
     refine hK.out _ _ ?_
     clear hK K
     refine done_ (done_of HT_.out (by kernel_rfl)) ?_
     clear hHeld HT_ HW_ cX fX
     have HQ2 := Aside0.mk (HQ.out.put i x)
     generalize wq.setCell _ _ = wz at HQ2 ⊢
     clear HQ
     have q3 : wz.cell? ⟨g6, 3, none⟩ = some (.slice (some ⟨gC, 0, none⟩) C.length cC) := (plan_cells HQ2.out.m.third).2.2.2
     have qi : wz.cell? ⟨gC, i, none⟩ = some (.int .i64 x) := (blk_cell HQ2.out.m.second i).trans (Array.getElem?_setIfInBounds_self_of_lt (lt_of_get HCU.out))
     have e2 : (x == 0) = false := beq_eq_false_iff_ne.mpr (by have := HX.out; omega)
     go_wp2_with fail
     go_roundg (C.length - (i + 1))
     case measure => have := HI.out; have := HK.out; omega
     case rel => exact ⟨i + 1, _, _, _, cur.set i x, rfl, by first | exact congrArg _ d5 | go_num, ⟨by have := HK.out; have := HI.out; omega⟩, ⟨HP.out.1⟩, ⟨HCN.out.set i x⟩, ⟨by rw [HP.out.2]; exact HQ2.out⟩⟩
    ·have e2 : ((m : Int) == 4) = false := beq_eq_false_iff_ne.mpr (by omega)
     have e3 : (m == 4) = false := beq_eq_false_iff_ne.mpr h4
     have e4 : decide ((m : Int) = 4) = false := decide_eq_false (by omega)
     have e5 := decide_eq_false h4
     have HP := Aside0.mk (HT.out.more hi hz (by rw [hm2]; exact h4))
     have HZ : Aside0 (ints (zerosTo cur (i + 1)) = ints (zerosTo cur i) ++ [(i : Int)]) := ⟨by rw [zerosTo_succ, if_pos hz, ints_snoc]⟩
     clear hi hz hm hm2 h4
     go_wp2_with (first
      | ((with_reducible refine gate_builtin (b := .append) (xs := #[.tmp 56, .tmp 58]) rfl ?_); at_builtin; refine Kd.R_append (Kd.int .i64) w.heap.size rfl (.tmp 56) (.tmp 58) 22 3 (.int .i64 0) 8 rfl Try.underlying22 info3 rfl (by decide) (by omega) (.slice A m c) (ints (zerosTo cur i)) (i : Int) [.int .i64 (i : Int)] (fun k => k ≠ gC ∧ k ≠ g) (fun _ => False) rfl rfl rfl (fun _ hk => hk.elim) HE.out.fresh HE.out.at_ HE.out.m.below HE.out.m.below.size (by rw [HML.out]; have := HM4.out; omega) ?_; intro v1 wy ho hb hg hat; have HE2 := Aside0.mk (HE.out.app ho hg); clear HE ho hb hg hat))
     go_roundg (C.length - (i + 1))
     case measure => have := HI.out; have := HK.out; omega
     case rel => exact ⟨i + 1, _, _, _, cur, rfl, by first | exact congrArg _ d5 | go_num, ⟨by have := HK.out; have := HI.out; omega⟩, HP, HCN, ⟨by rw [HZ.out]; exact HE2.out⟩⟩
   ·have e1 : (z == 0) = false := beq_eq_false_iff_ne.mpr hz0
    have HP := Aside0.mk (HT.out.pass hi (by rw [hz]; exact hz0))
    have HZ : Aside0 (zerosTo cur (i + 1) = zerosTo cur i) := ⟨by rw [zerosTo_succ, if_neg (by rw [hz]; exact hz0)]⟩
    clear hi hz hm hm2
    go_wp2_with fail
    go_roundg (C.length - (i + 1))
    case measure => have := HI.out; have := HK.out; omega
    case rel => exact ⟨i + 1, _, _, _, cur, rfl, by first | exact congrArg _ d5 | go_num, ⟨by have := HK.out; have := HI.out; omega⟩, HP, HCN, ⟨by rw [HZ.out]; exact HE.out⟩⟩
  ·have hiN : i = W * H := by have := HK.out; have := HLEN.out; omega
   have d1 : decide ((i : Int) < (C.length : Int)) = false := decide_eq_false (by have := HLEN.out; omega)
   have d2 : decide (i < C.length) = false := decide_eq_false (by have := HLEN.out; omega)
   have hcl := HT.out.len
   have hck := Thin.check (by have h := HT.out; rw [hiN, ← HLEN.out] at h; exact h) HCK.out
   rw [hiN] at HE
   have HT2 := HT.out.few
   rw [hiN] at HT2
   obtain ⟨kv, v, s2, hkv, hverr, hvl⟩ := volts_fine (s := s) hck HT.out.mem (by rw [hcl]; have := HSM.out; omega)
   have hz4 := HT2
   clear hiN HT2
   obtain ⟨l, M', hfit, hrun, hl1, hl2, hbd⟩ := exact_facts HWH.out.2.1 HWH.out.2.2.2 (less_err hverr) (fun x hx => lessOf_mem hx) hz4 n
   have hsol := solve_eq (less_err hverr) (show n ≤ 200 by have := HNL.out; omega)
   obtain ⟨W', H', eW, eH, _, _, _, _, hV⟩ := volted_of (less_err hverr)
   obtain rfl : W = W' := by omega
   obtain rfl : H = H' := by omega
   have hbl := bounds_len hV (by rw [hcl]; have := HSM.out; omega) n
   generalize (solveN W H R cur (lessOf v) 256 n).1.take cur.length = lo at hbd hsol hbl
   generalize (solveN W H R cur (lessOf v) 256 n).2.1.take cur.length = hi_ at hbd hsol hbl
   generalize ((solveN W H R cur (lessOf v) 256 n).2.2.1 : Int) = swp at hsol
   generalize (solveN W H R cur (lessOf v) 256 n).2.2.2 = st at hsol
   obtain ⟨KW, hKW⟩ := weights_all hck (by rw [hcl]; exact HLEN.out)
   have hvel := hV.vlen
   have helr := hV.elr
   rw [lessOf_length] at hvel
   have hvp : 0 < v.length := by
    obtain ⟨e, he, hne⟩ := (check_parts hck).2.2.2.2.2.2.1
    obtain ⟨j, hj, rfl⟩ := mem_fn he
    have h1 := hvel j hj
    have h2 := helr j hj
    omega
   obtain ⟨A, cA, lA, eA, hm, hcA, hAT⟩ := HE.out.done
   subst eA
   rw [ints_length] at hcA
   have HCUR := Aside0.mk (show cur.length = W * H by rw [hcl]; exact HLEN.out)
   have hcC : cur.length ≤ cC := by rw [hcl]; exact HNC.out.2
   rw [← hcl] at hm
   have HMe := Aside0.mk hm
   have HVO := Aside0.mk (hkv kv (Nat.le_refl _))
   have HVP := Aside0.mk hvp
   have HVL := Aside0.mk hvl
   have HCC := Aside0.mk hcC
   have HKW := Aside0.mk hKW
   have HBL := Aside0.mk hbl
   have HSOL := Aside0.mk hsol
   have HEL := Aside0.mk (And.intro hvel helr)
   have HCP : Aside0 (0 < cur.length) := ⟨by rw [hcl]; exact HPOS.out⟩
   have HFR := Aside0.mk (And.intro hfit hrun)
   have HL := Aside0.mk (And.intro hl1 hl2)
   have HBD := Aside0.mk hbd
   have HZ4 := Aside0.mk hz4
   have HAT := Aside0.mk hAT
   have HCA := Aside0.mk hcA
   have HC9 : Aside0 (cur.length ≤ 9) := ⟨by rw [hcl]; exact HSM.out⟩
   clear hck hkv hverr hvl hz4 hfit hrun hl1 hl2 hbd hsol hbl hKW hvel helr hvp hm hcC hAT hcA HE hi HT HNC HPOS HLEN HCK HK hV eW eH HNL hcl
   rw [ints_length]
   have HZL : Aside0 (∀ k, k < (zerosTo cur (W * H)).length → (zerosTo cur (W * H)).getD k 0 < W * H) := ⟨fun k hk => (zeros_lt hk).1⟩
   generalize zerosTo cur (W * H) = zs at HFR HBD HZ4 HAT HCA HZL ⊢
   go_upto_region 12 with (first
    | ((with_reducible refine gate_dst (N := 61) rfl ?_); refine ev_load HMe.out.third rfl 24 (.tmp 6) rfl rfl _ Try.underlying24 rfl size24 rfl ?_)
    | (go_at_call 23; refine (thermionkit_VoltsOf.calls kv g s W H R (some ⟨gC, 0, none⟩) cC cur v s2 w _ (dice_is HMe.out) HMe.out.below (C_mem HMe.out.second HCN.out) HCC.out (fun ad e _ => by cases e; exact (HMe.out.ne (gC, cu, 3) (by simp)).symm) HVO.out).mono ?_; rintro e1 wv ⟨vv, rfl, hR, hI, hB, hK⟩; obtain ⟨gv, cv, cuv, rfl, hcv, hnv, hm1⟩ := dice_row HMe.out hK hB hI hR HVP.out; have HNV := Aside0.mk hnv; have HCV := Aside0.mk hcv; have HMf := Aside0.mk hm1; clear hR hI hB hK hcv hnv hm1 HMe HVO))
   have HNV2 : Aside0 (IsNums cuv (lessTo v 0)) := ⟨by rw [lessTo_zero]; exact HNV.out⟩
   clear HNV d1 d2 q3
   go_wp2_with fail
   go_loopg [10] v.length (fun d v10 w' => ∃ (i : Nat) (cu2 : Array Value), v10 = .int .i64 (i : Int) ∧ Aside0 (i + d = v.length) ∧ Aside0 (IsNums cu2 (lessTo v i)) ∧ Aside0 (Mem w w' ((gv, cu2, 3) :: (g, #[.int .u64 s2], 79) :: (gC, cu, 3) :: (g6, planV W H R (some ⟨gC, 0, none⟩) cur.length cC, 24) :: lA)))
   case atStart => exact ⟨0, cuv, rfl, ⟨Nat.zero_add _⟩, HNV2, HMf⟩
   case round => as_aux_lemma =>
    clear HNV2 HMf
    obtain ⟨i, cu2, rfl, HK, HN2, HM2⟩ := hrel
    by_cases hi : i < v.length
    ·have HI := Aside0.mk hi
     have d1 : decide ((i : Int) < (v.length : Int)) = true := decide_eq_true (by omega)
     have d2 := decide_eq_true hi
     have d3 : (0 : Int) ≤ (i : Int) := by omega
     have d4 : (i : Int) < (v.length : Int) := by omega
     have d5 : wrap64 ((i : Int) + 1) = ((i + 1 : Nat) : Int) := by rw [IntWalk.wrap64_in _ (by have := HVL.out; omega)]; omega
     have c1 : wr.cell? ⟨gv, i, none⟩ = some (.int .i64 (fn v i)) := (blk_cell HM2.out.head i).trans ((HN2.out.2 i (by rw [lessTo_length]; exact hi)).trans (by rw [fn_lessTo v hi, if_neg (by omega)]))
     have c2 := blk_frozen HM2.out.head i
     obtain ⟨x, hx⟩ : ∃ x, fn v i = x := ⟨_, rfl⟩
     rw [hx] at c1
     have n1 := tmod_1001 x
     have HX := Aside0.mk hx
     clear hi hx
     go_wp2_with fail
     clear c1 c2 n1
     go_roundg (v.length - (i + 1))
     case measure => have := HI.out; have := HK.out; omega
     case rel => exact ⟨i + 1, _, by first | exact congrArg _ d5 | go_num, ⟨by have := HK.out; have := HI.out; omega⟩, ⟨by have h := HN2.out.set i (Int.tmod (fn v i) 1001); rw [lessTo_step HI.out, HX.out] at h; exact h⟩, ⟨HM2.out.put i (.int .i64 (Int.tmod x 1001)) rfl⟩⟩
    ·obtain rfl : v.length = i := by have := HK.out; omega
     have d1 : decide ((v.length : Int) < (v.length : Int)) = false := by simp
     have d2 : decide (v.length < v.length) = false := by simp
     have HNV : Aside0 (IsNums cu2 (lessOf v)) := ⟨by rw [← lessTo_full]; exact HN2.out⟩
     clear hi HN2 HK
     go_upto_region 16 with fail
     go_cut [11, 12] (fun v11 v12 wc => ∃ g11 gl cl gh ch : Nat, v11 = .pointer (some ⟨g11, 0, none⟩) ∧ v12 = .int .i64 0 ∧ Aside0 (Below w.heap.size w wc) ∧ Aside0 (EXB wc g6 W H R gC cC cur g11 gl cl gh ch swp st lo hi_ A cA (ints zs) gv cv (lessOf v)))
     case first => as_aux_lemma =>
      have HQ := Aside0.mk HM2.out.drew
      have HLV : Aside0 ((lessOf v).length = v.length) := ⟨lessOf_length v⟩
      clear HM2 d1 d2
      refine start_ (n := 11) (S := fun w' => w'.cell? ⟨g6, 0, none⟩ = some (.int .i64 (W : Int)) ∧ w'.cell? ⟨g6, 1, none⟩ = some (.int .i64 (H : Int)) ∧ w'.cell? ⟨g6, 2, none⟩ = some (.bool R) ∧ w'.cell? ⟨g6, 3, none⟩ = some (.slice (some ⟨gC, 0, none⟩) cur.length cC)) (ds := [9]) (bS 11 0) (by kernel_rfl) rfl rfl (plan_cells (HQ.out.blk (g6, planV W H R (some ⟨gC, 0, none⟩) cur.length cC, 24) (by simp))) (fun hHeld => ?_); refine with_tabW exF.tab16 exF.bits16 (fun HT_ HW_ => ?_)
      refine pu_ 1 79 (bS 11 2) HT_ ?_
      refine pu_ 2 80 (bS 11 6) HT_ ?_
      refine ta_ 0 78 (bS 11 7) HT_ HW_ hHeld ?_
      refine two_ (i := 3) (j := 8) (Ni := some 81) (Nj := some 11) (bS 11 15) (bS 11 263) rfl rfl rfl rfl (two_of HT_.out (by kernel_rfl)) (by decide) (by decide) (fun K hK => ?_) (fun K hK => ?_)
      ·refine goes_ Try.func28 (by kernel_rfl) rfl #[.int .i64 a1, .int .i64 31] (by rfl) rfl rfl aA ?_
       with_reducible refine (thermionkit_Mod.calls a1 31 n _ HMD.out).mono ?_
       rintro e1 wq ⟨rfl, hb⟩
       have HQ2 := Aside0.mk (HQ.out.step hb.below)
       clear HQ
       have HQ := HQ2
       clear HQ2 hb
       refine ⟨_, rfl, ?_⟩
       refine hK.out _ _ (plan_cells (HQ.out.blk (g6, planV W H R (some ⟨gC, 0, none⟩) cur.length cC, 24) (by simp))) (fun hHeld => ?_)
       clear hK K
       refine nm_ ?_
       refine two_ (i := 4) (j := 8) (Ni := some 82) (Nj := some 11) (bS 11 31) (bS 11 271) rfl rfl rfl rfl (two_of HT_.out (by kernel_rfl)) (by decide) (by decide) (fun K hK => ?_) (fun K hK => ?_)
       ·refine goes_ Try.func25 (by kernel_rfl) rfl #[.agg (planV W H R (some ⟨gC, 0, none⟩) cur.length cC), .slice (some ⟨gv, 0, none⟩) v.length cv, .int .i64 (n : Int)] (by rfl) rfl rfl aA ?_
        with_reducible refine (solve_at W H R (some ⟨gC, 0, none⟩) cC cur (some ⟨gv, 0, none⟩) cv v.length (lessOf v) n lo hi_ swp st _ (C_mem (HQ.out.blk (gC, cu, 3) (by simp)) HCN.out) HCC.out HLV.out (C_mem (HQ.out.blk (gv, cu2, 3) (by simp)) HNV.out) HCV.out HSOL.out).mono ?_
        rintro e1 wq ⟨vl, vh, rfl, hR1, hR2, hb⟩
        obtain ⟨gl, cl, cul, gh, ch, cuh, rfl, rfl, hcl, hch, hnl, hnh, hm1⟩ := two_mem HQ.out hb hR1 hR2 (by rw [HBL.out.1]; exact HCP.out) (by rw [HBL.out.2]; exact HCP.out)
        have HLH := Aside0.mk (And.intro hnl hnh)
        clear HQ
        have HQ := Aside0.mk hm1
        clear hR1 hR2 hb hcl hch hnl hnh hm1
        rw [HBL.out.1, HBL.out.2]
        refine ⟨_, rfl, ?_⟩
        refine hK.out _ _ (plan_cells (HQ.out.blk (g6, planV W H R (some ⟨gC, 0, none⟩) cur.length cC, 24) (by simp))) (fun hHeld => ?_)
        clear hK K
        refine nm_ ?_
        refine pu_ 5 77 (bS 11 63) HT_ ?_
        refine pu_ 6 83 (bS 11 127) HT_ ?_
        refine pu_ 7 84 (bS 11 255) HT_ ?_
        refine on_ 8 11 (bS 11 511) (fun K hK => ?_) (one_of HT_.out (by kernel_rfl))
        refine new_step HQ.out (by rfl) rfl 33 rfl info33 (fun g11 wq hm1 => ?_)
        clear HQ
        have HQ := Aside0.mk hm1
        clear hm1
        refine hK.out _ _ (plan_cells (HQ.out.blk (g6, planV W H R (some ⟨gC, 0, none⟩) cur.length cC, 24) (by simp))) (fun hHeld => ?_)
        clear hK K
        refine nm_ ?_
        refine la_ 9 (bS 11 1023) (fun K hK => ?_) (one_of HT_.out (by kernel_rfl))
        refine store_step (HQ.out) (by rfl) rfl 33 (.tmp 11) (.tmp 83) rfl rfl rfl (cs := #[.slice (some ⟨gl, 0, none⟩) cur.length cl, .slice (some ⟨gh, 0, none⟩) cur.length ch, .int .i64 swp, .bool st]) size33 rfl rfl (by simp [Value.oneCell']) (fun wq hm1 => ?_)
        clear HQ
        have HQ := Aside0.mk hm1
        clear hm1
        refine hK.out _ _ ?_
        clear hK K
        refine nm0_ ?_
        refine pu_ 10 12 (bS 11 2047) HT_ ?_
        refine done_ (done_of HT_.out (by kernel_rfl)) ?_
        clear hHeld HT_ HW_
        go_wp2
        go_meet
        case rel => exact ⟨g11, gl, cl, gh, ch, rfl, rfl, ⟨HQ.out.below⟩, ⟨⟨HQ.out.blk (g6, planV W H R (some ⟨gC, 0, none⟩) cur.length cC, 24) (by simp), HQ.out.head, C_mem (HQ.out.blk (gC, cu, 3) (by simp)) HCN.out, HCC.out, C_mem (HQ.out.blk (gl, cul, 3) (by simp)) HLH.out.1, C_mem (HQ.out.blk (gh, cuh, 3) (by simp)) HLH.out.2, HAT.out _ (fun p hp => HQ.out.blk p (by simp [hp])), C_mem (HQ.out.blk (gv, cu2, 3) (by simp)) HNV.out⟩⟩⟩
       ·refine new_step HQ.out (by rfl) rfl 33 rfl info33 (fun g11 wq hm1 => ?_)
        clear HQ
        have HQ := Aside0.mk hm1
        clear hm1
        refine hK.out _ _ (plan_cells (HQ.out.blk (g6, planV W H R (some ⟨gC, 0, none⟩) cur.length cC, 24) (by simp))) (fun hHeld => ?_)
        clear hK K
        refine nm_ ?_
        refine on_ 4 82 (bS 11 287) (fun K hK => ?_) (one_of HT_.out (by kernel_rfl))
        refine goes_ Try.func25 (by kernel_rfl) rfl #[.agg (planV W H R (some ⟨gC, 0, none⟩) cur.length cC), .slice (some ⟨gv, 0, none⟩) v.length cv, .int .i64 (n : Int)] (by rfl) rfl rfl aA ?_
        with_reducible refine (solve_at W H R (some ⟨gC, 0, none⟩) cC cur (some ⟨gv, 0, none⟩) cv v.length (lessOf v) n lo hi_ swp st _ (C_mem (HQ.out.blk (gC, cu, 3) (by simp)) HCN.out) HCC.out HLV.out (C_mem (HQ.out.blk (gv, cu2, 3) (by simp)) HNV.out) HCV.out HSOL.out).mono ?_
        rintro e1 wq ⟨vl, vh, rfl, hR1, hR2, hb⟩
        obtain ⟨gl, cl, cul, gh, ch, cuh, rfl, rfl, hcl, hch, hnl, hnh, hm1⟩ := two_mem HQ.out hb hR1 hR2 (by rw [HBL.out.1]; exact HCP.out) (by rw [HBL.out.2]; exact HCP.out)
        have HLH := Aside0.mk (And.intro hnl hnh)
        clear HQ
        have HQ := Aside0.mk hm1
        clear hR1 hR2 hb hcl hch hnl hnh hm1
        rw [HBL.out.1, HBL.out.2]
        refine ⟨_, rfl, ?_⟩
        refine hK.out _ _ (plan_cells (HQ.out.blk (g6, planV W H R (some ⟨gC, 0, none⟩) cur.length cC, 24) (by simp))) (fun hHeld => ?_)
        clear hK K
        refine nm_ ?_
        refine pu_ 5 77 (bS 11 319) HT_ ?_
        refine pu_ 6 83 (bS 11 383) HT_ ?_
        refine pu_ 7 84 (bS 11 511) HT_ ?_
        refine la_ 9 (bS 11 1023) (fun K hK => ?_) (one_of HT_.out (by kernel_rfl))
        refine store_step (HQ.out.third3) (by rfl) rfl 33 (.tmp 11) (.tmp 83) rfl rfl rfl (cs := #[.slice (some ⟨gl, 0, none⟩) cur.length cl, .slice (some ⟨gh, 0, none⟩) cur.length ch, .int .i64 swp, .bool st]) size33 rfl rfl (by simp [Value.oneCell']) (fun wq hm1 => ?_)
        clear HQ
        have HQ := Aside0.mk hm1
        clear hm1
        refine hK.out _ _ ?_
        clear hK K
        refine nm0_ ?_
        refine pu_ 10 12 (bS 11 2047) HT_ ?_
        refine done_ (done_of HT_.out (by kernel_rfl)) ?_
        clear hHeld HT_ HW_
        go_wp2
        go_meet
        case rel => exact ⟨g11, gl, cl, gh, ch, rfl, rfl, ⟨HQ.out.below⟩, ⟨⟨HQ.out.blk (g6, planV W H R (some ⟨gC, 0, none⟩) cur.length cC, 24) (by simp), HQ.out.head, C_mem (HQ.out.blk (gC, cu, 3) (by simp)) HCN.out, HCC.out, C_mem (HQ.out.blk (gl, cul, 3) (by simp)) HLH.out.1, C_mem (HQ.out.blk (gh, cuh, 3) (by simp)) HLH.out.2, HAT.out _ (fun p hp => HQ.out.blk p (by simp [hp])), C_mem (HQ.out.blk (gv, cu2, 3) (by simp)) HNV.out⟩⟩⟩
      ·refine new_step HQ.out (by rfl) rfl 33 rfl info33 (fun g11 wq hm1 => ?_)
       clear HQ
       have HQ := Aside0.mk hm1
       clear hm1
       refine hK.out _ _ (plan_cells (HQ.out.blk (g6, planV W H R (some ⟨gC, 0, none⟩) cur.length cC, 24) (by simp))) (fun hHeld => ?_)
       clear hK K
       refine nm_ ?_
       refine on_ 3 81 (bS 11 271) (fun K hK => ?_) (one_of HT_.out (by kernel_rfl))
       refine goes_ Try.func28 (by kernel_rfl) rfl #[.int .i64 a1, .int .i64 31] (by rfl) rfl rfl aA ?_
       with_reducible refine (thermionkit_Mod.calls a1 31 n _ HMD.out).mono ?_
       rintro e1 wq ⟨rfl, hb⟩
       have HQ2 := Aside0.mk (HQ.out.step hb.below)
       clear HQ
       have HQ := HQ2
       clear HQ2 hb
       refine ⟨_, rfl, ?_⟩
       refine hK.out _ _ (plan_cells (HQ.out.blk (g6, planV W H R (some ⟨gC, 0, none⟩) cur.length cC, 24) (by simp))) (fun hHeld => ?_)
       clear hK K
       refine nm_ ?_
       refine on_ 4 82 (bS 11 287) (fun K hK => ?_) (one_of HT_.out (by kernel_rfl))
       refine goes_ Try.func25 (by kernel_rfl) rfl #[.agg (planV W H R (some ⟨gC, 0, none⟩) cur.length cC), .slice (some ⟨gv, 0, none⟩) v.length cv, .int .i64 (n : Int)] (by rfl) rfl rfl aA ?_
       with_reducible refine (solve_at W H R (some ⟨gC, 0, none⟩) cC cur (some ⟨gv, 0, none⟩) cv v.length (lessOf v) n lo hi_ swp st _ (C_mem (HQ.out.blk (gC, cu, 3) (by simp)) HCN.out) HCC.out HLV.out (C_mem (HQ.out.blk (gv, cu2, 3) (by simp)) HNV.out) HCV.out HSOL.out).mono ?_
       rintro e1 wq ⟨vl, vh, rfl, hR1, hR2, hb⟩
       obtain ⟨gl, cl, cul, gh, ch, cuh, rfl, rfl, hcl, hch, hnl, hnh, hm1⟩ := two_mem HQ.out hb hR1 hR2 (by rw [HBL.out.1]; exact HCP.out) (by rw [HBL.out.2]; exact HCP.out)
       have HLH := Aside0.mk (And.intro hnl hnh)
       clear HQ
       have HQ := Aside0.mk hm1
       clear hR1 hR2 hb hcl hch hnl hnh hm1
       rw [HBL.out.1, HBL.out.2]
       refine ⟨_, rfl, ?_⟩
       refine hK.out _ _ (plan_cells (HQ.out.blk (g6, planV W H R (some ⟨gC, 0, none⟩) cur.length cC, 24) (by simp))) (fun hHeld => ?_)
       clear hK K
       refine nm_ ?_
       refine pu_ 5 77 (bS 11 319) HT_ ?_
       refine pu_ 6 83 (bS 11 383) HT_ ?_
       refine pu_ 7 84 (bS 11 511) HT_ ?_
       refine la_ 9 (bS 11 1023) (fun K hK => ?_) (one_of HT_.out (by kernel_rfl))
       refine store_step (HQ.out.third3) (by rfl) rfl 33 (.tmp 11) (.tmp 83) rfl rfl rfl (cs := #[.slice (some ⟨gl, 0, none⟩) cur.length cl, .slice (some ⟨gh, 0, none⟩) cur.length ch, .int .i64 swp, .bool st]) size33 rfl rfl (by simp [Value.oneCell']) (fun wq hm1 => ?_)
       clear HQ
       have HQ := Aside0.mk hm1
       clear hm1
       refine hK.out _ _ ?_
       clear hK K
       refine nm0_ ?_
       refine pu_ 10 12 (bS 11 2047) HT_ ?_
       refine done_ (done_of HT_.out (by kernel_rfl)) ?_
       clear hHeld HT_ HW_
       go_wp2
       go_meet
       case rel => exact ⟨g11, gl, cl, gh, ch, rfl, rfl, ⟨HQ.out.below⟩, ⟨⟨HQ.out.blk (g6, planV W H R (some ⟨gC, 0, none⟩) cur.length cC, 24) (by simp), HQ.out.head, C_mem (HQ.out.blk (gC, cu, 3) (by simp)) HCN.out, HCC.out, C_mem (HQ.out.blk (gl, cul, 3) (by simp)) HLH.out.1, C_mem (HQ.out.blk (gh, cuh, 3) (by simp)) HLH.out.2, HAT.out _ (fun p hp => HQ.out.blk p (by simp [hp])), C_mem (HQ.out.blk (gv, cu2, 3) (by simp)) HNV.out⟩⟩⟩
     case rest =>
     obtain ⟨g11, gl, cl, gh, ch, rfl, rfl, HBW, HX⟩ := hcut
     obtain ⟨wb, rfl⟩ : ∃ x : World, x = wc := ⟨_, rfl⟩
     obtain ⟨vv, hvv⟩ : ∃ x, lessOf v = x := ⟨_, rfl⟩
     have HVV : Aside0 (∀ x, x ∈ vv → -1000 ≤ x ∧ x ≤ 1000) := ⟨fun x hx => by rw [← hvv] at hx; exact lessOf_mem hx⟩
     have HVLN : Aside0 (vv.length = v.length) := ⟨by rw [← hvv]; exact lessOf_length v⟩
     rw [hvv] at HX HFR
     obtain ⟨m, hm⟩ : ∃ x, zs.length = x := ⟨_, rfl⟩
     have HML := Aside0.mk hm
     rw [hm]
     clear HM2 d1 d2 hvv hm HNV HSOL HMD HAT HCP
     have HPC := plan_cells HX.out.plan
     have q3 := HPC.2.2.2
     have qa : wb.cell? ⟨g11, 0, none⟩ = some (.slice (some ⟨gl, 0, none⟩) cur.length cl) := (blk_cell HX.out.f 0).trans rfl
     have qb : wb.cell? ⟨g11, 1, none⟩ = some (.slice (some ⟨gh, 0, none⟩) cur.length ch) := (blk_cell HX.out.f 1).trans rfl
     clear HPC
     have hmk := make_ints m (by rw [← HML.out]; have := HZ4.out; omega)
     have hml := make_lists m (by rw [← HML.out]; have := HZ4.out; omega)
     go_upto_region 19 with fail
     go_cut [13, 14] (fun v13 v14 wd => ∃ ga gb : Nat, v13 = .slice (some ⟨ga, 0, none⟩) m m ∧ v14 = .slice (some ⟨gb, 0, none⟩) m m ∧ Aside0 (AB wb wd ga m 0 m (fun _ => 0) (fun _ => 0) [] gb (List.replicate m 0)))
     case first => as_aux_lemma =>
      clear q3 qa qb
      go_region
      all_goals try go_wp2
      all_goals go_meet
      all_goals (case rel => exact ⟨_, _, rfl, rfl, ⟨AB.start (by first | exact (mem_two (Mem.start wb) _ _ _ _).drew | exact (mem_two (Mem.start wb) _ _ _ _).drew.swap)⟩⟩)
     case rest =>
     clear q3 qa qb hml
     obtain ⟨ga, gb, rfl, rfl, HAB⟩ := hcut
     have HAB0 : Aside0 (AB wb wc ga m 0 m (fun _ => 0) (fun _ => 0) (doneM W H R zs 0) gb (bF W H R cur vv zs 0 0)) := ⟨by rw [bF_start, HML.out]; exact HAB.out⟩
     clear HAB
     go_wp2_with fail
     go_loopg [15] m (fun d v15 w' => ∃ (i : Nat) (gs cap : Nat → Nat), v15 = .int .i64 (i : Int) ∧ Aside0 (i + d = m) ∧ Aside0 (AB wb w' ga m i m gs cap (doneM W H R zs i) gb (bF W H R cur vv zs i 0)))
     case atStart => exact ⟨0, _, _, rfl, ⟨Nat.zero_add _⟩, HAB0⟩
     case round => as_aux_lemma =>
      clear HAB0
      obtain ⟨i, gs0, cap0, rfl, HK, HAB⟩ := hrel
      by_cases hi : i < m
      ·have HI := Aside0.mk hi
       have d1 : decide ((i : Int) < (m : Int)) = true := decide_eq_true (by omega)
       have d2 := decide_eq_true hi
       have d3 : (0 : Int) ≤ (i : Int) := by omega
       have d4 : (i : Int) < (m : Int) := by omega
       have d5 : wrap64 ((i : Int) + 1) = ((i + 1 : Nat) : Int) := by rw [IntWalk.wrap64_in _ (by have := HML.out; have := HZ4.out; omega)]; omega
       clear hi
       go_upto_region 24 with (first
        | ((with_reducible refine gate_dst (N := 121) rfl ?_); refine ev_lit (Mem.start wr) rfl (nums .i64 (List.replicate m 0)) m 3 ?hrl ?_; (case hrl => first | (go_simp; done) | (go_simp; rfl)); intro gr wq hm1 hq1; have HRW := Aside0.mk (And.intro hm1.head hm1.geh); have HQB := Aside0.mk hq1; obtain ⟨vo, hvo⟩ := (HAB.out.step hq1).tbl.head0 HI.out; have hvf := (HAB.out.step hq1).tbl.frozen0 i; clear hm1 hq1))
       go_cut [16] (fun v16 we => ∃ (gs cap : Nat → Nat), v16 = .int .i64 0 ∧ Aside0 (AB wb we ga m (i + 1) m gs cap (doneM W H R zs i ++ [rowF W H R zs i 0 0]) gb (bF W H R cur vv zs i 0)))
       case first => as_aux_lemma =>
        go_wp2_with fail
        go_meet
        case rel => exact ⟨_, _, rfl, ⟨HAB.out.more HQB.out HI.out HRW.out.1 (by rw [rowF_start, HML.out]; exact isnums_A _ (by rw [List.length_replicate]; have := HML.out; have := HZ4.out; omega)) HRW.out.2 (by rw [rowF_start, HML.out, List.length_replicate]) (Nat.le_refl _)⟩⟩
       case rest =>
       clear HAB hvo hvf d1 d2 HRW HQB
       obtain ⟨gs, cap, rfl, HAB⟩ := hcut
       obtain ⟨ad, ead, hca⟩ := at_row HX.out.ra i (by rw [ints_length, HML.out]; exact HI.out)
       have HZI := HZL.out i (by rw [HML.out]; exact HI.out)
       rw [fn_ints (by rw [HML.out]; exact HI.out)] at hca
       obtain ⟨c, hc⟩ : ∃ c, zs.getD i 0 = c := ⟨_, rfl⟩
       have HCI := Aside0.mk hc
       rw [hc] at hca HZI
       have HZC : Aside0 (c < cur.length) := ⟨by rw [HCUR.out]; exact HZI⟩
       have HAC : Aside0 (wb.cell? (ad.add i) = some (.int .i64 (c : Int))) := ⟨hca⟩
       have HAD := Aside0.mk ead
       clear hc hca HZI ead
       obtain ⟨wi, rfl⟩ : ∃ x : World, x = wc := ⟨_, rfl⟩
       rw [HAD.out] at HX ⊢
       go_wp2_with fail
       go_loopg [16] cur.length (fun d v16 w' => ∃ (q : Nat), v16 = .int .i64 (q : Int) ∧ Aside0 (q + d = cur.length) ∧ Aside0 (AB wb w' ga m (i + 1) m gs cap (doneM W H R zs i ++ [rowF W H R zs i q 0]) gb (bF W H R cur vv zs i q)))
       case atStart => exact ⟨0, rfl, ⟨Nat.zero_add _⟩, HAB⟩
       case round => as_aux_lemma =>
        have HKI := HK
        clear HAB HK
        obtain ⟨q, rfl, HK, HAB⟩ := hrel
        have HXR := HX.out.step HAB.out.tbl.below
        have q3 := (plan_cells HXR.plan).2.2.2
        by_cases hq : q < cur.length
        ·have HQL := Aside0.mk hq
         have b1 : decide ((q : Int) < (cur.length : Int)) = true := decide_eq_true (by omega)
         have b2 := decide_eq_true hq
         have b3 : (0 : Int) ≤ (q : Int) := by omega
         have b4 : (q : Int) < (cur.length : Int) := by omega
         have b5 : wrap64 ((q : Int) + 1) = ((q + 1 : Nat) : Int) := by rw [IntWalk.wrap64_in _ (by have := HC9.out; omega)]; omega
         have HXQ := Aside0.mk HXR
         obtain ⟨x, hx⟩ : ∃ x, netM W H R c q = x := ⟨_, rfl⟩
         have HNX := Aside0.mk hx
         clear HXR hq hx
         go_upto_region 27 with fail
         go_cut [17] (fun v17 wc => v17 = .int .i64 x ∧ Aside0 (AB wb wc ga m (i + 1) m gs cap (doneM W H R zs i ++ [rowF W H R zs i q 0]) gb (bF W H R cur vv zs i q)))
         case first => as_aux_lemma =>
          have HQ := Aside0.mk (HAB.out.step (below_drew1 (Below.refl wr.heap.size wr)))
          clear q3 HAB
          refine start_ (n := 8) (S := fun w' => w'.cell? ⟨g6, 0, none⟩ = some (.int .i64 (W : Int)) ∧ w'.cell? ⟨g6, 1, none⟩ = some (.int .i64 (H : Int)) ∧ w'.cell? ⟨g6, 2, none⟩ = some (.bool R) ∧ w'.cell? ⟨g6, 3, none⟩ = some (.slice (some ⟨gC, 0, none⟩) cur.length cC) ∧ w'.cell? (ad.add i) = some (.int .i64 (c : Int))) (ds := []) (bS 8 0) (by kernel_rfl) rfl rfl (cells5 (plan_cells (HX.out.step HQ.out.tbl.below).plan) (cell_later HQ.out.tbl.below HAC.out)) (fun hHeld => ?_); refine with_tabW exF.tab27 exF.bits27 (fun HT_ HW_ => ?_)
          refine pu_ 1 131 (bS 8 2) HT_ ?_
          refine pu_ 2 132 (bS 8 6) HT_ ?_
          refine pu_ 3 133 (bS 8 14) HT_ ?_
          refine pu_ 5 135 (bS 8 46) HT_ ?_
          refine ta_ 0 130 (bS 8 47) HT_ HW_ hHeld ?_
          refine ta_ 4 134 (bS 8 63) HT_ HW_ hHeld ?_
          refine on_ 6 136 (bS 8 127) (fun K hK => ?_) (one_of HT_.out (by kernel_rfl))
          refine goes_ Try.func33 (by kernel_rfl) rfl #[.agg (planV W H R (some ⟨gC, 0, none⟩) cur.length cC), .int .i64 (c : Int), .int .i64 (q : Int)] (by rfl) rfl rfl aA ?_
          with_reducible refine (thermionref01_Weight.calls KW W H R (some ⟨gC, 0, none⟩) cC cur c q (netM W H R c q) _ (HX.out.step HQ.out.tbl.below).rc HX.out.hc (HKW.out c q (by rw [← HCUR.out]; exact HZC.out) (by rw [← HCUR.out]; exact HQL.out))).mono ?_
          rintro e1 wq ⟨rfl, hb⟩
          have HQ2 := Aside0.mk (HQ.out.step hb)
          clear HQ
          have HQ := HQ2
          clear HQ2 hb
          refine ⟨_, rfl, ?_⟩
          refine hK.out _ _ (cells5 (plan_cells (HX.out.step HQ.out.tbl.below).plan) (cell_later HQ.out.tbl.below HAC.out)) (fun hHeld => ?_)
          clear hK K
          refine nm_ ?_
          refine pu_ 7 17 (bS 8 255) HT_ ?_
          refine done_ (done_of HT_.out (by kernel_rfl)) ?_
          clear hHeld HT_ HW_
          go_wp2
          go_meet
          case rel => exact ⟨by rw [HNX.out], HQ⟩
         case rest =>
         obtain ⟨rfl, HAB2⟩ := hcut
         clear HAB q3 HXQ
         obtain ⟨wq0, rfl⟩ : ∃ x : World, x = wc := ⟨_, rfl⟩
         obtain ⟨S, hS⟩ : ∃ x, sumTo (fun p => netM W H R c p) q = x := ⟨_, rfl⟩
         have hSb := sum_small (R := R) HWH.out.2.1 HWH.out.2.2.2 c (q := q) (by rw [← HCUR.out]; exact Nat.le_of_lt HQL.out)
         have hxb := netM_le3 (H := H) R HWH.out.2.1 c q
         have hx0 := netM_nonneg W H R c q
         rw [hS] at hSb
         rw [HNX.out] at hxb hx0
         have n1 : IntKind.i64.wrap (S + x) = S + x := IntWalk.i64_in _ (by omega)
         have HSX : Aside0 (sumTo (fun p => netM W H R c p) q = S) := ⟨hS⟩
         have HXB : Aside0 (0 ≤ x ∧ x ≤ 6) := ⟨by omega⟩
         clear hS hSb hxb hx0
         go_upto_region 28 with fail
         go_cut [] (fun wc => Aside0 (AB wb wc ga m (i + 1) m gs cap (doneM W H R zs i ++ [rowF W H R zs i (q + 1) 0]) gb (bF W H R cur vv zs i q)))
         case first => as_aux_lemma =>
          have HQ := Aside0.mk (HAB2.out.step (below_drew1 (Below.refl wq0.heap.size wq0)))
          refine start_ (n := 16) (S := fun w' => w'.cell? ⟨ga, i, none⟩ = some (.slice (some ⟨gs i, 0, none⟩) m (cap i)) ∧ w'.cell? ⟨gs i, i, none⟩ = some (.int .i64 S)) (ds := [15]) (bS 16 0) (by kernel_rfl) rfl rfl (row_cells HQ.out HI.out HML.out HCI.out HSX.out) (fun hHeld => ?_); refine with_tabW exF.tab28 exF.bits28 (fun HT_ HW_ => ?_)
          refine pu_ 0 137 (bS 16 1) HT_ ?_
          refine pu_ 1 138 (bS 16 3) HT_ ?_
          refine pu_ 2 139 (bS 16 7) HT_ ?_
          refine pu_ 4 141 (bS 16 23) HT_ ?_
          refine pu_ 5 142 (bS 16 55) HT_ ?_
          refine pu_ 6 143 (bS 16 119) HT_ ?_
          refine pu_ 7 144 (bS 16 247) HT_ ?_
          refine pu_ 9 146 (bS 16 759) HT_ ?_
          refine pu_ 12 149 (bS 16 4855) HT_ ?_
          refine ta_ 3 140 (bS 16 4863) HT_ HW_ hHeld ?_
          refine ta_ 8 145 (bS 16 5119) HT_ HW_ hHeld ?_
          refine pu_ 10 147 (bS 16 6143) HT_ ?_
          refine ta_ 11 148 (bS 16 8191) HT_ HW_ hHeld ?_
          refine pu_ 13 150 (bS 16 16383) HT_ ?_
          refine pu_ 14 151 (bS 16 32767) HT_ ?_
          refine la_ 15 (bS 16 65535) (fun K hK => ?_) (one_of HT_.out (by kernel_rfl))
          have cX := (row_cells HQ.out HI.out HML.out HCI.out HSX.out).2
          have fX := HQ.out.tbl.frozen (Nat.lt_succ_self i) i
          go_simp
          refine hK.out _ _ ?_
          clear hK K
          refine done_ (done_of HT_.out (by kernel_rfl)) ?_
          clear hHeld HT_ HW_ cX fX
          go_wp2
          go_meet
          case rel => exact ⟨row_add ((HAB2.out.putA (Nat.lt_succ_self i) i (S + x)).step (below_drew1 (Below.refl _ _))) HI.out HML.out HCI.out HSX.out HNX.out⟩
         case rest =>
         have HAB := hcut
         clear hcut HAB2 n1
         obtain ⟨wq1, rfl⟩ : ∃ x : World, x = wc := ⟨_, rfl⟩
         have HXQ := Aside0.mk (HX.out.step HAB.out.tbl.below)
         have q3 := (plan_cells HXQ.out.plan).2.2.2
         obtain ⟨z, hz⟩ : ∃ z, fn cur q = z := ⟨_, rfl⟩
         have hcq : wq1.cell? ⟨gC, q, none⟩ = some (.int .i64 z) := by
          obtain ⟨adc, ea, h⟩ := at_row HXQ.out.rc q HQL.out
          injection ea with ea
          subst ea
          rw [← hz, ← h, addr_at]
         have hel := HEL.out.1 q HQL.out
         have hel2 := HEL.out.2 q HQL.out
         rw [hz] at hel hel2
         by_cases hz0 : 0 < z
         ·obtain ⟨k, rfl⟩ : ∃ k : Nat, z = (k : Int) + 1 := ⟨(z - 1).toNat, by omega⟩
          have f1 := decide_eq_true hz0
          obtain ⟨adv, ea, hcv⟩ := at_row HXQ.out.rv k (by have := HVLN.out; omega)
          injection ea with ea
          subst ea
          obtain ⟨u, hu⟩ : ∃ u, fn vv k = u := ⟨_, rfl⟩
          have hub : -1000 ≤ u ∧ u ≤ 1000 := by rw [← hu]; exact fn_any (by omega) HVV.out k
          have hcu : wq1.cell? ⟨gv, k, none⟩ = some (.int .i64 u) := by
           rw [← hu, ← hcv, addr_at]
          have hvo : volt cur vv q = u := by
           unfold volt
           rw [hz, show ((k : Int) + 1).toNat - 1 = k by omega, hu]
          obtain ⟨B, hB⟩ : ∃ B, rightTo W H R cur vv c q = B := ⟨_, rfl⟩
          have hBb := rightTo_small (R := R) (C := cur) HWH.out.2.1 HWH.out.2.2.2 HVV.out c (q := q) (by rw [← HCUR.out]; exact Nat.le_of_lt HQL.out)
          rw [hB] at hBb
          have hcb := HAB.out.cellB (j := i) (by rw [bF_length, HML.out]; exact HI.out)
          rw [fn_bF (by rw [HML.out]; exact HI.out), if_neg (by omega), if_pos rfl, HCI.out, hB] at hcb
          have HCB := Aside0.mk hcb
          have HCS := Aside0.mk (And.intro q3 (And.intro hcq hcu))
          have hP := mul_abs (x := x) (y := u) (X := 6) (Y := 1000) (by have := HXB.out; omega) hub
          obtain ⟨P, hPe⟩ : ∃ P, x * u = P := ⟨_, rfl⟩
          rw [hPe] at hP
          have k1 : (0 : Int) ≤ (k : Int) := Int.natCast_nonneg k
          have k2 : (k : Int) < (v.length : Int) := by omega
          obtain ⟨n1, n2, n3, n4⟩ := acc_fit (k := k) (B := B) (P := P) (x := x) (u := u) (by have := HVL.out; omega) hBb hP hPe
          have HBN : Aside0 ((bF W H R cur vv zs i q).set i (B + P) = bF W H R cur vv zs i (q + 1)) := ⟨by
           rw [← bF_add (by rw [HML.out]; exact HI.out) (by rw [hz]; exact hz0), HCI.out, hB, HNX.out, hvo, hPe]⟩
          clear hz hel hel2 hz0 hcv hu hub hvo hB hBb hcb hP hPe hcu
          go_upto_region 30 with fail
          clear q3 hcq f1
          have HQ := Aside0.mk (HAB.out.step (below_drew1 (Below.refl wq1.heap.size wq1)))
          refine start_ (n := 20) (S := fun w' => w'.cell? ⟨gb, i, none⟩ = some (.int .i64 B) ∧ w'.cell? ⟨g6, 3, none⟩ = some (.slice (some ⟨gC, 0, none⟩) cur.length cC) ∧ w'.cell? ⟨gC, q, none⟩ = some (.int .i64 ((k : Int) + 1)) ∧ w'.cell? ⟨gv, k, none⟩ = some (.int .i64 u)) (ds := [19]) (bS 20 0) (by kernel_rfl) rfl rfl (⟨cell_drew HCB.out, cell_drew HCS.out.1, cell_drew HCS.out.2.1, cell_drew HCS.out.2.2⟩) (fun hHeld => ?_); refine with_tabW exF.tab30 exF.bits30 (fun HT_ HW_ => ?_)
          refine pu_ 0 158 (bS 20 1) HT_ ?_
          refine pu_ 1 159 (bS 20 3) HT_ ?_
          refine pu_ 2 160 (bS 20 7) HT_ ?_
          refine pu_ 3 161 (bS 20 15) HT_ ?_
          refine pu_ 4 162 (bS 20 31) HT_ ?_
          refine pu_ 6 164 (bS 20 95) HT_ ?_
          refine pu_ 7 165 (bS 20 223) HT_ ?_
          refine pu_ 8 166 (bS 20 479) HT_ ?_
          refine pu_ 10 168 (bS 20 1503) HT_ ?_
          refine ta_ 5 163 (bS 20 1535) HT_ HW_ hHeld ?_
          refine ta_ 9 167 (bS 20 2047) HT_ HW_ hHeld ?_
          refine pu_ 11 169 (bS 20 4095) HT_ ?_
          refine ta_ 12 170 (bS 20 8191) HT_ HW_ hHeld ?_
          refine pu_ 13 171 (bS 20 16383) HT_ ?_
          refine pu_ 14 172 (bS 20 32767) HT_ ?_
          refine ta_ 15 173 (bS 20 65535) HT_ HW_ hHeld ?_
          refine pu_ 16 174 (bS 20 131071) HT_ ?_
          refine pu_ 17 175 (bS 20 262143) HT_ ?_
          refine pu_ 18 176 (bS 20 524287) HT_ ?_
          refine la_ 19 (bS 20 1048575) (fun K hK => ?_) (one_of HT_.out (by kernel_rfl))
          have cX := cell_drew HCB.out
          have fX := HQ.out.frozenB i
          go_simp
          refine hK.out _ _ ?_
          clear hK K
          refine done_ (done_of HT_.out (by kernel_rfl)) ?_
          clear hHeld HT_ HW_ cX fX n1 n2 n3 n4
          have HQ2 := Aside0.mk ((HAB.out.putB i (B + P)).step (below_drew1 (Below.refl _ _)))
          generalize (wq1.setCell _ _).drew = wz at HQ2 ⊢
          clear HQ HAB
          go_wp2_with fail
          go_roundg (cur.length - (q + 1))
          case measure => have := HQL.out; have := HK.out; omega
          case rel => exact ⟨q + 1, by first | exact congrArg _ b5 | go_num, ⟨by have := HQL.out; omega⟩, ⟨by rw [← HBN.out]; exact HQ2.out⟩⟩
         ·have f1 : decide (z > 0) = false := decide_eq_false hz0
          have HBN : Aside0 (bF W H R cur vv zs i q = bF W H R cur vv zs i (q + 1)) := ⟨bF_same (by rw [hz]; exact hz0)⟩
          clear hz hel hel2 hz0
          go_wp2_with fail
          go_roundg (cur.length - (q + 1))
          case measure => have := HQL.out; have := HK.out; omega
          case rel => exact ⟨q + 1, by first | exact congrArg _ b5 | go_num, ⟨by have := HQL.out; omega⟩, ⟨by rw [← HBN.out]; exact HAB.out⟩⟩
        ·have hqn : q = W * H := by have := HK.out; have := HCUR.out; omega
         have b1 : decide ((q : Int) < (cur.length : Int)) = false := decide_eq_false (by omega)
         have b2 := decide_eq_false hq
         have HAB2 : Aside0 (AB wb wr ga m (i + 1) m gs cap (doneM W H R zs i ++ [rowF W H R zs i (W * H) 0]) gb (bF W H R cur vv zs i (W * H))) := ⟨by rw [← hqn]; exact HAB.out⟩
         clear HAB HXR hqn hq HK
         go_wp2_with fail
         go_loopg [18] m (fun d v18 w' => ∃ (k : Nat), v18 = .int .i64 (k : Int) ∧ Aside0 (k + d = m) ∧ Aside0 (AB wb w' ga m (i + 1) m gs cap (doneM W H R zs i ++ [rowF W H R zs i (W * H) k]) gb (bF W H R cur vv zs i (W * H))))
         case atStart => exact ⟨0, rfl, ⟨Nat.zero_add _⟩, HAB2⟩
         case round => as_aux_lemma =>
          clear HAB2 q3
          obtain ⟨k, rfl, HK, HAB⟩ := hrel
          by_cases hk : k < m
          ·have HKM := Aside0.mk hk
           have b1 : decide ((k : Int) < (m : Int)) = true := decide_eq_true (by omega)
           have b2 := decide_eq_true hk
           have b3 : (0 : Int) ≤ (k : Int) := by omega
           have b4 : (k : Int) < (m : Int) := by omega
           have b5 : wrap64 ((k : Int) + 1) = ((k + 1 : Nat) : Int) := by rw [IntWalk.wrap64_in _ (by have := HML.out; have := HZ4.out; omega)]; omega
           by_cases hki : k = i
           ·have e5 : ((k : Int) != (i : Int)) = false := by rw [hki]; simp
            have e6 : (k != i) = false := by rw [hki]; simp
            have HKI := Aside0.mk hki
            clear hk hki
            go_wp2_with fail
            go_roundg (m - (k + 1))
            case measure => have := HKM.out; have := HK.out; omega
            case rel => exact ⟨k + 1, by first | exact congrArg _ b5 | go_num, ⟨by have := HKM.out; omega⟩, ⟨by rw [← rowF_pass2 HKI.out]; exact HAB.out⟩⟩
           ·have e5 : ((k : Int) != (i : Int)) = true := bne_iff_ne.mpr (by omega)
            have e6 : (k != i) = true := bne_iff_ne.mpr hki
            obtain ⟨ad2, ead, hca⟩ := at_row HX.out.ra k (by rw [ints_length, HML.out]; exact hk)
            injection ead with ead
            subst ead
            have hzi := HZL.out k (by rw [HML.out]; exact hk)
            rw [fn_ints (by rw [HML.out]; exact hk)] at hca
            obtain ⟨c2, hc2⟩ : ∃ c, zs.getD k 0 = c := ⟨_, rfl⟩
            rw [hc2] at hca hzi
            have HC2 := Aside0.mk hc2
            have HAC2 := Aside0.mk hca
            have HZC2 := Aside0.mk hzi
            obtain ⟨y, hy⟩ : ∃ y, netM W H R c c2 = y := ⟨_, rfl⟩
            have hyb := netM_le3 (H := H) R HWH.out.2.1 c c2
            have hy0 := netM_nonneg W H R c c2
            rw [hy] at hyb hy0
            obtain ⟨n1, n2⟩ := neg_fit hy0 hyb
            have HY := Aside0.mk hy
            have HKI := Aside0.mk hki
            clear hk hki hca hzi hc2 hy hyb hy0
            go_upto_region 35 with fail
            clear e5 e6
            have HQ := Aside0.mk (HAB.out.step (below_drew1 (Below.refl wr.heap.size wr)))
            clear HAB
            refine start_ (n := 18) (S := fun w' => w'.cell? ⟨ga, i, none⟩ = some (.slice (some ⟨gs i, 0, none⟩) m (cap i)) ∧ w'.cell? ⟨g6, 0, none⟩ = some (.int .i64 (W : Int)) ∧ w'.cell? ⟨g6, 1, none⟩ = some (.int .i64 (H : Int)) ∧ w'.cell? ⟨g6, 2, none⟩ = some (.bool R) ∧ w'.cell? ⟨g6, 3, none⟩ = some (.slice (some ⟨gC, 0, none⟩) cur.length cC) ∧ w'.cell? (ad.add i) = some (.int .i64 (c : Int)) ∧ w'.cell? (ad.add k) = some (.int .i64 (c2 : Int))) (ds := [17]) (bS 18 0) (by kernel_rfl) rfl rfl (cells7 (HQ.out.tbl.head (Nat.lt_succ_self i)) (plan_cells (HX.out.step HQ.out.tbl.below).plan) (cell_later HQ.out.tbl.below HAC.out) (cell_later HQ.out.tbl.below HAC2.out)) (fun hHeld => ?_); refine with_tabW exF.tab35 exF.bits35 (fun HT_ HW_ => ?_)
            refine pu_ 0 186 (bS 18 1) HT_ ?_
            refine pu_ 1 187 (bS 18 3) HT_ ?_
            refine pu_ 2 188 (bS 18 7) HT_ ?_
            refine pu_ 4 190 (bS 18 23) HT_ ?_
            refine pu_ 6 192 (bS 18 87) HT_ ?_
            refine pu_ 7 193 (bS 18 215) HT_ ?_
            refine pu_ 8 194 (bS 18 471) HT_ ?_
            refine pu_ 10 196 (bS 18 1495) HT_ ?_
            refine pu_ 11 197 (bS 18 3543) HT_ ?_
            refine pu_ 12 198 (bS 18 7639) HT_ ?_
            refine ta_ 3 189 (bS 18 7647) HT_ HW_ hHeld ?_
            refine ta_ 5 191 (bS 18 7679) HT_ HW_ hHeld ?_
            refine ta_ 9 195 (bS 18 8191) HT_ HW_ hHeld ?_
            refine ta_ 13 199 (bS 18 16383) HT_ HW_ hHeld ?_
            refine on_ 14 200 (bS 18 32767) (fun K hK => ?_) (one_of HT_.out (by kernel_rfl))
            refine goes_ Try.func33 (by kernel_rfl) rfl #[.agg (planV W H R (some ⟨gC, 0, none⟩) cur.length cC), .int .i64 (c : Int), .int .i64 (c2 : Int)] (by rfl) rfl rfl aA ?_
            with_reducible refine (thermionref01_Weight.calls KW W H R (some ⟨gC, 0, none⟩) cC cur c c2 (netM W H R c c2) _ (HX.out.step HQ.out.tbl.below).rc HX.out.hc (HKW.out c c2 (by rw [← HCUR.out]; exact HZC.out) HZC2.out)).mono ?_
            rintro e1 wq ⟨rfl, hb⟩
            have HQ2 := Aside0.mk (HQ.out.step hb)
            clear HQ
            have HQ := HQ2
            clear HQ2 hb
            rw [HY.out]
            refine ⟨_, rfl, ?_⟩
            refine hK.out _ _ (cells7 (HQ.out.tbl.head (Nat.lt_succ_self i)) (plan_cells (HX.out.step HQ.out.tbl.below).plan) (cell_later HQ.out.tbl.below HAC.out) (cell_later HQ.out.tbl.below HAC2.out)) (fun hHeld => ?_)
            clear hK K
            refine nm_ ?_
            refine pu_ 15 201 (bS 18 65535) HT_ ?_
            refine pu_ 16 202 (bS 18 131071) HT_ ?_
            refine la_ 17 (bS 18 262143) (fun K hK => ?_) (one_of HT_.out (by kernel_rfl))
            have cX := HQ.out.tbl.cell (Nat.lt_succ_self i) HKM.out
            have fX := HQ.out.tbl.frozen (Nat.lt_succ_self i) k
            go_simp
            refine hK.out _ _ ?_
            clear hK K
            refine done_ (done_of HT_.out (by kernel_rfl)) ?_
            clear hHeld HT_ HW_ cX fX n1 n2
            have HQ2 := Aside0.mk (HQ.out.putA (Nat.lt_succ_self i) k (-y))
            generalize wq.setCell _ _ = wz at HQ2 ⊢
            clear HQ
            go_wp2_with fail
            go_roundg (m - (k + 1))
            case measure => have := HKM.out; have := HK.out; omega
            case rel => exact ⟨k + 1, by first | exact congrArg _ b5 | go_num, ⟨by have := HKM.out; omega⟩, ⟨row_neg HQ2.out HKM.out HML.out HCI.out HC2.out HY.out HKI.out⟩⟩
          ·have hkm : k = m := by have := HK.out; omega
           have b1 : decide ((k : Int) < (m : Int)) = false := decide_eq_false (by omega)
           have b2 := decide_eq_false hk
           have HAB2 : Aside0 (AB wb wr ga m (i + 1) m gs cap (doneM W H R zs (i + 1)) gb (bF W H R cur vv zs (i + 1) 0)) := ⟨by
            have h := HAB.out
            rw [hkm, ← HML.out, rowF_end, bF_next] at h
            rw [doneM_succ, ← HML.out]
            exact h⟩
           clear HAB hkm hk HK
           go_wp2_with fail
           rw [← HAD.out]
           go_roundg (m - (i + 1))
           case measure => have := HI.out; have := HKI.out; omega
           case rel => exact ⟨i + 1, _, _, by first | exact congrArg _ d5 | go_num, ⟨by have := HI.out; omega⟩, HAB2⟩
      ·have him : i = m := by have := HK.out; omega
       subst him
       have d1 : decide ((i : Int) < (i : Int)) = false := by simp
       have d2 : decide (i < i) = false := by simp
       have HFS : Aside0 (Fits i i 0 1 (augOf i (fun a b => fn (row (doneM W H R zs i) a) b) (bF W H R cur vv zs i 0)) ∧ elimRun i 0 1 (augOf i (fun a b => fn (row (doneM W H R zs i) a) b) (bF W H R cur vv zs i 0)) = (l, M')) := ⟨by
        have h := HFR.out
        rw [← aug_done, ← bF_full, HML.out] at h
        exact h⟩
       have HLB : Aside0 ((bF W H R cur vv zs i 0).length = i) := ⟨by rw [bF_length]; exact HML.out⟩
       have hcb : Kd.C (Kd.int .i64) wr (some ⟨gb, 0, none⟩) (bF W H R cur vv zs i 0).length (bF W H R cur vv zs i 0) := C_of_cells HAB.out.b (by rw [HLB.out]; have := HML.out; have := HZ4.out; omega)
       have HCB := Aside0.mk hcb
       have HBB := Aside0.mk (HAB.out.tbl.below)
       clear hi hcb HFR HK hmk
       go_upto_region 37 with (first
        | (go_at_call 34; (with_reducible refine (solved_calls i (by have := HML.out; have := HZ4.out; omega) ga gs0 cap0 (fun a b => fn (row (doneM W H R zs i) a) b) (some ⟨gb, 0, none⟩) i (bF W H R cur vv zs i 0) l M' wr HAB.out.tbl.read HCB.out HLB.out HFS.out.1 HFS.out.2).mono ?_); rintro e1 ws ⟨go, rfl, hgo, hge, hb⟩; have HGO := Aside0.mk hgo; have HSB := Aside0.mk (below_step HBB.out hb); clear hgo hge hb HFS HCB))
       have f0 : decide (l ≤ 0) = false := decide_eq_false (by have := HL.out.1; omega)
       clear HAB HBB
       go_cut [215] (fun v215 wc => v215 = .bool false ∧ Aside0 (Below ws.heap.size ws wc))
       case first => as_aux_lemma =>
        by_cases h0 : 0 < i
        ·have f1 : decide ((i : Int) > 0) = true := decide_eq_true (by omega)
         have f2 := decide_eq_true h0
         have f3 := decide_eq_true h0
         clear h0
         go_wp2_with fail
         go_meet
         case rel => exact ⟨rfl, ⟨Below.refl _ _⟩⟩
        ·have f1 : decide ((i : Int) > 0) = false := decide_eq_false (by omega)
         have f2 := decide_eq_false h0
         have f3 := decide_eq_false h0
         clear h0
         go_wp2_with fail
         go_meet
         case rel => exact ⟨rfl, ⟨Below.refl _ _⟩⟩
       case rest =>
       obtain ⟨rfl, HB0⟩ := hcut
       clear f0 d1 d2
       go_wp2_with fail
       go_loopg [21] i (fun d v21 w' => ∃ (j : Nat), v21 = .int .i64 (j : Int) ∧ Aside0 (j + d = i) ∧ Aside0 (Below ws.heap.size ws w'))
       case atStart => exact ⟨0, rfl, ⟨Nat.zero_add _⟩, HB0⟩
       case round => as_aux_lemma =>
        clear HB0
        obtain ⟨j, rfl, HK, HB0⟩ := hrel
        by_cases hj : j < i
        ·have HJ := Aside0.mk hj
         have d1 : decide ((j : Int) < (i : Int)) = true := decide_eq_true (by omega)
         have d2 := decide_eq_true hj
         have d3 : (0 : Int) ≤ (j : Int) := by omega
         have d4 : (j : Int) < (i : Int) := by omega
         have d5 : wrap64 ((j : Int) + 1) = ((j + 1 : Nat) : Int) := by rw [IntWalk.wrap64_in _ (by have := HML.out; have := HZ4.out; omega)]; omega
         have HXR := HX.out.step (below_step HSB.out HB0.out)
         obtain ⟨ad, ead, hca⟩ := at_row HXR.ra j (by rw [ints_length, HML.out]; exact hj)
         subst ead
         rw [fn_ints (by rw [HML.out]; exact hj)] at hca
         have hzi := HZL.out j (by rw [HML.out]; exact hj)
         have hbd := HBD.out j (by rw [HML.out]; exact hj)
         obtain ⟨c, hc⟩ : ∃ c, zs.getD j 0 = c := ⟨_, rfl⟩
         rw [hc] at hca hzi hbd
         rw [HML.out] at hbd
         have hgo := (blk_cell (blk_below HGO.out HB0.out) j).trans (numsA_get (by rw [listOf_length]; exact hj))
         rw [fn_listOf _ hj] at hgo
         obtain ⟨U, hU⟩ : ∃ U, fn (row M' j) i = U := ⟨_, rfl⟩
         rw [hU] at hbd hgo
         obtain ⟨ad1, ea, hl1⟩ := at_row HXR.rl c (by rw [HBL.out.1, HCUR.out]; exact hzi)
         injection ea with ea
         subst ea
         obtain ⟨ad2, ea, hl2⟩ := at_row HXR.rh c (by rw [HBL.out.2, HCUR.out]; exact hzi)
         injection ea with ea
         subst ea
         rw [addr_at] at hl1 hl2
         have hqa : wr.cell? ⟨g11, 0, none⟩ = some (.slice (some ⟨gl, 0, none⟩) cur.length cl) := (blk_cell HXR.f 0).trans rfl
         have hqb : wr.cell? ⟨g11, 1, none⟩ = some (.slice (some ⟨gh, 0, none⟩) cur.length ch) := (blk_cell HXR.f 1).trans rfl
         obtain ⟨x1, hx1⟩ : ∃ x, fn lo c = x := ⟨_, rfl⟩
         obtain ⟨x2, hx2⟩ : ∃ x, fn hi_ c = x := ⟨_, rfl⟩
         rw [hx1] at hbd hl1
         rw [hx2] at hbd hl2
         obtain ⟨X1, X2, n1, n2, e1, e2⟩ := last_fit hbd HL.out
         have k1 : (0 : Int) ≤ (c : Int) := Int.natCast_nonneg c
         have k2 : (c : Int) < (cur.length : Int) := by rw [HCUR.out]; exact Int.ofNat_lt.2 hzi
         clear HXR hzi hbd hU hx1 hx2 hc hj
         go_upto_region 42 with fail
         go_quiet (fail)
         go_wp2_with fail
         go_roundg (i - (j + 1))
         case measure => have := HJ.out; have := HK.out; omega
         case rel => exact ⟨j + 1, by first | exact congrArg _ d5 | go_num, ⟨by have := HJ.out; have := HK.out; omega⟩, ⟨pw_below_drewN HB0.out _⟩⟩
        ·have hji : j = i := by have := HK.out; omega
         have d1 : decide ((j : Int) < (i : Int)) = false := decide_eq_false (by omega)
         have d2 := decide_eq_false hj
         have HBZ := Aside0.mk (below_step HBW.out (below_step HSB.out HB0.out))
         clear hj hji
         go_wp2_with (first
          | (go_at_call 20; refine (thermionlaw01_awake.calls 10 true _ HAW.out).mono ?_; rintro e1 wE ⟨rfl, hb⟩; have HE := Aside0.mk (below_step HBZ.out hb); clear hb))
         go_ret
         exact ⟨rfl, HE.out⟩
end Go.Proofs.Ytndkkjpgnmahbaa.Print
end

section
namespace Go.Proofs.YtndkkjpgnmahbaaW.PrintWords
open Go.ChangeShapes Go.WideShapes
end Go.Proofs.YtndkkjpgnmahbaaW.PrintWords
end
