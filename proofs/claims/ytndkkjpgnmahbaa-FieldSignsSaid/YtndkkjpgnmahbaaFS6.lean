/- Part 6 of the texts of a claim about Ytndkkjpgnmahbaa, put together by a program of this work: what the Go functions do, and that their calls do so. -/
import Derived.Test.YtndkkjpgnmahbaaFS5
import Derived.SizedLaws
import Derived.ChangeSlices
section
namespace Go.Proofs.Ytndkkjpgnmahbaa.Print
open Go.RowKit Go.Proofs.YtndkkjpgnmahbaaW.PrintWords Go.Proofs.YtndkkjpgnmahbaaW.PrintLast Go.Proofs.YtndkkjpgnmahbaaW.PrintMore Go.Proofs.Ytndkkjpgnmahbaa.H Go.Proofs.Field
attribute [local go_sem] max2_int min2_int max_two min_two max_three min_three max_four min_four
set_option linter.unusedVariables false
set_option linter.unusedSimpArgs false
def signsF.T25 : Bool × List (List Nat × List Nat) := (true, [([], []), ([0], [0]), ([], []), ([1, 2], [1, 2]), ([3], [3]), ([], []), ([5], [5]), ([], []), ([6, 7], [6, 7]), ([8], [8]), ([9], [9]), ([4, 10], [4, 10]), ([11], [11]), ([12], [12]), ([13, 12], [12, 13]), ([12], [12]), ([14, 15, 12], [12, 14, 15]), ([16, 12], [12, 16]), ([12], [12]), ([18, 12], [12, 18]), ([12], [12]), ([19, 20, 12], [12, 19, 20]), ([21, 12], [12, 21]), ([22, 12], [12, 22]), ([17, 23, 12], [12, 17, 23]), ([12, 24], [12, 24]), ([25, 12], [25]), ([26], [26]), ([27, 26], [26, 27]), ([26], [26]), ([28, 29, 26], [26, 28, 29]), ([30, 26], [26, 30]), ([26], [26]), ([31, 32, 26], [26, 31, 32]), ([26, 33], [26, 33]), ([34, 26], [34]), ([35], [35]), ([36, 35], [35, 36]), ([35], [35]), ([37, 38, 35], [35, 37, 38]), ([39, 35], [35, 39]), ([35], [35]), ([40, 41, 35], [35, 40, 41]), ([35, 42], [35, 42])])
def signsF.B25 : List Nat := [0, 1, 0, 7, 15, 0, 32, 0, 224, 480, 992, 2047, 4095, 8191, 16383, 8191, 65535, 131071, 8191, 270335, 8191, 1843199, 3940351, 8134655, 16777215, 33554431, 67108863, 134217727, 268435455, 134217727, 1073741823, 2147483647, 134217727, 8589934591, 17179869183, 34359738367, 68719476735, 137438953471, 68719476735, 549755813887, 1099511627775, 68719476735, 4398046511103, 8796093022207]
theorem signsF.tab25 : rtab .any (opsOf Try.f10 25) = signsF.T25 := by kernel_rfl
theorem signsF.bits25 : waitsOk signsF.T25.2 signsF.B25 = true := by kernel_rfl
set_option maxHeartbeats 6400000 in
set_option maxRecDepth 100000 in
theorem signs_calls (A0 : Option Addr) (c0 : Nat) (l0 : List Int) (a1 a2 : Int) (w : World) (hr0 : Kd.C (Kd.int .i64) w A0 l0.length l0) (hc0 : l0.length ≤ c0) :
    Calls Try.prog 10 #[.slice A0 l0.length c0, .int .i64 a1, .int .i64 a2] w fun e w' => e = .returned (.bool true) ∧ Below w.heap.size w w' := by
  obtain ⟨s0, hs0⟩ : ∃ s, thermionkit_NewDice.f l0 = some s := ⟨_, rfl⟩
  obtain ⟨W, H, R, C, v, s1, s2, D⟩ := dealt s0 8 6 (by omega) (by omega)
  obtain ⟨n, hn, hn1⟩ := mod_eq a1 41 (by omega) (by omega)
  obtain ⟨z, hz, hz1⟩ := mod_eq a2 2000001 (by omega) (by omega)
  obtain ⟨x, hx⟩ : ∃ x : Int, (z : Int) - 1000000 = x := ⟨_, rfl⟩
  obtain ⟨lo, hi, lv, hv, K, K3, st, st3, hs1, hs2, hs3, hll, hlh, hlv, hlw, hneg, hlev, hK⟩ := signs_facts D n (by omega) x (by omega)
  obtain ⟨kv, hkv⟩ := D.volts
  have hmk := make_ints v.length (by have := D.vlen; omega)
  have HR0 := Aside0.mk hr0
  have HND := Aside0.mk hs0
  have HD := Aside0.mk D
  have HMD := Aside0.mk hn
  have HMZ := Aside0.mk hz
  have HXR := Aside0.mk (show -1000000 ≤ x ∧ x ≤ 1000000 by omega)
  have HVO := Aside0.mk (hkv kv (Nat.le_refl _))
  have HVL := Aside0.mk D.vlen
  have HS1 := Aside0.mk hs1
  have HS2 := Aside0.mk hs2
  have HS3 := Aside0.mk hs3
  have HLEN := Aside0.mk (And.intro hll (And.intro hlh (And.intro hlv hlw)))
  have HNEG := Aside0.mk hneg
  have HLEV := Aside0.mk hlev
  have HSM := Aside0.mk D.small
  have HAW := Aside0.mk awake_true
  have hu24 := Try.underlying24
  have hu22 := Try.underlying22
  have hu33 := Try.underlying33
  have hu46 := Try.underlying46
  have nx : IntKind.i64.wrap ((z : Int) - 1000000) = x := by rw [IntWalk.i64_in _ (by omega)]; exact hx
  clear hr0 hs0 D hn hz hz1 hx hkv hs1 hs2 hs3 hll hlh hlv hlw hneg hlev
  go_enter Try.func10, Try.ntmps10
  go_upto_region 4 with (first
    | (go_at_call 21; refine (thermionkit_NewDice.calls A0 c0 l0 s0 w w (Below.refl _ _) HR0.out hc0 HND.out).mono ?_; rintro e w1 ⟨g, rfl, hI1, hB1, hB1b⟩; have HI1 := Aside0.mk hI1; have HB1 := Aside0.mk hB1; clear hI1 hB1 hB1b HND)
    | (go_at_call 22; refine (thermionkit_PlanOf.calls g s0 8 6 W H R C s1 w w1 HI1.out HB1.out HD.out.plan).mono ?_; rintro e w2 ⟨v3, rfl, hR, hI, hB, hK⟩; obtain ⟨AC, cC, rfl⟩ := Kd.R_slice hR; have HP2 := Aside0.mk (PW.make hI hB hR HB1.out.size); have HN2 := Aside0.mk (Mem.start w2); clear hR hI hB hK HI1 HB1)
    | ((with_reducible refine gate_dst (N := 8) rfl ?_); refine ev_new HN2.out rfl 24 rfl info24 ?_; intro g6 w3 hm3 hq3; have HP3 := Aside0.mk (HP2.out.below hq3); have HN3 := Aside0.mk hm3; clear hm3 hq3 HN2)
    | ((with_reducible refine gate_store (t := 24) (p := 8) rfl ?_); refine ev_store HN3.out rfl 24 (.tmp 8) (.tmp 26) rfl rfl (cs := planV W H R AC C.length cC) rfl size24 rfl rfl (by simp [Value.oneCell']) ?_; intro w4 hm4 hq4; clear hq4; have HN4 := Aside0.mk hm4; have HP4 := Aside0.mk (HP2.out.below hm4.below); clear hm4 HN3 HP3 HP2)
    | ((with_reducible refine gate_dst (N := 28) rfl ?_); refine ev_load HN4.out.head rfl 24 (.tmp 8) rfl rfl _ Try.underlying24 rfl size24 rfl ?_)
    | (go_at_call 23; refine (thermionkit_VoltsOf.calls kv g s1 W H R AC cC C v s2 w w4 HP4.out.dice HP4.out.old HP4.out.reads HP4.out.cap HP4.out.far HVO.out).mono ?_; rintro e wb ⟨vv, rfl, hR, hI, hB, hK⟩; obtain ⟨AV, cV, rfl⟩ := Kd.R_slice hR; have HLB := Aside0.mk (LB.make HP4.out HN4.out hR hB hK); have HM := Aside0.mk (Mem.start wb); clear hR hI hB hK HVO HP4 HN4))
  go_cut [10, 11] (fun v10 v11 wc => ∃ ga gb : Nat, v10 = .slice (some ⟨ga, 0, none⟩) v.length v.length ∧ v11 = .slice (some ⟨gb, 0, none⟩) v.length v.length ∧ Aside0 (Mem wb wc [(gb, numsA (List.replicate v.length 0), 3), (ga, numsA (List.replicate v.length 0), 3)]))
  case first =>
    go_region
    all_goals try go_wp2
    all_goals go_meet
    all_goals (case rel => exact ⟨_, _, rfl, rfl, ⟨by first | exact (mem_two HM.out _ _ _ _).drew | exact (mem_two HM.out _ _ _ _).drew.swap⟩⟩)
  case rest =>
  obtain ⟨ga, gb, rfl, rfl, HN0⟩ := hcut
  clear HM hmk
  have HN : Aside0 (Mem wb wc [(gb, numsA (fillTo (fun _ => x) v.length 0), 3), (ga, numsA (fillTo (fun j => - fn v j) v.length 0), 3)]) := ⟨by rw [fillTo_zero, fillTo_zero]; exact HN0.out⟩
  have HRV : Aside0 (Kd.C (Kd.int .i64) wb AV v.length v) := ⟨HLB.out.rv⟩
  clear HN0
  go_wp2_with (first
    | (go_at_call 28; refine (thermionkit_Mod.calls a2 2000001 z _ HMZ.out).mono ?_; rintro e1 wd ⟨rfl, hb⟩; have HN2 := Aside0.mk (HN.out.step hb.below); clear hb HN))
  go_loopg [12] v.length (fun k v12 w' => ∃ (i : Nat), v12 = .int .i64 (i : Int) ∧ Aside0 (i + k = v.length) ∧ Aside0 (Mem wb w' [(gb, numsA (fillTo (fun _ => x) v.length i), 3), (ga, numsA (fillTo (fun j => - fn v j) v.length i), 3)]))
  case atStart => exact ⟨0, by go_num, ⟨by omega⟩, HN2⟩
  case round =>
    clear HN2
    obtain ⟨i, rfl, HK, HN⟩ := hrel
    by_cases hci : i < v.length
    · have HI := Aside0.mk hci
      obtain ⟨ad, ead, cv0⟩ := at_row HRV.out i hci
      subst ead
      have hb := HN.out.below
      have cv1 : wr.cell? (ad.add i) = some (.int .i64 (fn v i)) := cell_later hb cv0
      have ca : wr.cell? ⟨ga, i, none⟩ = some (.int .i64 0) := (blk_cell HN.out.second i).trans ((numsA_get (by rw [fillTo_length]; exact hci)).trans (by rw [fn_fillTo _ hci, if_neg (by omega)]))
      have cb : wr.cell? ⟨gb, i, none⟩ = some (.int .i64 0) := (blk_cell HN.out.head i).trans ((numsA_get (by rw [fillTo_length]; exact hci)).trans (by rw [fn_fillTo _ hci, if_neg (by omega)]))
      have fa := blk_frozen HN.out.second i
      have fb := blk_frozen HN.out.head i
      have t1 : decide ((i : Int) < (v.length : Int)) = true := by simp; omega
      have t2 : decide (i < v.length) = true := by simp; omega
      have t3 : wrap64 ((i : Int) + 1) = ((i + 1 : Nat) : Int) := by rw [IntWalk.wrap64_in _ (by have := HVL.out; omega)]; omega
      have t4 : IntKind.i64.wrap (-(fn v i)) = -(fn v i) := IntWalk.i64_in _ (by have := HD.out.volted.vr i hci; omega)
      have ne : ga ≠ gb := (HN.out.ne (ga, numsA (fillTo (fun j => - fn v j) v.length i), 3) (by simp)).symm
      clear cv0 hb
      go_wp2
      go_roundg (v.length - (i + 1))
      case measure => have := HK.out; have := HI.out; omega
      case rel => exact ⟨i + 1, by first | exact congrArg _ t3 | go_num, ⟨by have := HK.out; have := HI.out; omega⟩, ⟨(HN.out.swap.put i (.int .i64 (-fn v i)) (cs' := numsA (fillTo (fun j => - fn v j) v.length (i + 1))) (by rw [numsA_set, fillTo_step (fun j => - fn v j) HI.out])).swap.put i (.int .i64 x) (cs' := numsA (fillTo (fun _ => x) v.length (i + 1))) (by rw [numsA_set, fillTo_step (fun _ => x) HI.out])⟩⟩
    · have ei : i = v.length := by have := HK.out; omega
      obtain ⟨wo, rfl⟩ : ∃ wo : World, wo = wr := ⟨_, rfl⟩
      have HNV : Aside0 (Mem wb wo [(gb, numsA (List.replicate v.length x), 3), (ga, numsA (negs v), 3)]) := ⟨by
        have h1 : fillTo (fun _ => x) v.length i = List.replicate v.length x := by
          have h2 := fillTo_full (fun _ => x) (List.replicate v.length x) (fun j hj => by rw [List.length_replicate] at hj; unfold fn; rw [List.getD_eq_getElem?_getD, List.getElem?_replicate, if_pos hj]; rfl)
          rw [List.length_replicate] at h2
          rw [ei]; exact h2
        have h3 : fillTo (fun j => - fn v j) v.length i = negs v := by
          have h2 := fillTo_full (fun j => - fn v j) (negs v) (fun j _ => (fn_negs v j).symm)
          have h4 : (negs v).length = v.length := by simp [negs]
          rw [h4] at h2
          rw [ei]; exact h2
        rw [← h1, ← h3]; exact HN.out⟩
      subst ei
      clear HN HK hci
      have HCA : ∀ V, Below wo.heap.size wo V → Kd.C (Kd.int .i64) V (some ⟨ga, 0, none⟩) (negs v).length (negs v) := fun V hV => C_of_cells (blk_below HNV.out.second hV) (by have := HVL.out; simp [negs]; omega)
      have HCB : ∀ V, Below wo.heap.size wo V → Kd.C (Kd.int .i64) V (some ⟨gb, 0, none⟩) (List.replicate v.length x).length (List.replicate v.length x) := fun V hV => C_of_cells (blk_below HNV.out.head hV) (by have := HVL.out; simp; omega)
      have HCA := Aside0.mk HCA
      have HCB := Aside0.mk HCB
      have HLA : Aside0 ((negs v).length = v.length) := ⟨by simp [negs]⟩
      have HLZ : Aside0 ((List.replicate v.length x).length = v.length) := ⟨by simp⟩
      have HLN : Aside0 ((negs hi).length = C.length ∧ (negs lo).length = C.length) := ⟨by simp [negs]; exact ⟨HLEN.out.2.1, HLEN.out.1⟩⟩
      have HM0 := Aside0.mk (Mem.start wo)
      have HRW0 := Aside0.mk (Rows.nil wo)
      have t1 : decide ((v.length : Int) < (v.length : Int)) = false := by simp
      go_upto_region 14 with (first
        | (go_at_call 28; refine (thermionkit_Mod.calls a1 41 n _ HMD.out).mono ?_; rintro e1 wd ⟨rfl, hb⟩; have HM1 := Aside0.mk (HM0.out.step hb.below); have HRW1 := Aside0.mk (HRW0.out.below hb.below); clear hb HM0 HRW0)
        | ((with_reducible refine gate_dst (N := 60) rfl ?_); refine ev_load (HLB.out.plan_at (below_step HNV.out.below HM1.out.below)) rfl 24 (.tmp 8) rfl rfl _ Try.underlying24 rfl size24 rfl ?_)
        | (go_at_call 25; (with_reducible refine (solve_at W H R AC cC C AV cV (v.length) (v) n (lo) (hi) K st _ (HLB.out.rc_at (below_step HNV.out.below HM1.out.below)) HLB.out.hc rfl (HLB.out.rv_at (below_step HNV.out.below HM1.out.below)) HLB.out.hv HS1.out).mono ?_); rintro e1 w2 ⟨vl, vh, rfl, hR1, hR2, hb⟩; obtain ⟨B1, b1, ee⟩ := Kd.R_slice hR1; rw [ee] at hR1; have hr1 := Kd.R_reads' hR1; rw [HLEN.out.1] at ee; subst ee; obtain ⟨B2, b2, ee⟩ := Kd.R_slice hR2; rw [ee] at hR2; have hr2 := Kd.R_reads' hR2; rw [HLEN.out.2.1] at ee; subst ee; have HM2 := Aside0.mk (HM1.out.step hb); have HRW2 := Aside0.mk (((HRW1.out.below hb).cons hr1.2.2).cons hr2.2.2); clear hR1 hR2 hr1 hr2 hb HM1 HRW1 HS1)
        | ((with_reducible refine gate_dst (N := 14) rfl ?_); refine ev_new (Mem.start w2) rfl 33 rfl info33 ?_; intro g14 w3 hm hq; have HX3 := Aside0.mk hm; clear hm hq)
        | ((with_reducible refine gate_store (t := 33) (p := 14) rfl ?_); refine ev_store HX3.out rfl 33 (.tmp 14) (.tmp 64) rfl rfl (cs := #[.slice B1 C.length b1, .slice B2 C.length b2, .int .i64 (K : Int), .bool st]) rfl size33 rfl rfl (by simp [Value.oneCell']) ?_; intro w4 hm hq; have HM4 := Aside0.mk (mem_join HM2.out hm); have HRW4 := Aside0.mk (HRW2.out.below hm.below); clear hm hq HX3 HM2 HRW2)
        | ((with_reducible refine gate_dst (N := 67) rfl ?_); refine ev_load (HLB.out.plan_at (below_step HNV.out.below HM4.out.below)) rfl 24 (.tmp 8) rfl rfl _ Try.underlying24 rfl size24 rfl ?_)
        | (go_at_call 25; (with_reducible refine (solve_at W H R AC cC C (some ⟨ga, 0, none⟩) v.length (v.length) (negs v) n (negs hi) (negs lo) K st _ (HLB.out.rc_at (below_step HNV.out.below HM4.out.below)) HLB.out.hc HLA.out (HCA.out _ HM4.out.below) (Nat.le_refl _) HS2.out).mono ?_); rintro e1 w5 ⟨vl, vh, rfl, hR1, hR2, hb⟩; obtain ⟨B3, b3, ee⟩ := Kd.R_slice hR1; rw [ee] at hR1; have hr1 := Kd.R_reads' hR1; rw [HLN.out.1] at ee; subst ee; obtain ⟨B4, b4, ee⟩ := Kd.R_slice hR2; rw [ee] at hR2; have hr2 := Kd.R_reads' hR2; rw [HLN.out.2] at ee; subst ee; have HM5 := Aside0.mk (HM4.out.step hb); have HRW5 := Aside0.mk (((HRW4.out.below hb).cons hr1.2.2).cons hr2.2.2); clear hR1 hR2 hr1 hr2 hb HM4 HRW4 HS2)
        | ((with_reducible refine gate_dst (N := 16) rfl ?_); refine ev_new (Mem.start w5) rfl 33 rfl info33 ?_; intro g16 w6 hm hq; have HX6 := Aside0.mk hm; clear hm hq)
        | ((with_reducible refine gate_store (t := 33) (p := 16) rfl ?_); refine ev_store HX6.out rfl 33 (.tmp 16) (.tmp 71) rfl rfl (cs := #[.slice B3 C.length b3, .slice B4 C.length b4, .int .i64 (K : Int), .bool st]) rfl size33 rfl rfl (by simp [Value.oneCell']) ?_; intro w7 hm hq; have HM7 := Aside0.mk (mem_join HM5.out hm); have HRW7 := Aside0.mk (HRW5.out.below hm.below); clear hm hq HX6 HM5 HRW5)
        | ((with_reducible refine gate_dst (N := 74) rfl ?_); refine ev_load (HLB.out.plan_at (below_step HNV.out.below HM7.out.below)) rfl 24 (.tmp 8) rfl rfl _ Try.underlying24 rfl size24 rfl ?_)
        | (go_at_call 25; (with_reducible refine (solve_at W H R AC cC C (some ⟨gb, 0, none⟩) v.length (v.length) (List.replicate v.length x) n (lv) (hv) K3 st3 _ (HLB.out.rc_at (below_step HNV.out.below HM7.out.below)) HLB.out.hc HLZ.out (HCB.out _ HM7.out.below) (Nat.le_refl _) HS3.out).mono ?_); rintro e1 w8 ⟨vl, vh, rfl, hR1, hR2, hb⟩; obtain ⟨B5, b5, ee⟩ := Kd.R_slice hR1; rw [ee] at hR1; have hr1 := Kd.R_reads' hR1; rw [HLEN.out.2.2.1] at ee; subst ee; obtain ⟨B6, b6, ee⟩ := Kd.R_slice hR2; rw [ee] at hR2; have hr2 := Kd.R_reads' hR2; rw [HLEN.out.2.2.2] at ee; subst ee; have HM8 := Aside0.mk (HM7.out.step hb); have HRW8 := Aside0.mk (((HRW7.out.below hb).cons hr1.2.2).cons hr2.2.2); clear hR1 hR2 hr1 hr2 hb HM7 HRW7 HS3)
        | ((with_reducible refine gate_dst (N := 18) rfl ?_); refine ev_new (Mem.start w8) rfl 33 rfl info33 ?_; intro g18 w9 hm hq; have HX9 := Aside0.mk hm; clear hm hq)
        | ((with_reducible refine gate_store (t := 33) (p := 18) rfl ?_); refine ev_store HX9.out rfl 33 (.tmp 18) (.tmp 78) rfl rfl (cs := #[.slice B5 C.length b5, .slice B6 C.length b6, .int .i64 (K3 : Int), .bool st3]) rfl size33 rfl rfl (by simp [Value.oneCell']) ?_; intro w10 hm hq; have HM10 := Aside0.mk (mem_join HM8.out hm); have HRW10 := Aside0.mk (HRW8.out.below hm.below); clear hm hq HX9 HM8 HRW8))
      have qa0 : w10.cell? ⟨g14, 0, none⟩ = some (.slice B1 C.length b1) := (blk_cell HM10.out.third 0).trans rfl
      have qa1 : w10.cell? ⟨g14, 1, none⟩ = some (.slice B2 C.length b2) := (blk_cell HM10.out.third 1).trans rfl
      have qa2 : w10.cell? ⟨g14, 2, none⟩ = some (.int .i64 (K : Int)) := (blk_cell HM10.out.third 2).trans rfl
      have qa3 : w10.cell? ⟨g14, 3, none⟩ = some (.bool st) := (blk_cell HM10.out.third 3).trans rfl
      have qb0 : w10.cell? ⟨g16, 0, none⟩ = some (.slice B3 C.length b3) := (blk_cell HM10.out.second 0).trans rfl
      have qb1 : w10.cell? ⟨g16, 1, none⟩ = some (.slice B4 C.length b4) := (blk_cell HM10.out.second 1).trans rfl
      have qb2 : w10.cell? ⟨g16, 2, none⟩ = some (.int .i64 (K : Int)) := (blk_cell HM10.out.second 2).trans rfl
      have qb3 : w10.cell? ⟨g16, 3, none⟩ = some (.bool st) := (blk_cell HM10.out.second 3).trans rfl
      have qc0 : w10.cell? ⟨g18, 0, none⟩ = some (.slice B5 C.length b5) := (blk_cell HM10.out.head 0).trans rfl
      have qc1 : w10.cell? ⟨g18, 1, none⟩ = some (.slice B6 C.length b6) := (blk_cell HM10.out.head 1).trans rfl
      go_upto_region 17 with fail
      have HM11 : Aside0 (Mem wo (w10.alloc (.cells #[.slice B1 C.length b1, .slice B2 C.length b2, .slice B3 C.length b3, .slice B4 C.length b4, .slice B5 C.length b5, .slice B6 C.length b6] 22)) [(w10.heap.size, #[.slice B1 C.length b1, .slice B2 C.length b2, .slice B3 C.length b3, .slice B4 C.length b4, .slice B5 C.length b5, .slice B6 C.length b6], 22), (g18, #[.slice B5 C.length b5, .slice B6 C.length b6, .int .i64 (K3 : Int), .bool st3], 33), (g16, #[.slice B3 C.length b3, .slice B4 C.length b4, .int .i64 (K : Int), .bool st], 33), (g14, #[.slice B1 C.length b1, .slice B2 C.length b2, .int .i64 (K : Int), .bool st], 33)]) := ⟨HM10.out.new rfl (blk_new _ _) (below_alloc (Below.refl _ _) _)⟩
      have HRW11 : Aside0 (Rows (w10.alloc (.cells #[.slice B1 C.length b1, .slice B2 C.length b2, .slice B3 C.length b3, .slice B4 C.length b4, .slice B5 C.length b5, .slice B6 C.length b6] 22)) [(B6, hv), (B5, lv), (B4, negs lo), (B3, negs hi), (B2, hi), (B1, lo)]) := ⟨HRW10.out.below (below_alloc (Below.refl _ _) _)⟩
      clear qa0 qa1 qa2 qa3 qb0 qb1 qb2 qb3 qc0 qc1 HM10 HRW10
      generalize w10.alloc _ = w11 at HM11 HRW11 ⊢
      generalize w10.heap.size = gl at HM11 ⊢
      go_wp2_with fail
      go_loopg [21] 6 (fun k v21 w' => ∃ (i : Nat), v21 = .int .i64 (i : Int) ∧ Aside0 (i + k = 6) ∧ Aside0 (Mem wo w' [(gl, #[.slice B1 C.length b1, .slice B2 C.length b2, .slice B3 C.length b3, .slice B4 C.length b4, .slice B5 C.length b5, .slice B6 C.length b6], 22), (g18, #[.slice B5 C.length b5, .slice B6 C.length b6, .int .i64 (K3 : Int), .bool st3], 33), (g16, #[.slice B3 C.length b3, .slice B4 C.length b4, .int .i64 (K : Int), .bool st], 33), (g14, #[.slice B1 C.length b1, .slice B2 C.length b2, .int .i64 (K : Int), .bool st], 33)]) ∧ Aside0 (Rows w' [(B6, hv), (B5, lv), (B4, negs lo), (B3, negs hi), (B2, hi), (B1, lo)]))
      case atStart => exact ⟨0, by go_num, ⟨by omega⟩, HM11, HRW11⟩
      case round =>
        clear HM11 HRW11
        obtain ⟨i, rfl, HK, HM, HRW⟩ := hrel
        have HBP := Aside0.mk (below_step HNV.out.below HM.out.below)
        have q3 : wr.cell? ⟨g6, 3, none⟩ = some (.slice AC C.length cC) := (HLB.out.cells_at HBP.out).2.2.2
        by_cases hci : i < 6
        · have HI := Aside0.mk hci
          obtain ⟨Bi, bi, qi⟩ : ∃ Bi bi, wr.cell? ⟨gl, i, none⟩ = some (.slice Bi C.length bi) := by
            have hc := blk_cell HM.out.head i
            rcases (show i = 0 ∨ i = 1 ∨ i = 2 ∨ i = 3 ∨ i = 4 ∨ i = 5 by omega) with rfl | rfl | rfl | rfl | rfl | rfl
            · exact ⟨B1, b1, hc.trans rfl⟩
            · exact ⟨B2, b2, hc.trans rfl⟩
            · exact ⟨B3, b3, hc.trans rfl⟩
            · exact ⟨B4, b4, hc.trans rfl⟩
            · exact ⟨B5, b5, hc.trans rfl⟩
            · exact ⟨B6, b6, hc.trans rfl⟩
          have t1 : decide ((i : Int) < 6) = true := by simp; omega
          have t2 : decide (i < 6) = true := by simp; omega
          have t3 : wrap64 ((i : Int) + 1) = ((i + 1 : Nat) : Int) := by rw [IntWalk.wrap64_in _ (by omega)]; omega
          have HM2 := HM
          clear HM
          go_upto_region 20 with fail
          go_quiet (fail)
          go_wp2_with fail
          go_roundg (6 - (i + 1))
          case measure => have := HK.out; have := HI.out; omega
          case rel => exact ⟨i + 1, by first | exact congrArg _ t3 | go_num, ⟨by have := HK.out; have := HI.out; omega⟩, ⟨by first | exact HM2.out.drewN _ | exact HM2.out.drew⟩, ⟨by first | exact HRW.out.below (pw_below_drewN (Below.refl _ _) _) | exact HRW.out.below (below_drew1 (Below.refl _ _))⟩⟩
        · have t1 : decide ((i : Int) < 6) = false := by simp; omega
          have t2 : decide (i < 6) = false := by simp; omega
          obtain ⟨wp, rfl⟩ : ∃ wp : World, wp = wr := ⟨_, rfl⟩
          go_upto_region 22 with fail
          go_wp2_with fail
          go_loopg [22] C.length (fun k v22 w' => ∃ (i : Nat), v22 = .int .i64 (i : Int) ∧ Aside0 (i + k = C.length) ∧ Aside0 (Mem wo w' [(gl, #[.slice B1 C.length b1, .slice B2 C.length b2, .slice B3 C.length b3, .slice B4 C.length b4, .slice B5 C.length b5, .slice B6 C.length b6], 22), (g18, #[.slice B5 C.length b5, .slice B6 C.length b6, .int .i64 (K3 : Int), .bool st3], 33), (g16, #[.slice B3 C.length b3, .slice B4 C.length b4, .int .i64 (K : Int), .bool st], 33), (g14, #[.slice B1 C.length b1, .slice B2 C.length b2, .int .i64 (K : Int), .bool st], 33)]) ∧ Aside0 (Rows w' [(B6, hv), (B5, lv), (B4, negs lo), (B3, negs hi), (B2, hi), (B1, lo)]))
          case atStart => exact ⟨0, by go_num, ⟨by omega⟩, HM, HRW⟩
          case round =>
            clear HM HRW HK HBP q3 t1 t2 hci
            obtain ⟨i, rfl, HK, HM, HRW⟩ := hrel
            have HBP := Aside0.mk (below_step HNV.out.below HM.out.below)
            have q3 : wr.cell? ⟨g6, 3, none⟩ = some (.slice AC C.length cC) := (HLB.out.cells_at HBP.out).2.2.2
            by_cases hci : i < C.length
            · have HI := Aside0.mk hci
              have r1 := HRW.out.all (B1, lo) (by simp)
              have r2 := HRW.out.all (B2, hi) (by simp)
              have r3 := HRW.out.all (B3, negs hi) (by simp)
              have r4 := HRW.out.all (B4, negs lo) (by simp)
              have r5 := HRW.out.all (B5, lv) (by simp)
              have r6 := HRW.out.all (B6, hv) (by simp)
              obtain ⟨d1, e1, x1⟩ := at_row r1 i (by rw [HLEN.out.1]; exact hci)
              obtain ⟨d2, e2, x2⟩ := at_row r2 i (by rw [HLEN.out.2.1]; exact hci)
              obtain ⟨d3, e3, x3⟩ := at_row r3 i (by rw [HLN.out.1]; exact hci)
              obtain ⟨d4, e4, x4⟩ := at_row r4 i (by rw [HLN.out.2]; exact hci)
              obtain ⟨d5, e5, x5⟩ := at_row r5 i (by rw [HLEN.out.2.2.1]; exact hci)
              obtain ⟨d6, e6, x6⟩ := at_row r6 i (by rw [HLEN.out.2.2.2]; exact hci)
              simp only at e1 e2 e3 e4 e5 e6 x1 x2 x3 x4 x5 x6
              subst e1 e2 e3 e4 e5 e6
              rw [fn_negs] at x3 x4
              rw [(HLEV.out i hci).1] at x5
              rw [(HLEV.out i hci).2] at x6
              have hR := HNEG.out i hci
              generalize fn lo i = y1 at x1 x4 hR
              generalize fn hi i = y2 at x2 x3 hR
              obtain ⟨⟨z1, z2⟩, z3, z4⟩ := hR
              clear r1 r2 r3 r4 r5 r6
              have qa0 : wr.cell? ⟨g14, 0, none⟩ = some (.slice (some d1) C.length b1) := (blk_cell (mem_fourth HM.out) 0).trans rfl
              have qa1 : wr.cell? ⟨g14, 1, none⟩ = some (.slice (some d2) C.length b2) := (blk_cell (mem_fourth HM.out) 1).trans rfl
              have qb0 : wr.cell? ⟨g16, 0, none⟩ = some (.slice (some d3) C.length b3) := (blk_cell HM.out.third 0).trans rfl
              have qb1 : wr.cell? ⟨g16, 1, none⟩ = some (.slice (some d4) C.length b4) := (blk_cell HM.out.third 1).trans rfl
              have qc0 : wr.cell? ⟨g18, 0, none⟩ = some (.slice (some d5) C.length b5) := (blk_cell HM.out.second 0).trans rfl
              have qc1 : wr.cell? ⟨g18, 1, none⟩ = some (.slice (some d6) C.length b6) := (blk_cell HM.out.second 1).trans rfl
              have t1 : decide ((i : Int) < (C.length : Int)) = true := by simp; omega
              have t2 : decide (i < C.length) = true := by simp; omega
              have t3 : wrap64 ((i : Int) + 1) = ((i + 1 : Nat) : Int) := by rw [IntWalk.wrap64_in _ (by have := HSM.out; omega)]; omega
              have t4 : IntKind.i64.wrap y1 = y1 := IntWalk.i64_in _ (by omega)
              have t5 : IntKind.i64.wrap y2 = y2 := IntWalk.i64_in _ (by omega)
              have HM2 := HM
              clear HM
              go_upto_region 25 with fail
              have HBd := Aside0.mk (below_drew1 (Below.refl wr.heap.size wr))
              refine start_ (n := 44) (S := fun w' => w'.cell? ⟨g14, 0, none⟩ = some (.slice (some d1) C.length b1) ∧ w'.cell? ⟨g14, 1, none⟩ = some (.slice (some d2) C.length b2) ∧ w'.cell? ⟨g16, 0, none⟩ = some (.slice (some d3) C.length b3) ∧ w'.cell? ⟨g16, 1, none⟩ = some (.slice (some d4) C.length b4) ∧ w'.cell? ⟨g18, 0, none⟩ = some (.slice (some d5) C.length b5) ∧ w'.cell? ⟨g18, 1, none⟩ = some (.slice (some d6) C.length b6) ∧ w'.cell? (d1.add i) = some (.int .i64 y1) ∧ w'.cell? (d2.add i) = some (.int .i64 y2) ∧ w'.cell? (d3.add i) = some (.int .i64 (-y2)) ∧ w'.cell? (d4.add i) = some (.int .i64 (-y1)) ∧ w'.cell? (d5.add i) = some (.int .i64 x) ∧ w'.cell? (d6.add i) = some (.int .i64 x)) (ds := []) #[false, false, false, false, false, false, false, false, false, false, false, false, false, false, false, false, false, false, false, false, false, false, false, false, false, false, false, false, false, false, false, false, false, false, false, false, false, false, false, false, false, false, false, false] (by kernel_rfl) rfl rfl ⟨qa0, qa1, qb0, qb1, qc0, qc1, x1, x2, x3, x4, x5, x6⟩ (fun hHeld => ?_); refine with_tabW signsF.tab25 signsF.bits25 (fun HT_ HW_ => ?_)
              generalize wr.drew = wd at HBd hHeld  ⊢
              refine pure_ (i := 0) (N := some 139) (v := ?_) (a' := ?_) #[true, false, false, false, false, false, false, false, false, false, false, false, false, false, false, false, false, false, false, false, false, false, false, false, false, false, false, false, false, false, false, false, false, false, false, false, false, false, false, false, false, false, false, false] rfl rfl (any_of HT_.out (by kernel_rfl)) (fun _ _ _ h => h) (Or.inl ⟨by rfl, ?_⟩) ?_ ?_
              rotate_left
              · intro w'
                go_simp
                with_reducible rfl
              rotate_left
              · simp only [Act.put, List.setIfInBounds_toArray, List.set_cons_zero, List.set_cons_succ, i64_w, i32_w]
                rfl
              refine pure_ (i := 2) (N := some 141) (v := ?_) (a' := ?_) #[true, false, true, false, false, false, false, false, false, false, false, false, false, false, false, false, false, false, false, false, false, false, false, false, false, false, false, false, false, false, false, false, false, false, false, false, false, false, false, false, false, false, false, false] rfl rfl (any_of HT_.out (by kernel_rfl)) (fun _ _ _ h => h) (Or.inl ⟨by rfl, ?_⟩) ?_ ?_
              rotate_left
              · intro w'
                go_simp
                with_reducible rfl
              rotate_left
              · simp only [Act.put, List.setIfInBounds_toArray, List.set_cons_zero, List.set_cons_succ, i64_w, i32_w]
                rfl
              refine pure_ (i := 5) (N := some 144) (v := ?_) (a' := ?_) #[true, false, true, false, false, true, false, false, false, false, false, false, false, false, false, false, false, false, false, false, false, false, false, false, false, false, false, false, false, false, false, false, false, false, false, false, false, false, false, false, false, false, false, false] rfl rfl (any_of HT_.out (by kernel_rfl)) (fun _ _ _ h => h) (Or.inl ⟨by rfl, ?_⟩) ?_ ?_
              rotate_left
              · intro w'
                go_simp
                with_reducible rfl
              rotate_left
              · simp only [Act.put, List.setIfInBounds_toArray, List.set_cons_zero, List.set_cons_succ, i64_w, i32_w]
                rfl
              refine pure_ (i := 7) (N := some 146) (v := ?_) (a' := ?_) #[true, false, true, false, false, true, false, true, false, false, false, false, false, false, false, false, false, false, false, false, false, false, false, false, false, false, false, false, false, false, false, false, false, false, false, false, false, false, false, false, false, false, false, false] rfl rfl (any_of HT_.out (by kernel_rfl)) (fun _ _ _ h => h) (Or.inl ⟨by rfl, ?_⟩) ?_ ?_
              rotate_left
              · intro w'
                go_simp
                with_reducible rfl
              rotate_left
              · simp only [Act.put, List.setIfInBounds_toArray, List.set_cons_zero, List.set_cons_succ, i64_w, i32_w]
                rfl
              refine take_ (i := 1) (N := some 140) (v := ?_) (a' := ?_) #[true, true, true, false, false, true, false, true, false, false, false, false, false, false, false, false, false, false, false, false, false, false, false, false, false, false, false, false, false, false, false, false, false, false, false, false, false, false, false, false, false, false, false, false] rfl rfl (take_ofW HT_.out HW_.out (by kernel_rfl)) (fun _ _ _ h => h) (Or.inl ⟨by rfl, ?_⟩) hHeld ?_ ?_
              rotate_left
              · rintro w' ⟨s0, s1, s2, s3, s4, s5, s6, s7, s8, s9, s10, s11⟩
                go_simp
                with_reducible rfl
              rotate_left
              · simp only [Act.put, List.setIfInBounds_toArray, List.set_cons_zero, List.set_cons_succ, i64_w, i32_w]
                rfl
              refine pure_ (i := 3) (N := some 142) (v := ?_) (a' := ?_) #[true, true, true, true, false, true, false, true, false, false, false, false, false, false, false, false, false, false, false, false, false, false, false, false, false, false, false, false, false, false, false, false, false, false, false, false, false, false, false, false, false, false, false, false] rfl rfl (any_of HT_.out (by kernel_rfl)) (fun _ _ _ h => h) (Or.inl ⟨by rfl, ?_⟩) ?_ ?_
              rotate_left
              · intro w'
                go_simp
                with_reducible rfl
              rotate_left
              · simp only [Act.put, List.setIfInBounds_toArray, List.set_cons_zero, List.set_cons_succ, i64_w, i32_w]
                rfl
              refine take_ (i := 4) (N := some 143) (v := ?_) (a' := ?_) #[true, true, true, true, true, true, false, true, false, false, false, false, false, false, false, false, false, false, false, false, false, false, false, false, false, false, false, false, false, false, false, false, false, false, false, false, false, false, false, false, false, false, false, false] rfl rfl (take_ofW HT_.out HW_.out (by kernel_rfl)) (fun _ _ _ h => h) (Or.inl ⟨by rfl, ?_⟩) hHeld ?_ ?_
              rotate_left
              · rintro w' ⟨s0, s1, s2, s3, s4, s5, s6, s7, s8, s9, s10, s11⟩
                go_simp
                with_reducible rfl
              rotate_left
              · simp only [Act.put, List.setIfInBounds_toArray, List.set_cons_zero, List.set_cons_succ, i64_w, i32_w]
                rfl
              refine take_ (i := 6) (N := some 145) (v := ?_) (a' := ?_) #[true, true, true, true, true, true, true, true, false, false, false, false, false, false, false, false, false, false, false, false, false, false, false, false, false, false, false, false, false, false, false, false, false, false, false, false, false, false, false, false, false, false, false, false] rfl rfl (take_ofW HT_.out HW_.out (by kernel_rfl)) (fun _ _ _ h => h) (Or.inl ⟨by rfl, ?_⟩) hHeld ?_ ?_
              rotate_left
              · rintro w' ⟨s0, s1, s2, s3, s4, s5, s6, s7, s8, s9, s10, s11⟩
                go_simp
                with_reducible rfl
              rotate_left
              · simp only [Act.put, List.setIfInBounds_toArray, List.set_cons_zero, List.set_cons_succ, i64_w, i32_w]
                rfl
              refine pure_ (i := 8) (N := some 147) (v := ?_) (a' := ?_) #[true, true, true, true, true, true, true, true, true, false, false, false, false, false, false, false, false, false, false, false, false, false, false, false, false, false, false, false, false, false, false, false, false, false, false, false, false, false, false, false, false, false, false, false] rfl rfl (any_of HT_.out (by kernel_rfl)) (fun _ _ _ h => h) (Or.inl ⟨by rfl, ?_⟩) ?_ ?_
              rotate_left
              · intro w'
                go_simp
                with_reducible rfl
              rotate_left
              · simp only [Act.put, List.setIfInBounds_toArray, List.set_cons_zero, List.set_cons_succ, i64_w, i32_w]
                rfl
              refine take_ (i := 9) (N := some 148) (v := ?_) (a' := ?_) #[true, true, true, true, true, true, true, true, true, true, false, false, false, false, false, false, false, false, false, false, false, false, false, false, false, false, false, false, false, false, false, false, false, false, false, false, false, false, false, false, false, false, false, false] rfl rfl (take_ofW HT_.out HW_.out (by kernel_rfl)) (fun _ _ _ h => h) (Or.inl ⟨by rfl, ?_⟩) hHeld ?_ ?_
              rotate_left
              · rintro w' ⟨s0, s1, s2, s3, s4, s5, s6, s7, s8, s9, s10, s11⟩
                go_simp
                with_reducible rfl
              rotate_left
              · simp only [Act.put, List.setIfInBounds_toArray, List.set_cons_zero, List.set_cons_succ, i64_w, i32_w]
                rfl
              refine pure_ (i := 10) (N := some 149) (v := ?_) (a' := ?_) #[true, true, true, true, true, true, true, true, true, true, true, false, false, false, false, false, false, false, false, false, false, false, false, false, false, false, false, false, false, false, false, false, false, false, false, false, false, false, false, false, false, false, false, false] rfl rfl (any_of HT_.out (by kernel_rfl)) (fun _ _ _ h => h) (Or.inl ⟨by rfl, ?_⟩) ?_ ?_
              rotate_left
              · intro w'
                go_simp
                with_reducible rfl
              rotate_left
              · simp only [Act.put, List.setIfInBounds_toArray, List.set_cons_zero, List.set_cons_succ, i64_w, i32_w]
                rfl
              refine pure_ (i := 11) (N := some 150) (v := ?_) (a' := ?_) #[true, true, true, true, true, true, true, true, true, true, true, true, false, false, false, false, false, false, false, false, false, false, false, false, false, false, false, false, false, false, false, false, false, false, false, false, false, false, false, false, false, false, false, false] rfl rfl (any_of HT_.out (by kernel_rfl)) (fun _ _ _ h => h) (Or.inl ⟨by rfl, ?_⟩) ?_ ?_
              rotate_left
              · intro w'
                go_simp
                with_reducible rfl
              rotate_left
              · simp only [Act.put, List.setIfInBounds_toArray, List.set_cons_zero, List.set_cons_succ, i64_w, i32_w]
                rfl
              refine pure_ (i := 12) (N := some 151) (v := ?_) (a' := ?_) #[true, true, true, true, true, true, true, true, true, true, true, true, true, false, false, false, false, false, false, false, false, false, false, false, false, false, false, false, false, false, false, false, false, false, false, false, false, false, false, false, false, false, false, false] rfl rfl (any_of HT_.out (by kernel_rfl)) (fun _ _ _ h => h) (Or.inl ⟨by rfl, ?_⟩) ?_ ?_
              rotate_left
              · intro w'
                go_simp
                with_reducible rfl
              rotate_left
              · simp only [Act.put, List.setIfInBounds_toArray, List.set_cons_zero, List.set_cons_succ, i64_w, i32_w]
                rfl
              refine pure_ (i := 13) (N := some 152) (v := ?_) (a' := ?_) #[true, true, true, true, true, true, true, true, true, true, true, true, true, true, false, false, false, false, false, false, false, false, false, false, false, false, false, false, false, false, false, false, false, false, false, false, false, false, false, false, false, false, false, false] rfl rfl (any_of HT_.out (by kernel_rfl)) (fun _ _ _ h => h) (Or.inl ⟨by rfl, ?_⟩) ?_ ?_
              rotate_left
              · intro w'
                go_simp
                with_reducible rfl
              rotate_left
              · simp only [Act.put, List.setIfInBounds_toArray, List.set_cons_zero, List.set_cons_succ, i64_w, i32_w]
                rfl
              refine pure_ (i := 15) (N := some 154) (v := ?_) (a' := ?_) #[true, true, true, true, true, true, true, true, true, true, true, true, true, true, false, true, false, false, false, false, false, false, false, false, false, false, false, false, false, false, false, false, false, false, false, false, false, false, false, false, false, false, false, false] rfl rfl (any_of HT_.out (by kernel_rfl)) (fun _ _ _ h => h) (Or.inl ⟨by rfl, ?_⟩) ?_ ?_
              rotate_left
              · intro w'
                go_simp
                with_reducible rfl
              rotate_left
              · simp only [Act.put, List.setIfInBounds_toArray, List.set_cons_zero, List.set_cons_succ, i64_w, i32_w]
                rfl
              refine pure_ (i := 18) (N := some 157) (v := ?_) (a' := ?_) #[true, true, true, true, true, true, true, true, true, true, true, true, true, true, false, true, false, false, true, false, false, false, false, false, false, false, false, false, false, false, false, false, false, false, false, false, false, false, false, false, false, false, false, false] rfl rfl (any_of HT_.out (by kernel_rfl)) (fun _ _ _ h => h) (Or.inl ⟨by rfl, ?_⟩) ?_ ?_
              rotate_left
              · intro w'
                go_simp
                with_reducible rfl
              rotate_left
              · simp only [Act.put, List.setIfInBounds_toArray, List.set_cons_zero, List.set_cons_succ, i64_w, i32_w]
                rfl
              refine pure_ (i := 20) (N := some 159) (v := ?_) (a' := ?_) #[true, true, true, true, true, true, true, true, true, true, true, true, true, true, false, true, false, false, true, false, true, false, false, false, false, false, false, false, false, false, false, false, false, false, false, false, false, false, false, false, false, false, false, false] rfl rfl (any_of HT_.out (by kernel_rfl)) (fun _ _ _ h => h) (Or.inl ⟨by rfl, ?_⟩) ?_ ?_
              rotate_left
              · intro w'
                go_simp
                with_reducible rfl
              rotate_left
              · simp only [Act.put, List.setIfInBounds_toArray, List.set_cons_zero, List.set_cons_succ, i64_w, i32_w]
                rfl
              refine take_ (i := 14) (N := some 153) (v := ?_) (a' := ?_) #[true, true, true, true, true, true, true, true, true, true, true, true, true, true, true, true, false, false, true, false, true, false, false, false, false, false, false, false, false, false, false, false, false, false, false, false, false, false, false, false, false, false, false, false] rfl rfl (take_ofW HT_.out HW_.out (by kernel_rfl)) (fun _ _ _ h => h) (Or.inl ⟨by rfl, ?_⟩) hHeld ?_ ?_
              rotate_left
              · rintro w' ⟨s0, s1, s2, s3, s4, s5, s6, s7, s8, s9, s10, s11⟩
                go_simp
                with_reducible rfl
              rotate_left
              · simp only [Act.put, List.setIfInBounds_toArray, List.set_cons_zero, List.set_cons_succ, i64_w, i32_w]
                rfl
              refine pure_ (i := 16) (N := some 155) (v := ?_) (a' := ?_) #[true, true, true, true, true, true, true, true, true, true, true, true, true, true, true, true, true, false, true, false, true, false, false, false, false, false, false, false, false, false, false, false, false, false, false, false, false, false, false, false, false, false, false, false] rfl rfl (any_of HT_.out (by kernel_rfl)) (fun _ _ _ h => h) (Or.inl ⟨by rfl, ?_⟩) ?_ ?_
              rotate_left
              · intro w'
                go_simp
                with_reducible rfl
              rotate_left
              · simp only [Act.put, List.setIfInBounds_toArray, List.set_cons_zero, List.set_cons_succ, i64_w, i32_w]
                rfl
              refine take_ (i := 17) (N := some 156) (v := ?_) (a' := ?_) #[true, true, true, true, true, true, true, true, true, true, true, true, true, true, true, true, true, true, true, false, true, false, false, false, false, false, false, false, false, false, false, false, false, false, false, false, false, false, false, false, false, false, false, false] rfl rfl (take_ofW HT_.out HW_.out (by kernel_rfl)) (fun _ _ _ h => h) (Or.inl ⟨by rfl, ?_⟩) hHeld ?_ ?_
              rotate_left
              · rintro w' ⟨s0, s1, s2, s3, s4, s5, s6, s7, s8, s9, s10, s11⟩
                go_simp
                with_reducible rfl
              rotate_left
              · simp only [Act.put, List.setIfInBounds_toArray, List.set_cons_zero, List.set_cons_succ, i64_w, i32_w]
                rfl
              refine take_ (i := 19) (N := some 158) (v := ?_) (a' := ?_) #[true, true, true, true, true, true, true, true, true, true, true, true, true, true, true, true, true, true, true, true, true, false, false, false, false, false, false, false, false, false, false, false, false, false, false, false, false, false, false, false, false, false, false, false] rfl rfl (take_ofW HT_.out HW_.out (by kernel_rfl)) (fun _ _ _ h => h) (Or.inl ⟨by rfl, ?_⟩) hHeld ?_ ?_
              rotate_left
              · rintro w' ⟨s0, s1, s2, s3, s4, s5, s6, s7, s8, s9, s10, s11⟩
                go_simp
                with_reducible rfl
              rotate_left
              · simp only [Act.put, List.setIfInBounds_toArray, List.set_cons_zero, List.set_cons_succ, i64_w, i32_w]
                rfl
              refine pure_ (i := 21) (N := some 160) (v := ?_) (a' := ?_) #[true, true, true, true, true, true, true, true, true, true, true, true, true, true, true, true, true, true, true, true, true, true, false, false, false, false, false, false, false, false, false, false, false, false, false, false, false, false, false, false, false, false, false, false] rfl rfl (any_of HT_.out (by kernel_rfl)) (fun _ _ _ h => h) (Or.inl ⟨by rfl, ?_⟩) ?_ ?_
              rotate_left
              · intro w'
                go_simp
                with_reducible rfl
              rotate_left
              · simp only [Act.put, List.setIfInBounds_toArray, List.set_cons_zero, List.set_cons_succ, i64_w, i32_w]
                rfl
              refine take_ (i := 22) (N := some 161) (v := ?_) (a' := ?_) #[true, true, true, true, true, true, true, true, true, true, true, true, true, true, true, true, true, true, true, true, true, true, true, false, false, false, false, false, false, false, false, false, false, false, false, false, false, false, false, false, false, false, false, false] rfl rfl (take_ofW HT_.out HW_.out (by kernel_rfl)) (fun _ _ _ h => h) (Or.inl ⟨by rfl, ?_⟩) hHeld ?_ ?_
              rotate_left
              · rintro w' ⟨s0, s1, s2, s3, s4, s5, s6, s7, s8, s9, s10, s11⟩
                go_simp
                with_reducible rfl
              rotate_left
              · simp only [Act.put, List.setIfInBounds_toArray, List.set_cons_zero, List.set_cons_succ, i64_w, i32_w]
                rfl
              refine pure_ (i := 23) (N := some 162) (v := ?_) (a' := ?_) #[true, true, true, true, true, true, true, true, true, true, true, true, true, true, true, true, true, true, true, true, true, true, true, true, false, false, false, false, false, false, false, false, false, false, false, false, false, false, false, false, false, false, false, false] rfl rfl (any_of HT_.out (by kernel_rfl)) (fun _ _ _ h => h) (Or.inl ⟨by rfl, ?_⟩) ?_ ?_
              rotate_left
              · intro w'
                go_simp
                with_reducible rfl
              rotate_left
              · simp only [Act.put, List.setIfInBounds_toArray, List.set_cons_zero, List.set_cons_succ, i64_w, i32_w]
                rfl
              refine pure_ (i := 24) (N := some 163) (v := ?_) (a' := ?_) #[true, true, true, true, true, true, true, true, true, true, true, true, true, true, true, true, true, true, true, true, true, true, true, true, true, false, false, false, false, false, false, false, false, false, false, false, false, false, false, false, false, false, false, false] rfl rfl (any_of HT_.out (by kernel_rfl)) (fun _ _ _ h => h) (Or.inl ⟨by rfl, ?_⟩) ?_ ?_
              rotate_left
              · intro w'
                go_simp
                with_reducible rfl
              rotate_left
              · simp only [Act.put, List.setIfInBounds_toArray, List.set_cons_zero, List.set_cons_succ, i64_w, i32_w]
                rfl
              refine pure_ (i := 25) (N := some 164) (v := ?_) (a' := ?_) #[true, true, true, true, true, true, true, true, true, true, true, true, true, true, true, true, true, true, true, true, true, true, true, true, true, true, false, false, false, false, false, false, false, false, false, false, false, false, false, false, false, false, false, false] rfl rfl (any_of HT_.out (by kernel_rfl)) (fun _ _ _ h => h) (Or.inl ⟨by rfl, ?_⟩) ?_ ?_
              rotate_left
              · intro w'
                go_simp
                with_reducible rfl
              rotate_left
              · simp only [Act.put, List.setIfInBounds_toArray, List.set_cons_zero, List.set_cons_succ, i64_w, i32_w]
                rfl
              refine pure_ (i := 26) (N := some 165) (v := ?_) (a' := ?_) #[true, true, true, true, true, true, true, true, true, true, true, true, true, true, true, true, true, true, true, true, true, true, true, true, true, true, true, false, false, false, false, false, false, false, false, false, false, false, false, false, false, false, false, false] rfl rfl (any_of HT_.out (by kernel_rfl)) (fun _ _ _ h => h) (Or.inl ⟨by rfl, ?_⟩) ?_ ?_
              rotate_left
              · intro w'
                go_simp
                with_reducible rfl
              rotate_left
              · simp only [Act.put, List.setIfInBounds_toArray, List.set_cons_zero, List.set_cons_succ, i64_w, i32_w]
                rfl
              refine pure_ (i := 27) (N := some 166) (v := ?_) (a' := ?_) #[true, true, true, true, true, true, true, true, true, true, true, true, true, true, true, true, true, true, true, true, true, true, true, true, true, true, true, true, false, false, false, false, false, false, false, false, false, false, false, false, false, false, false, false] rfl rfl (any_of HT_.out (by kernel_rfl)) (fun _ _ _ h => h) (Or.inl ⟨by rfl, ?_⟩) ?_ ?_
              rotate_left
              · intro w'
                go_simp
                with_reducible rfl
              rotate_left
              · simp only [Act.put, List.setIfInBounds_toArray, List.set_cons_zero, List.set_cons_succ, i64_w, i32_w]
                rfl
              refine pure_ (i := 29) (N := some 168) (v := ?_) (a' := ?_) #[true, true, true, true, true, true, true, true, true, true, true, true, true, true, true, true, true, true, true, true, true, true, true, true, true, true, true, true, false, true, false, false, false, false, false, false, false, false, false, false, false, false, false, false] rfl rfl (any_of HT_.out (by kernel_rfl)) (fun _ _ _ h => h) (Or.inl ⟨by rfl, ?_⟩) ?_ ?_
              rotate_left
              · intro w'
                go_simp
                with_reducible rfl
              rotate_left
              · simp only [Act.put, List.setIfInBounds_toArray, List.set_cons_zero, List.set_cons_succ, i64_w, i32_w]
                rfl
              refine pure_ (i := 32) (N := some 171) (v := ?_) (a' := ?_) #[true, true, true, true, true, true, true, true, true, true, true, true, true, true, true, true, true, true, true, true, true, true, true, true, true, true, true, true, false, true, false, false, true, false, false, false, false, false, false, false, false, false, false, false] rfl rfl (any_of HT_.out (by kernel_rfl)) (fun _ _ _ h => h) (Or.inl ⟨by rfl, ?_⟩) ?_ ?_
              rotate_left
              · intro w'
                go_simp
                with_reducible rfl
              rotate_left
              · simp only [Act.put, List.setIfInBounds_toArray, List.set_cons_zero, List.set_cons_succ, i64_w, i32_w]
                rfl
              refine take_ (i := 28) (N := some 167) (v := ?_) (a' := ?_) #[true, true, true, true, true, true, true, true, true, true, true, true, true, true, true, true, true, true, true, true, true, true, true, true, true, true, true, true, true, true, false, false, true, false, false, false, false, false, false, false, false, false, false, false] rfl rfl (take_ofW HT_.out HW_.out (by kernel_rfl)) (fun _ _ _ h => h) (Or.inl ⟨by rfl, ?_⟩) hHeld ?_ ?_
              rotate_left
              · rintro w' ⟨s0, s1, s2, s3, s4, s5, s6, s7, s8, s9, s10, s11⟩
                go_simp
                with_reducible rfl
              rotate_left
              · simp only [Act.put, List.setIfInBounds_toArray, List.set_cons_zero, List.set_cons_succ, i64_w, i32_w]
                rfl
              refine pure_ (i := 30) (N := some 169) (v := ?_) (a' := ?_) #[true, true, true, true, true, true, true, true, true, true, true, true, true, true, true, true, true, true, true, true, true, true, true, true, true, true, true, true, true, true, true, false, true, false, false, false, false, false, false, false, false, false, false, false] rfl rfl (any_of HT_.out (by kernel_rfl)) (fun _ _ _ h => h) (Or.inl ⟨by rfl, ?_⟩) ?_ ?_
              rotate_left
              · intro w'
                go_simp
                with_reducible rfl
              rotate_left
              · simp only [Act.put, List.setIfInBounds_toArray, List.set_cons_zero, List.set_cons_succ, i64_w, i32_w]
                rfl
              refine take_ (i := 31) (N := some 170) (v := ?_) (a' := ?_) #[true, true, true, true, true, true, true, true, true, true, true, true, true, true, true, true, true, true, true, true, true, true, true, true, true, true, true, true, true, true, true, true, true, false, false, false, false, false, false, false, false, false, false, false] rfl rfl (take_ofW HT_.out HW_.out (by kernel_rfl)) (fun _ _ _ h => h) (Or.inl ⟨by rfl, ?_⟩) hHeld ?_ ?_
              rotate_left
              · rintro w' ⟨s0, s1, s2, s3, s4, s5, s6, s7, s8, s9, s10, s11⟩
                go_simp
                with_reducible rfl
              rotate_left
              · simp only [Act.put, List.setIfInBounds_toArray, List.set_cons_zero, List.set_cons_succ, i64_w, i32_w]
                rfl
              refine pure_ (i := 33) (N := some 172) (v := ?_) (a' := ?_) #[true, true, true, true, true, true, true, true, true, true, true, true, true, true, true, true, true, true, true, true, true, true, true, true, true, true, true, true, true, true, true, true, true, true, false, false, false, false, false, false, false, false, false, false] rfl rfl (any_of HT_.out (by kernel_rfl)) (fun _ _ _ h => h) (Or.inl ⟨by rfl, ?_⟩) ?_ ?_
              rotate_left
              · intro w'
                go_simp
                with_reducible rfl
              rotate_left
              · simp only [Act.put, List.setIfInBounds_toArray, List.set_cons_zero, List.set_cons_succ, i64_w, i32_w]
                rfl
              refine pure_ (i := 34) (N := some 173) (v := ?_) (a' := ?_) #[true, true, true, true, true, true, true, true, true, true, true, true, true, true, true, true, true, true, true, true, true, true, true, true, true, true, true, true, true, true, true, true, true, true, true, false, false, false, false, false, false, false, false, false] rfl rfl (any_of HT_.out (by kernel_rfl)) (fun _ _ _ h => h) (Or.inl ⟨by rfl, ?_⟩) ?_ ?_
              rotate_left
              · intro w'
                go_simp
                with_reducible rfl
              rotate_left
              · simp only [Act.put, List.setIfInBounds_toArray, List.set_cons_zero, List.set_cons_succ, i64_w, i32_w]
                rfl
              refine pure_ (i := 35) (N := some 174) (v := ?_) (a' := ?_) #[true, true, true, true, true, true, true, true, true, true, true, true, true, true, true, true, true, true, true, true, true, true, true, true, true, true, true, true, true, true, true, true, true, true, true, true, false, false, false, false, false, false, false, false] rfl rfl (any_of HT_.out (by kernel_rfl)) (fun _ _ _ h => h) (Or.inl ⟨by rfl, ?_⟩) ?_ ?_
              rotate_left
              · intro w'
                go_simp
                with_reducible rfl
              rotate_left
              · simp only [Act.put, List.setIfInBounds_toArray, List.set_cons_zero, List.set_cons_succ, i64_w, i32_w]
                rfl
              refine pure_ (i := 36) (N := some 175) (v := ?_) (a' := ?_) #[true, true, true, true, true, true, true, true, true, true, true, true, true, true, true, true, true, true, true, true, true, true, true, true, true, true, true, true, true, true, true, true, true, true, true, true, true, false, false, false, false, false, false, false] rfl rfl (any_of HT_.out (by kernel_rfl)) (fun _ _ _ h => h) (Or.inl ⟨by rfl, ?_⟩) ?_ ?_
              rotate_left
              · intro w'
                go_simp
                with_reducible rfl
              rotate_left
              · simp only [Act.put, List.setIfInBounds_toArray, List.set_cons_zero, List.set_cons_succ, i64_w, i32_w]
                rfl
              refine pure_ (i := 38) (N := some 177) (v := ?_) (a' := ?_) #[true, true, true, true, true, true, true, true, true, true, true, true, true, true, true, true, true, true, true, true, true, true, true, true, true, true, true, true, true, true, true, true, true, true, true, true, true, false, true, false, false, false, false, false] rfl rfl (any_of HT_.out (by kernel_rfl)) (fun _ _ _ h => h) (Or.inl ⟨by rfl, ?_⟩) ?_ ?_
              rotate_left
              · intro w'
                go_simp
                with_reducible rfl
              rotate_left
              · simp only [Act.put, List.setIfInBounds_toArray, List.set_cons_zero, List.set_cons_succ, i64_w, i32_w]
                rfl
              refine pure_ (i := 41) (N := some 180) (v := ?_) (a' := ?_) #[true, true, true, true, true, true, true, true, true, true, true, true, true, true, true, true, true, true, true, true, true, true, true, true, true, true, true, true, true, true, true, true, true, true, true, true, true, false, true, false, false, true, false, false] rfl rfl (any_of HT_.out (by kernel_rfl)) (fun _ _ _ h => h) (Or.inl ⟨by rfl, ?_⟩) ?_ ?_
              rotate_left
              · intro w'
                go_simp
                with_reducible rfl
              rotate_left
              · simp only [Act.put, List.setIfInBounds_toArray, List.set_cons_zero, List.set_cons_succ, i64_w, i32_w]
                rfl
              refine take_ (i := 37) (N := some 176) (v := ?_) (a' := ?_) #[true, true, true, true, true, true, true, true, true, true, true, true, true, true, true, true, true, true, true, true, true, true, true, true, true, true, true, true, true, true, true, true, true, true, true, true, true, true, true, false, false, true, false, false] rfl rfl (take_ofW HT_.out HW_.out (by kernel_rfl)) (fun _ _ _ h => h) (Or.inl ⟨by rfl, ?_⟩) hHeld ?_ ?_
              rotate_left
              · rintro w' ⟨s0, s1, s2, s3, s4, s5, s6, s7, s8, s9, s10, s11⟩
                go_simp
                with_reducible rfl
              rotate_left
              · simp only [Act.put, List.setIfInBounds_toArray, List.set_cons_zero, List.set_cons_succ, i64_w, i32_w]
                rfl
              refine pure_ (i := 39) (N := some 178) (v := ?_) (a' := ?_) #[true, true, true, true, true, true, true, true, true, true, true, true, true, true, true, true, true, true, true, true, true, true, true, true, true, true, true, true, true, true, true, true, true, true, true, true, true, true, true, true, false, true, false, false] rfl rfl (any_of HT_.out (by kernel_rfl)) (fun _ _ _ h => h) (Or.inl ⟨by rfl, ?_⟩) ?_ ?_
              rotate_left
              · intro w'
                go_simp
                with_reducible rfl
              rotate_left
              · simp only [Act.put, List.setIfInBounds_toArray, List.set_cons_zero, List.set_cons_succ, i64_w, i32_w]
                rfl
              refine take_ (i := 40) (N := some 179) (v := ?_) (a' := ?_) #[true, true, true, true, true, true, true, true, true, true, true, true, true, true, true, true, true, true, true, true, true, true, true, true, true, true, true, true, true, true, true, true, true, true, true, true, true, true, true, true, true, true, false, false] rfl rfl (take_ofW HT_.out HW_.out (by kernel_rfl)) (fun _ _ _ h => h) (Or.inl ⟨by rfl, ?_⟩) hHeld ?_ ?_
              rotate_left
              · rintro w' ⟨s0, s1, s2, s3, s4, s5, s6, s7, s8, s9, s10, s11⟩
                go_simp
                with_reducible rfl
              rotate_left
              · simp only [Act.put, List.setIfInBounds_toArray, List.set_cons_zero, List.set_cons_succ, i64_w, i32_w]
                rfl
              refine pure_ (i := 42) (N := some 181) (v := ?_) (a' := ?_) #[true, true, true, true, true, true, true, true, true, true, true, true, true, true, true, true, true, true, true, true, true, true, true, true, true, true, true, true, true, true, true, true, true, true, true, true, true, true, true, true, true, true, true, false] rfl rfl (any_of HT_.out (by kernel_rfl)) (fun _ _ _ h => h) (Or.inl ⟨by rfl, ?_⟩) ?_ ?_
              rotate_left
              · intro w'
                go_simp
                with_reducible rfl
              rotate_left
              · simp only [Act.put, List.setIfInBounds_toArray, List.set_cons_zero, List.set_cons_succ, i64_w, i32_w]
                rfl
              refine pure_ (i := 43) (N := some 182) (v := ?_) (a' := ?_) #[true, true, true, true, true, true, true, true, true, true, true, true, true, true, true, true, true, true, true, true, true, true, true, true, true, true, true, true, true, true, true, true, true, true, true, true, true, true, true, true, true, true, true, true] rfl rfl (any_of HT_.out (by kernel_rfl)) (fun _ _ _ h => h) (Or.inl ⟨by rfl, ?_⟩) ?_ ?_
              rotate_left
              · intro w'
                go_simp
                with_reducible rfl
              rotate_left
              · simp only [Act.put, List.setIfInBounds_toArray, List.set_cons_zero, List.set_cons_succ, i64_w, i32_w]
                rfl
              refine done_ (done_of HT_.out (by kernel_rfl)) ?_
              clear hHeld HT_ HW_
              clear t4 t5
              go_wp2_with fail
              go_roundg (C.length - (i + 1))
              case measure =>
                clear z1 z2 z3 z4 nx t1 t2 t3 hK hn1 hci
                have := HK.out
                have := HI.out
                omega
              case rel =>
                have HK2 : Aside0 (i + 1 + (C.length - (i + 1)) = C.length) := ⟨by
                  clear z1 z2 z3 z4 nx t1 t2 t3 hK hn1 hci
                  have := HK.out
                  have := HI.out
                  omega⟩
                exact ⟨i + 1, by first | exact congrArg _ t3 | go_num, HK2, ⟨HM2.out.step HBd.out⟩, ⟨HRW.out.below HBd.out⟩⟩
            · have t1 : decide ((i : Int) < (C.length : Int)) = false := by simp; omega
              have t2 : decide (i < C.length) = false := by simp; omega
              go_wp2_with (first
                | (go_at_call 20; refine (thermionlaw01_awake.calls 10 true _ HAW.out).mono ?_; rintro e1 wE ⟨rfl, hb⟩; have HE := Aside0.mk (below_step HLB.out.old (below_step HBP.out hb)); clear hb))
              go_ret
              exact ⟨rfl, HE.out⟩
end Go.Proofs.Ytndkkjpgnmahbaa.Print
end

section
namespace Go.Proofs.YtndkkjpgnmahbaaW.PrintWords
open Go.ChangeShapes Go.WideShapes
end Go.Proofs.YtndkkjpgnmahbaaW.PrintWords
end
