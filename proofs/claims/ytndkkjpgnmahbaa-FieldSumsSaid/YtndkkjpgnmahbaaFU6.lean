/- Part 6 of the texts of a claim about Ytndkkjpgnmahbaa, put together by a program of this work: what the Go functions do, and that their calls do so. -/
import Derived.Test.YtndkkjpgnmahbaaFU5
import Derived.SizedLaws
import Derived.ChangeSlices
section
namespace Go.Proofs.Ytndkkjpgnmahbaa.Print
open Go.RowKit Go.Proofs.YtndkkjpgnmahbaaW.PrintWords Go.Proofs.YtndkkjpgnmahbaaW.PrintLast Go.Proofs.YtndkkjpgnmahbaaW.PrintMore Go.Proofs.Ytndkkjpgnmahbaa.H Go.Proofs.Field
attribute [local go_sem] max2_int min2_int max_two min_two max_three min_three max_four min_four
set_option linter.unusedVariables false
set_option linter.unusedSimpArgs false
def sumsF.T25 : Bool × List (List Nat × List Nat) := (true, [([], []), ([0], [0]), ([], []), ([1, 2], [1, 2]), ([3], [3]), ([], []), ([5], [5]), ([], []), ([6, 7], [6, 7]), ([8], [8]), ([4, 9], [4, 9]), ([], []), ([11], [11]), ([], []), ([12, 13], [12, 13]), ([14], [14]), ([10, 15], [10, 15]), ([16], [16]), ([17], [17]), ([18, 17], [17, 18]), ([17], [17]), ([19, 20, 17], [17, 19, 20]), ([21, 17], [17, 21]), ([17], [17]), ([23, 17], [17, 23]), ([17], [17]), ([24, 25, 17], [17, 24, 25]), ([26, 17], [17, 26]), ([22, 27, 17], [17, 22, 27]), ([17], [17]), ([29, 17], [17, 29]), ([17], [17]), ([30, 31, 17], [17, 30, 31]), ([32, 17], [17, 32]), ([28, 33, 17], [17, 28, 33]), ([17, 34], [17, 34])])
def sumsF.B25 : List Nat := [0, 1, 0, 7, 15, 0, 32, 0, 224, 480, 1023, 0, 2048, 0, 14336, 30720, 65535, 131071, 262143, 524287, 262143, 2097151, 4194303, 262143, 8650751, 262143, 58982399, 126091263, 268435455, 262143, 537133055, 262143, 3758358527, 8053325823, 17179869183, 34359738367]
theorem sumsF.tab25 : rtab .any (opsOf Try.f7 25) = sumsF.T25 := by kernel_rfl
theorem sumsF.bits25 : waitsOk sumsF.T25.2 sumsF.B25 = true := by kernel_rfl
set_option maxHeartbeats 6400000 in
set_option maxRecDepth 100000 in
theorem sums_calls (A0 : Option Addr) (c0 : Nat) (l0 : List Int) (a1 a2 : Int) (w : World) (hr0 : Kd.C (Kd.int .i64) w A0 l0.length l0) (hc0 : l0.length ≤ c0) :
    Calls Try.prog 7 #[.slice A0 l0.length c0, .int .i64 a1, .int .i64 a2] w fun e w' => e = .returned (.bool true) ∧ Below w.heap.size w w' := by
  obtain ⟨s0, hs0⟩ : ∃ s, thermionkit_NewDice.f l0 = some s := ⟨_, rfl⟩
  obtain ⟨W, H, R, C, v, s1, s2, D⟩ := dealt s0 8 6 (by omega) (by omega)
  obtain ⟨n, hn, hn1⟩ := mod_eq a1 31 (by omega) (by omega)
  obtain ⟨n2, hn2, hn3⟩ := mod_eq a2 31 (by omega) (by omega)
  obtain ⟨ku, u, s3, lo, hi, lw, hw, ls, hs, K1, K2, K3, st1, st2, st3, hku, hul, hvp, hvr, hs1, hs2, hs3, hlen, hmeet⟩ := sums_facts D n n2 (by omega) (by omega)
  obtain ⟨kv, hkv⟩ := D.volts
  have hmk := make_ints v.length (by have := D.vlen; omega)
  have HR0 := Aside0.mk hr0
  have HND := Aside0.mk hs0
  have HD := Aside0.mk D
  have HPC : Aside0 (0 < C.length) := ⟨D.volted.pos⟩
  have HMD := Aside0.mk hn
  have HME := Aside0.mk hn2
  have HVO := Aside0.mk (hkv kv (Nat.le_refl _))
  have HVU := Aside0.mk hku
  have HUL := Aside0.mk hul
  have HVP := Aside0.mk hvp
  have HUP : Aside0 (0 < u.length) := ⟨by omega⟩
  have HVR := Aside0.mk hvr
  have HVL := Aside0.mk D.vlen
  have HS1 := Aside0.mk hs1
  have HS2 := Aside0.mk hs2
  have HS3 := Aside0.mk hs3
  have HLEN := Aside0.mk hlen
  have HMT := Aside0.mk hmeet
  have HSM := Aside0.mk D.small
  have HAW := Aside0.mk awake_true
  have hu24 := Try.underlying24
  have hu22 := Try.underlying22
  have hu33 := Try.underlying33
  have hu46 := Try.underlying46
  clear hr0 hs0 D hn hn2 hkv hku hul hvp hvr hs1 hs2 hs3 hlen hmeet
  go_enter Try.func7, Try.ntmps7
  go_upto_region 3 with (first
    | (go_at_call 21; refine (thermionkit_NewDice.calls A0 c0 l0 s0 w w (Below.refl _ _) HR0.out hc0 HND.out).mono ?_; rintro e w1 ⟨g, rfl, hI1, hB1, hB1b⟩; have HI1 := Aside0.mk hI1; have HB1 := Aside0.mk hB1; clear hI1 hB1 hB1b HND)
    | (go_at_call 22; refine (thermionkit_PlanOf.calls g s0 8 6 W H R C s1 w w1 HI1.out HB1.out HD.out.plan).mono ?_; rintro e w2 ⟨v3, rfl, hR, hI, hB, hK⟩; obtain ⟨gC, cC, rfl, hr4, _, _⟩ := row4_of hR HPC.out; have HRC := Aside0.mk (hr4.lower HB1.out.size); have HI2 := Aside0.mk hI; have HB2 := Aside0.mk hB; have HN2 := Aside0.mk (Mem.start w2); clear hR hI hB hK HI1 HB1 hr4)
    | ((with_reducible refine gate_dst (N := 8) rfl ?_); refine ev_new HN2.out rfl 24 rfl info24 ?_; intro g6 w3 hm3 hq3; have HN3 := Aside0.mk hm3; clear hm3 hq3 HN2)
    | ((with_reducible refine gate_store (t := 24) (p := 8) rfl ?_); refine ev_store HN3.out rfl 24 (.tmp 8) (.tmp 27) rfl rfl (cs := planV W H R (some ⟨gC, 0, none⟩) C.length cC) rfl size24 rfl rfl (by simp [Value.oneCell']) ?_; intro w4 hm4 hq4; have HX : Aside0 (SX0 w w4 g s1 g6 (planV W H R (some ⟨gC, 0, none⟩) C.length cC) gC cC C) := ⟨⟨below_step HB2.out hm4.below, HI2.out.below hm4.below, hm4.head, HRC.out.below hm4.below⟩⟩; clear hm4 hq4 HN3 HB2 HI2 HRC))
  simp only [Act.put, List.setIfInBounds_toArray, List.set_cons_zero, List.set_cons_succ]
  go_cut [9, 10] (fun v9 v10 wc => ∃ gv cv gw cw : Nat, v9 = .slice (some ⟨gv, 0, none⟩) v.length cv ∧ v10 = .slice (some ⟨gw, 0, none⟩) v.length cw ∧ Aside0 (SX2 w wc g6 (planV W H R (some ⟨gC, 0, none⟩) C.length cC) gC cC C gv cv v gw cw u))
  case first =>
    have HY := Aside0.mk (HX.out.below (below_drew1 (Below.refl _ _)))
    go_region_held3 (fun w' => w'.cell? ⟨g6, 0, none⟩ = some (.int .i64 (W : Int)) ∧ w'.cell? ⟨g6, 1, none⟩ = some (.int .i64 (H : Int)) ∧ w'.cell? ⟨g6, 2, none⟩ = some (.bool R) ∧ w'.cell? ⟨g6, 3, none⟩ = some (.slice (some ⟨gC, 0, none⟩) C.length cC)) (first | exact ⟨(blk_cell HY.out.plan 0).trans rfl, (blk_cell HY.out.plan 1).trans rfl, (blk_cell HY.out.plan 2).trans rfl, (blk_cell HY.out.plan 3).trans rfl⟩ | exact ⟨(blk_cell HZ.out.x.plan 0).trans rfl, (blk_cell HZ.out.x.plan 1).trans rfl, (blk_cell HZ.out.x.plan 2).trans rfl, (blk_cell HZ.out.x.plan 3).trans rfl⟩ | exact ⟨(blk_cell HQ.out.plan 0).trans rfl, (blk_cell HQ.out.plan 1).trans rfl, (blk_cell HQ.out.plan 2).trans rfl, (blk_cell HQ.out.plan 3).trans rfl⟩) (first
      | (go_at_call 23; (with_reducible refine (thermionkit_VoltsOf.calls kv g s1 W H R _ cC C v s2 w _ HY.out.dice HY.out.old HY.out.rc.reads.1 HY.out.rc.reads.2 HY.out.far HVO.out).mono ?_); rintro e wx ⟨vv, rfl, hR, hI, hB, hK⟩; obtain ⟨gv, cv, rfl, hz⟩ := HY.out.volts hR HVP.out hI hB hK; have HZ := Aside0.mk hz; clear hR hI hB hK hz HVO HY)
      | (go_at_call 23; (with_reducible refine (thermionkit_VoltsOf.calls ku g s2 W H R _ cC C u s3 w _ HZ.out.x.dice HZ.out.x.old HZ.out.x.rc.reads.1 HZ.out.x.rc.reads.2 HZ.out.x.far HVU.out).mono ?_); rintro e wy ⟨vv, rfl, hR, hI, hB, hK⟩; obtain ⟨gw, cw, ee, hz⟩ := HZ.out.volts hR HUP.out hI hB hK; rw [HUL.out] at ee; subst ee; have HQ := Aside0.mk hz; clear hR hI hB hK hz HVU HZ))
    try go_wp2
    go_meet
    case rel => exact ⟨_, _, _, _, rfl, rfl, ⟨HQ.out⟩⟩
  case rest =>
  obtain ⟨gv, cv, gw, cw, rfl, rfl, HQ⟩ := hcut
  clear HX HVO HVU
  go_upto_region 5 with fail
  have HT : Aside0 (SZ w (wc.alloc (.cells (numsA (List.replicate v.length 0)) 3)) g6 (planV W H R (some ⟨gC, 0, none⟩) C.length cC) gC cC C v.length gv cv gw cw wc.heap.size v.length (listOf v.length (fun j => if j < 0 then Int.tdiv (fn v j) 2 else fn v j)) (listOf v.length (fun j => if j < 0 then Int.tdiv (fn u j) 2 else fn u j)) (fillTo (fun j => Int.tdiv (fn v j) 2 + Int.tdiv (fn u j) 2) v.length 0)) := ⟨by
    have := SZ.start HQ.out HUL.out (by have := HVL.out; omega)
    have e1 : listOf v.length (fun j => if j < 0 then Int.tdiv (fn v j) 2 else fn v j) = v := by
      apply list_ext
      · rw [listOf_length]
      · intro j hj
        rw [listOf_length] at hj
        rw [fn_listOf _ hj, if_neg (by omega)]
    have e2 : listOf v.length (fun j => if j < 0 then Int.tdiv (fn u j) 2 else fn u j) = u := by
      apply list_ext
      · rw [listOf_length, HUL.out]
      · intro j hj
        rw [listOf_length] at hj
        rw [fn_listOf _ hj, if_neg (by omega)]
    rw [e1, e2, fillTo_zero]
    exact this⟩
  clear HQ
  generalize wc.alloc _ = wd at HT ⊢
  generalize wc.heap.size = gs at HT ⊢
  go_wp2_with fail
  go_loopg [12] v.length (fun k v12 w' => ∃ (i : Nat), v12 = .int .i64 (i : Int) ∧ Aside0 (i + k = v.length) ∧ Aside0 (SZ w w' g6 (planV W H R (some ⟨gC, 0, none⟩) C.length cC) gC cC C v.length gv cv gw cw gs v.length (listOf v.length (fun j => if j < i then Int.tdiv (fn v j) 2 else fn v j)) (listOf v.length (fun j => if j < i then Int.tdiv (fn u j) 2 else fn u j)) (fillTo (fun j => Int.tdiv (fn v j) 2 + Int.tdiv (fn u j) 2) v.length i)))
  case atStart => exact ⟨0, by go_num, ⟨by omega⟩, HT⟩
  case round =>
    clear HT
    obtain ⟨i, rfl, HK, HT⟩ := hrel
    by_cases hci : i < v.length
    · have HI := Aside0.mk hci
      have HMS : Aside0 (v.length - (i + 1) < gk) := ⟨by have := HK.out; omega⟩
      have HKN : Aside0 (i + 1 + (v.length - (i + 1)) = v.length) := ⟨by omega⟩
      obtain ⟨⟨k1, k2⟩, k3, k4⟩ := HVR.out i hci
      have hb1 := half_range ⟨k1, k2⟩
      have hb2 := half_range ⟨k3, k4⟩
      obtain ⟨cv1, fv1⟩ := HT.out.rv.cell hci
      obtain ⟨cw1, fw1⟩ := HT.out.rw.cell hci
      rw [fn_listOf _ hci, if_neg (by omega)] at cv1 cw1
      have n1 := HT.out.n3
      have n4 := n1.symm
      obtain ⟨q1, hq1⟩ : ∃ q, Int.tdiv (fn v i) 2 = q := ⟨_, rfl⟩
      obtain ⟨q2, hq2⟩ : ∃ q, Int.tdiv (fn u i) 2 = q := ⟨_, rfl⟩
      have HQ1 := Aside0.mk hq1
      have HQ2 := Aside0.mk hq2
      rw [hq1] at hb1
      rw [hq2] at hb2
      clear hq1 hq2
      have t1 : decide ((i : Int) < (v.length : Int)) = true := by simp; omega
      have t2 : decide (i < v.length) = true := by simp; omega
      have t3 : wrap64 ((i : Int) + 1) = ((i + 1 : Nat) : Int) := by rw [IntWalk.wrap64_in _ (by have := HVL.out; omega)]; omega
      go_upto_region 8 with fail
      go_region
      have HT8 := Aside0.mk (((HT.out.putv i (Int.tdiv (fn v i) 2)).putw i (Int.tdiv (fn u i) 2)).below (below_drew1 (Below.refl _ _)))
      clear cv1 fv1 cw1 fw1 n1 n4 HT
      generalize ((wr.setCell _ _).setCell _ _).drew = w8 at HT8 ⊢
      obtain ⟨cv1, fv1⟩ := HT8.out.rv.cell hci
      obtain ⟨cw1, fw1⟩ := HT8.out.rw.cell hci
      obtain ⟨cs1, fs1⟩ := HT8.out.rs.cell hci
      rw [fn_set (by rw [listOf_length]; exact hci), if_pos rfl, HQ1.out] at cv1
      rw [fn_set (by rw [listOf_length]; exact hci), if_pos rfl, HQ2.out] at cw1
      have t4 : IntKind.i64.wrap (q1 + q2) = q1 + q2 := IntWalk.i64_in _ (by omega)
      go_upto_region 9 with fail
      go_region
      clear t4
      go_wp2_with fail
      go_roundg (v.length - (i + 1))
      case measure => exact HMS.out
      case rel =>
        have HT9 := (HT8.out.puts i (q1 + q2)).below (below_drew1 (Below.refl _ _))
        rw [listOf_set (fun j => Int.tdiv (fn v j) 2) (fn v) HI.out, listOf_set (fun j => Int.tdiv (fn u j) 2) (fn u) HI.out, ← HQ1.out, ← HQ2.out, fillTo_step (fun j => Int.tdiv (fn v j) 2 + Int.tdiv (fn u j) 2) HI.out] at HT9
        exact ⟨i + 1, by first | exact congrArg _ t3 | go_num, HKN, ⟨by rw [← HQ1.out, ← HQ2.out]; exact HT9⟩⟩
    · have ei : i = v.length := by have := HK.out; omega
      obtain ⟨wo, rfl⟩ : ∃ wo : World, wo = wr := ⟨_, rfl⟩
      subst ei
      have HHL : Aside0 ((halves v).length = v.length ∧ (halves u).length = v.length ∧ (sumOf v u).length = v.length) := ⟨by unfold halves sumOf; rw [listOf_length, listOf_length, listOf_length]; exact ⟨rfl, HUL.out, rfl⟩⟩
      have HT2 : Aside0 (SZ w wo g6 (planV W H R (some ⟨gC, 0, none⟩) C.length cC) gC cC C v.length gv cv gw cw gs v.length (halves v) (halves u) (sumOf v u)) := ⟨by
        have e1 : listOf v.length (fun j => if j < v.length then Int.tdiv (fn v j) 2 else fn v j) = halves v := by
          apply list_ext
          · rw [listOf_length, HHL.out.1]
          · intro j hj
            rw [listOf_length] at hj
            unfold halves
            rw [fn_listOf _ hj, fn_listOf _ hj, if_pos hj]
        have e2 : listOf v.length (fun j => if j < v.length then Int.tdiv (fn u j) 2 else fn u j) = halves u := by
          apply list_ext
          · rw [listOf_length, HHL.out.2.1]
          · intro j hj
            rw [listOf_length] at hj
            unfold halves
            rw [fn_listOf _ hj, fn_listOf _ (by rw [HUL.out]; exact hj), if_pos hj]
        have e3 : fillTo (fun j => Int.tdiv (fn v j) 2 + Int.tdiv (fn u j) 2) v.length v.length = sumOf v u := by
          apply list_ext
          · rw [fillTo_length, HHL.out.2.2]
          · intro j hj
            rw [fillTo_length] at hj
            unfold sumOf
            rw [fn_fillTo _ hj, fn_listOf _ hj, if_pos hj]
        rw [← e1, ← e2, ← e3]
        exact HT.out⟩
      have HLB : Aside0 (LB w wo g6 W H R (some ⟨gC, 0, none⟩) cC C (some ⟨gv, 0, none⟩) cv (halves v)) := ⟨⟨HT2.out.old, HT2.out.plan, HT2.out.rc.reads.1, HT2.out.rc.reads.2, HT2.out.rv.reads.1, by rw [HHL.out.1]; exact HT2.out.rv.reads.2⟩⟩
      have HCW : Aside0 (Kd.C (Kd.int .i64) wo (some ⟨gw, 0, none⟩) (halves u).length (halves u)) := ⟨HT2.out.rw.reads.1⟩
      have HCS : Aside0 (Kd.C (Kd.int .i64) wo (some ⟨gs, 0, none⟩) (sumOf v u).length (sumOf v u)) := ⟨HT2.out.rs.reads.1⟩
      have HM0 := Aside0.mk (Mem.start wo)
      have HRW0 := Aside0.mk (Rows.nil wo)
      have t1 : decide ((v.length : Int) < (v.length : Int)) = false := by simp
      clear HT HK hci
      go_upto_region 14 with (first
        | (go_at_call 28; (with_reducible refine (thermionkit_Mod.calls a1 31 n _ HMD.out).mono ?_); rintro e1 wd1 ⟨rfl, hb⟩; have HM1 := Aside0.mk (HM0.out.step hb.below); have HRW1 := Aside0.mk (HRW0.out.below hb.below); clear hb HM0 HRW0 HMD)
        | (go_at_call 28; (with_reducible refine (thermionkit_Mod.calls a2 31 n2 _ HME.out).mono ?_); rintro e1 wd2 ⟨rfl, hb⟩; have HM2 := Aside0.mk (HM1.out.step hb.below); have HRW2 := Aside0.mk (HRW1.out.below hb.below); clear hb HM1 HRW1 HME)
        | ((with_reducible refine gate_dst (N := 76) rfl ?_); refine ev_load (HLB.out.plan_at HM2.out.below) rfl 24 (.tmp 8) rfl rfl _ Try.underlying24 rfl size24 rfl ?_)
        | (go_at_call 25; (with_reducible refine (solve_at W H R (some ⟨gC, 0, none⟩) cC C (some ⟨gv, 0, none⟩) cv (v.length) (halves v) n (lo) (hi) K1 st1 _ (HLB.out.rc_at HM2.out.below) HLB.out.hc HHL.out.1 (HLB.out.rv_at HM2.out.below) HT2.out.rv.reads.2 HS1.out).mono ?_); rintro e1 w3 ⟨vl, vh, rfl, hR1, hR2, hb⟩; obtain ⟨B1, b1, ee⟩ := Kd.R_slice hR1; rw [ee] at hR1; have hr1 := Kd.R_reads' hR1; rw [HLEN.out.1] at ee; subst ee; obtain ⟨B2, b2, ee⟩ := Kd.R_slice hR2; rw [ee] at hR2; have hr2 := Kd.R_reads' hR2; rw [HLEN.out.2.1] at ee; subst ee; have HM3 := Aside0.mk (HM2.out.step hb); have HRW3 := Aside0.mk (((HRW2.out.below hb).cons hr1.2.2).cons hr2.2.2); clear hR1 hR2 hr1 hr2 hb HM2 HRW2 HS1)
        | ((with_reducible refine gate_dst (N := 15) rfl ?_); refine ev_new (Mem.start w3) rfl 33 rfl info33 ?_; intro g15 w4 hm hq; have HX4 := Aside0.mk hm; clear hm hq)
        | ((with_reducible refine gate_store (t := 33) (p := 15) rfl ?_); refine ev_store HX4.out rfl 33 (.tmp 15) (.tmp 80) rfl rfl (cs := #[.slice B1 C.length b1, .slice B2 C.length b2, .int .i64 (K1 : Int), .bool st1]) rfl size33 rfl rfl (by simp [Value.oneCell']) ?_; intro w5 hm hq; have HM5 := Aside0.mk (mem_join HM3.out hm); have HRW5 := Aside0.mk (HRW3.out.below hm.below); clear hm hq HX4 HM3 HRW3)
        | ((with_reducible refine gate_dst (N := 83) rfl ?_); refine ev_load (HLB.out.plan_at HM5.out.below) rfl 24 (.tmp 8) rfl rfl _ Try.underlying24 rfl size24 rfl ?_)
        | (go_at_call 25; (with_reducible refine (solve_at W H R (some ⟨gC, 0, none⟩) cC C (some ⟨gw, 0, none⟩) cw (v.length) (halves u) n2 (lw) (hw) K2 st2 _ (HLB.out.rc_at HM5.out.below) HLB.out.hc HHL.out.2.1 (Kd.C_below HCW.out HM5.out.below) HT2.out.rw.reads.2 HS2.out).mono ?_); rintro e1 w6 ⟨vl, vh, rfl, hR1, hR2, hb⟩; obtain ⟨B3, b3, ee⟩ := Kd.R_slice hR1; rw [ee] at hR1; have hr1 := Kd.R_reads' hR1; rw [HLEN.out.2.2.1] at ee; subst ee; obtain ⟨B4, b4, ee⟩ := Kd.R_slice hR2; rw [ee] at hR2; have hr2 := Kd.R_reads' hR2; rw [HLEN.out.2.2.2.1] at ee; subst ee; have HM6 := Aside0.mk (HM5.out.step hb); have HRW6 := Aside0.mk (((HRW5.out.below hb).cons hr1.2.2).cons hr2.2.2); clear hR1 hR2 hr1 hr2 hb HM5 HRW5 HS2)
        | ((with_reducible refine gate_dst (N := 17) rfl ?_); refine ev_new (Mem.start w6) rfl 33 rfl info33 ?_; intro g17 w7 hm hq; have HX7 := Aside0.mk hm; clear hm hq)
        | ((with_reducible refine gate_store (t := 33) (p := 17) rfl ?_); refine ev_store HX7.out rfl 33 (.tmp 17) (.tmp 87) rfl rfl (cs := #[.slice B3 C.length b3, .slice B4 C.length b4, .int .i64 (K2 : Int), .bool st2]) rfl size33 rfl rfl (by simp [Value.oneCell']) ?_; intro w8 hm hq; have HM8 := Aside0.mk (mem_join HM6.out hm); have HRW8 := Aside0.mk (HRW6.out.below hm.below); clear hm hq HX7 HM6 HRW6)
        | ((with_reducible refine gate_dst (N := 90) rfl ?_); refine ev_load (HLB.out.plan_at HM8.out.below) rfl 24 (.tmp 8) rfl rfl _ Try.underlying24 rfl size24 rfl ?_)
        | (go_at_call 25; (with_reducible refine (solve_at W H R (some ⟨gC, 0, none⟩) cC C (some ⟨gs, 0, none⟩) v.length (v.length) (sumOf v u) n (ls) (hs) K3 st3 _ (HLB.out.rc_at HM8.out.below) HLB.out.hc HHL.out.2.2 (Kd.C_below HCS.out HM8.out.below) HT2.out.rs.reads.2 HS3.out).mono ?_); rintro e1 w9 ⟨vl, vh, rfl, hR1, hR2, hb⟩; obtain ⟨B5, b5, ee⟩ := Kd.R_slice hR1; rw [ee] at hR1; have hr1 := Kd.R_reads' hR1; rw [HLEN.out.2.2.2.2.1] at ee; subst ee; obtain ⟨B6, b6, ee⟩ := Kd.R_slice hR2; rw [ee] at hR2; have hr2 := Kd.R_reads' hR2; rw [HLEN.out.2.2.2.2.2] at ee; subst ee; have HM9 := Aside0.mk (HM8.out.step hb); have HRW9 := Aside0.mk (((HRW8.out.below hb).cons hr1.2.2).cons hr2.2.2); clear hR1 hR2 hr1 hr2 hb HM8 HRW8 HS3)
        | ((with_reducible refine gate_dst (N := 19) rfl ?_); refine ev_new (Mem.start w9) rfl 33 rfl info33 ?_; intro g19 w10 hm hq; have HX10 := Aside0.mk hm; clear hm hq)
        | ((with_reducible refine gate_store (t := 33) (p := 19) rfl ?_); refine ev_store HX10.out rfl 33 (.tmp 19) (.tmp 94) rfl rfl (cs := #[.slice B5 C.length b5, .slice B6 C.length b6, .int .i64 (K3 : Int), .bool st3]) rfl size33 rfl rfl (by simp [Value.oneCell']) ?_; intro w11 hm hq; have HM11 := Aside0.mk (mem_join HM9.out hm); have HRW11 := Aside0.mk (HRW9.out.below hm.below); clear hm hq HX10 HM9 HRW9))
      have qa0 : w11.cell? ⟨g15, 0, none⟩ = some (.slice B1 C.length b1) := (blk_cell HM11.out.third 0).trans rfl
      have qa1 : w11.cell? ⟨g15, 1, none⟩ = some (.slice B2 C.length b2) := (blk_cell HM11.out.third 1).trans rfl
      have qb0 : w11.cell? ⟨g17, 0, none⟩ = some (.slice B3 C.length b3) := (blk_cell HM11.out.second 0).trans rfl
      have qb1 : w11.cell? ⟨g17, 1, none⟩ = some (.slice B4 C.length b4) := (blk_cell HM11.out.second 1).trans rfl
      have qc0 : w11.cell? ⟨g19, 0, none⟩ = some (.slice B5 C.length b5) := (blk_cell HM11.out.head 0).trans rfl
      have qc1 : w11.cell? ⟨g19, 1, none⟩ = some (.slice B6 C.length b6) := (blk_cell HM11.out.head 1).trans rfl
      go_upto_region 17 with fail
      have HM12 : Aside0 (Mem wo (w11.alloc (.cells #[.slice B1 C.length b1, .slice B2 C.length b2, .slice B3 C.length b3, .slice B4 C.length b4, .slice B5 C.length b5, .slice B6 C.length b6] 22)) [(w11.heap.size, #[.slice B1 C.length b1, .slice B2 C.length b2, .slice B3 C.length b3, .slice B4 C.length b4, .slice B5 C.length b5, .slice B6 C.length b6], 22), (g19, #[.slice B5 C.length b5, .slice B6 C.length b6, .int .i64 (K3 : Int), .bool st3], 33), (g17, #[.slice B3 C.length b3, .slice B4 C.length b4, .int .i64 (K2 : Int), .bool st2], 33), (g15, #[.slice B1 C.length b1, .slice B2 C.length b2, .int .i64 (K1 : Int), .bool st1], 33)]) := ⟨HM11.out.new rfl (blk_new _ _) (below_alloc (Below.refl _ _) _)⟩
      have HRW12 : Aside0 (Rows (w11.alloc (.cells #[.slice B1 C.length b1, .slice B2 C.length b2, .slice B3 C.length b3, .slice B4 C.length b4, .slice B5 C.length b5, .slice B6 C.length b6] 22)) [(B6, hs), (B5, ls), (B4, hw), (B3, lw), (B2, hi), (B1, lo)]) := ⟨HRW11.out.below (below_alloc (Below.refl _ _) _)⟩
      clear qa0 qa1 qb0 qb1 qc0 qc1 HM11 HRW11 t1
      generalize w11.alloc _ = w12 at HM12 HRW12 ⊢
      generalize w11.heap.size = gl at HM12 ⊢
      go_wp2_with fail
      go_loopg [22] 6 (fun k v21 w' => ∃ (i : Nat), v21 = .int .i64 (i : Int) ∧ Aside0 (i + k = 6) ∧ Aside0 (Mem wo w' [(gl, #[.slice B1 C.length b1, .slice B2 C.length b2, .slice B3 C.length b3, .slice B4 C.length b4, .slice B5 C.length b5, .slice B6 C.length b6], 22), (g19, #[.slice B5 C.length b5, .slice B6 C.length b6, .int .i64 (K3 : Int), .bool st3], 33), (g17, #[.slice B3 C.length b3, .slice B4 C.length b4, .int .i64 (K2 : Int), .bool st2], 33), (g15, #[.slice B1 C.length b1, .slice B2 C.length b2, .int .i64 (K1 : Int), .bool st1], 33)]) ∧ Aside0 (Rows w' [(B6, hs), (B5, ls), (B4, hw), (B3, lw), (B2, hi), (B1, lo)]))
      case atStart => exact ⟨0, by go_num, ⟨by omega⟩, HM12, HRW12⟩
      case round =>
        clear HM12 HRW12
        obtain ⟨i, rfl, HK, HM, HRW⟩ := hrel
        have q3 : wr.cell? ⟨g6, 3, none⟩ = some (.slice (some ⟨gC, 0, none⟩) C.length cC) := (HLB.out.cells_at HM.out.below).2.2.2
        by_cases hci : i < 6
        · have HMS : Aside0 (6 - (i + 1) < gk) := ⟨by have := HK.out; omega⟩
          have HKN : Aside0 (i + 1 + (6 - (i + 1)) = 6) := ⟨by omega⟩
          obtain ⟨Bi, bi, qi⟩ : ∃ Bi bi, wr.cell? ⟨gl, i, none⟩ = some (.slice Bi C.length bi) := by
            have hc := blk_cell HM.out.head i
            rcases (show i = 0 ∨ i = 1 ∨ i = 2 ∨ i = 3 ∨ i = 4 ∨ i = 5 by omega) with rfl | rfl | rfl | rfl | rfl | rfl
            · exact ⟨B1, b1, hc.trans rfl⟩
            · exact ⟨B2, b2, hc.trans rfl⟩
            · exact ⟨B3, b3, hc.trans rfl⟩
            · exact ⟨B4, b4, hc.trans rfl⟩
            · exact ⟨B5, b5, hc.trans rfl⟩
            · exact ⟨B6, b6, hc.trans rfl⟩
          have t1 : decide ((i : Int) < 6) = true := by simp; omega
          have t2 : decide (i < 6) = true := by simp; omega
          have t3 : wrap64 ((i : Int) + 1) = ((i + 1 : Nat) : Int) := by rw [IntWalk.wrap64_in _ (by omega)]; omega
          have HM2 := HM
          clear HM
          go_upto_region 20 with fail
          go_quiet (fail)
          go_wp2_with fail
          go_roundg (6 - (i + 1))
          case measure => exact HMS.out
          case rel => exact ⟨i + 1, by first | exact congrArg _ t3 | go_num, HKN, ⟨by first | exact HM2.out.drewN _ | exact HM2.out.drew⟩, ⟨by first | exact HRW.out.below (pw_below_drewN (Below.refl _ _) _) | exact HRW.out.below (below_drew1 (Below.refl _ _))⟩⟩
        · have t1 : decide ((i : Int) < 6) = false := by simp; omega
          have t2 : decide (i < 6) = false := by simp; omega
          obtain ⟨wp, rfl⟩ : ∃ wp : World, wp = wr := ⟨_, rfl⟩
          go_upto_region 22 with fail
          go_wp2_with fail
          go_loopg [23] C.length (fun k v22 w' => ∃ (i : Nat), v22 = .int .i64 (i : Int) ∧ Aside0 (i + k = C.length) ∧ Aside0 (Mem wo w' [(gl, #[.slice B1 C.length b1, .slice B2 C.length b2, .slice B3 C.length b3, .slice B4 C.length b4, .slice B5 C.length b5, .slice B6 C.length b6], 22), (g19, #[.slice B5 C.length b5, .slice B6 C.length b6, .int .i64 (K3 : Int), .bool st3], 33), (g17, #[.slice B3 C.length b3, .slice B4 C.length b4, .int .i64 (K2 : Int), .bool st2], 33), (g15, #[.slice B1 C.length b1, .slice B2 C.length b2, .int .i64 (K1 : Int), .bool st1], 33)]) ∧ Aside0 (Rows w' [(B6, hs), (B5, ls), (B4, hw), (B3, lw), (B2, hi), (B1, lo)]))
          case atStart => exact ⟨0, by go_num, ⟨by omega⟩, HM, HRW⟩
          case round =>
            clear HM HRW HK q3 t1 t2 hci
            obtain ⟨i, rfl, HK, HM, HRW⟩ := hrel
            have q3 : wr.cell? ⟨g6, 3, none⟩ = some (.slice (some ⟨gC, 0, none⟩) C.length cC) := (HLB.out.cells_at HM.out.below).2.2.2
            by_cases hci : i < C.length
            · have HMS : Aside0 (C.length - (i + 1) < gk) := ⟨by have := HK.out; omega⟩
              have HKN : Aside0 (i + 1 + (C.length - (i + 1)) = C.length) := ⟨by omega⟩
              have r1 := HRW.out.all (B1, lo) (by simp)
              have r2 := HRW.out.all (B2, hi) (by simp)
              have r3 := HRW.out.all (B3, lw) (by simp)
              have r4 := HRW.out.all (B4, hw) (by simp)
              have r5 := HRW.out.all (B5, ls) (by simp)
              have r6 := HRW.out.all (B6, hs) (by simp)
              obtain ⟨d1, e1, x1⟩ := at_row r1 i (by rw [HLEN.out.1]; exact hci)
              obtain ⟨d2, e2, x2⟩ := at_row r2 i (by rw [HLEN.out.2.1]; exact hci)
              obtain ⟨d3, e3, x3⟩ := at_row r3 i (by rw [HLEN.out.2.2.1]; exact hci)
              obtain ⟨d4, e4, x4⟩ := at_row r4 i (by rw [HLEN.out.2.2.2.1]; exact hci)
              obtain ⟨d5, e5, x5⟩ := at_row r5 i (by rw [HLEN.out.2.2.2.2.1]; exact hci)
              obtain ⟨d6, e6, x6⟩ := at_row r6 i (by rw [HLEN.out.2.2.2.2.2]; exact hci)
              simp only at e1 e2 e3 e4 e5 e6 x1 x2 x3 x4 x5 x6
              subst e1 e2 e3 e4 e5 e6
              have hR := HMT.out i hci
              generalize fn lo i = y1 at x1 hR
              generalize fn hi i = y2 at x2 hR
              generalize fn lw i = y3 at x3 hR
              generalize fn hw i = y4 at x4 hR
              generalize fn ls i = y5 at x5 hR
              generalize fn hs i = y6 at x6 hR
              clear r1 r2 r3 r4 r5 r6
              have t4 : IntKind.i64.wrap (y1 + y3) = y1 + y3 := IntWalk.i64_in _ (by omega)
              have t5 : IntKind.i64.wrap (y2 + y4) = y2 + y4 := IntWalk.i64_in _ (by omega)
              have c1 : decide (y1 + y3 > y6) = false := by simp; omega
              have c2 : decide (y2 + y4 < y5) = false := by simp; omega
              clear hR
              have qa0 : wr.cell? ⟨g15, 0, none⟩ = some (.slice (some d1) C.length b1) := (blk_cell (mem_fourth HM.out) 0).trans rfl
              have qa1 : wr.cell? ⟨g15, 1, none⟩ = some (.slice (some d2) C.length b2) := (blk_cell (mem_fourth HM.out) 1).trans rfl
              have qb0 : wr.cell? ⟨g17, 0, none⟩ = some (.slice (some d3) C.length b3) := (blk_cell HM.out.third 0).trans rfl
              have qb1 : wr.cell? ⟨g17, 1, none⟩ = some (.slice (some d4) C.length b4) := (blk_cell HM.out.third 1).trans rfl
              have qc0 : wr.cell? ⟨g19, 0, none⟩ = some (.slice (some d5) C.length b5) := (blk_cell HM.out.second 0).trans rfl
              have qc1 : wr.cell? ⟨g19, 1, none⟩ = some (.slice (some d6) C.length b6) := (blk_cell HM.out.second 1).trans rfl
              have t1 : decide ((i : Int) < (C.length : Int)) = true := by simp; omega
              have t2 : decide (i < C.length) = true := by simp; omega
              have t3 : wrap64 ((i : Int) + 1) = ((i + 1 : Nat) : Int) := by rw [IntWalk.wrap64_in _ (by have := HSM.out; omega)]; omega
              have HM2 := HM
              clear HM
              go_upto_region 25 with fail
              have HBd := Aside0.mk (below_drew1 (Below.refl wr.heap.size wr))
              refine start_ (n := 36) (S := fun w' => w'.cell? ⟨g15, 0, none⟩ = some (.slice (some d1) C.length b1) ∧ w'.cell? ⟨g15, 1, none⟩ = some (.slice (some d2) C.length b2) ∧ w'.cell? ⟨g17, 0, none⟩ = some (.slice (some d3) C.length b3) ∧ w'.cell? ⟨g17, 1, none⟩ = some (.slice (some d4) C.length b4) ∧ w'.cell? ⟨g19, 0, none⟩ = some (.slice (some d5) C.length b5) ∧ w'.cell? ⟨g19, 1, none⟩ = some (.slice (some d6) C.length b6) ∧ w'.cell? (d1.add i) = some (.int .i64 y1) ∧ w'.cell? (d2.add i) = some (.int .i64 y2) ∧ w'.cell? (d3.add i) = some (.int .i64 y3) ∧ w'.cell? (d4.add i) = some (.int .i64 y4) ∧ w'.cell? (d5.add i) = some (.int .i64 y5) ∧ w'.cell? (d6.add i) = some (.int .i64 y6)) (ds := []) #[false, false, false, false, false, false, false, false, false, false, false, false, false, false, false, false, false, false, false, false, false, false, false, false, false, false, false, false, false, false, false, false, false, false, false, false] (by kernel_rfl) rfl rfl ⟨qa0, qa1, qb0, qb1, qc0, qc1, x1, x2, x3, x4, x5, x6⟩ (fun hHeld => ?_); refine with_tabW sumsF.tab25 sumsF.bits25 (fun HT_ HW_ => ?_)
              generalize wr.drew = wd at HBd hHeld  ⊢
              refine pure_ (i := 0) (N := some 141) (v := ?_) (a' := ?_) #[true, false, false, false, false, false, false, false, false, false, false, false, false, false, false, false, false, false, false, false, false, false, false, false, false, false, false, false, false, false, false, false, false, false, false, false] rfl rfl (any_of HT_.out (by kernel_rfl)) (fun _ _ _ h => h) (Or.inl ⟨by rfl, ?_⟩) ?_ ?_
              rotate_left
              · intro w'
                go_simp
                with_reducible rfl
              rotate_left
              · simp only [Act.put, List.setIfInBounds_toArray, List.set_cons_zero, List.set_cons_succ, i64_w, i32_w]
                rfl
              refine pure_ (i := 2) (N := some 143) (v := ?_) (a' := ?_) #[true, false, true, false, false, false, false, false, false, false, false, false, false, false, false, false, false, false, false, false, false, false, false, false, false, false, false, false, false, false, false, false, false, false, false, false] rfl rfl (any_of HT_.out (by kernel_rfl)) (fun _ _ _ h => h) (Or.inl ⟨by rfl, ?_⟩) ?_ ?_
              rotate_left
              · intro w'
                go_simp
                with_reducible rfl
              rotate_left
              · simp only [Act.put, List.setIfInBounds_toArray, List.set_cons_zero, List.set_cons_succ, i64_w, i32_w]
                rfl
              refine pure_ (i := 5) (N := some 146) (v := ?_) (a' := ?_) #[true, false, true, false, false, true, false, false, false, false, false, false, false, false, false, false, false, false, false, false, false, false, false, false, false, false, false, false, false, false, false, false, false, false, false, false] rfl rfl (any_of HT_.out (by kernel_rfl)) (fun _ _ _ h => h) (Or.inl ⟨by rfl, ?_⟩) ?_ ?_
              rotate_left
              · intro w'
                go_simp
                with_reducible rfl
              rotate_left
              · simp only [Act.put, List.setIfInBounds_toArray, List.set_cons_zero, List.set_cons_succ, i64_w, i32_w]
                rfl
              refine pure_ (i := 7) (N := some 148) (v := ?_) (a' := ?_) #[true, false, true, false, false, true, false, true, false, false, false, false, false, false, false, false, false, false, false, false, false, false, false, false, false, false, false, false, false, false, false, false, false, false, false, false] rfl rfl (any_of HT_.out (by kernel_rfl)) (fun _ _ _ h => h) (Or.inl ⟨by rfl, ?_⟩) ?_ ?_
              rotate_left
              · intro w'
                go_simp
                with_reducible rfl
              rotate_left
              · simp only [Act.put, List.setIfInBounds_toArray, List.set_cons_zero, List.set_cons_succ, i64_w, i32_w]
                rfl
              refine pure_ (i := 11) (N := some 152) (v := ?_) (a' := ?_) #[true, false, true, false, false, true, false, true, false, false, false, true, false, false, false, false, false, false, false, false, false, false, false, false, false, false, false, false, false, false, false, false, false, false, false, false] rfl rfl (any_of HT_.out (by kernel_rfl)) (fun _ _ _ h => h) (Or.inl ⟨by rfl, ?_⟩) ?_ ?_
              rotate_left
              · intro w'
                go_simp
                with_reducible rfl
              rotate_left
              · simp only [Act.put, List.setIfInBounds_toArray, List.set_cons_zero, List.set_cons_succ, i64_w, i32_w]
                rfl
              refine pure_ (i := 13) (N := some 154) (v := ?_) (a' := ?_) #[true, false, true, false, false, true, false, true, false, false, false, true, false, true, false, false, false, false, false, false, false, false, false, false, false, false, false, false, false, false, false, false, false, false, false, false] rfl rfl (any_of HT_.out (by kernel_rfl)) (fun _ _ _ h => h) (Or.inl ⟨by rfl, ?_⟩) ?_ ?_
              rotate_left
              · intro w'
                go_simp
                with_reducible rfl
              rotate_left
              · simp only [Act.put, List.setIfInBounds_toArray, List.set_cons_zero, List.set_cons_succ, i64_w, i32_w]
                rfl
              refine take_ (i := 1) (N := some 142) (v := ?_) (a' := ?_) #[true, true, true, false, false, true, false, true, false, false, false, true, false, true, false, false, false, false, false, false, false, false, false, false, false, false, false, false, false, false, false, false, false, false, false, false] rfl rfl (take_ofW HT_.out HW_.out (by kernel_rfl)) (fun _ _ _ h => h) (Or.inl ⟨by rfl, ?_⟩) hHeld ?_ ?_
              rotate_left
              · rintro w' ⟨s0, s1, s2, s3, s4, s5, s6, s7, s8, s9, s10, s11⟩
                go_simp
                with_reducible rfl
              rotate_left
              · simp only [Act.put, List.setIfInBounds_toArray, List.set_cons_zero, List.set_cons_succ, i64_w, i32_w]
                rfl
              refine pure_ (i := 3) (N := some 144) (v := ?_) (a' := ?_) #[true, true, true, true, false, true, false, true, false, false, false, true, false, true, false, false, false, false, false, false, false, false, false, false, false, false, false, false, false, false, false, false, false, false, false, false] rfl rfl (any_of HT_.out (by kernel_rfl)) (fun _ _ _ h => h) (Or.inl ⟨by rfl, ?_⟩) ?_ ?_
              rotate_left
              · intro w'
                go_simp
                with_reducible rfl
              rotate_left
              · simp only [Act.put, List.setIfInBounds_toArray, List.set_cons_zero, List.set_cons_succ, i64_w, i32_w]
                rfl
              refine take_ (i := 4) (N := some 145) (v := ?_) (a' := ?_) #[true, true, true, true, true, true, false, true, false, false, false, true, false, true, false, false, false, false, false, false, false, false, false, false, false, false, false, false, false, false, false, false, false, false, false, false] rfl rfl (take_ofW HT_.out HW_.out (by kernel_rfl)) (fun _ _ _ h => h) (Or.inl ⟨by rfl, ?_⟩) hHeld ?_ ?_
              rotate_left
              · rintro w' ⟨s0, s1, s2, s3, s4, s5, s6, s7, s8, s9, s10, s11⟩
                go_simp
                with_reducible rfl
              rotate_left
              · simp only [Act.put, List.setIfInBounds_toArray, List.set_cons_zero, List.set_cons_succ, i64_w, i32_w]
                rfl
              refine take_ (i := 6) (N := some 147) (v := ?_) (a' := ?_) #[true, true, true, true, true, true, true, true, false, false, false, true, false, true, false, false, false, false, false, false, false, false, false, false, false, false, false, false, false, false, false, false, false, false, false, false] rfl rfl (take_ofW HT_.out HW_.out (by kernel_rfl)) (fun _ _ _ h => h) (Or.inl ⟨by rfl, ?_⟩) hHeld ?_ ?_
              rotate_left
              · rintro w' ⟨s0, s1, s2, s3, s4, s5, s6, s7, s8, s9, s10, s11⟩
                go_simp
                with_reducible rfl
              rotate_left
              · simp only [Act.put, List.setIfInBounds_toArray, List.set_cons_zero, List.set_cons_succ, i64_w, i32_w]
                rfl
              refine pure_ (i := 8) (N := some 149) (v := ?_) (a' := ?_) #[true, true, true, true, true, true, true, true, true, false, false, true, false, true, false, false, false, false, false, false, false, false, false, false, false, false, false, false, false, false, false, false, false, false, false, false] rfl rfl (any_of HT_.out (by kernel_rfl)) (fun _ _ _ h => h) (Or.inl ⟨by rfl, ?_⟩) ?_ ?_
              rotate_left
              · intro w'
                go_simp
                with_reducible rfl
              rotate_left
              · simp only [Act.put, List.setIfInBounds_toArray, List.set_cons_zero, List.set_cons_succ, i64_w, i32_w]
                rfl
              refine take_ (i := 9) (N := some 150) (v := ?_) (a' := ?_) #[true, true, true, true, true, true, true, true, true, true, false, true, false, true, false, false, false, false, false, false, false, false, false, false, false, false, false, false, false, false, false, false, false, false, false, false] rfl rfl (take_ofW HT_.out HW_.out (by kernel_rfl)) (fun _ _ _ h => h) (Or.inl ⟨by rfl, ?_⟩) hHeld ?_ ?_
              rotate_left
              · rintro w' ⟨s0, s1, s2, s3, s4, s5, s6, s7, s8, s9, s10, s11⟩
                go_simp
                with_reducible rfl
              rotate_left
              · simp only [Act.put, List.setIfInBounds_toArray, List.set_cons_zero, List.set_cons_succ, i64_w, i32_w]
                rfl
              refine pure_ (i := 10) (N := some 151) (v := ?_) (a' := ?_) #[true, true, true, true, true, true, true, true, true, true, true, true, false, true, false, false, false, false, false, false, false, false, false, false, false, false, false, false, false, false, false, false, false, false, false, false] rfl rfl (any_of HT_.out (by kernel_rfl)) (fun _ _ _ h => h) (Or.inl ⟨by rfl, ?_⟩) ?_ ?_
              rotate_left
              · intro w'
                go_simp
                with_reducible rfl
              rotate_left
              · simp only [Act.put, List.setIfInBounds_toArray, List.set_cons_zero, List.set_cons_succ, i64_w, i32_w]
                rfl
              refine take_ (i := 12) (N := some 153) (v := ?_) (a' := ?_) #[true, true, true, true, true, true, true, true, true, true, true, true, true, true, false, false, false, false, false, false, false, false, false, false, false, false, false, false, false, false, false, false, false, false, false, false] rfl rfl (take_ofW HT_.out HW_.out (by kernel_rfl)) (fun _ _ _ h => h) (Or.inl ⟨by rfl, ?_⟩) hHeld ?_ ?_
              rotate_left
              · rintro w' ⟨s0, s1, s2, s3, s4, s5, s6, s7, s8, s9, s10, s11⟩
                go_simp
                with_reducible rfl
              rotate_left
              · simp only [Act.put, List.setIfInBounds_toArray, List.set_cons_zero, List.set_cons_succ, i64_w, i32_w]
                rfl
              refine pure_ (i := 14) (N := some 155) (v := ?_) (a' := ?_) #[true, true, true, true, true, true, true, true, true, true, true, true, true, true, true, false, false, false, false, false, false, false, false, false, false, false, false, false, false, false, false, false, false, false, false, false] rfl rfl (any_of HT_.out (by kernel_rfl)) (fun _ _ _ h => h) (Or.inl ⟨by rfl, ?_⟩) ?_ ?_
              rotate_left
              · intro w'
                go_simp
                with_reducible rfl
              rotate_left
              · simp only [Act.put, List.setIfInBounds_toArray, List.set_cons_zero, List.set_cons_succ, i64_w, i32_w]
                rfl
              refine take_ (i := 15) (N := some 156) (v := ?_) (a' := ?_) #[true, true, true, true, true, true, true, true, true, true, true, true, true, true, true, true, false, false, false, false, false, false, false, false, false, false, false, false, false, false, false, false, false, false, false, false] rfl rfl (take_ofW HT_.out HW_.out (by kernel_rfl)) (fun _ _ _ h => h) (Or.inl ⟨by rfl, ?_⟩) hHeld ?_ ?_
              rotate_left
              · rintro w' ⟨s0, s1, s2, s3, s4, s5, s6, s7, s8, s9, s10, s11⟩
                go_simp
                with_reducible rfl
              rotate_left
              · simp only [Act.put, List.setIfInBounds_toArray, List.set_cons_zero, List.set_cons_succ, i64_w, i32_w]
                rfl
              refine pure_ (i := 16) (N := some 157) (v := ?_) (a' := ?_) #[true, true, true, true, true, true, true, true, true, true, true, true, true, true, true, true, true, false, false, false, false, false, false, false, false, false, false, false, false, false, false, false, false, false, false, false] rfl rfl (any_of HT_.out (by kernel_rfl)) (fun _ _ _ h => h) (Or.inl ⟨by rfl, ?_⟩) ?_ ?_
              rotate_left
              · intro w'
                go_simp
                with_reducible rfl
              rotate_left
              · simp only [Act.put, List.setIfInBounds_toArray, List.set_cons_zero, List.set_cons_succ, i64_w, i32_w]
                rfl
              refine pure_ (i := 17) (N := some 158) (v := ?_) (a' := ?_) #[true, true, true, true, true, true, true, true, true, true, true, true, true, true, true, true, true, true, false, false, false, false, false, false, false, false, false, false, false, false, false, false, false, false, false, false] rfl rfl (any_of HT_.out (by kernel_rfl)) (fun _ _ _ h => h) (Or.inl ⟨by rfl, ?_⟩) ?_ ?_
              rotate_left
              · intro w'
                go_simp
                with_reducible rfl
              rotate_left
              · simp only [Act.put, List.setIfInBounds_toArray, List.set_cons_zero, List.set_cons_succ, i64_w, i32_w]
                rfl
              refine pure_ (i := 18) (N := some 159) (v := ?_) (a' := ?_) #[true, true, true, true, true, true, true, true, true, true, true, true, true, true, true, true, true, true, true, false, false, false, false, false, false, false, false, false, false, false, false, false, false, false, false, false] rfl rfl (any_of HT_.out (by kernel_rfl)) (fun _ _ _ h => h) (Or.inl ⟨by rfl, ?_⟩) ?_ ?_
              rotate_left
              · intro w'
                go_simp
                with_reducible rfl
              rotate_left
              · simp only [Act.put, List.setIfInBounds_toArray, List.set_cons_zero, List.set_cons_succ, i64_w, i32_w]
                rfl
              refine pure_ (i := 20) (N := some 161) (v := ?_) (a' := ?_) #[true, true, true, true, true, true, true, true, true, true, true, true, true, true, true, true, true, true, true, false, true, false, false, false, false, false, false, false, false, false, false, false, false, false, false, false] rfl rfl (any_of HT_.out (by kernel_rfl)) (fun _ _ _ h => h) (Or.inl ⟨by rfl, ?_⟩) ?_ ?_
              rotate_left
              · intro w'
                go_simp
                with_reducible rfl
              rotate_left
              · simp only [Act.put, List.setIfInBounds_toArray, List.set_cons_zero, List.set_cons_succ, i64_w, i32_w]
                rfl
              refine pure_ (i := 23) (N := some 164) (v := ?_) (a' := ?_) #[true, true, true, true, true, true, true, true, true, true, true, true, true, true, true, true, true, true, true, false, true, false, false, true, false, false, false, false, false, false, false, false, false, false, false, false] rfl rfl (any_of HT_.out (by kernel_rfl)) (fun _ _ _ h => h) (Or.inl ⟨by rfl, ?_⟩) ?_ ?_
              rotate_left
              · intro w'
                go_simp
                with_reducible rfl
              rotate_left
              · simp only [Act.put, List.setIfInBounds_toArray, List.set_cons_zero, List.set_cons_succ, i64_w, i32_w]
                rfl
              refine pure_ (i := 25) (N := some 166) (v := ?_) (a' := ?_) #[true, true, true, true, true, true, true, true, true, true, true, true, true, true, true, true, true, true, true, false, true, false, false, true, false, true, false, false, false, false, false, false, false, false, false, false] rfl rfl (any_of HT_.out (by kernel_rfl)) (fun _ _ _ h => h) (Or.inl ⟨by rfl, ?_⟩) ?_ ?_
              rotate_left
              · intro w'
                go_simp
                with_reducible rfl
              rotate_left
              · simp only [Act.put, List.setIfInBounds_toArray, List.set_cons_zero, List.set_cons_succ, i64_w, i32_w]
                rfl
              refine pure_ (i := 29) (N := some 170) (v := ?_) (a' := ?_) #[true, true, true, true, true, true, true, true, true, true, true, true, true, true, true, true, true, true, true, false, true, false, false, true, false, true, false, false, false, true, false, false, false, false, false, false] rfl rfl (any_of HT_.out (by kernel_rfl)) (fun _ _ _ h => h) (Or.inl ⟨by rfl, ?_⟩) ?_ ?_
              rotate_left
              · intro w'
                go_simp
                with_reducible rfl
              rotate_left
              · simp only [Act.put, List.setIfInBounds_toArray, List.set_cons_zero, List.set_cons_succ, i64_w, i32_w]
                rfl
              refine pure_ (i := 31) (N := some 172) (v := ?_) (a' := ?_) #[true, true, true, true, true, true, true, true, true, true, true, true, true, true, true, true, true, true, true, false, true, false, false, true, false, true, false, false, false, true, false, true, false, false, false, false] rfl rfl (any_of HT_.out (by kernel_rfl)) (fun _ _ _ h => h) (Or.inl ⟨by rfl, ?_⟩) ?_ ?_
              rotate_left
              · intro w'
                go_simp
                with_reducible rfl
              rotate_left
              · simp only [Act.put, List.setIfInBounds_toArray, List.set_cons_zero, List.set_cons_succ, i64_w, i32_w]
                rfl
              refine take_ (i := 19) (N := some 160) (v := ?_) (a' := ?_) #[true, true, true, true, true, true, true, true, true, true, true, true, true, true, true, true, true, true, true, true, true, false, false, true, false, true, false, false, false, true, false, true, false, false, false, false] rfl rfl (take_ofW HT_.out HW_.out (by kernel_rfl)) (fun _ _ _ h => h) (Or.inl ⟨by rfl, ?_⟩) hHeld ?_ ?_
              rotate_left
              · rintro w' ⟨s0, s1, s2, s3, s4, s5, s6, s7, s8, s9, s10, s11⟩
                go_simp
                with_reducible rfl
              rotate_left
              · simp only [Act.put, List.setIfInBounds_toArray, List.set_cons_zero, List.set_cons_succ, i64_w, i32_w]
                rfl
              refine pure_ (i := 21) (N := some 162) (v := ?_) (a' := ?_) #[true, true, true, true, true, true, true, true, true, true, true, true, true, true, true, true, true, true, true, true, true, true, false, true, false, true, false, false, false, true, false, true, false, false, false, false] rfl rfl (any_of HT_.out (by kernel_rfl)) (fun _ _ _ h => h) (Or.inl ⟨by rfl, ?_⟩) ?_ ?_
              rotate_left
              · intro w'
                go_simp
                with_reducible rfl
              rotate_left
              · simp only [Act.put, List.setIfInBounds_toArray, List.set_cons_zero, List.set_cons_succ, i64_w, i32_w]
                rfl
              refine take_ (i := 22) (N := some 163) (v := ?_) (a' := ?_) #[true, true, true, true, true, true, true, true, true, true, true, true, true, true, true, true, true, true, true, true, true, true, true, true, false, true, false, false, false, true, false, true, false, false, false, false] rfl rfl (take_ofW HT_.out HW_.out (by kernel_rfl)) (fun _ _ _ h => h) (Or.inl ⟨by rfl, ?_⟩) hHeld ?_ ?_
              rotate_left
              · rintro w' ⟨s0, s1, s2, s3, s4, s5, s6, s7, s8, s9, s10, s11⟩
                go_simp
                with_reducible rfl
              rotate_left
              · simp only [Act.put, List.setIfInBounds_toArray, List.set_cons_zero, List.set_cons_succ, i64_w, i32_w]
                rfl
              refine take_ (i := 24) (N := some 165) (v := ?_) (a' := ?_) #[true, true, true, true, true, true, true, true, true, true, true, true, true, true, true, true, true, true, true, true, true, true, true, true, true, true, false, false, false, true, false, true, false, false, false, false] rfl rfl (take_ofW HT_.out HW_.out (by kernel_rfl)) (fun _ _ _ h => h) (Or.inl ⟨by rfl, ?_⟩) hHeld ?_ ?_
              rotate_left
              · rintro w' ⟨s0, s1, s2, s3, s4, s5, s6, s7, s8, s9, s10, s11⟩
                go_simp
                with_reducible rfl
              rotate_left
              · simp only [Act.put, List.setIfInBounds_toArray, List.set_cons_zero, List.set_cons_succ, i64_w, i32_w]
                rfl
              refine pure_ (i := 26) (N := some 167) (v := ?_) (a' := ?_) #[true, true, true, true, true, true, true, true, true, true, true, true, true, true, true, true, true, true, true, true, true, true, true, true, true, true, true, false, false, true, false, true, false, false, false, false] rfl rfl (any_of HT_.out (by kernel_rfl)) (fun _ _ _ h => h) (Or.inl ⟨by rfl, ?_⟩) ?_ ?_
              rotate_left
              · intro w'
                go_simp
                with_reducible rfl
              rotate_left
              · simp only [Act.put, List.setIfInBounds_toArray, List.set_cons_zero, List.set_cons_succ, i64_w, i32_w]
                rfl
              refine take_ (i := 27) (N := some 168) (v := ?_) (a' := ?_) #[true, true, true, true, true, true, true, true, true, true, true, true, true, true, true, true, true, true, true, true, true, true, true, true, true, true, true, true, false, true, false, true, false, false, false, false] rfl rfl (take_ofW HT_.out HW_.out (by kernel_rfl)) (fun _ _ _ h => h) (Or.inl ⟨by rfl, ?_⟩) hHeld ?_ ?_
              rotate_left
              · rintro w' ⟨s0, s1, s2, s3, s4, s5, s6, s7, s8, s9, s10, s11⟩
                go_simp
                with_reducible rfl
              rotate_left
              · simp only [Act.put, List.setIfInBounds_toArray, List.set_cons_zero, List.set_cons_succ, i64_w, i32_w]
                rfl
              refine pure_ (i := 28) (N := some 169) (v := ?_) (a' := ?_) #[true, true, true, true, true, true, true, true, true, true, true, true, true, true, true, true, true, true, true, true, true, true, true, true, true, true, true, true, true, true, false, true, false, false, false, false] rfl rfl (any_of HT_.out (by kernel_rfl)) (fun _ _ _ h => h) (Or.inl ⟨by rfl, ?_⟩) ?_ ?_
              rotate_left
              · intro w'
                go_simp
                with_reducible rfl
              rotate_left
              · simp only [Act.put, List.setIfInBounds_toArray, List.set_cons_zero, List.set_cons_succ, i64_w, i32_w]
                rfl
              refine take_ (i := 30) (N := some 171) (v := ?_) (a' := ?_) #[true, true, true, true, true, true, true, true, true, true, true, true, true, true, true, true, true, true, true, true, true, true, true, true, true, true, true, true, true, true, true, true, false, false, false, false] rfl rfl (take_ofW HT_.out HW_.out (by kernel_rfl)) (fun _ _ _ h => h) (Or.inl ⟨by rfl, ?_⟩) hHeld ?_ ?_
              rotate_left
              · rintro w' ⟨s0, s1, s2, s3, s4, s5, s6, s7, s8, s9, s10, s11⟩
                go_simp
                with_reducible rfl
              rotate_left
              · simp only [Act.put, List.setIfInBounds_toArray, List.set_cons_zero, List.set_cons_succ, i64_w, i32_w]
                rfl
              refine pure_ (i := 32) (N := some 173) (v := ?_) (a' := ?_) #[true, true, true, true, true, true, true, true, true, true, true, true, true, true, true, true, true, true, true, true, true, true, true, true, true, true, true, true, true, true, true, true, true, false, false, false] rfl rfl (any_of HT_.out (by kernel_rfl)) (fun _ _ _ h => h) (Or.inl ⟨by rfl, ?_⟩) ?_ ?_
              rotate_left
              · intro w'
                go_simp
                with_reducible rfl
              rotate_left
              · simp only [Act.put, List.setIfInBounds_toArray, List.set_cons_zero, List.set_cons_succ, i64_w, i32_w]
                rfl
              refine take_ (i := 33) (N := some 174) (v := ?_) (a' := ?_) #[true, true, true, true, true, true, true, true, true, true, true, true, true, true, true, true, true, true, true, true, true, true, true, true, true, true, true, true, true, true, true, true, true, true, false, false] rfl rfl (take_ofW HT_.out HW_.out (by kernel_rfl)) (fun _ _ _ h => h) (Or.inl ⟨by rfl, ?_⟩) hHeld ?_ ?_
              rotate_left
              · rintro w' ⟨s0, s1, s2, s3, s4, s5, s6, s7, s8, s9, s10, s11⟩
                go_simp
                with_reducible rfl
              rotate_left
              · simp only [Act.put, List.setIfInBounds_toArray, List.set_cons_zero, List.set_cons_succ, i64_w, i32_w]
                rfl
              refine pure_ (i := 34) (N := some 175) (v := ?_) (a' := ?_) #[true, true, true, true, true, true, true, true, true, true, true, true, true, true, true, true, true, true, true, true, true, true, true, true, true, true, true, true, true, true, true, true, true, true, true, false] rfl rfl (any_of HT_.out (by kernel_rfl)) (fun _ _ _ h => h) (Or.inl ⟨by rfl, ?_⟩) ?_ ?_
              rotate_left
              · intro w'
                go_simp
                with_reducible rfl
              rotate_left
              · simp only [Act.put, List.setIfInBounds_toArray, List.set_cons_zero, List.set_cons_succ, i64_w, i32_w]
                rfl
              refine pure_ (i := 35) (N := some 176) (v := ?_) (a' := ?_) #[true, true, true, true, true, true, true, true, true, true, true, true, true, true, true, true, true, true, true, true, true, true, true, true, true, true, true, true, true, true, true, true, true, true, true, true] rfl rfl (any_of HT_.out (by kernel_rfl)) (fun _ _ _ h => h) (Or.inl ⟨by rfl, ?_⟩) ?_ ?_
              rotate_left
              · intro w'
                go_simp
                with_reducible rfl
              rotate_left
              · simp only [Act.put, List.setIfInBounds_toArray, List.set_cons_zero, List.set_cons_succ, i64_w, i32_w]
                rfl
              refine done_ (done_of HT_.out (by kernel_rfl)) ?_
              clear hHeld HT_ HW_
              clear t4 t5
              go_wp2_with fail
              go_roundg (C.length - (i + 1))
              case measure => exact HMS.out
              case rel => exact ⟨i + 1, by first | exact congrArg _ t3 | go_num, HKN, ⟨HM2.out.step HBd.out⟩, ⟨HRW.out.below HBd.out⟩⟩
            · have t1 : decide ((i : Int) < (C.length : Int)) = false := by simp; omega
              have t2 : decide (i < C.length) = false := by simp; omega
              go_wp2_with (first
                | (go_at_call 20; refine (thermionlaw01_awake.calls 10 true _ HAW.out).mono ?_; rintro e1 wE ⟨rfl, hb⟩; have HE := Aside0.mk (below_step HLB.out.old (below_step HM.out.below hb)); clear hb))
              go_ret
              exact ⟨rfl, HE.out⟩
end Go.Proofs.Ytndkkjpgnmahbaa.Print
end

section
namespace Go.Proofs.YtndkkjpgnmahbaaW.PrintWords
open Go.ChangeShapes Go.WideShapes
end Go.Proofs.YtndkkjpgnmahbaaW.PrintWords
end
