/- Part 9 of the texts of a claim about Ytbcfphoheijmdaa, put together by a program of this work: what the Go functions do, and that their calls do so. -/
import Derived.Test.YtbcfphoheijmdaaMT5
import Derived.Test.YtbcfphoheijmdaaMT8
section
/- Wind: that the Go function's call gives the chain of a winding, or the error. -/
namespace Go.Proofs.Ytbcfphoheijmdaa.Print
open Go.RowKit Go.Proofs.YtbcfphoheijmdaaW.PrintWords Go.Proofs.YtbcfphoheijmdaaW.PrintLast Go.Proofs.YtbcfphoheijmdaaW.PrintMore Go.Proofs.Ytbcfphoheijmdaa.H
attribute [local go_sem] max2_int min2_int max_two min_two max_three min_three max_four min_four
attribute [local go_sem ↓] Go.wp_at_zero Go.wp_at_succ
set_option linter.unusedVariables false
set_option linter.unusedSimpArgs false

theorem run_index_row {P : Program} (t e n : Nat) (cs : Array Value) (i m : Nat) (d : TypeDesc) (hu : P.underlying t = some (.array n e)) (he : P.underlying e = some d)
    (hd : (match d with | .struct _ | .array _ _ => true | _ => false) = true) (hs : (P.info? e).map (·.size) = some m) (hi : i < n) (w : World) :
    (Instr.index t (.agg cs) (.int .i64 (i : Int))).run P w = .ok (.agg (cs.extract (i * m) (i * m + m))) w := by
  cases hq : P.info? e with
  | none => simp [hq] at hs
  | some ie =>
    have hs' : ie.size = m := by simpa [hq] using hs
    have hagg : (isAgg e).run P w = .ok true w := by
      unfold isAgg
      rw [Sem.run_bind, run_underlying he w]
      cases d <;> simp_all
    have h0 : (0 : Int) ≤ (i : Int) ∧ (i : Int) < (n : Int) := by omega
    simp [Instr.index, asIntOf, Sem.run_bind, run_underlying hu w, sizeOf, typeInfo, hq, hs', part, hagg, h0]
    omega
theorem rng_bad {r : S32} {low high : Int} (h : r.f1 < r.f0) : rngErr r low high = 11 := by unfold rngErr; rw [if_pos h]
theorem rng_out {r : S32} {low high : Int} (h : ¬ r.f1 < r.f0) (h2 : r.f0 < low ∨ high < r.f1) : rngErr r low high = 2 := by unfold rngErr; rw [if_neg h, if_pos h2]
theorem rng_ok {r : S32} {low high : Int} (h : ¬ r.f1 < r.f0) (h2 : ¬ (r.f0 < low ∨ high < r.f1)) : rngErr r low high = 0 := by unfold rngErr; rw [if_neg h, if_neg h2]
theorem quo_small (m : Int) (h : 0 ≤ m ∧ m ≤ 20000000000) : 0 ≤ Int.tdiv m 1000000 ∧ Int.tdiv m 1000000 ≤ 20000 := by
  rw [Int.tdiv_eq_ediv_of_nonneg h.1]
  omega
theorem mul_small (a b : Int) (h : 0 ≤ a ∧ a ≤ 10000) (h2 : 0 ≤ b ∧ b ≤ 1000000) : 0 ≤ a * b ∧ a * b ≤ 10000000000 := by
  refine ⟨Int.mul_nonneg h.1 h2.1, ?_⟩
  have h3 : a * b ≤ 10000 * b := Int.mul_le_mul_of_nonneg_right h.2 h2.1
  omega
set_option maxHeartbeats 16000000 in
set_option maxRecDepth 100000 in
theorem wind_calls (t w0 w1 p0 p1 s0 s1 f0 f1 l0 l1 : Int) (w : World) :
    Calls Try.prog 45 #[.agg #[.int .i64 t, .int .i64 w0, .int .i64 w1, .int .i64 p0, .int .i64 p1, .int .i64 s0, .int .i64 s1, .int .i64 f0, .int .i64 f1, .int .i64 l0, .int .i64 l1]] w fun e w' => ∃ v1_ : Value, e = .returned (.tuple #[.agg #[.int .i64 (windRes ⟨t, ⟨w0, w1⟩, ⟨p0, p1⟩, ⟨s0, s1⟩, ⟨f0, f1⟩, ⟨l0, l1⟩⟩).1, v1_], .int .i64 (windRes ⟨t, ⟨w0, w1⟩, ⟨p0, p1⟩, ⟨s0, s1⟩, ⟨f0, f1⟩, ⟨l0, l1⟩⟩).2.2]) ∧ Kd.R k35 35 w' w.heap.size (fun _ => True) v1_ (windRes ⟨t, ⟨w0, w1⟩, ⟨p0, p1⟩, ⟨s0, s1⟩, ⟨f0, f1⟩, ⟨l0, l1⟩⟩).2.1 ∧ Below w.heap.size w w' := by
  have HM := Aside0.mk (Mem.start w)
  have hu72 := Try.underlying72
  have hu27 := Try.underlying27
  have hu32 := Try.underlying32
  have hu144 := Try.underlying144
  have hu145 := Try.underlying145
  have HE : Aside0 (windErr ⟨t, ⟨w0, w1⟩, ⟨p0, p1⟩, ⟨s0, s1⟩, ⟨f0, f1⟩, ⟨l0, l1⟩⟩ = if 1 ≤ t ∧ t ≤ 11 then (if rngErr ⟨w0, w1⟩ 1 10000 ≠ 0 then rngErr ⟨w0, w1⟩ 1 10000 else if rngErr ⟨p0, p1⟩ 1 10000 ≠ 0 then rngErr ⟨p0, p1⟩ 1 10000 else if rngErr ⟨s0, s1⟩ 0 1000000 ≠ 0 then rngErr ⟨s0, s1⟩ 0 1000000 else if rngErr ⟨f0, f1⟩ 0 1000000 ≠ 0 then rngErr ⟨f0, f1⟩ 0 1000000 else rngErr ⟨l0, l1⟩ 0 1000000) else 2) := ⟨rfl⟩
  have HRS : Aside0 (windRes ⟨t, ⟨w0, w1⟩, ⟨p0, p1⟩, ⟨s0, s1⟩, ⟨f0, f1⟩, ⟨l0, l1⟩⟩ = if windErr ⟨t, ⟨w0, w1⟩, ⟨p0, p1⟩, ⟨s0, s1⟩, ⟨f0, f1⟩, ⟨l0, l1⟩⟩ = 0 then (2 * t + 1, windLinks ⟨t, ⟨w0, w1⟩, ⟨p0, p1⟩, ⟨s0, s1⟩, ⟨f0, f1⟩, ⟨l0, l1⟩⟩, 0) else (0, [], windErr ⟨t, ⟨w0, w1⟩, ⟨p0, p1⟩, ⟨s0, s1⟩, ⟨f0, f1⟩, ⟨l0, l1⟩⟩)) := ⟨rfl⟩
  have HL0 : Aside0 (windLinks ⟨t, ⟨w0, w1⟩, ⟨p0, p1⟩, ⟨s0, s1⟩, ⟨f0, f1⟩, ⟨l0, l1⟩⟩ = windTo ⟨f0, f1⟩ ⟨w0, w1⟩ ⟨p0 + Int.tdiv (p0 * s0) 1000000, p1 + Int.tdiv (p1 * s1 + 1000000 - 1) 1000000⟩ t.toNat ++ (if 1 < t then [⟨1, 2 * t, ⟨l0, l1⟩⟩] else [])) := ⟨rfl⟩
  generalize windRes ⟨t, ⟨w0, w1⟩, ⟨p0, p1⟩, ⟨s0, s1⟩, ⟨f0, f1⟩, ⟨l0, l1⟩⟩ = res at HRS ⊢
  generalize windErr ⟨t, ⟨w0, w1⟩, ⟨p0, p1⟩, ⟨s0, s1⟩, ⟨f0, f1⟩, ⟨l0, l1⟩⟩ = err at HRS HE
  generalize windLinks ⟨t, ⟨w0, w1⟩, ⟨p0, p1⟩, ⟨s0, s1⟩, ⟨f0, f1⟩, ⟨l0, l1⟩⟩ = links at HRS HL0
  have HIN := Aside0.mk (in_eq t 1 11)
  by_cases ht : 1 ≤ t ∧ t ≤ 11
  rotate_left
  · have HF : Aside0 (res = (0, [], 2)) := ⟨by rw [HRS.out, HE.out, if_neg ht, if_neg (by decide)]⟩
    clear HRS HE HL0
    rw [decide_eq_false ht] at HIN
    go_enter Try.func45, Try.ntmps45
    go_wp2_with (first
      | ((with_reducible refine gate_dst (N := 1) rfl ?_); refine ev_box HM.out rfl 72 (.tmp 0) rfl (cs := #[.int .i64 t, .int .i64 w0, .int .i64 w1, .int .i64 p0, .int .i64 p1, .int .i64 s0, .int .i64 s1, .int .i64 f0, .int .i64 f1, .int .i64 l0, .int .i64 l1]) rfl ?_; intro g1 W1 hm1 hq1; clear hq1; have HM1 := Aside0.mk hm1; clear hm1 HM)
      | ((with_reducible refine gate_dst (N := 2) rfl ?_); refine ev_new HM1.out rfl 27 rfl info27 ?_; intro g2 W2 hm2 hq1; clear hq1; have HM2 := Aside0.mk hm2; clear hm2 HM1; have c0 : W2.cell? ⟨g1, 0, none⟩ = some (.int .i64 t) := (blk_cell HM2.out.second 0).trans rfl)
      | (go_at_call 102; refine (mount_in.calls _ _ _ _ _ HIN.out).mono ?_; rintro e W3 ⟨rfl, hd⟩; have HM3 := Aside0.mk (HM2.out.step hd.below); clear hd HM2 c0)
      | ((with_reducible refine gate_store (t := 27) (p := 2) rfl ?_); refine ev_store HM3.out rfl 27 (.tmp 2) (.tmp 14) rfl rfl (cs := #[.int .i64 0, .slice none 0 0]) rfl size27 rfl rfl (by simp [Value.oneCell']) ?_; intro W4 hm4 hq1; clear hq1; have HM4 := Aside0.mk hm4; clear hm4 HM3))
    refine bodyPost_ret (results_row_tmp rfl _ _ _ _ _ _ _ rfl HM4.out.head Try.underlying27 rfl size27) rfl ?_
    rw [HF.out]
    exact ⟨_, rfl, Kd.R_nil _ _ _ _ _, HM4.out.below⟩
  rw [decide_eq_true ht] at HIN
  have HE2 := HE.out
  rw [if_pos ht] at HE2
  have HE := Aside0.mk HE2
  clear HE2
  go_enter Try.func45, Try.ntmps45
  go_wp2_with (first
    | ((with_reducible refine gate_dst (N := 1) rfl ?_); refine ev_box HM.out rfl 72 (.tmp 0) rfl (cs := #[.int .i64 t, .int .i64 w0, .int .i64 w1, .int .i64 p0, .int .i64 p1, .int .i64 s0, .int .i64 s1, .int .i64 f0, .int .i64 f1, .int .i64 l0, .int .i64 l1]) rfl ?_; intro g1 W1 hm1 hq1; clear hq1; have HM1 := Aside0.mk hm1; clear hm1 HM)
    | ((with_reducible refine gate_dst (N := 2) rfl ?_); refine ev_new HM1.out rfl 27 rfl info27 ?_; intro g2 W2 hm2 hq1; clear hq1; have HM2 := Aside0.mk hm2; clear hm2 HM1; have c0 : W2.cell? ⟨g1, 0, none⟩ = some (.int .i64 t) := (blk_cell HM2.out.second 0).trans rfl)
    | (go_at_call 102; refine (mount_in.calls _ _ _ _ _ HIN.out).mono ?_; rintro e W3 ⟨rfl, hd⟩; have HM3 := Aside0.mk (HM2.out.step hd.below); clear hd HM2 c0; have d1 : W3.cell? ⟨g1, 1, none⟩ = some (.int .i64 w0) := (blk_cell HM3.out.second 1).trans rfl; have d2 : W3.cell? ⟨g1, 2, none⟩ = some (.int .i64 w1) := (blk_cell HM3.out.second 2).trans rfl; have d3 : W3.cell? ⟨g1, 3, none⟩ = some (.int .i64 p0) := (blk_cell HM3.out.second 3).trans rfl; have d4 : W3.cell? ⟨g1, 4, none⟩ = some (.int .i64 p1) := (blk_cell HM3.out.second 4).trans rfl; have d5 : W3.cell? ⟨g1, 5, none⟩ = some (.int .i64 s0) := (blk_cell HM3.out.second 5).trans rfl; have d6 : W3.cell? ⟨g1, 6, none⟩ = some (.int .i64 s1) := (blk_cell HM3.out.second 6).trans rfl; have d7 : W3.cell? ⟨g1, 7, none⟩ = some (.int .i64 f0) := (blk_cell HM3.out.second 7).trans rfl; have d8 : W3.cell? ⟨g1, 8, none⟩ = some (.int .i64 f1) := (blk_cell HM3.out.second 8).trans rfl; have d9 : W3.cell? ⟨g1, 9, none⟩ = some (.int .i64 l0) := (blk_cell HM3.out.second 9).trans rfl; have d10 : W3.cell? ⟨g1, 10, none⟩ = some (.int .i64 l1) := (blk_cell HM3.out.second 10).trans rfl))
  clear d1 d2 d3 d4 d5 d6 d7 d8 d9 d10
  go_loopg [31] 5 (fun k v31 w' => ∃ (i : Nat), v31 = .int .i64 i ∧ i + k = 5 ∧ Aside0 ((0 < i → rngErr ⟨w0, w1⟩ 1 10000 = 0) ∧ (1 < i → rngErr ⟨p0, p1⟩ 1 10000 = 0) ∧ (2 < i → rngErr ⟨s0, s1⟩ 0 1000000 = 0) ∧ (3 < i → rngErr ⟨f0, f1⟩ 0 1000000 = 0) ∧ (4 < i → rngErr ⟨l0, l1⟩ 0 1000000 = 0)) ∧ Aside0 (Mem w w' [(g2, #[.int .i64 0, .slice none 0 0], 27), (g1, #[.int .i64 t, .int .i64 w0, .int .i64 w1, .int .i64 p0, .int .i64 p1, .int .i64 s0, .int .i64 s1, .int .i64 f0, .int .i64 f1, .int .i64 l0, .int .i64 l1], 72)]))
  case atStart => exact ⟨0, rfl, rfl, ⟨by omega, by omega, by omega, by omega, by omega⟩, HM3⟩
  case round =>
    clear HM3
    obtain ⟨i, rfl, hik, HOK, HM⟩ := hrel
    obtain rfl | rfl | rfl | rfl | rfl | rfl : i = 0 ∨ i = 1 ∨ i = 2 ∨ i = 3 ∨ i = 4 ∨ i = 5 := by omega
    · -- round 0
      have hix : (Instr.index 145 (.agg #[.int .i64 w0, .int .i64 w1, .int .i64 1, .int .i64 10000, .int .i64 p0, .int .i64 p1, .int .i64 1, .int .i64 10000, .int .i64 s0, .int .i64 s1, .int .i64 0, .int .i64 1000000, .int .i64 f0, .int .i64 f1, .int .i64 0, .int .i64 1000000, .int .i64 l0, .int .i64 l1, .int .i64 0, .int .i64 1000000]) (.int .i64 0)).run Try.prog = fun W => .ok (.agg #[.int .i64 w0, .int .i64 w1, .int .i64 1, .int .i64 10000]) W := by
        funext W
        exact run_index_row 145 144 5 _ 0 4 _ Try.underlying145 Try.underlying144 rfl size144 (by omega) W
      have HIX := Aside0.mk hix
      by_cases o1 : w1 < w0
      · have o1b : decide (w1 < w0) = true := decide_eq_true o1
        have HF : Aside0 (res = (0, [], 11)) := ⟨by
          have hr : rngErr ⟨w0, w1⟩ 1 10000 = 11 := rng_bad o1
          have he : err = 11 := by rw [HE.out, if_pos (by rw [hr]; decide), hr]
          rw [HRS.out, he, if_neg (by decide)]⟩
        clear HRS HE HL0 HOK
        go_wp2_with (first
      | ((with_reducible refine gate_dst (N := 5) rfl ?_); refine ev_new HM.out rfl 144 rfl info144 ?_; intro g5 W3 hm3 hq1; clear hq1; have HN3 := Aside0.mk hm3; clear hm3 HM)
      | ((with_reducible refine gate_store (t := 144) (p := 5) rfl ?_); refine ev_store HN3.out rfl 144 (.tmp 5) (.tmp 33) rfl rfl (cs := #[.int .i64 w0, .int .i64 w1, .int .i64 1, .int .i64 10000]) rfl size144 rfl rfl (by simp [Value.oneCell']) ?_; intro W4 hm4 hq1; clear hq1; have HN4 := Aside0.mk hm4; clear hm4 HN3; have k0 : W4.cell? ⟨g5, 0, none⟩ = some (.int .i64 w0) := (HN4.out.cell 0).trans rfl; have k1 : W4.cell? ⟨g5, 1, none⟩ = some (.int .i64 w1) := (HN4.out.cell 1).trans rfl; have k2 : W4.cell? ⟨g5, 2, none⟩ = some (.int .i64 1) := (HN4.out.cell 2).trans rfl; have k3 : W4.cell? ⟨g5, 3, none⟩ = some (.int .i64 10000) := (HN4.out.cell 3).trans rfl)
      | ((with_reducible refine gate_store (t := 27) (p := 2) rfl ?_); refine ev_store HN4.out.drop rfl 27 (.tmp 2) (.tmp 42) rfl rfl (cs := #[.int .i64 0, .slice none 0 0]) rfl size27 rfl rfl (by simp [Value.oneCell']) ?_; intro W5 hm5 hq1; clear hq1; have HN5 := Aside0.mk hm5; clear hm5 HN4))
        refine bodyPost_ret (results_row_tmp rfl _ _ _ _ _ _ _ rfl HN5.out.head Try.underlying27 rfl size27) rfl ?_
        rw [HF.out]
        exact ⟨_, rfl, Kd.R_nil _ _ _ _ _, HN5.out.below⟩
      have o1b : decide (w1 < w0) = false := decide_eq_false o1
      by_cases o2 : w0 < 1
      · have o2b : decide (w0 < 1) = true := decide_eq_true o2
        have HF : Aside0 (res = (0, [], 2)) := ⟨by
          have hr : rngErr ⟨w0, w1⟩ 1 10000 = 2 := rng_out o1 (.inl o2)
          have he : err = 2 := by rw [HE.out, if_pos (by rw [hr]; decide), hr]
          rw [HRS.out, he, if_neg (by decide)]⟩
        clear HRS HE HL0 HOK
        go_wp2_with (first
      | ((with_reducible refine gate_dst (N := 5) rfl ?_); refine ev_new HM.out rfl 144 rfl info144 ?_; intro g5 W3 hm3 hq1; clear hq1; have HN3 := Aside0.mk hm3; clear hm3 HM)
      | ((with_reducible refine gate_store (t := 144) (p := 5) rfl ?_); refine ev_store HN3.out rfl 144 (.tmp 5) (.tmp 33) rfl rfl (cs := #[.int .i64 w0, .int .i64 w1, .int .i64 1, .int .i64 10000]) rfl size144 rfl rfl (by simp [Value.oneCell']) ?_; intro W4 hm4 hq1; clear hq1; have HN4 := Aside0.mk hm4; clear hm4 HN3; have k0 : W4.cell? ⟨g5, 0, none⟩ = some (.int .i64 w0) := (HN4.out.cell 0).trans rfl; have k1 : W4.cell? ⟨g5, 1, none⟩ = some (.int .i64 w1) := (HN4.out.cell 1).trans rfl; have k2 : W4.cell? ⟨g5, 2, none⟩ = some (.int .i64 1) := (HN4.out.cell 2).trans rfl; have k3 : W4.cell? ⟨g5, 3, none⟩ = some (.int .i64 10000) := (HN4.out.cell 3).trans rfl)
      | ((with_reducible refine gate_store (t := 27) (p := 2) rfl ?_); refine ev_store HN4.out.drop rfl 27 (.tmp 2) (.tmp 58) rfl rfl (cs := #[.int .i64 0, .slice none 0 0]) rfl size27 rfl rfl (by simp [Value.oneCell']) ?_; intro W5 hm5 hq1; clear hq1; have HN5 := Aside0.mk hm5; clear hm5 HN4))
        refine bodyPost_ret (results_row_tmp rfl _ _ _ _ _ _ _ rfl HN5.out.head Try.underlying27 rfl size27) rfl ?_
        rw [HF.out]
        exact ⟨_, rfl, Kd.R_nil _ _ _ _ _, HN5.out.below⟩
      have o2b : decide (w0 < 1) = false := decide_eq_false o2
      by_cases o3 : 10000 < w1
      · have o3b : decide (10000 < w1) = true := decide_eq_true o3
        have HF : Aside0 (res = (0, [], 2)) := ⟨by
          have hr : rngErr ⟨w0, w1⟩ 1 10000 = 2 := rng_out o1 (.inr o3)
          have he : err = 2 := by rw [HE.out, if_pos (by rw [hr]; decide), hr]
          rw [HRS.out, he, if_neg (by decide)]⟩
        clear HRS HE HL0 HOK
        go_wp2_with (first
      | ((with_reducible refine gate_dst (N := 5) rfl ?_); refine ev_new HM.out rfl 144 rfl info144 ?_; intro g5 W3 hm3 hq1; clear hq1; have HN3 := Aside0.mk hm3; clear hm3 HM)
      | ((with_reducible refine gate_store (t := 144) (p := 5) rfl ?_); refine ev_store HN3.out rfl 144 (.tmp 5) (.tmp 33) rfl rfl (cs := #[.int .i64 w0, .int .i64 w1, .int .i64 1, .int .i64 10000]) rfl size144 rfl rfl (by simp [Value.oneCell']) ?_; intro W4 hm4 hq1; clear hq1; have HN4 := Aside0.mk hm4; clear hm4 HN3; have k0 : W4.cell? ⟨g5, 0, none⟩ = some (.int .i64 w0) := (HN4.out.cell 0).trans rfl; have k1 : W4.cell? ⟨g5, 1, none⟩ = some (.int .i64 w1) := (HN4.out.cell 1).trans rfl; have k2 : W4.cell? ⟨g5, 2, none⟩ = some (.int .i64 1) := (HN4.out.cell 2).trans rfl; have k3 : W4.cell? ⟨g5, 3, none⟩ = some (.int .i64 10000) := (HN4.out.cell 3).trans rfl)
      | ((with_reducible refine gate_store (t := 27) (p := 2) rfl ?_); refine ev_store HN4.out.drop rfl 27 (.tmp 2) (.tmp 58) rfl rfl (cs := #[.int .i64 0, .slice none 0 0]) rfl size27 rfl rfl (by simp [Value.oneCell']) ?_; intro W5 hm5 hq1; clear hq1; have HN5 := Aside0.mk hm5; clear hm5 HN4))
        refine bodyPost_ret (results_row_tmp rfl _ _ _ _ _ _ _ rfl HN5.out.head Try.underlying27 rfl size27) rfl ?_
        rw [HF.out]
        exact ⟨_, rfl, Kd.R_nil _ _ _ _ _, HN5.out.below⟩
      have o3b : decide (10000 < w1) = false := decide_eq_false o3
      have HR1 := Aside0.mk (rng_ok (r := ⟨w0, w1⟩) (low := 1) (high := 10000) o1 (fun h => h.elim o2 o3))
      go_wp2_with (first
      | ((with_reducible refine gate_dst (N := 5) rfl ?_); refine ev_new HM.out rfl 144 rfl info144 ?_; intro g5 W3 hm3 hq1; clear hq1; have HN3 := Aside0.mk hm3; clear hm3 HM)
      | ((with_reducible refine gate_store (t := 144) (p := 5) rfl ?_); refine ev_store HN3.out rfl 144 (.tmp 5) (.tmp 33) rfl rfl (cs := #[.int .i64 w0, .int .i64 w1, .int .i64 1, .int .i64 10000]) rfl size144 rfl rfl (by simp [Value.oneCell']) ?_; intro W4 hm4 hq1; clear hq1; have HN4 := Aside0.mk hm4; clear hm4 HN3; have k0 : W4.cell? ⟨g5, 0, none⟩ = some (.int .i64 w0) := (HN4.out.cell 0).trans rfl; have k1 : W4.cell? ⟨g5, 1, none⟩ = some (.int .i64 w1) := (HN4.out.cell 1).trans rfl; have k2 : W4.cell? ⟨g5, 2, none⟩ = some (.int .i64 1) := (HN4.out.cell 2).trans rfl; have k3 : W4.cell? ⟨g5, 3, none⟩ = some (.int .i64 10000) := (HN4.out.cell 3).trans rfl))
      go_roundg 4
      case measure => omega
      case rel => exact ⟨1, rfl, rfl, ⟨fun _ => HR1.out, fun h => by omega, fun h => by omega, fun h => by omega, fun h => by omega⟩, ⟨HN4.out.drop⟩⟩
    · -- round 1
      have hix : (Instr.index 145 (.agg #[.int .i64 w0, .int .i64 w1, .int .i64 1, .int .i64 10000, .int .i64 p0, .int .i64 p1, .int .i64 1, .int .i64 10000, .int .i64 s0, .int .i64 s1, .int .i64 0, .int .i64 1000000, .int .i64 f0, .int .i64 f1, .int .i64 0, .int .i64 1000000, .int .i64 l0, .int .i64 l1, .int .i64 0, .int .i64 1000000]) (.int .i64 1)).run Try.prog = fun W => .ok (.agg #[.int .i64 p0, .int .i64 p1, .int .i64 1, .int .i64 10000]) W := by
        funext W
        exact run_index_row 145 144 5 _ 1 4 _ Try.underlying145 Try.underlying144 rfl size144 (by omega) W
      have HIX := Aside0.mk hix
      by_cases o1 : p1 < p0
      · have o1b : decide (p1 < p0) = true := decide_eq_true o1
        have HF : Aside0 (res = (0, [], 11)) := ⟨by
          have hr : rngErr ⟨p0, p1⟩ 1 10000 = 11 := rng_bad o1
          have he : err = 11 := by rw [HE.out, if_neg (by rw [HOK.out.1 (by omega)]; decide), if_pos (by rw [hr]; decide), hr]
          rw [HRS.out, he, if_neg (by decide)]⟩
        clear HRS HE HL0 HOK
        go_wp2_with (first
      | ((with_reducible refine gate_dst (N := 5) rfl ?_); refine ev_new HM.out rfl 144 rfl info144 ?_; intro g5 W3 hm3 hq1; clear hq1; have HN3 := Aside0.mk hm3; clear hm3 HM)
      | ((with_reducible refine gate_store (t := 144) (p := 5) rfl ?_); refine ev_store HN3.out rfl 144 (.tmp 5) (.tmp 33) rfl rfl (cs := #[.int .i64 p0, .int .i64 p1, .int .i64 1, .int .i64 10000]) rfl size144 rfl rfl (by simp [Value.oneCell']) ?_; intro W4 hm4 hq1; clear hq1; have HN4 := Aside0.mk hm4; clear hm4 HN3; have k0 : W4.cell? ⟨g5, 0, none⟩ = some (.int .i64 p0) := (HN4.out.cell 0).trans rfl; have k1 : W4.cell? ⟨g5, 1, none⟩ = some (.int .i64 p1) := (HN4.out.cell 1).trans rfl; have k2 : W4.cell? ⟨g5, 2, none⟩ = some (.int .i64 1) := (HN4.out.cell 2).trans rfl; have k3 : W4.cell? ⟨g5, 3, none⟩ = some (.int .i64 10000) := (HN4.out.cell 3).trans rfl)
      | ((with_reducible refine gate_store (t := 27) (p := 2) rfl ?_); refine ev_store HN4.out.drop rfl 27 (.tmp 2) (.tmp 42) rfl rfl (cs := #[.int .i64 0, .slice none 0 0]) rfl size27 rfl rfl (by simp [Value.oneCell']) ?_; intro W5 hm5 hq1; clear hq1; have HN5 := Aside0.mk hm5; clear hm5 HN4))
        refine bodyPost_ret (results_row_tmp rfl _ _ _ _ _ _ _ rfl HN5.out.head Try.underlying27 rfl size27) rfl ?_
        rw [HF.out]
        exact ⟨_, rfl, Kd.R_nil _ _ _ _ _, HN5.out.below⟩
      have o1b : decide (p1 < p0) = false := decide_eq_false o1
      by_cases o2 : p0 < 1
      · have o2b : decide (p0 < 1) = true := decide_eq_true o2
        have HF : Aside0 (res = (0, [], 2)) := ⟨by
          have hr : rngErr ⟨p0, p1⟩ 1 10000 = 2 := rng_out o1 (.inl o2)
          have he : err = 2 := by rw [HE.out, if_neg (by rw [HOK.out.1 (by omega)]; decide), if_pos (by rw [hr]; decide), hr]
          rw [HRS.out, he, if_neg (by decide)]⟩
        clear HRS HE HL0 HOK
        go_wp2_with (first
      | ((with_reducible refine gate_dst (N := 5) rfl ?_); refine ev_new HM.out rfl 144 rfl info144 ?_; intro g5 W3 hm3 hq1; clear hq1; have HN3 := Aside0.mk hm3; clear hm3 HM)
      | ((with_reducible refine gate_store (t := 144) (p := 5) rfl ?_); refine ev_store HN3.out rfl 144 (.tmp 5) (.tmp 33) rfl rfl (cs := #[.int .i64 p0, .int .i64 p1, .int .i64 1, .int .i64 10000]) rfl size144 rfl rfl (by simp [Value.oneCell']) ?_; intro W4 hm4 hq1; clear hq1; have HN4 := Aside0.mk hm4; clear hm4 HN3; have k0 : W4.cell? ⟨g5, 0, none⟩ = some (.int .i64 p0) := (HN4.out.cell 0).trans rfl; have k1 : W4.cell? ⟨g5, 1, none⟩ = some (.int .i64 p1) := (HN4.out.cell 1).trans rfl; have k2 : W4.cell? ⟨g5, 2, none⟩ = some (.int .i64 1) := (HN4.out.cell 2).trans rfl; have k3 : W4.cell? ⟨g5, 3, none⟩ = some (.int .i64 10000) := (HN4.out.cell 3).trans rfl)
      | ((with_reducible refine gate_store (t := 27) (p := 2) rfl ?_); refine ev_store HN4.out.drop rfl 27 (.tmp 2) (.tmp 58) rfl rfl (cs := #[.int .i64 0, .slice none 0 0]) rfl size27 rfl rfl (by simp [Value.oneCell']) ?_; intro W5 hm5 hq1; clear hq1; have HN5 := Aside0.mk hm5; clear hm5 HN4))
        refine bodyPost_ret (results_row_tmp rfl _ _ _ _ _ _ _ rfl HN5.out.head Try.underlying27 rfl size27) rfl ?_
        rw [HF.out]
        exact ⟨_, rfl, Kd.R_nil _ _ _ _ _, HN5.out.below⟩
      have o2b : decide (p0 < 1) = false := decide_eq_false o2
      by_cases o3 : 10000 < p1
      · have o3b : decide (10000 < p1) = true := decide_eq_true o3
        have HF : Aside0 (res = (0, [], 2)) := ⟨by
          have hr : rngErr ⟨p0, p1⟩ 1 10000 = 2 := rng_out o1 (.inr o3)
          have he : err = 2 := by rw [HE.out, if_neg (by rw [HOK.out.1 (by omega)]; decide), if_pos (by rw [hr]; decide), hr]
          rw [HRS.out, he, if_neg (by decide)]⟩
        clear HRS HE HL0 HOK
        go_wp2_with (first
      | ((with_reducible refine gate_dst (N := 5) rfl ?_); refine ev_new HM.out rfl 144 rfl info144 ?_; intro g5 W3 hm3 hq1; clear hq1; have HN3 := Aside0.mk hm3; clear hm3 HM)
      | ((with_reducible refine gate_store (t := 144) (p := 5) rfl ?_); refine ev_store HN3.out rfl 144 (.tmp 5) (.tmp 33) rfl rfl (cs := #[.int .i64 p0, .int .i64 p1, .int .i64 1, .int .i64 10000]) rfl size144 rfl rfl (by simp [Value.oneCell']) ?_; intro W4 hm4 hq1; clear hq1; have HN4 := Aside0.mk hm4; clear hm4 HN3; have k0 : W4.cell? ⟨g5, 0, none⟩ = some (.int .i64 p0) := (HN4.out.cell 0).trans rfl; have k1 : W4.cell? ⟨g5, 1, none⟩ = some (.int .i64 p1) := (HN4.out.cell 1).trans rfl; have k2 : W4.cell? ⟨g5, 2, none⟩ = some (.int .i64 1) := (HN4.out.cell 2).trans rfl; have k3 : W4.cell? ⟨g5, 3, none⟩ = some (.int .i64 10000) := (HN4.out.cell 3).trans rfl)
      | ((with_reducible refine gate_store (t := 27) (p := 2) rfl ?_); refine ev_store HN4.out.drop rfl 27 (.tmp 2) (.tmp 58) rfl rfl (cs := #[.int .i64 0, .slice none 0 0]) rfl size27 rfl rfl (by simp [Value.oneCell']) ?_; intro W5 hm5 hq1; clear hq1; have HN5 := Aside0.mk hm5; clear hm5 HN4))
        refine bodyPost_ret (results_row_tmp rfl _ _ _ _ _ _ _ rfl HN5.out.head Try.underlying27 rfl size27) rfl ?_
        rw [HF.out]
        exact ⟨_, rfl, Kd.R_nil _ _ _ _ _, HN5.out.below⟩
      have o3b : decide (10000 < p1) = false := decide_eq_false o3
      have HR1 := Aside0.mk (rng_ok (r := ⟨p0, p1⟩) (low := 1) (high := 10000) o1 (fun h => h.elim o2 o3))
      go_wp2_with (first
      | ((with_reducible refine gate_dst (N := 5) rfl ?_); refine ev_new HM.out rfl 144 rfl info144 ?_; intro g5 W3 hm3 hq1; clear hq1; have HN3 := Aside0.mk hm3; clear hm3 HM)
      | ((with_reducible refine gate_store (t := 144) (p := 5) rfl ?_); refine ev_store HN3.out rfl 144 (.tmp 5) (.tmp 33) rfl rfl (cs := #[.int .i64 p0, .int .i64 p1, .int .i64 1, .int .i64 10000]) rfl size144 rfl rfl (by simp [Value.oneCell']) ?_; intro W4 hm4 hq1; clear hq1; have HN4 := Aside0.mk hm4; clear hm4 HN3; have k0 : W4.cell? ⟨g5, 0, none⟩ = some (.int .i64 p0) := (HN4.out.cell 0).trans rfl; have k1 : W4.cell? ⟨g5, 1, none⟩ = some (.int .i64 p1) := (HN4.out.cell 1).trans rfl; have k2 : W4.cell? ⟨g5, 2, none⟩ = some (.int .i64 1) := (HN4.out.cell 2).trans rfl; have k3 : W4.cell? ⟨g5, 3, none⟩ = some (.int .i64 10000) := (HN4.out.cell 3).trans rfl))
      go_roundg 3
      case measure => omega
      case rel => exact ⟨2, rfl, rfl, ⟨fun _ => HOK.out.1 (by omega), fun _ => HR1.out, fun h => by omega, fun h => by omega, fun h => by omega⟩, ⟨HN4.out.drop⟩⟩
    · -- round 2
      have hix : (Instr.index 145 (.agg #[.int .i64 w0, .int .i64 w1, .int .i64 1, .int .i64 10000, .int .i64 p0, .int .i64 p1, .int .i64 1, .int .i64 10000, .int .i64 s0, .int .i64 s1, .int .i64 0, .int .i64 1000000, .int .i64 f0, .int .i64 f1, .int .i64 0, .int .i64 1000000, .int .i64 l0, .int .i64 l1, .int .i64 0, .int .i64 1000000]) (.int .i64 2)).run Try.prog = fun W => .ok (.agg #[.int .i64 s0, .int .i64 s1, .int .i64 0, .int .i64 1000000]) W := by
        funext W
        exact run_index_row 145 144 5 _ 2 4 _ Try.underlying145 Try.underlying144 rfl size144 (by omega) W
      have HIX := Aside0.mk hix
      by_cases o1 : s1 < s0
      · have o1b : decide (s1 < s0) = true := decide_eq_true o1
        have HF : Aside0 (res = (0, [], 11)) := ⟨by
          have hr : rngErr ⟨s0, s1⟩ 0 1000000 = 11 := rng_bad o1
          have he : err = 11 := by rw [HE.out, if_neg (by rw [HOK.out.1 (by omega)]; decide), if_neg (by rw [HOK.out.2.1 (by omega)]; decide), if_pos (by rw [hr]; decide), hr]
          rw [HRS.out, he, if_neg (by decide)]⟩
        clear HRS HE HL0 HOK
        go_wp2_with (first
      | ((with_reducible refine gate_dst (N := 5) rfl ?_); refine ev_new HM.out rfl 144 rfl info144 ?_; intro g5 W3 hm3 hq1; clear hq1; have HN3 := Aside0.mk hm3; clear hm3 HM)
      | ((with_reducible refine gate_store (t := 144) (p := 5) rfl ?_); refine ev_store HN3.out rfl 144 (.tmp 5) (.tmp 33) rfl rfl (cs := #[.int .i64 s0, .int .i64 s1, .int .i64 0, .int .i64 1000000]) rfl size144 rfl rfl (by simp [Value.oneCell']) ?_; intro W4 hm4 hq1; clear hq1; have HN4 := Aside0.mk hm4; clear hm4 HN3; have k0 : W4.cell? ⟨g5, 0, none⟩ = some (.int .i64 s0) := (HN4.out.cell 0).trans rfl; have k1 : W4.cell? ⟨g5, 1, none⟩ = some (.int .i64 s1) := (HN4.out.cell 1).trans rfl; have k2 : W4.cell? ⟨g5, 2, none⟩ = some (.int .i64 0) := (HN4.out.cell 2).trans rfl; have k3 : W4.cell? ⟨g5, 3, none⟩ = some (.int .i64 1000000) := (HN4.out.cell 3).trans rfl)
      | ((with_reducible refine gate_store (t := 27) (p := 2) rfl ?_); refine ev_store HN4.out.drop rfl 27 (.tmp 2) (.tmp 42) rfl rfl (cs := #[.int .i64 0, .slice none 0 0]) rfl size27 rfl rfl (by simp [Value.oneCell']) ?_; intro W5 hm5 hq1; clear hq1; have HN5 := Aside0.mk hm5; clear hm5 HN4))
        refine bodyPost_ret (results_row_tmp rfl _ _ _ _ _ _ _ rfl HN5.out.head Try.underlying27 rfl size27) rfl ?_
        rw [HF.out]
        exact ⟨_, rfl, Kd.R_nil _ _ _ _ _, HN5.out.below⟩
      have o1b : decide (s1 < s0) = false := decide_eq_false o1
      by_cases o2 : s0 < 0
      · have o2b : decide (s0 < 0) = true := decide_eq_true o2
        have HF : Aside0 (res = (0, [], 2)) := ⟨by
          have hr : rngErr ⟨s0, s1⟩ 0 1000000 = 2 := rng_out o1 (.inl o2)
          have he : err = 2 := by rw [HE.out, if_neg (by rw [HOK.out.1 (by omega)]; decide), if_neg (by rw [HOK.out.2.1 (by omega)]; decide), if_pos (by rw [hr]; decide), hr]
          rw [HRS.out, he, if_neg (by decide)]⟩
        clear HRS HE HL0 HOK
        go_wp2_with (first
      | ((with_reducible refine gate_dst (N := 5) rfl ?_); refine ev_new HM.out rfl 144 rfl info144 ?_; intro g5 W3 hm3 hq1; clear hq1; have HN3 := Aside0.mk hm3; clear hm3 HM)
      | ((with_reducible refine gate_store (t := 144) (p := 5) rfl ?_); refine ev_store HN3.out rfl 144 (.tmp 5) (.tmp 33) rfl rfl (cs := #[.int .i64 s0, .int .i64 s1, .int .i64 0, .int .i64 1000000]) rfl size144 rfl rfl (by simp [Value.oneCell']) ?_; intro W4 hm4 hq1; clear hq1; have HN4 := Aside0.mk hm4; clear hm4 HN3; have k0 : W4.cell? ⟨g5, 0, none⟩ = some (.int .i64 s0) := (HN4.out.cell 0).trans rfl; have k1 : W4.cell? ⟨g5, 1, none⟩ = some (.int .i64 s1) := (HN4.out.cell 1).trans rfl; have k2 : W4.cell? ⟨g5, 2, none⟩ = some (.int .i64 0) := (HN4.out.cell 2).trans rfl; have k3 : W4.cell? ⟨g5, 3, none⟩ = some (.int .i64 1000000) := (HN4.out.cell 3).trans rfl)
      | ((with_reducible refine gate_store (t := 27) (p := 2) rfl ?_); refine ev_store HN4.out.drop rfl 27 (.tmp 2) (.tmp 58) rfl rfl (cs := #[.int .i64 0, .slice none 0 0]) rfl size27 rfl rfl (by simp [Value.oneCell']) ?_; intro W5 hm5 hq1; clear hq1; have HN5 := Aside0.mk hm5; clear hm5 HN4))
        refine bodyPost_ret (results_row_tmp rfl _ _ _ _ _ _ _ rfl HN5.out.head Try.underlying27 rfl size27) rfl ?_
        rw [HF.out]
        exact ⟨_, rfl, Kd.R_nil _ _ _ _ _, HN5.out.below⟩
      have o2b : decide (s0 < 0) = false := decide_eq_false o2
      by_cases o3 : 1000000 < s1
      · have o3b : decide (1000000 < s1) = true := decide_eq_true o3
        have HF : Aside0 (res = (0, [], 2)) := ⟨by
          have hr : rngErr ⟨s0, s1⟩ 0 1000000 = 2 := rng_out o1 (.inr o3)
          have he : err = 2 := by rw [HE.out, if_neg (by rw [HOK.out.1 (by omega)]; decide), if_neg (by rw [HOK.out.2.1 (by omega)]; decide), if_pos (by rw [hr]; decide), hr]
          rw [HRS.out, he, if_neg (by decide)]⟩
        clear HRS HE HL0 HOK
        go_wp2_with (first
      | ((with_reducible refine gate_dst (N := 5) rfl ?_); refine ev_new HM.out rfl 144 rfl info144 ?_; intro g5 W3 hm3 hq1; clear hq1; have HN3 := Aside0.mk hm3; clear hm3 HM)
      | ((with_reducible refine gate_store (t := 144) (p := 5) rfl ?_); refine ev_store HN3.out rfl 144 (.tmp 5) (.tmp 33) rfl rfl (cs := #[.int .i64 s0, .int .i64 s1, .int .i64 0, .int .i64 1000000]) rfl size144 rfl rfl (by simp [Value.oneCell']) ?_; intro W4 hm4 hq1; clear hq1; have HN4 := Aside0.mk hm4; clear hm4 HN3; have k0 : W4.cell? ⟨g5, 0, none⟩ = some (.int .i64 s0) := (HN4.out.cell 0).trans rfl; have k1 : W4.cell? ⟨g5, 1, none⟩ = some (.int .i64 s1) := (HN4.out.cell 1).trans rfl; have k2 : W4.cell? ⟨g5, 2, none⟩ = some (.int .i64 0) := (HN4.out.cell 2).trans rfl; have k3 : W4.cell? ⟨g5, 3, none⟩ = some (.int .i64 1000000) := (HN4.out.cell 3).trans rfl)
      | ((with_reducible refine gate_store (t := 27) (p := 2) rfl ?_); refine ev_store HN4.out.drop rfl 27 (.tmp 2) (.tmp 58) rfl rfl (cs := #[.int .i64 0, .slice none 0 0]) rfl size27 rfl rfl (by simp [Value.oneCell']) ?_; intro W5 hm5 hq1; clear hq1; have HN5 := Aside0.mk hm5; clear hm5 HN4))
        refine bodyPost_ret (results_row_tmp rfl _ _ _ _ _ _ _ rfl HN5.out.head Try.underlying27 rfl size27) rfl ?_
        rw [HF.out]
        exact ⟨_, rfl, Kd.R_nil _ _ _ _ _, HN5.out.below⟩
      have o3b : decide (1000000 < s1) = false := decide_eq_false o3
      have HR1 := Aside0.mk (rng_ok (r := ⟨s0, s1⟩) (low := 0) (high := 1000000) o1 (fun h => h.elim o2 o3))
      go_wp2_with (first
      | ((with_reducible refine gate_dst (N := 5) rfl ?_); refine ev_new HM.out rfl 144 rfl info144 ?_; intro g5 W3 hm3 hq1; clear hq1; have HN3 := Aside0.mk hm3; clear hm3 HM)
      | ((with_reducible refine gate_store (t := 144) (p := 5) rfl ?_); refine ev_store HN3.out rfl 144 (.tmp 5) (.tmp 33) rfl rfl (cs := #[.int .i64 s0, .int .i64 s1, .int .i64 0, .int .i64 1000000]) rfl size144 rfl rfl (by simp [Value.oneCell']) ?_; intro W4 hm4 hq1; clear hq1; have HN4 := Aside0.mk hm4; clear hm4 HN3; have k0 : W4.cell? ⟨g5, 0, none⟩ = some (.int .i64 s0) := (HN4.out.cell 0).trans rfl; have k1 : W4.cell? ⟨g5, 1, none⟩ = some (.int .i64 s1) := (HN4.out.cell 1).trans rfl; have k2 : W4.cell? ⟨g5, 2, none⟩ = some (.int .i64 0) := (HN4.out.cell 2).trans rfl; have k3 : W4.cell? ⟨g5, 3, none⟩ = some (.int .i64 1000000) := (HN4.out.cell 3).trans rfl))
      go_roundg 2
      case measure => omega
      case rel => exact ⟨3, rfl, rfl, ⟨fun _ => HOK.out.1 (by omega), fun _ => HOK.out.2.1 (by omega), fun _ => HR1.out, fun h => by omega, fun h => by omega⟩, ⟨HN4.out.drop⟩⟩
    · -- round 3
      have hix : (Instr.index 145 (.agg #[.int .i64 w0, .int .i64 w1, .int .i64 1, .int .i64 10000, .int .i64 p0, .int .i64 p1, .int .i64 1, .int .i64 10000, .int .i64 s0, .int .i64 s1, .int .i64 0, .int .i64 1000000, .int .i64 f0, .int .i64 f1, .int .i64 0, .int .i64 1000000, .int .i64 l0, .int .i64 l1, .int .i64 0, .int .i64 1000000]) (.int .i64 3)).run Try.prog = fun W => .ok (.agg #[.int .i64 f0, .int .i64 f1, .int .i64 0, .int .i64 1000000]) W := by
        funext W
        exact run_index_row 145 144 5 _ 3 4 _ Try.underlying145 Try.underlying144 rfl size144 (by omega) W
      have HIX := Aside0.mk hix
      by_cases o1 : f1 < f0
      · have o1b : decide (f1 < f0) = true := decide_eq_true o1
        have HF : Aside0 (res = (0, [], 11)) := ⟨by
          have hr : rngErr ⟨f0, f1⟩ 0 1000000 = 11 := rng_bad o1
          have he : err = 11 := by rw [HE.out, if_neg (by rw [HOK.out.1 (by omega)]; decide), if_neg (by rw [HOK.out.2.1 (by omega)]; decide), if_neg (by rw [HOK.out.2.2.1 (by omega)]; decide), if_pos (by rw [hr]; decide), hr]
          rw [HRS.out, he, if_neg (by decide)]⟩
        clear HRS HE HL0 HOK
        go_wp2_with (first
      | ((with_reducible refine gate_dst (N := 5) rfl ?_); refine ev_new HM.out rfl 144 rfl info144 ?_; intro g5 W3 hm3 hq1; clear hq1; have HN3 := Aside0.mk hm3; clear hm3 HM)
      | ((with_reducible refine gate_store (t := 144) (p := 5) rfl ?_); refine ev_store HN3.out rfl 144 (.tmp 5) (.tmp 33) rfl rfl (cs := #[.int .i64 f0, .int .i64 f1, .int .i64 0, .int .i64 1000000]) rfl size144 rfl rfl (by simp [Value.oneCell']) ?_; intro W4 hm4 hq1; clear hq1; have HN4 := Aside0.mk hm4; clear hm4 HN3; have k0 : W4.cell? ⟨g5, 0, none⟩ = some (.int .i64 f0) := (HN4.out.cell 0).trans rfl; have k1 : W4.cell? ⟨g5, 1, none⟩ = some (.int .i64 f1) := (HN4.out.cell 1).trans rfl; have k2 : W4.cell? ⟨g5, 2, none⟩ = some (.int .i64 0) := (HN4.out.cell 2).trans rfl; have k3 : W4.cell? ⟨g5, 3, none⟩ = some (.int .i64 1000000) := (HN4.out.cell 3).trans rfl)
      | ((with_reducible refine gate_store (t := 27) (p := 2) rfl ?_); refine ev_store HN4.out.drop rfl 27 (.tmp 2) (.tmp 42) rfl rfl (cs := #[.int .i64 0, .slice none 0 0]) rfl size27 rfl rfl (by simp [Value.oneCell']) ?_; intro W5 hm5 hq1; clear hq1; have HN5 := Aside0.mk hm5; clear hm5 HN4))
        refine bodyPost_ret (results_row_tmp rfl _ _ _ _ _ _ _ rfl HN5.out.head Try.underlying27 rfl size27) rfl ?_
        rw [HF.out]
        exact ⟨_, rfl, Kd.R_nil _ _ _ _ _, HN5.out.below⟩
      have o1b : decide (f1 < f0) = false := decide_eq_false o1
      by_cases o2 : f0 < 0
      · have o2b : decide (f0 < 0) = true := decide_eq_true o2
        have HF : Aside0 (res = (0, [], 2)) := ⟨by
          have hr : rngErr ⟨f0, f1⟩ 0 1000000 = 2 := rng_out o1 (.inl o2)
          have he : err = 2 := by rw [HE.out, if_neg (by rw [HOK.out.1 (by omega)]; decide), if_neg (by rw [HOK.out.2.1 (by omega)]; decide), if_neg (by rw [HOK.out.2.2.1 (by omega)]; decide), if_pos (by rw [hr]; decide), hr]
          rw [HRS.out, he, if_neg (by decide)]⟩
        clear HRS HE HL0 HOK
        go_wp2_with (first
      | ((with_reducible refine gate_dst (N := 5) rfl ?_); refine ev_new HM.out rfl 144 rfl info144 ?_; intro g5 W3 hm3 hq1; clear hq1; have HN3 := Aside0.mk hm3; clear hm3 HM)
      | ((with_reducible refine gate_store (t := 144) (p := 5) rfl ?_); refine ev_store HN3.out rfl 144 (.tmp 5) (.tmp 33) rfl rfl (cs := #[.int .i64 f0, .int .i64 f1, .int .i64 0, .int .i64 1000000]) rfl size144 rfl rfl (by simp [Value.oneCell']) ?_; intro W4 hm4 hq1; clear hq1; have HN4 := Aside0.mk hm4; clear hm4 HN3; have k0 : W4.cell? ⟨g5, 0, none⟩ = some (.int .i64 f0) := (HN4.out.cell 0).trans rfl; have k1 : W4.cell? ⟨g5, 1, none⟩ = some (.int .i64 f1) := (HN4.out.cell 1).trans rfl; have k2 : W4.cell? ⟨g5, 2, none⟩ = some (.int .i64 0) := (HN4.out.cell 2).trans rfl; have k3 : W4.cell? ⟨g5, 3, none⟩ = some (.int .i64 1000000) := (HN4.out.cell 3).trans rfl)
      | ((with_reducible refine gate_store (t := 27) (p := 2) rfl ?_); refine ev_store HN4.out.drop rfl 27 (.tmp 2) (.tmp 58) rfl rfl (cs := #[.int .i64 0, .slice none 0 0]) rfl size27 rfl rfl (by simp [Value.oneCell']) ?_; intro W5 hm5 hq1; clear hq1; have HN5 := Aside0.mk hm5; clear hm5 HN4))
        refine bodyPost_ret (results_row_tmp rfl _ _ _ _ _ _ _ rfl HN5.out.head Try.underlying27 rfl size27) rfl ?_
        rw [HF.out]
        exact ⟨_, rfl, Kd.R_nil _ _ _ _ _, HN5.out.below⟩
      have o2b : decide (f0 < 0) = false := decide_eq_false o2
      by_cases o3 : 1000000 < f1
      · have o3b : decide (1000000 < f1) = true := decide_eq_true o3
        have HF : Aside0 (res = (0, [], 2)) := ⟨by
          have hr : rngErr ⟨f0, f1⟩ 0 1000000 = 2 := rng_out o1 (.inr o3)
          have he : err = 2 := by rw [HE.out, if_neg (by rw [HOK.out.1 (by omega)]; decide), if_neg (by rw [HOK.out.2.1 (by omega)]; decide), if_neg (by rw [HOK.out.2.2.1 (by omega)]; decide), if_pos (by rw [hr]; decide), hr]
          rw [HRS.out, he, if_neg (by decide)]⟩
        clear HRS HE HL0 HOK
        go_wp2_with (first
      | ((with_reducible refine gate_dst (N := 5) rfl ?_); refine ev_new HM.out rfl 144 rfl info144 ?_; intro g5 W3 hm3 hq1; clear hq1; have HN3 := Aside0.mk hm3; clear hm3 HM)
      | ((with_reducible refine gate_store (t := 144) (p := 5) rfl ?_); refine ev_store HN3.out rfl 144 (.tmp 5) (.tmp 33) rfl rfl (cs := #[.int .i64 f0, .int .i64 f1, .int .i64 0, .int .i64 1000000]) rfl size144 rfl rfl (by simp [Value.oneCell']) ?_; intro W4 hm4 hq1; clear hq1; have HN4 := Aside0.mk hm4; clear hm4 HN3; have k0 : W4.cell? ⟨g5, 0, none⟩ = some (.int .i64 f0) := (HN4.out.cell 0).trans rfl; have k1 : W4.cell? ⟨g5, 1, none⟩ = some (.int .i64 f1) := (HN4.out.cell 1).trans rfl; have k2 : W4.cell? ⟨g5, 2, none⟩ = some (.int .i64 0) := (HN4.out.cell 2).trans rfl; have k3 : W4.cell? ⟨g5, 3, none⟩ = some (.int .i64 1000000) := (HN4.out.cell 3).trans rfl)
      | ((with_reducible refine gate_store (t := 27) (p := 2) rfl ?_); refine ev_store HN4.out.drop rfl 27 (.tmp 2) (.tmp 58) rfl rfl (cs := #[.int .i64 0, .slice none 0 0]) rfl size27 rfl rfl (by simp [Value.oneCell']) ?_; intro W5 hm5 hq1; clear hq1; have HN5 := Aside0.mk hm5; clear hm5 HN4))
        refine bodyPost_ret (results_row_tmp rfl _ _ _ _ _ _ _ rfl HN5.out.head Try.underlying27 rfl size27) rfl ?_
        rw [HF.out]
        exact ⟨_, rfl, Kd.R_nil _ _ _ _ _, HN5.out.below⟩
      have o3b : decide (1000000 < f1) = false := decide_eq_false o3
      have HR1 := Aside0.mk (rng_ok (r := ⟨f0, f1⟩) (low := 0) (high := 1000000) o1 (fun h => h.elim o2 o3))
      go_wp2_with (first
      | ((with_reducible refine gate_dst (N := 5) rfl ?_); refine ev_new HM.out rfl 144 rfl info144 ?_; intro g5 W3 hm3 hq1; clear hq1; have HN3 := Aside0.mk hm3; clear hm3 HM)
      | ((with_reducible refine gate_store (t := 144) (p := 5) rfl ?_); refine ev_store HN3.out rfl 144 (.tmp 5) (.tmp 33) rfl rfl (cs := #[.int .i64 f0, .int .i64 f1, .int .i64 0, .int .i64 1000000]) rfl size144 rfl rfl (by simp [Value.oneCell']) ?_; intro W4 hm4 hq1; clear hq1; have HN4 := Aside0.mk hm4; clear hm4 HN3; have k0 : W4.cell? ⟨g5, 0, none⟩ = some (.int .i64 f0) := (HN4.out.cell 0).trans rfl; have k1 : W4.cell? ⟨g5, 1, none⟩ = some (.int .i64 f1) := (HN4.out.cell 1).trans rfl; have k2 : W4.cell? ⟨g5, 2, none⟩ = some (.int .i64 0) := (HN4.out.cell 2).trans rfl; have k3 : W4.cell? ⟨g5, 3, none⟩ = some (.int .i64 1000000) := (HN4.out.cell 3).trans rfl))
      go_roundg 1
      case measure => omega
      case rel => exact ⟨4, rfl, rfl, ⟨fun _ => HOK.out.1 (by omega), fun _ => HOK.out.2.1 (by omega), fun _ => HOK.out.2.2.1 (by omega), fun _ => HR1.out, fun h => by omega⟩, ⟨HN4.out.drop⟩⟩
    · -- round 4
      have hix : (Instr.index 145 (.agg #[.int .i64 w0, .int .i64 w1, .int .i64 1, .int .i64 10000, .int .i64 p0, .int .i64 p1, .int .i64 1, .int .i64 10000, .int .i64 s0, .int .i64 s1, .int .i64 0, .int .i64 1000000, .int .i64 f0, .int .i64 f1, .int .i64 0, .int .i64 1000000, .int .i64 l0, .int .i64 l1, .int .i64 0, .int .i64 1000000]) (.int .i64 4)).run Try.prog = fun W => .ok (.agg #[.int .i64 l0, .int .i64 l1, .int .i64 0, .int .i64 1000000]) W := by
        funext W
        exact run_index_row 145 144 5 _ 4 4 _ Try.underlying145 Try.underlying144 rfl size144 (by omega) W
      have HIX := Aside0.mk hix
      by_cases o1 : l1 < l0
      · have o1b : decide (l1 < l0) = true := decide_eq_true o1
        have HF : Aside0 (res = (0, [], 11)) := ⟨by
          have hr : rngErr ⟨l0, l1⟩ 0 1000000 = 11 := rng_bad o1
          have he : err = 11 := by rw [HE.out, if_neg (by rw [HOK.out.1 (by omega)]; decide), if_neg (by rw [HOK.out.2.1 (by omega)]; decide), if_neg (by rw [HOK.out.2.2.1 (by omega)]; decide), if_neg (by rw [HOK.out.2.2.2.1 (by omega)]; decide), hr]
          rw [HRS.out, he, if_neg (by decide)]⟩
        clear HRS HE HL0 HOK
        go_wp2_with (first
      | ((with_reducible refine gate_dst (N := 5) rfl ?_); refine ev_new HM.out rfl 144 rfl info144 ?_; intro g5 W3 hm3 hq1; clear hq1; have HN3 := Aside0.mk hm3; clear hm3 HM)
      | ((with_reducible refine gate_store (t := 144) (p := 5) rfl ?_); refine ev_store HN3.out rfl 144 (.tmp 5) (.tmp 33) rfl rfl (cs := #[.int .i64 l0, .int .i64 l1, .int .i64 0, .int .i64 1000000]) rfl size144 rfl rfl (by simp [Value.oneCell']) ?_; intro W4 hm4 hq1; clear hq1; have HN4 := Aside0.mk hm4; clear hm4 HN3; have k0 : W4.cell? ⟨g5, 0, none⟩ = some (.int .i64 l0) := (HN4.out.cell 0).trans rfl; have k1 : W4.cell? ⟨g5, 1, none⟩ = some (.int .i64 l1) := (HN4.out.cell 1).trans rfl; have k2 : W4.cell? ⟨g5, 2, none⟩ = some (.int .i64 0) := (HN4.out.cell 2).trans rfl; have k3 : W4.cell? ⟨g5, 3, none⟩ = some (.int .i64 1000000) := (HN4.out.cell 3).trans rfl)
      | ((with_reducible refine gate_store (t := 27) (p := 2) rfl ?_); refine ev_store HN4.out.drop rfl 27 (.tmp 2) (.tmp 42) rfl rfl (cs := #[.int .i64 0, .slice none 0 0]) rfl size27 rfl rfl (by simp [Value.oneCell']) ?_; intro W5 hm5 hq1; clear hq1; have HN5 := Aside0.mk hm5; clear hm5 HN4))
        refine bodyPost_ret (results_row_tmp rfl _ _ _ _ _ _ _ rfl HN5.out.head Try.underlying27 rfl size27) rfl ?_
        rw [HF.out]
        exact ⟨_, rfl, Kd.R_nil _ _ _ _ _, HN5.out.below⟩
      have o1b : decide (l1 < l0) = false := decide_eq_false o1
      by_cases o2 : l0 < 0
      · have o2b : decide (l0 < 0) = true := decide_eq_true o2
        have HF : Aside0 (res = (0, [], 2)) := ⟨by
          have hr : rngErr ⟨l0, l1⟩ 0 1000000 = 2 := rng_out o1 (.inl o2)
          have he : err = 2 := by rw [HE.out, if_neg (by rw [HOK.out.1 (by omega)]; decide), if_neg (by rw [HOK.out.2.1 (by omega)]; decide), if_neg (by rw [HOK.out.2.2.1 (by omega)]; decide), if_neg (by rw [HOK.out.2.2.2.1 (by omega)]; decide), hr]
          rw [HRS.out, he, if_neg (by decide)]⟩
        clear HRS HE HL0 HOK
        go_wp2_with (first
      | ((with_reducible refine gate_dst (N := 5) rfl ?_); refine ev_new HM.out rfl 144 rfl info144 ?_; intro g5 W3 hm3 hq1; clear hq1; have HN3 := Aside0.mk hm3; clear hm3 HM)
      | ((with_reducible refine gate_store (t := 144) (p := 5) rfl ?_); refine ev_store HN3.out rfl 144 (.tmp 5) (.tmp 33) rfl rfl (cs := #[.int .i64 l0, .int .i64 l1, .int .i64 0, .int .i64 1000000]) rfl size144 rfl rfl (by simp [Value.oneCell']) ?_; intro W4 hm4 hq1; clear hq1; have HN4 := Aside0.mk hm4; clear hm4 HN3; have k0 : W4.cell? ⟨g5, 0, none⟩ = some (.int .i64 l0) := (HN4.out.cell 0).trans rfl; have k1 : W4.cell? ⟨g5, 1, none⟩ = some (.int .i64 l1) := (HN4.out.cell 1).trans rfl; have k2 : W4.cell? ⟨g5, 2, none⟩ = some (.int .i64 0) := (HN4.out.cell 2).trans rfl; have k3 : W4.cell? ⟨g5, 3, none⟩ = some (.int .i64 1000000) := (HN4.out.cell 3).trans rfl)
      | ((with_reducible refine gate_store (t := 27) (p := 2) rfl ?_); refine ev_store HN4.out.drop rfl 27 (.tmp 2) (.tmp 58) rfl rfl (cs := #[.int .i64 0, .slice none 0 0]) rfl size27 rfl rfl (by simp [Value.oneCell']) ?_; intro W5 hm5 hq1; clear hq1; have HN5 := Aside0.mk hm5; clear hm5 HN4))
        refine bodyPost_ret (results_row_tmp rfl _ _ _ _ _ _ _ rfl HN5.out.head Try.underlying27 rfl size27) rfl ?_
        rw [HF.out]
        exact ⟨_, rfl, Kd.R_nil _ _ _ _ _, HN5.out.below⟩
      have o2b : decide (l0 < 0) = false := decide_eq_false o2
      by_cases o3 : 1000000 < l1
      · have o3b : decide (1000000 < l1) = true := decide_eq_true o3
        have HF : Aside0 (res = (0, [], 2)) := ⟨by
          have hr : rngErr ⟨l0, l1⟩ 0 1000000 = 2 := rng_out o1 (.inr o3)
          have he : err = 2 := by rw [HE.out, if_neg (by rw [HOK.out.1 (by omega)]; decide), if_neg (by rw [HOK.out.2.1 (by omega)]; decide), if_neg (by rw [HOK.out.2.2.1 (by omega)]; decide), if_neg (by rw [HOK.out.2.2.2.1 (by omega)]; decide), hr]
          rw [HRS.out, he, if_neg (by decide)]⟩
        clear HRS HE HL0 HOK
        go_wp2_with (first
      | ((with_reducible refine gate_dst (N := 5) rfl ?_); refine ev_new HM.out rfl 144 rfl info144 ?_; intro g5 W3 hm3 hq1; clear hq1; have HN3 := Aside0.mk hm3; clear hm3 HM)
      | ((with_reducible refine gate_store (t := 144) (p := 5) rfl ?_); refine ev_store HN3.out rfl 144 (.tmp 5) (.tmp 33) rfl rfl (cs := #[.int .i64 l0, .int .i64 l1, .int .i64 0, .int .i64 1000000]) rfl size144 rfl rfl (by simp [Value.oneCell']) ?_; intro W4 hm4 hq1; clear hq1; have HN4 := Aside0.mk hm4; clear hm4 HN3; have k0 : W4.cell? ⟨g5, 0, none⟩ = some (.int .i64 l0) := (HN4.out.cell 0).trans rfl; have k1 : W4.cell? ⟨g5, 1, none⟩ = some (.int .i64 l1) := (HN4.out.cell 1).trans rfl; have k2 : W4.cell? ⟨g5, 2, none⟩ = some (.int .i64 0) := (HN4.out.cell 2).trans rfl; have k3 : W4.cell? ⟨g5, 3, none⟩ = some (.int .i64 1000000) := (HN4.out.cell 3).trans rfl)
      | ((with_reducible refine gate_store (t := 27) (p := 2) rfl ?_); refine ev_store HN4.out.drop rfl 27 (.tmp 2) (.tmp 58) rfl rfl (cs := #[.int .i64 0, .slice none 0 0]) rfl size27 rfl rfl (by simp [Value.oneCell']) ?_; intro W5 hm5 hq1; clear hq1; have HN5 := Aside0.mk hm5; clear hm5 HN4))
        refine bodyPost_ret (results_row_tmp rfl _ _ _ _ _ _ _ rfl HN5.out.head Try.underlying27 rfl size27) rfl ?_
        rw [HF.out]
        exact ⟨_, rfl, Kd.R_nil _ _ _ _ _, HN5.out.below⟩
      have o3b : decide (1000000 < l1) = false := decide_eq_false o3
      have HR1 := Aside0.mk (rng_ok (r := ⟨l0, l1⟩) (low := 0) (high := 1000000) o1 (fun h => h.elim o2 o3))
      go_wp2_with (first
      | ((with_reducible refine gate_dst (N := 5) rfl ?_); refine ev_new HM.out rfl 144 rfl info144 ?_; intro g5 W3 hm3 hq1; clear hq1; have HN3 := Aside0.mk hm3; clear hm3 HM)
      | ((with_reducible refine gate_store (t := 144) (p := 5) rfl ?_); refine ev_store HN3.out rfl 144 (.tmp 5) (.tmp 33) rfl rfl (cs := #[.int .i64 l0, .int .i64 l1, .int .i64 0, .int .i64 1000000]) rfl size144 rfl rfl (by simp [Value.oneCell']) ?_; intro W4 hm4 hq1; clear hq1; have HN4 := Aside0.mk hm4; clear hm4 HN3; have k0 : W4.cell? ⟨g5, 0, none⟩ = some (.int .i64 l0) := (HN4.out.cell 0).trans rfl; have k1 : W4.cell? ⟨g5, 1, none⟩ = some (.int .i64 l1) := (HN4.out.cell 1).trans rfl; have k2 : W4.cell? ⟨g5, 2, none⟩ = some (.int .i64 0) := (HN4.out.cell 2).trans rfl; have k3 : W4.cell? ⟨g5, 3, none⟩ = some (.int .i64 1000000) := (HN4.out.cell 3).trans rfl))
      go_roundg 0
      case measure => omega
      case rel => exact ⟨5, rfl, rfl, ⟨fun _ => HOK.out.1 (by omega), fun _ => HOK.out.2.1 (by omega), fun _ => HOK.out.2.2.1 (by omega), fun _ => HOK.out.2.2.2.1 (by omega), fun _ => HR1.out⟩, ⟨HN4.out.drop⟩⟩
    · -- all ranges are fine
      have hb : (1 ≤ p0 ∧ p0 ≤ p1 ∧ p1 ≤ 10000) ∧ (0 ≤ s0 ∧ s0 ≤ s1 ∧ s1 ≤ 1000000) := by
        have h2 := HOK.out.2.1 (by omega)
        have h3 := HOK.out.2.2.1 (by omega)
        unfold rngErr at h2 h3
        simp only [] at h2 h3
        constructor
        · split at h2
          · omega
          · split at h2
            · omega
            · omega
        · split at h3
          · omega
          · split at h3
            · omega
            · omega
      have HF : Aside0 (res = (2 * t + 1, links, 0)) := ⟨by
        have he : err = 0 := by
          rw [HE.out, if_neg (by rw [HOK.out.1 (by omega)]; decide), if_neg (by rw [HOK.out.2.1 (by omega)]; decide), if_neg (by rw [HOK.out.2.2.1 (by omega)]; decide), if_neg (by rw [HOK.out.2.2.2.1 (by omega)]; decide)]
          exact HOK.out.2.2.2.2 (by omega)
        rw [HRS.out, if_pos he]⟩
      clear HRS HE HOK
      have hm0 := mul_small p0 s0 (by omega) (by omega)
      have hm1 := mul_small p1 s1 (by omega) (by omega)
      have hq0 := quo_small (p0 * s0) (by omega)
      have hq1 := quo_small (p1 * s1 + 1000000 - 1) (by omega)
      generalize hM0 : p0 * s0 = m0 at hm0 hq0 HL0
      generalize hM1 : p1 * s1 = m1 at hm1 hq1 HL0
      generalize hQ0 : Int.tdiv m0 1000000 = d0 at hq0 HL0
      generalize hQ1 : Int.tdiv (m1 + 1000000 - 1) 1000000 = d1 at hq1 HL0
      have n1 : IntKind.i64.wrap m0 = m0 := IntWalk.i64_in _ (by omega)
      have n2 : IntKind.i64.wrap d0 = d0 := IntWalk.i64_in _ (by omega)
      have n3 : IntKind.i64.wrap (p0 + d0) = p0 + d0 := IntWalk.i64_in _ (by omega)
      have n4 : IntKind.i64.wrap m1 = m1 := IntWalk.i64_in _ (by omega)
      have n5 : IntKind.i64.wrap (m1 + 1000000) = m1 + 1000000 := IntWalk.i64_in _ (by omega)
      have n6 : IntKind.i64.wrap (m1 + 1000000 - 1) = m1 + 1000000 - 1 := IntWalk.i64_in _ (by omega)
      have n7 : IntKind.i64.wrap d1 = d1 := IntWalk.i64_in _ (by omega)
      have n8 : IntKind.i64.wrap (p1 + d1) = p1 + d1 := IntWalk.i64_in _ (by omega)
      obtain ⟨m, rfl⟩ : ∃ m : Nat, t = m := ⟨t.toNat, by omega⟩
      have n9 : IntKind.i64.wrap (2 * (m : Int)) = 2 * (m : Int) := IntWalk.i64_in _ (by omega)
      have n10 : IntKind.i64.wrap (2 * (m : Int) + 1) = 2 * (m : Int) + 1 := IntWalk.i64_in _ (by omega)
      have hlt : ¬ ((5 : Nat) : Int) < 5 := by omega
      have c0 : wr.cell? ⟨g1, 0, none⟩ = some (.int .i64 m) := (blk_cell HM.out.second 0).trans rfl
      have d3 : wr.cell? ⟨g1, 3, none⟩ = some (.int .i64 p0) := (blk_cell HM.out.second 3).trans rfl
      have d4 : wr.cell? ⟨g1, 4, none⟩ = some (.int .i64 p1) := (blk_cell HM.out.second 4).trans rfl
      have d5 : wr.cell? ⟨g1, 5, none⟩ = some (.int .i64 s0) := (blk_cell HM.out.second 5).trans rfl
      have d6 : wr.cell? ⟨g1, 6, none⟩ = some (.int .i64 s1) := (blk_cell HM.out.second 6).trans rfl
      go_wp2_with (first
        | ((with_reducible refine gate_dst (N := 6) rfl ?_); refine ev_new HM.out rfl 32 rfl info32a ?_; intro g6 W3 hm3 hq1; clear hq1; have HM3 := Aside0.mk hm3; clear hm3 HM)
        | ((with_reducible refine gate_store (t := 32) (p := 6) rfl ?_); refine ev_store HM3.out rfl 32 (.tmp 6) (.tmp 86) rfl rfl (cs := #[.int .i64 (p0 + d0), .int .i64 (p1 + d1)]) rfl size32 rfl rfl (by simp [Value.oneCell']) ?_; intro W4 hm4 hq1; clear hq1; have HM4 := Aside0.mk hm4; clear hm4 HM3; have k0 : W4.cell? ⟨g1, 0, none⟩ = some (.int .i64 m) := (blk_cell HM4.out.third 0).trans rfl)
        | ((with_reducible refine gate_dst (N := 7) rfl ?_); refine ev_new HM4.out rfl 27 rfl info27 ?_; intro g7 W5 hm5 hq1; clear hq1; have HM5 := Aside0.mk hm5; clear hm5 HM4 k0)
        | ((with_reducible refine gate_store (t := 27) (p := 7) rfl ?_); refine ev_store HM5.out rfl 27 (.tmp 7) (.tmp 91) rfl rfl (cs := #[.int .i64 (2 * (m : Int) + 1), .slice none 0 0]) rfl size27 rfl rfl (by simp [Value.oneCell']) ?_; intro W6 hm6 hq1; clear hq1; have HW6 : Aside0 (WN w W6 g7 (2 * (m : Int) + 1) (.slice none 0 0) [] [(g6, #[.int .i64 (p0 + d0), .int .i64 (p1 + d1)], 32), (g2, #[.int .i64 0, .slice none 0 0], 27), (g1, #[.int .i64 m, .int .i64 w0, .int .i64 w1, .int .i64 p0, .int .i64 p1, .int .i64 s0, .int .i64 s1, .int .i64 f0, .int .i64 f1, .int .i64 l0, .int .i64 l1], 72)]) := ⟨⟨hm6, Kd.R_nil _ _ _ _ _, by simp⟩⟩; clear hm6 HM5; have k7 : W6.cell? ⟨g1, 7, none⟩ = some (.int .i64 f0) := (blk_cell (HW6.out.mem.blk (g1, _, 72) (by simp; rfl)) 7).trans rfl; have k8 : W6.cell? ⟨g1, 8, none⟩ = some (.int .i64 f1) := (blk_cell (HW6.out.mem.blk (g1, _, 72) (by simp; rfl)) 8).trans rfl)
        | (go_at_call 105; refine (link_calls HW6.out 0 1 f0 f1 (by simp)).mono ?_; rintro e W7 ⟨rfl, vl7, hC7⟩; have HW7 := Aside0.mk hC7; clear hC7 HW6 k7 k8))
      clear c0 d3 d4 d5 d6 n1 n2 n3 n4 n5 n6 n7 n8 n9 n10 hlt
      go_loopg [9] m (fun k v9 w' => ∃ (j : Nat), v9 = .int .i64 (2 * (j : Int) + 1) ∧ Aside0 (j + k = m) ∧ Aside0 (∃ vl, WN w w' g7 (2 * (m : Int) + 1) vl (windTo ⟨f0, f1⟩ ⟨w0, w1⟩ ⟨p0 + d0, p1 + d1⟩ j) [(g6, #[.int .i64 (p0 + d0), .int .i64 (p1 + d1)], 32), (g2, #[.int .i64 0, .slice none 0 0], 27), (g1, #[.int .i64 m, .int .i64 w0, .int .i64 w1, .int .i64 p0, .int .i64 p1, .int .i64 s0, .int .i64 s1, .int .i64 f0, .int .i64 f1, .int .i64 l0, .int .i64 l1], 72)]))
      case atStart => exact ⟨0, rfl, ⟨by omega⟩, ⟨vl7, HW7.out⟩⟩
      case round =>
        clear HW7
        obtain ⟨j, rfl, HK, HX⟩ := hrel
        obtain ⟨vl, hW⟩ := HX.out
        have HW := Aside0.mk hW
        clear HX hW
        have cP : wr.cell? ⟨g7, 0, none⟩ = some (.int .i64 (2 * (m : Int) + 1)) := HW.out.cellP
        have hlen := windTo_length ⟨f0, f1⟩ ⟨w0, w1⟩ ⟨p0 + d0, p1 + d1⟩ j
        have hjm : j ≤ m := by have := HK.out; omega
        have HLEN := Aside0.mk hlen
        clear hlen
        by_cases hj : j < m
        · have j1 : decide (2 * (j : Int) + 1 < 2 * (m : Int) + 1) = true := decide_eq_true (by omega)
          have a1 : IntKind.i64.wrap (2 * (j : Int) + 1 + 1) = 2 * (j : Int) + 2 := by rw [IntWalk.i64_in _ (by omega)]; omega
          have a2 : IntKind.i64.wrap (2 * (j : Int) + 1 + 2) = 2 * ((j + 1 : Nat) : Int) + 1 := by rw [IntWalk.i64_in _ (by omega)]; omega
          have a3 : IntKind.i64.wrap (2 * (j : Int) + 1 - 2) = 2 * (j : Int) - 1 := by rw [IntWalk.i64_in _ (by omega)]; omega
          have k1 : wr.cell? ⟨g1, 1, none⟩ = some (.int .i64 w0) := (blk_cell (HW.out.mem.blk (g1, _, 72) (by simp; rfl)) 1).trans rfl
          have k2 : wr.cell? ⟨g1, 2, none⟩ = some (.int .i64 w1) := (blk_cell (HW.out.mem.blk (g1, _, 72) (by simp; rfl)) 2).trans rfl
          by_cases hj0 : 0 < j
          · have j2 : decide (1 < 2 * (j : Int) + 1) = true := decide_eq_true (by omega)
            go_wp2_with (first
              | (go_at_call 105; refine (link_calls HW.out (2 * (j : Int) + 1) (2 * (j : Int) + 2) w0 w1 (by have := HLEN.out; omega)).mono ?_; rintro e W8 ⟨rfl, vl8, hC8⟩; have HW8 := Aside0.mk hC8; have k6 : W8.cell? ⟨g6, 0, none⟩ = some (.int .i64 (p0 + d0)) := (blk_cell HW8.out.mem.second 0).trans rfl; have k6b : W8.cell? ⟨g6, 1, none⟩ = some (.int .i64 (p1 + d1)) := (blk_cell HW8.out.mem.second 1).trans rfl; clear hC8 HW k1 k2 cP)
              | (go_at_call 105; refine (link_calls HW8.out (2 * (j : Int) - 1) (2 * (j : Int) + 1) (p0 + d0) (p1 + d1) (by rw [List.length_append]; have := HLEN.out; simp; omega)).mono ?_; rintro e W9 ⟨rfl, vl9, hC9⟩; have HW9 := Aside0.mk hC9; clear hC9 HW8 k6 k6b))
            go_roundg (m - (j + 1))
            case measure => have := HK.out; omega
            case rel => exact ⟨j + 1, rfl, ⟨by omega⟩, ⟨vl9, by rw [windTo, if_pos hj0]; exact HW9.out⟩⟩
          · have j2 : ¬ 1 < 2 * (j : Int) + 1 := by omega
            go_wp2_with (first
              | (go_at_call 105; refine (link_calls HW.out (2 * (j : Int) + 1) (2 * (j : Int) + 2) w0 w1 (by have := HLEN.out; omega)).mono ?_; rintro e W8 ⟨rfl, vl8, hC8⟩; have HW8 := Aside0.mk hC8; clear hC8 HW k1 k2 cP))
            go_roundg (m - (j + 1))
            case measure => have := HK.out; omega
            case rel => exact ⟨j + 1, rfl, ⟨by omega⟩, ⟨vl8, by rw [windTo, if_neg hj0, List.append_nil]; exact HW8.out⟩⟩
        · obtain rfl : j = m := by omega
          have j1 : ¬ (2 * (j : Int) + 1 < 2 * (j : Int) + 1) := by omega
          have a1 : IntKind.i64.wrap (2 * (j : Int) + 1 - 1) = 2 * (j : Int) := by rw [IntWalk.i64_in _ (by omega)]; omega
          have k0 : wr.cell? ⟨g1, 0, none⟩ = some (.int .i64 j) := (blk_cell (HW.out.mem.blk (g1, _, 72) (by simp; rfl)) 0).trans rfl
          have k9 : wr.cell? ⟨g1, 9, none⟩ = some (.int .i64 l0) := (blk_cell (HW.out.mem.blk (g1, _, 72) (by simp; rfl)) 9).trans rfl
          have k10 : wr.cell? ⟨g1, 10, none⟩ = some (.int .i64 l1) := (blk_cell (HW.out.mem.blk (g1, _, 72) (by simp; rfl)) 10).trans rfl
          have HL1 := HL0.out
          rw [Int.toNat_natCast] at HL1
          by_cases h1 : 1 < (j : Int)
          · rw [if_pos h1] at HL1
            have HL2 := Aside0.mk HL1
            clear HL1 HL0
            go_wp2_with (first
              | (go_at_call 105; refine (link_calls HW.out 1 (2 * (j : Int)) l0 l1 (by have := HLEN.out; omega)).mono ?_; rintro e W8 ⟨rfl, vl8, hC8⟩; rw [← HL2.out] at hC8; obtain ⟨AF, nF, eF⟩ := Kd.R_slice hC8.rl; subst eF; have HW8 := Aside0.mk hC8; clear hC8 HW k0 k9 k10 cP)
              | ((with_reducible refine gate_dst (N := 128) rfl ?_); refine ev_load HW8.out.mem.head rfl 27 (.tmp 7) rfl rfl _ Try.underlying27 rfl size27 rfl ?_)
              | ((with_reducible refine gate_store (t := 27) (p := 2) rfl ?_); refine ev_storeW HW8.out.mem.drop.drop rfl 27 (.tmp 2) (.tmp 128) rfl rfl (cs := #[.int .i64 (2 * (j : Int) + 1), .slice AF links.length nF]) rfl size27 rfl rfl (by simp [Value.oneCell']) ?_; intro hm9; have HM9 := Aside0.mk hm9; have HR9 := Aside0.mk (HW8.out.final (cs := #[.int .i64 (2 * (j : Int) + 1), .slice AF links.length nF]) HW8.out.mem.drop.drop.head); clear hm9))
            refine bodyPost_ret (results_row_tmp rfl _ _ _ _ _ _ _ rfl HM9.out.head Try.underlying27 rfl size27) rfl ?_
            rw [HF.out]
            exact ⟨_, rfl, HR9.out, HM9.out.below⟩
          · rw [if_neg h1, List.append_nil] at HL1
            rw [← HL1] at HW
            obtain ⟨AF, nF, eF⟩ := Kd.R_slice HW.out.rl
            subst eF
            clear HL1 HL0
            go_wp2_with (first
              | ((with_reducible refine gate_dst (N := 128) rfl ?_); refine ev_load HW.out.mem.head rfl 27 (.tmp 7) rfl rfl _ Try.underlying27 rfl size27 rfl ?_)
              | ((with_reducible refine gate_store (t := 27) (p := 2) rfl ?_); refine ev_storeW HW.out.mem.drop.drop rfl 27 (.tmp 2) (.tmp 128) rfl rfl (cs := #[.int .i64 (2 * (j : Int) + 1), .slice AF links.length nF]) rfl size27 rfl rfl (by simp [Value.oneCell']) ?_; intro hm9; have HM9 := Aside0.mk hm9; have HR9 := Aside0.mk (HW.out.final (cs := #[.int .i64 (2 * (j : Int) + 1), .slice AF links.length nF]) HW.out.mem.drop.drop.head); clear hm9))
            refine bodyPost_ret (results_row_tmp rfl _ _ _ _ _ _ _ rfl HM9.out.head Try.underlying27 rfl size27) rfl ?_
            rw [HF.out]
            exact ⟨_, rfl, HR9.out, HM9.out.below⟩
theorem mount_Wind.calls (a0_0 : Int) (a0_1 : Int) (a0_2 : Int) (a0_3 : Int) (a0_4 : Int) (a0_5 : Int) (a0_6 : Int) (a0_7 : Int) (a0_8 : Int) (a0_9 : Int) (a0_10 : Int) (r1 : Int) (r2 : List (S35)) (r3 : Int) (w : World) (h : mount_Wind.f a0_0 a0_1 a0_2 a0_3 a0_4 a0_5 a0_6 a0_7 a0_8 a0_9 a0_10 = some (r1, r2, r3)) :
    Calls Try.prog 45 #[.agg #[.int .i64 a0_0, .int .i64 a0_1, .int .i64 a0_2, .int .i64 a0_3, .int .i64 a0_4, .int .i64 a0_5, .int .i64 a0_6, .int .i64 a0_7, .int .i64 a0_8, .int .i64 a0_9, .int .i64 a0_10]] w fun e w' => ∃ v1_ : Value, e = .returned (.tuple #[.agg #[.int .i64 r1, v1_], .int .i64 r3]) ∧ Kd.R k35 35 w' w.heap.size (fun _ => True) v1_ r2 ∧ Below w.heap.size w w' := by
  have h2 := wind_calls a0_0 a0_1 a0_2 a0_3 a0_4 a0_5 a0_6 a0_7 a0_8 a0_9 a0_10 w
  rw [Option.some.inj h] at h2
  exact h2
end Go.Proofs.Ytbcfphoheijmdaa.Print
end

section
/- Plain law of MountTurns, second part: where turns stand, and over all turns. -/
namespace Go.Proofs.Ytbcfphoheijmdaa.Print
open Go.RowKit Go.Proofs.YtbcfphoheijmdaaW.PrintWords Go.Proofs.YtbcfphoheijmdaaW.PrintLast Go.Proofs.YtbcfphoheijmdaaW.PrintMore Go.Proofs.Ytbcfphoheijmdaa.H
set_option linter.unusedVariables false
set_option linter.unusedSimpArgs false

theorem turn_nat1 (j : Nat) : (2 * (j : Int) + 1).toNat = 2 * j + 1 := by omega
theorem turn_nat2 (j : Nat) : (2 * (j : Int) + 2).toNat = 2 * j + 2 := by omega
theorem turn_nat3 (j : Nat) : (2 * ((j + 1 : Nat) : Int) - 1).toNat = 2 * j + 1 := by omega
theorem turn_nat4 (j : Nat) : (2 * ((j + 1 : Nat) : Int) + 1).toNat = 2 * (j + 1) + 1 := by omega
section
variable {f w p : S32} {t : Nat} {x : Nat → Int} {L : List S35}
theorem fit_first (hs : ∀ l, l ∈ windTo f w p t → l ∈ L) (hx : FitsL L x) : f.f0 ≤ x 1 - x 0 ∧ x 1 - x 0 ≤ f.f1 := hx _ (hs _ (windTo_first f w p t))
theorem fit_wire (hs : ∀ l, l ∈ windTo f w p t → l ∈ L) (hx : FitsL L x) {j : Nat} (hj : j < t) : w.f0 ≤ x (2 * j + 2) - x (2 * j + 1) ∧ x (2 * j + 2) - x (2 * j + 1) ≤ w.f1 := by
  have := hx _ (hs _ (windTo_wire f w p t j hj))
  simp only [turn_nat1, turn_nat2] at this
  exact this
theorem fit_pitch (hs : ∀ l, l ∈ windTo f w p t → l ∈ L) (hx : FitsL L x) {j : Nat} (hj : j + 1 < t) : p.f0 ≤ x (2 * (j + 1) + 1) - x (2 * j + 1) ∧ x (2 * (j + 1) + 1) - x (2 * j + 1) ≤ p.f1 := by
  have := hx _ (hs _ (windTo_pitch f w p t (j + 1) (by omega) hj))
  simp only [turn_nat3, turn_nat4] at this
  exact this
theorem fit_sum (hs : ∀ l, l ∈ windTo f w p t → l ∈ L) (hx : FitsL L x) : ∀ j : Nat, j < t → (j : Int) * p.f0 ≤ x (2 * j + 1) - x 1 ∧ x (2 * j + 1) - x 1 ≤ (j : Int) * p.f1
  | 0, _ => by simp
  | j + 1, h => by
    have ih := fit_sum hs hx j (by omega)
    have hp := fit_pitch hs hx h
    have e0 : ((j + 1 : Nat) : Int) * p.f0 = (j : Int) * p.f0 + p.f0 := by rw [Int.natCast_add, Int.add_mul]; simp
    have e1 : ((j + 1 : Nat) : Int) * p.f1 = (j : Int) * p.f1 + p.f1 := by rw [Int.natCast_add, Int.add_mul]; simp
    rw [e0, e1]
    omega
end
/-- Where turns stand without tolerances. -/
def standAt (q : Int) (i : Nat) : Int := if i = 0 then 0 else if i % 2 = 1 then 7 + ((i / 2 : Nat) : Int) * q else 37 + (((i - 2) / 2 : Nat) : Int) * q
theorem stand_odd (q : Int) (j : Nat) : standAt q (2 * j + 1) = 7 + (j : Int) * q := by
  unfold standAt
  rw [if_neg (by omega), if_pos (by omega), show (2 * j + 1) / 2 = j by omega]
theorem stand_even (q : Int) (j : Nat) : standAt q (2 * j + 2) = 37 + (j : Int) * q := by
  unfold standAt
  rw [if_neg (by omega), if_neg (by omega), show (2 * j + 2 - 2) / 2 = j by omega]
/-- A winding without tolerances. -/
def exactOf (t u len : Int) : S72 := ⟨t, ⟨30, 30⟩, ⟨200, 200⟩, ⟨5000 * u, 5000 * u⟩, ⟨7, 7⟩, ⟨len, len⟩⟩
theorem exact_ok {t u len : Int} (ht : 1 ≤ t ∧ t ≤ 11) (hu : 0 ≤ u ∧ u ≤ 4) (hl : 0 ≤ len ∧ len ≤ 10000) : windErr (exactOf t u len) = 0 := by
  have ok : ∀ (a low high : Int), low ≤ a → a ≤ high → rngErr ⟨a, a⟩ low high = 0 := fun a low high h1 h2 => by
    unfold rngErr
    simp only []
    rw [if_neg (by omega), if_neg (by omega)]
  unfold windErr exactOf
  simp only []
  rw [if_pos ht, ok 30 1 10000 (by omega) (by omega), if_neg (by decide), ok 200 1 10000 (by omega) (by omega), if_neg (by decide), ok (5000 * u) 0 1000000 (by omega) (by omega), if_neg (by decide), ok 7 0 1000000 (by omega) (by omega), if_neg (by decide), ok len 0 1000000 (by omega) (by omega)]
theorem exact_pitch {u : Int} (hu : 0 ≤ u ∧ u ≤ 4) : windPitch ⟨200, 200⟩ ⟨5000 * u, 5000 * u⟩ = ⟨200 + u, 200 + u⟩ := by
  unfold windPitch
  simp only []
  rw [Int.tdiv_eq_ediv_of_nonneg (by omega), Int.tdiv_eq_ediv_of_nonneg (by omega)]
  have e1 : 200 + 200 * (5000 * u) / 1000000 = 200 + u := by omega
  have e2 : 200 + (200 * (5000 * u) + 1000000 - 1) / 1000000 = 200 + u := by omega
  rw [e1, e2]
theorem exact_links {t : Nat} {u len : Int} (hu : 0 ≤ u ∧ u ≤ 4) : windLinks (exactOf t u len) = windTo ⟨7, 7⟩ ⟨30, 30⟩ ⟨200 + u, 200 + u⟩ t ++ (if 1 < (t : Int) then [⟨1, 2 * (t : Int), ⟨len, len⟩⟩] else []) := by
  unfold windLinks exactOf
  simp only []
  rw [exact_pitch hu, Int.toNat_natCast]
theorem exact_fits {t : Nat} {u len : Int} (ht : 1 ≤ t) (hu : 0 ≤ u ∧ u ≤ 4) (hl : len = ((t : Int) - 1) * (200 + u) + 30) : FitsL (windLinks (exactOf t u len)) (standAt (200 + u)) := by
  rw [exact_links hu]
  intro l hl2
  rcases List.mem_append.1 hl2 with h | h
  · refine windTo_all (Q := fun l => l.f2.f0 ≤ standAt (200 + u) l.f1.toNat - standAt (200 + u) l.f0.toNat ∧ standAt (200 + u) l.f1.toNat - standAt (200 + u) l.f0.toNat ≤ l.f2.f1) ?_ t (fun j hj => ?_) (fun j hj hjt => ?_) l h
    · have a : standAt (200 + u) 1 = 7 := by unfold standAt; simp
      have b : standAt (200 + u) 0 = 0 := rfl
      show (7 : Int) ≤ standAt (200 + u) 1 - standAt (200 + u) 0 ∧ standAt (200 + u) 1 - standAt (200 + u) 0 ≤ 7
      rw [a, b]
      omega
    · simp only [turn_nat1, turn_nat2]
      rw [stand_odd, stand_even]
      omega
    · obtain ⟨i, rfl⟩ : ∃ i, j = i + 1 := ⟨j - 1, by omega⟩
      simp only [turn_nat3, turn_nat4]
      rw [stand_odd, stand_odd]
      have e : ((i + 1 : Nat) : Int) * (200 + u) = (i : Int) * (200 + u) + (200 + u) := by rw [Int.natCast_add, Int.add_mul]; simp
      rw [e]
      omega
  · by_cases h1 : 1 < (t : Int)
    · rw [if_pos h1] at h
      rw [List.mem_singleton.1 h]
      obtain ⟨i, rfl⟩ : ∃ i, t = i + 1 := ⟨t - 1, by omega⟩
      have a : standAt (200 + u) 1 = 7 := by unfold standAt; simp
      have e : (2 * ((i + 1 : Nat) : Int)).toNat = 2 * i + 2 := by omega
      show len ≤ standAt (200 + u) (2 * ((i + 1 : Nat) : Int)).toNat - standAt (200 + u) 1 ∧ standAt (200 + u) (2 * ((i + 1 : Nat) : Int)).toNat - standAt (200 + u) 1 ≤ len
      rw [e, stand_even, a, hl, show ((i + 1 : Nat) : Int) - 1 = (i : Int) by omega]
      omega
    · rw [if_neg h1] at h
      cases h
/-- The chain of a winding without tolerances: its near positions from point 0. -/
theorem exact_near {t : Nat} {u len : Int} (ht : 1 ≤ t ∧ t ≤ 11) (hu : 0 ≤ u ∧ u ≤ 4) (hl : len = ((t : Int) - 1) * (200 + u) + 30) (hl2 : 0 ≤ len ∧ len ≤ 10000) :
    ∃ Y : List Int, mount_Near.f (2 * (t : Int) + 1) (windLinks (exactOf t u len)) 0 = some (Y, 0) ∧ Y.length = 2 * t + 1 ∧ ∀ j, j < t → Y.getD (2 * j + 1) 0 = 7 + (j : Int) * (200 + u) ∧ Y.getD (2 * j + 2) 0 = 37 + (j : Int) * (200 + u) := by
  have hv := wind_valid (exact_ok (t := t) (u := u) (len := len) (by omega) hu hl2)
  have hn : 2 * (exactOf t u len).f0 + 1 = ((2 * t + 1 : Nat) : Int) := by show 2 * (t : Int) + 1 = _; omega
  rw [hn] at hv
  have hfit := exact_fits ht.1 hu hl
  have hs : ∀ l, l ∈ windTo ⟨7, 7⟩ ⟨30, 30⟩ ⟨200 + u, 200 + u⟩ t → l ∈ windLinks (exactOf t u len) := fun l h => by rw [exact_links hu]; exact List.mem_append_left _ h
  have hL : ∀ l, l ∈ windLinks (exactOf t u len) → l.f0.toNat < 2 * t + 1 ∧ l.f1.toNat < 2 * t + 1 := fun l h => by
    have := linkErr_ok ((chainErr_ok hv).2.2.2 l h)
    omega
  rcases tight_sem hv with ⟨h0, hT⟩ | ⟨_, hno⟩
  · refine ⟨_, (by unfold mount_Near.f; rw [show 2 * (t : Int) + 1 = ((2 * t + 1 : Nat) : Int) by omega]; exact congrArg some (ends_ok (a := 0) false h0 (by omega))), endsL_len _ _ _ _, fun j hj => ?_⟩
    rw [endsL_get _ _ _ _ _ (by omega), endsL_get _ _ _ _ _ (by omega), endOf_lo, endOf_lo]
    have hy := hT.near hL (a := 0) (by omega)
    generalize hg : (fun i => -(tf (tightOf ((2 * t + 1 : Nat) : Int) (windLinks (exactOf t u len))).1 i 0)) = y at hy
    have y0 : y 0 = 0 := by
      rw [← hg]
      show -(tf (tightOf ((2 * t + 1 : Nat) : Int) (windLinks (exactOf t u len))).1 0 0) = 0
      rw [hT.self 0 (by omega)]
      rfl
    have e1 : -(tf (tightOf ((2 * t + 1 : Nat) : Int) (windLinks (exactOf t u len))).1 (2 * j + 1) 0) = y (2 * j + 1) := by rw [← hg]
    have e2 : -(tf (tightOf ((2 * t + 1 : Nat) : Int) (windLinks (exactOf t u len))).1 (2 * j + 2) 0) = y (2 * j + 2) := by rw [← hg]
    rw [e1, e2]
    have g1 := fit_first hs hy
    have g2 := fit_wire hs hy hj
    have g3 := fit_sum hs hy j hj
    simp only [] at g1 g2 g3
    omega
  · exact absurd hfit (hno _)
/-- Over all turns of a winding. -/
theorem turns_over {t : Nat} {w0 w1 p0 p1 s0 s1 f0 f1 l0 l1 : Int} {T : List Int} (ht : 1 ≤ t ∧ t ≤ 11) (hp : 0 ≤ p0 ∧ p0 ≤ 10000 ∧ 0 ≤ p1 ∧ p1 ≤ 10000) (hs0 : 0 ≤ s0 ∧ s0 ≤ 1000000 ∧ 0 ≤ s1 ∧ s1 ≤ 1000000) (h : Tog (2 * t + 1) (windLinks ⟨t, ⟨w0, w1⟩, ⟨p0, p1⟩, ⟨s0, s1⟩, ⟨f0, f1⟩, ⟨l0, l1⟩⟩) T) :
    (t ≠ 1 → thermionkit_Within.f (spanOf T 1 (2 * t)).f0 (spanOf T 1 (2 * t)).f1 l0 l1 = some true) ∧ ((t : Int) - 1) * p0 ≤ (spanOf T 1 (2 * t - 1)).f0 ∧ (spanOf T 1 (2 * t - 1)).f1 ≤ ((t : Int) - 1) * (p1 + Int.tdiv (p1 * s1) 1000000 + 1) := by
  have hL : windLinks ⟨t, ⟨w0, w1⟩, ⟨p0, p1⟩, ⟨s0, s1⟩, ⟨f0, f1⟩, ⟨l0, l1⟩⟩ = windTo ⟨f0, f1⟩ ⟨w0, w1⟩ ⟨p0 + Int.tdiv (p0 * s0) 1000000, p1 + Int.tdiv (p1 * s1 + 1000000 - 1) 1000000⟩ t ++ (if 1 < (t : Int) then [⟨1, 2 * (t : Int), ⟨l0, l1⟩⟩] else []) := by
    unfold windLinks windPitch
    simp only [Int.toNat_natCast]
  rw [hL] at h
  have m0 := mul_small p0 s0 ⟨hp.1, hp.2.1⟩ ⟨hs0.1, hs0.2.1⟩
  have m1 := mul_small p1 s1 ⟨hp.2.2.1, hp.2.2.2⟩ ⟨hs0.2.2.1, hs0.2.2.2⟩
  rw [Int.tdiv_eq_ediv_of_nonneg (a := p0 * s0) (by omega), Int.tdiv_eq_ediv_of_nonneg (a := p1 * s1 + 1000000 - 1) (by omega)] at h
  rw [Int.tdiv_eq_ediv_of_nonneg (a := p1 * s1) (by omega)]
  generalize p0 * s0 = x0 at m0 h
  generalize p1 * s1 = x1 at m1 h ⊢
  have hs : ∀ l, l ∈ windTo ⟨f0, f1⟩ ⟨w0, w1⟩ ⟨p0 + x0 / 1000000, p1 + (x1 + 1000000 - 1) / 1000000⟩ t → l ∈ windTo ⟨f0, f1⟩ ⟨w0, w1⟩ ⟨p0 + x0 / 1000000, p1 + (x1 + 1000000 - 1) / 1000000⟩ t ++ (if 1 < (t : Int) then [⟨1, 2 * (t : Int), ⟨l0, l1⟩⟩] else []) := fun l hl => List.mem_append_left _ hl
  refine ⟨fun h1 => ?_, ?_, ?_⟩
  · have hm : (⟨1, 2 * (t : Int), ⟨l0, l1⟩⟩ : S35) ∈ windTo ⟨f0, f1⟩ ⟨w0, w1⟩ ⟨p0 + x0 / 1000000, p1 + (x1 + 1000000 - 1) / 1000000⟩ t ++ (if 1 < (t : Int) then [⟨1, 2 * (t : Int), ⟨l0, l1⟩⟩] else []) := by
      rw [if_pos (by omega)]
      exact List.mem_append_right _ (by simp)
    exact (h.link hm (f := 1) (t := 2 * t) rfl (by show 2 * (t : Int) = _; omega)).2.2
  · have hr := h.is.reach (2 * t - 1) (by omega)
    have g := fit_sum hs hr (t - 1) (by omega)
    rw [show 2 * (t - 1) + 1 = 2 * t - 1 by omega, h.is.self _ (by omega), show ((t - 1 : Nat) : Int) = (t : Int) - 1 by omega] at g
    rw [span_lo]
    have a : ((t : Int) - 1) * p0 ≤ ((t : Int) - 1) * (p0 + x0 / 1000000) := Int.mul_le_mul_of_nonneg_left (by omega) (by omega)
    simp only [] at g
    omega
  · have hr := h.is.reach 1 (by omega)
    have g := fit_sum hs hr (t - 1) (by omega)
    rw [show 2 * (t - 1) + 1 = 2 * t - 1 by omega, h.is.self _ (by omega), show ((t - 1 : Nat) : Int) = (t : Int) - 1 by omega] at g
    rw [span_hi]
    have a : ((t : Int) - 1) * (p1 + (x1 + 1000000 - 1) / 1000000) ≤ ((t : Int) - 1) * (p1 + x1 / 1000000 + 1) := Int.mul_le_mul_of_nonneg_left (by omega) (by omega)
    simp only [] at g
    omega
/-- The winding that dice deal is valid. -/
theorem winding_fine (s : Int) : ∃ (t : Nat) (w0 w1 p0 p1 s0 s1 f0 f1 l0 l1 s' : Int), thermionkit_WindingOf.f s = some ((t : Int), w0, w1, p0, p1, s0, s1, f0, f1, l0, l1, s') ∧ (1 ≤ t ∧ t ≤ 11) ∧ (150 ≤ p0 ∧ p0 ≤ p1 ∧ p1 ≤ 260) ∧ (0 ≤ s0 ∧ s0 ≤ s1 ∧ s1 ≤ 30000) ∧ windErr ⟨t, ⟨w0, w1⟩, ⟨p0, p1⟩, ⟨s0, s1⟩, ⟨f0, f1⟩, ⟨l0, l1⟩⟩ = 0 := by
  unfold thermionkit_WindingOf.f
  have b1 := bet_eq s 1 11 (by omega) (by omega) (by omega)
  rw [b1.1, Option.bind_some]
  obtain ⟨t, ht⟩ : ∃ t : Nat, betV s 1 11 = t := ⟨(betV s 1 11).toNat, by omega⟩
  simp only []
  rw [ht] at b1 ⊢
  obtain ⟨a1, a2, t1, q1, c1⟩ := range_eq (nextWord s) 20 60 (by omega) (by omega) (by omega)
  rw [q1, Option.bind_some]
  simp only []
  obtain ⟨a3, a4, t2, q2, c2⟩ := range_eq t1 150 260 (by omega) (by omega) (by omega)
  rw [q2, Option.bind_some]
  simp only []
  obtain ⟨a5, a6, t3, q3, c3⟩ := range_eq t2 0 30000 (by omega) (by omega) (by omega)
  rw [q3, Option.bind_some]
  simp only []
  obtain ⟨a7, a8, t4, q4, c4⟩ := range_eq t3 0 40 (by omega) (by omega) (by omega)
  rw [q4, Option.bind_some]
  simp only []
  have u1 := up_eq t4 200 (by omega) (by omega)
  rw [u1.1, Option.bind_some]
  have u2 := up_eq (nextWord t4) 300 (by omega) (by omega)
  simp only []
  rw [u2.1, Option.bind_some]
  refine ⟨t, _, _, _, _, _, _, _, _, _, _, _, rfl, by omega, ⟨c2.1, c2.2.1, c2.2.2⟩, ⟨c3.1, c3.2.1, c3.2.2⟩, ?_⟩
  have hm : 0 ≤ ((t : Int) - 1) * (a3 + a4) ∧ ((t : Int) - 1) * (a3 + a4) ≤ 10 * 520 := by
    refine ⟨Int.mul_nonneg (by omega) (by omega), ?_⟩
    have y1 : ((t : Int) - 1) * (a3 + a4) ≤ ((t : Int) - 1) * 520 := Int.mul_le_mul_of_nonneg_left (by omega) (by omega)
    omega
  rw [w64 (x := (t : Int) - 1) (by omega), w64 (x := a3 + a4) (by omega)]
  generalize ((t : Int) - 1) * (a3 + a4) = M at hm ⊢
  rw [w64 (x := M) (by omega), Int.tdiv_eq_ediv_of_nonneg (by omega), w64 (x := M / 2) (by omega), w64 (x := M / 2 + a1) (by omega)]
  generalize upV t4 200 = v1 at u1 ⊢
  generalize upV (nextWord t4) 300 = v2 at u2 ⊢
  rw [w64 (x := M / 2 + a1 - v1) (by omega), w64 (x := M / 2 + a1 + v2) (by omega)]
  have hmx : mx 0 (M / 2 + a1 - v1) = if 0 < M / 2 + a1 - v1 then M / 2 + a1 - v1 else 0 := by unfold mx; rfl
  have hmx2 : 0 ≤ mx 0 (M / 2 + a1 - v1) ∧ mx 0 (M / 2 + a1 - v1) ≤ M / 2 + a1 + v2 := by
    unfold mx
    split <;> omega
  generalize mx 0 (M / 2 + a1 - v1) = l0 at hmx2 ⊢
  have ok : ∀ (a b low high : Int), a ≤ b → low ≤ a → b ≤ high → rngErr ⟨a, b⟩ low high = 0 := fun a b low high h0 h1 h2 => by
    unfold rngErr
    simp only []
    rw [if_neg (by omega), if_neg (by omega)]
  unfold windErr
  simp only []
  rw [if_pos (by omega), ok a1 a2 1 10000 (by omega) (by omega) (by omega), if_neg (by decide), ok a3 a4 1 10000 (by omega) (by omega) (by omega), if_neg (by decide), ok a5 a6 0 1000000 (by omega) (by omega) (by omega), if_neg (by decide), ok a7 a8 0 1000000 (by omega) (by omega) (by omega), if_neg (by decide), ok l0 (M / 2 + a1 + v2) 0 1000000 (by omega) (by omega) (by omega)]
end Go.Proofs.Ytbcfphoheijmdaa.Print
end
