/- Part 8 of the texts of a claim about Ytbcfphoheijmdaa, put together by a program of this work: what the Go functions do, and that their calls do so. -/
import Derived.Test.YtbcfphoheijmdaaMW4
import Derived.Test.YtbcfphoheijmdaaMW3
import Derived.Test.YtbcfphoheijmdaaMW7
import Derived.Test.YtbcfphoheijmdaaMW5
import Derived.Test.YtbcfphoheijmdaaMW6
section
/- Wind: that the Go function's call gives the chain of a winding, or the error. -/
namespace Go.Proofs.Ytbcfphoheijmdaa.Print
open Go.RowKit Go.Proofs.YtbcfphoheijmdaaW.PrintWords Go.Proofs.YtbcfphoheijmdaaW.PrintLast Go.Proofs.YtbcfphoheijmdaaW.PrintMore Go.Proofs.Ytbcfphoheijmdaa.H
attribute [local go_sem] max2_int min2_int max_two min_two max_three min_three max_four min_four
attribute [local go_sem ↓] Go.wp_at_zero Go.wp_at_succ
set_option linter.unusedVariables false
set_option linter.unusedSimpArgs false

theorem run_index_row {P : Program} (t e n : Nat) (cs : Array Value) (i m : Nat) (d : TypeDesc) (hu : P.underlying t = some (.array n e)) (he : P.underlying e = some d)
    (hd : (match d with | .struct _ | .array _ _ => true | _ => false) = true) (hs : (P.info? e).map (·.size) = some m) (hi : i < n) (w : World) :
    (Instr.index t (.agg cs) (.int .i64 (i : Int))).run P w = .ok (.agg (cs.extract (i * m) (i * m + m))) w := by
  cases hq : P.info? e with
  | none => simp [hq] at hs
  | some ie =>
    have hs' : ie.size = m := by simpa [hq] using hs
    have hagg : (isAgg e).run P w = .ok true w := by
      unfold isAgg
      rw [Sem.run_bind, run_underlying he w]
      cases d <;> simp_all
    have h0 : (0 : Int) ≤ (i : Int) ∧ (i : Int) < (n : Int) := by omega
    simp [Instr.index, asIntOf, Sem.run_bind, run_underlying hu w, sizeOf, typeInfo, hq, hs', part, hagg, h0]
    omega
theorem rng_bad {r : S32} {low high : Int} (h : r.f1 < r.f0) : rngErr r low high = 11 := by unfold rngErr; rw [if_pos h]
theorem rng_out {r : S32} {low high : Int} (h : ¬ r.f1 < r.f0) (h2 : r.f0 < low ∨ high < r.f1) : rngErr r low high = 2 := by unfold rngErr; rw [if_neg h, if_pos h2]
theorem rng_ok {r : S32} {low high : Int} (h : ¬ r.f1 < r.f0) (h2 : ¬ (r.f0 < low ∨ high < r.f1)) : rngErr r low high = 0 := by unfold rngErr; rw [if_neg h, if_neg h2]
theorem quo_small (m : Int) (h : 0 ≤ m ∧ m ≤ 20000000000) : 0 ≤ Int.tdiv m 1000000 ∧ Int.tdiv m 1000000 ≤ 20000 := by
  rw [Int.tdiv_eq_ediv_of_nonneg h.1]
  omega
theorem mul_small (a b : Int) (h : 0 ≤ a ∧ a ≤ 10000) (h2 : 0 ≤ b ∧ b ≤ 1000000) : 0 ≤ a * b ∧ a * b ≤ 10000000000 := by
  refine ⟨Int.mul_nonneg h.1 h2.1, ?_⟩
  have h3 : a * b ≤ 10000 * b := Int.mul_le_mul_of_nonneg_right h.2 h2.1
  omega
set_option maxHeartbeats 16000000 in
set_option maxRecDepth 100000 in
theorem wind_calls (t w0 w1 p0 p1 s0 s1 f0 f1 l0 l1 : Int) (w : World) :
    Calls Try.prog 45 #[.agg #[.int .i64 t, .int .i64 w0, .int .i64 w1, .int .i64 p0, .int .i64 p1, .int .i64 s0, .int .i64 s1, .int .i64 f0, .int .i64 f1, .int .i64 l0, .int .i64 l1]] w fun e w' => ∃ v1_ : Value, e = .returned (.tuple #[.agg #[.int .i64 (windRes ⟨t, ⟨w0, w1⟩, ⟨p0, p1⟩, ⟨s0, s1⟩, ⟨f0, f1⟩, ⟨l0, l1⟩⟩).1, v1_], .int .i64 (windRes ⟨t, ⟨w0, w1⟩, ⟨p0, p1⟩, ⟨s0, s1⟩, ⟨f0, f1⟩, ⟨l0, l1⟩⟩).2.2]) ∧ Kd.R k35 35 w' w.heap.size (fun _ => True) v1_ (windRes ⟨t, ⟨w0, w1⟩, ⟨p0, p1⟩, ⟨s0, s1⟩, ⟨f0, f1⟩, ⟨l0, l1⟩⟩).2.1 ∧ Below w.heap.size w w' := by
  have HM := Aside0.mk (Mem.start w)
  have hu72 := Try.underlying72
  have hu27 := Try.underlying27
  have hu32 := Try.underlying32
  have hu144 := Try.underlying144
  have hu145 := Try.underlying145
  have HE : Aside0 (windErr ⟨t, ⟨w0, w1⟩, ⟨p0, p1⟩, ⟨s0, s1⟩, ⟨f0, f1⟩, ⟨l0, l1⟩⟩ = if 1 ≤ t ∧ t ≤ 11 then (if rngErr ⟨w0, w1⟩ 1 10000 ≠ 0 then rngErr ⟨w0, w1⟩ 1 10000 else if rngErr ⟨p0, p1⟩ 1 10000 ≠ 0 then rngErr ⟨p0, p1⟩ 1 10000 else if rngErr ⟨s0, s1⟩ 0 1000000 ≠ 0 then rngErr ⟨s0, s1⟩ 0 1000000 else if rngErr ⟨f0, f1⟩ 0 1000000 ≠ 0 then rngErr ⟨f0, f1⟩ 0 1000000 else rngErr ⟨l0, l1⟩ 0 1000000) else 2) := ⟨rfl⟩
  have HRS : Aside0 (windRes ⟨t, ⟨w0, w1⟩, ⟨p0, p1⟩, ⟨s0, s1⟩, ⟨f0, f1⟩, ⟨l0, l1⟩⟩ = if windErr ⟨t, ⟨w0, w1⟩, ⟨p0, p1⟩, ⟨s0, s1⟩, ⟨f0, f1⟩, ⟨l0, l1⟩⟩ = 0 then (2 * t + 1, windLinks ⟨t, ⟨w0, w1⟩, ⟨p0, p1⟩, ⟨s0, s1⟩, ⟨f0, f1⟩, ⟨l0, l1⟩⟩, 0) else (0, [], windErr ⟨t, ⟨w0, w1⟩, ⟨p0, p1⟩, ⟨s0, s1⟩, ⟨f0, f1⟩, ⟨l0, l1⟩⟩)) := ⟨rfl⟩
  have HL0 : Aside0 (windLinks ⟨t, ⟨w0, w1⟩, ⟨p0, p1⟩, ⟨s0, s1⟩, ⟨f0, f1⟩, ⟨l0, l1⟩⟩ = windTo ⟨f0, f1⟩ ⟨w0, w1⟩ ⟨p0 + Int.tdiv (p0 * s0) 1000000, p1 + Int.tdiv (p1 * s1 + 1000000 - 1) 1000000⟩ t.toNat ++ (if 1 < t then [⟨1, 2 * t, ⟨l0, l1⟩⟩] else [])) := ⟨rfl⟩
  generalize windRes ⟨t, ⟨w0, w1⟩, ⟨p0, p1⟩, ⟨s0, s1⟩, ⟨f0, f1⟩, ⟨l0, l1⟩⟩ = res at HRS ⊢
  generalize windErr ⟨t, ⟨w0, w1⟩, ⟨p0, p1⟩, ⟨s0, s1⟩, ⟨f0, f1⟩, ⟨l0, l1⟩⟩ = err at HRS HE
  generalize windLinks ⟨t, ⟨w0, w1⟩, ⟨p0, p1⟩, ⟨s0, s1⟩, ⟨f0, f1⟩, ⟨l0, l1⟩⟩ = links at HRS HL0
  have HIN := Aside0.mk (in_eq t 1 11)
  by_cases ht : 1 ≤ t ∧ t ≤ 11
  rotate_left
  · have HF : Aside0 (res = (0, [], 2)) := ⟨by rw [HRS.out, HE.out, if_neg ht, if_neg (by decide)]⟩
    clear HRS HE HL0
    rw [decide_eq_false ht] at HIN
    go_enter Try.func45, Try.ntmps45
    go_wp2_with (first
      | ((with_reducible refine gate_dst (N := 1) rfl ?_); refine ev_box HM.out rfl 72 (.tmp 0) rfl (cs := #[.int .i64 t, .int .i64 w0, .int .i64 w1, .int .i64 p0, .int .i64 p1, .int .i64 s0, .int .i64 s1, .int .i64 f0, .int .i64 f1, .int .i64 l0, .int .i64 l1]) rfl ?_; intro g1 W1 hm1 hq1; clear hq1; have HM1 := Aside0.mk hm1; clear hm1 HM)
      | ((with_reducible refine gate_dst (N := 2) rfl ?_); refine ev_new HM1.out rfl 27 rfl info27 ?_; intro g2 W2 hm2 hq1; clear hq1; have HM2 := Aside0.mk hm2; clear hm2 HM1; have c0 : W2.cell? ⟨g1, 0, none⟩ = some (.int .i64 t) := (blk_cell HM2.out.second 0).trans rfl)
      | (go_at_call 102; refine (mount_in.calls _ _ _ _ _ HIN.out).mono ?_; rintro e W3 ⟨rfl, hd⟩; have HM3 := Aside0.mk (HM2.out.step hd.below); clear hd HM2 c0)
      | ((with_reducible refine gate_store (t := 27) (p := 2) rfl ?_); refine ev_store HM3.out rfl 27 (.tmp 2) (.tmp 14) rfl rfl (cs := #[.int .i64 0, .slice none 0 0]) rfl size27 rfl rfl (by simp [Value.oneCell']) ?_; intro W4 hm4 hq1; clear hq1; have HM4 := Aside0.mk hm4; clear hm4 HM3))
    refine bodyPost_ret (results_row_tmp rfl _ _ _ _ _ _ _ rfl HM4.out.head Try.underlying27 rfl size27) rfl ?_
    rw [HF.out]
    exact ⟨_, rfl, Kd.R_nil _ _ _ _ _, HM4.out.below⟩
  rw [decide_eq_true ht] at HIN
  have HE2 := HE.out
  rw [if_pos ht] at HE2
  have HE := Aside0.mk HE2
  clear HE2
  go_enter Try.func45, Try.ntmps45
  go_wp2_with (first
    | ((with_reducible refine gate_dst (N := 1) rfl ?_); refine ev_box HM.out rfl 72 (.tmp 0) rfl (cs := #[.int .i64 t, .int .i64 w0, .int .i64 w1, .int .i64 p0, .int .i64 p1, .int .i64 s0, .int .i64 s1, .int .i64 f0, .int .i64 f1, .int .i64 l0, .int .i64 l1]) rfl ?_; intro g1 W1 hm1 hq1; clear hq1; have HM1 := Aside0.mk hm1; clear hm1 HM)
    | ((with_reducible refine gate_dst (N := 2) rfl ?_); refine ev_new HM1.out rfl 27 rfl info27 ?_; intro g2 W2 hm2 hq1; clear hq1; have HM2 := Aside0.mk hm2; clear hm2 HM1; have c0 : W2.cell? ⟨g1, 0, none⟩ = some (.int .i64 t) := (blk_cell HM2.out.second 0).trans rfl)
    | (go_at_call 102; refine (mount_in.calls _ _ _ _ _ HIN.out).mono ?_; rintro e W3 ⟨rfl, hd⟩; have HM3 := Aside0.mk (HM2.out.step hd.below); clear hd HM2 c0; have d1 : W3.cell? ⟨g1, 1, none⟩ = some (.int .i64 w0) := (blk_cell HM3.out.second 1).trans rfl; have d2 : W3.cell? ⟨g1, 2, none⟩ = some (.int .i64 w1) := (blk_cell HM3.out.second 2).trans rfl; have d3 : W3.cell? ⟨g1, 3, none⟩ = some (.int .i64 p0) := (blk_cell HM3.out.second 3).trans rfl; have d4 : W3.cell? ⟨g1, 4, none⟩ = some (.int .i64 p1) := (blk_cell HM3.out.second 4).trans rfl; have d5 : W3.cell? ⟨g1, 5, none⟩ = some (.int .i64 s0) := (blk_cell HM3.out.second 5).trans rfl; have d6 : W3.cell? ⟨g1, 6, none⟩ = some (.int .i64 s1) := (blk_cell HM3.out.second 6).trans rfl; have d7 : W3.cell? ⟨g1, 7, none⟩ = some (.int .i64 f0) := (blk_cell HM3.out.second 7).trans rfl; have d8 : W3.cell? ⟨g1, 8, none⟩ = some (.int .i64 f1) := (blk_cell HM3.out.second 8).trans rfl; have d9 : W3.cell? ⟨g1, 9, none⟩ = some (.int .i64 l0) := (blk_cell HM3.out.second 9).trans rfl; have d10 : W3.cell? ⟨g1, 10, none⟩ = some (.int .i64 l1) := (blk_cell HM3.out.second 10).trans rfl))
  clear d1 d2 d3 d4 d5 d6 d7 d8 d9 d10
  go_loopg [31] 5 (fun k v31 w' => ∃ (i : Nat), v31 = .int .i64 i ∧ i + k = 5 ∧ Aside0 ((0 < i → rngErr ⟨w0, w1⟩ 1 10000 = 0) ∧ (1 < i → rngErr ⟨p0, p1⟩ 1 10000 = 0) ∧ (2 < i → rngErr ⟨s0, s1⟩ 0 1000000 = 0) ∧ (3 < i → rngErr ⟨f0, f1⟩ 0 1000000 = 0) ∧ (4 < i → rngErr ⟨l0, l1⟩ 0 1000000 = 0)) ∧ Aside0 (Mem w w' [(g2, #[.int .i64 0, .slice none 0 0], 27), (g1, #[.int .i64 t, .int .i64 w0, .int .i64 w1, .int .i64 p0, .int .i64 p1, .int .i64 s0, .int .i64 s1, .int .i64 f0, .int .i64 f1, .int .i64 l0, .int .i64 l1], 72)]))
  case atStart => exact ⟨0, rfl, rfl, ⟨by omega, by omega, by omega, by omega, by omega⟩, HM3⟩
  case round =>
    clear HM3
    obtain ⟨i, rfl, hik, HOK, HM⟩ := hrel
    obtain rfl | rfl | rfl | rfl | rfl | rfl : i = 0 ∨ i = 1 ∨ i = 2 ∨ i = 3 ∨ i = 4 ∨ i = 5 := by omega
    · -- round 0
      have hix : (Instr.index 145 (.agg #[.int .i64 w0, .int .i64 w1, .int .i64 1, .int .i64 10000, .int .i64 p0, .int .i64 p1, .int .i64 1, .int .i64 10000, .int .i64 s0, .int .i64 s1, .int .i64 0, .int .i64 1000000, .int .i64 f0, .int .i64 f1, .int .i64 0, .int .i64 1000000, .int .i64 l0, .int .i64 l1, .int .i64 0, .int .i64 1000000]) (.int .i64 0)).run Try.prog = fun W => .ok (.agg #[.int .i64 w0, .int .i64 w1, .int .i64 1, .int .i64 10000]) W := by
        funext W
        exact run_index_row 145 144 5 _ 0 4 _ Try.underlying145 Try.underlying144 rfl size144 (by omega) W
      have HIX := Aside0.mk hix
      by_cases o1 : w1 < w0
      · have o1b : decide (w1 < w0) = true := decide_eq_true o1
        have HF : Aside0 (res = (0, [], 11)) := ⟨by
          have hr : rngErr ⟨w0, w1⟩ 1 10000 = 11 := rng_bad o1
          have he : err = 11 := by rw [HE.out, if_pos (by rw [hr]; decide), hr]
          rw [HRS.out, he, if_neg (by decide)]⟩
        clear HRS HE HL0 HOK
        go_wp2_with (first
      | ((with_reducible refine gate_dst (N := 5) rfl ?_); refine ev_new HM.out rfl 144 rfl info144 ?_; intro g5 W3 hm3 hq1; clear hq1; have HN3 := Aside0.mk hm3; clear hm3 HM)
      | ((with_reducible refine gate_store (t := 144) (p := 5) rfl ?_); refine ev_store HN3.out rfl 144 (.tmp 5) (.tmp 33) rfl rfl (cs := #[.int .i64 w0, .int .i64 w1, .int .i64 1, .int .i64 10000]) rfl size144 rfl rfl (by simp [Value.oneCell']) ?_; intro W4 hm4 hq1; clear hq1; have HN4 := Aside0.mk hm4; clear hm4 HN3; have k0 : W4.cell? ⟨g5, 0, none⟩ = some (.int .i64 w0) := (HN4.out.cell 0).trans rfl; have k1 : W4.cell? ⟨g5, 1, none⟩ = some (.int .i64 w1) := (HN4.out.cell 1).trans rfl; have k2 : W4.cell? ⟨g5, 2, none⟩ = some (.int .i64 1) := (HN4.out.cell 2).trans rfl; have k3 : W4.cell? ⟨g5, 3, none⟩ = some (.int .i64 10000) := (HN4.out.cell 3).trans rfl)
      | ((with_reducible refine gate_store (t := 27) (p := 2) rfl ?_); refine ev_store HN4.out.drop rfl 27 (.tmp 2) (.tmp 42) rfl rfl (cs := #[.int .i64 0, .slice none 0 0]) rfl size27 rfl rfl (by simp [Value.oneCell']) ?_; intro W5 hm5 hq1; clear hq1; have HN5 := Aside0.mk hm5; clear hm5 HN4))
        refine bodyPost_ret (results_row_tmp rfl _ _ _ _ _ _ _ rfl HN5.out.head Try.underlying27 rfl size27) rfl ?_
        rw [HF.out]
        exact ⟨_, rfl, Kd.R_nil _ _ _ _ _, HN5.out.below⟩
      have o1b : decide (w1 < w0) = false := decide_eq_false o1
      by_cases o2 : w0 < 1
      · have o2b : decide (w0 < 1) = true := decide_eq_true o2
        have HF : Aside0 (res = (0, [], 2)) := ⟨by
          have hr : rngErr ⟨w0, w1⟩ 1 10000 = 2 := rng_out o1 (.inl o2)
          have he : err = 2 := by rw [HE.out, if_pos (by rw [hr]; decide), hr]
          rw [HRS.out, he, if_neg (by decide)]⟩
        clear HRS HE HL0 HOK
        go_wp2_with (first
      | ((with_reducible refine gate_dst (N := 5) rfl ?_); refine ev_new HM.out rfl 144 rfl info144 ?_; intro g5 W3 hm3 hq1; clear hq1; have HN3 := Aside0.mk hm3; clear hm3 HM)
      | ((with_reducible refine gate_store (t := 144) (p := 5) rfl ?_); refine ev_store HN3.out rfl 144 (.tmp 5) (.tmp 33) rfl rfl (cs := #[.int .i64 w0, .int .i64 w1, .int .i64 1, .int .i64 10000]) rfl size144 rfl rfl (by simp [Value.oneCell']) ?_; intro W4 hm4 hq1; clear hq1; have HN4 := Aside0.mk hm4; clear hm4 HN3; have k0 : W4.cell? ⟨g5, 0, none⟩ = some (.int .i64 w0) := (HN4.out.cell 0).trans rfl; have k1 : W4.cell? ⟨g5, 1, none⟩ = some (.int .i64 w1) := (HN4.out.cell 1).trans rfl; have k2 : W4.cell? ⟨g5, 2, none⟩ = some (.int .i64 1) := (HN4.out.cell 2).trans rfl; have k3 : W4.cell? ⟨g5, 3, none⟩ = some (.int .i64 10000) := (HN4.out.cell 3).trans rfl)
      | ((with_reducible refine gate_store (t := 27) (p := 2) rfl ?_); refine ev_store HN4.out.drop rfl 27 (.tmp 2) (.tmp 58) rfl rfl (cs := #[.int .i64 0, .slice none 0 0]) rfl size27 rfl rfl (by simp [Value.oneCell']) ?_; intro W5 hm5 hq1; clear hq1; have HN5 := Aside0.mk hm5; clear hm5 HN4))
        refine bodyPost_ret (results_row_tmp rfl _ _ _ _ _ _ _ rfl HN5.out.head Try.underlying27 rfl size27) rfl ?_
        rw [HF.out]
        exact ⟨_, rfl, Kd.R_nil _ _ _ _ _, HN5.out.below⟩
      have o2b : decide (w0 < 1) = false := decide_eq_false o2
      by_cases o3 : 10000 < w1
      · have o3b : decide (10000 < w1) = true := decide_eq_true o3
        have HF : Aside0 (res = (0, [], 2)) := ⟨by
          have hr : rngErr ⟨w0, w1⟩ 1 10000 = 2 := rng_out o1 (.inr o3)
          have he : err = 2 := by rw [HE.out, if_pos (by rw [hr]; decide), hr]
          rw [HRS.out, he, if_neg (by decide)]⟩
        clear HRS HE HL0 HOK
        go_wp2_with (first
      | ((with_reducible refine gate_dst (N := 5) rfl ?_); refine ev_new HM.out rfl 144 rfl info144 ?_; intro g5 W3 hm3 hq1; clear hq1; have HN3 := Aside0.mk hm3; clear hm3 HM)
      | ((with_reducible refine gate_store (t := 144) (p := 5) rfl ?_); refine ev_store HN3.out rfl 144 (.tmp 5) (.tmp 33) rfl rfl (cs := #[.int .i64 w0, .int .i64 w1, .int .i64 1, .int .i64 10000]) rfl size144 rfl rfl (by simp [Value.oneCell']) ?_; intro W4 hm4 hq1; clear hq1; have HN4 := Aside0.mk hm4; clear hm4 HN3; have k0 : W4.cell? ⟨g5, 0, none⟩ = some (.int .i64 w0) := (HN4.out.cell 0).trans rfl; have k1 : W4.cell? ⟨g5, 1, none⟩ = some (.int .i64 w1) := (HN4.out.cell 1).trans rfl; have k2 : W4.cell? ⟨g5, 2, none⟩ = some (.int .i64 1) := (HN4.out.cell 2).trans rfl; have k3 : W4.cell? ⟨g5, 3, none⟩ = some (.int .i64 10000) := (HN4.out.cell 3).trans rfl)
      | ((with_reducible refine gate_store (t := 27) (p := 2) rfl ?_); refine ev_store HN4.out.drop rfl 27 (.tmp 2) (.tmp 58) rfl rfl (cs := #[.int .i64 0, .slice none 0 0]) rfl size27 rfl rfl (by simp [Value.oneCell']) ?_; intro W5 hm5 hq1; clear hq1; have HN5 := Aside0.mk hm5; clear hm5 HN4))
        refine bodyPost_ret (results_row_tmp rfl _ _ _ _ _ _ _ rfl HN5.out.head Try.underlying27 rfl size27) rfl ?_
        rw [HF.out]
        exact ⟨_, rfl, Kd.R_nil _ _ _ _ _, HN5.out.below⟩
      have o3b : decide (10000 < w1) = false := decide_eq_false o3
      have HR1 := Aside0.mk (rng_ok (r := ⟨w0, w1⟩) (low := 1) (high := 10000) o1 (fun h => h.elim o2 o3))
      go_wp2_with (first
      | ((with_reducible refine gate_dst (N := 5) rfl ?_); refine ev_new HM.out rfl 144 rfl info144 ?_; intro g5 W3 hm3 hq1; clear hq1; have HN3 := Aside0.mk hm3; clear hm3 HM)
      | ((with_reducible refine gate_store (t := 144) (p := 5) rfl ?_); refine ev_store HN3.out rfl 144 (.tmp 5) (.tmp 33) rfl rfl (cs := #[.int .i64 w0, .int .i64 w1, .int .i64 1, .int .i64 10000]) rfl size144 rfl rfl (by simp [Value.oneCell']) ?_; intro W4 hm4 hq1; clear hq1; have HN4 := Aside0.mk hm4; clear hm4 HN3; have k0 : W4.cell? ⟨g5, 0, none⟩ = some (.int .i64 w0) := (HN4.out.cell 0).trans rfl; have k1 : W4.cell? ⟨g5, 1, none⟩ = some (.int .i64 w1) := (HN4.out.cell 1).trans rfl; have k2 : W4.cell? ⟨g5, 2, none⟩ = some (.int .i64 1) := (HN4.out.cell 2).trans rfl; have k3 : W4.cell? ⟨g5, 3, none⟩ = some (.int .i64 10000) := (HN4.out.cell 3).trans rfl))
      go_roundg 4
      case measure => omega
      case rel => exact ⟨1, rfl, rfl, ⟨fun _ => HR1.out, fun h => by omega, fun h => by omega, fun h => by omega, fun h => by omega⟩, ⟨HN4.out.drop⟩⟩
    · -- round 1
      have hix : (Instr.index 145 (.agg #[.int .i64 w0, .int .i64 w1, .int .i64 1, .int .i64 10000, .int .i64 p0, .int .i64 p1, .int .i64 1, .int .i64 10000, .int .i64 s0, .int .i64 s1, .int .i64 0, .int .i64 1000000, .int .i64 f0, .int .i64 f1, .int .i64 0, .int .i64 1000000, .int .i64 l0, .int .i64 l1, .int .i64 0, .int .i64 1000000]) (.int .i64 1)).run Try.prog = fun W => .ok (.agg #[.int .i64 p0, .int .i64 p1, .int .i64 1, .int .i64 10000]) W := by
        funext W
        exact run_index_row 145 144 5 _ 1 4 _ Try.underlying145 Try.underlying144 rfl size144 (by omega) W
      have HIX := Aside0.mk hix
      by_cases o1 : p1 < p0
      · have o1b : decide (p1 < p0) = true := decide_eq_true o1
        have HF : Aside0 (res = (0, [], 11)) := ⟨by
          have hr : rngErr ⟨p0, p1⟩ 1 10000 = 11 := rng_bad o1
          have he : err = 11 := by rw [HE.out, if_neg (by rw [HOK.out.1 (by omega)]; decide), if_pos (by rw [hr]; decide), hr]
          rw [HRS.out, he, if_neg (by decide)]⟩
        clear HRS HE HL0 HOK
        go_wp2_with (first
      | ((with_reducible refine gate_dst (N := 5) rfl ?_); refine ev_new HM.out rfl 144 rfl info144 ?_; intro g5 W3 hm3 hq1; clear hq1; have HN3 := Aside0.mk hm3; clear hm3 HM)
      | ((with_reducible refine gate_store (t := 144) (p := 5) rfl ?_); refine ev_store HN3.out rfl 144 (.tmp 5) (.tmp 33) rfl rfl (cs := #[.int .i64 p0, .int .i64 p1, .int .i64 1, .int .i64 10000]) rfl size144 rfl rfl (by simp [Value.oneCell']) ?_; intro W4 hm4 hq1; clear hq1; have HN4 := Aside0.mk hm4; clear hm4 HN3; have k0 : W4.cell? ⟨g5, 0, none⟩ = some (.int .i64 p0) := (HN4.out.cell 0).trans rfl; have k1 : W4.cell? ⟨g5, 1, none⟩ = some (.int .i64 p1) := (HN4.out.cell 1).trans rfl; have k2 : W4.cell? ⟨g5, 2, none⟩ = some (.int .i64 1) := (HN4.out.cell 2).trans rfl; have k3 : W4.cell? ⟨g5, 3, none⟩ = some (.int .i64 10000) := (HN4.out.cell 3).trans rfl)
      | ((with_reducible refine gate_store (t := 27) (p := 2) rfl ?_); refine ev_store HN4.out.drop rfl 27 (.tmp 2) (.tmp 42) rfl rfl (cs := #[.int .i64 0, .slice none 0 0]) rfl size27 rfl rfl (by simp [Value.oneCell']) ?_; intro W5 hm5 hq1; clear hq1; have HN5 := Aside0.mk hm5; clear hm5 HN4))
        refine bodyPost_ret (results_row_tmp rfl _ _ _ _ _ _ _ rfl HN5.out.head Try.underlying27 rfl size27) rfl ?_
        rw [HF.out]
        exact ⟨_, rfl, Kd.R_nil _ _ _ _ _, HN5.out.below⟩
      have o1b : decide (p1 < p0) = false := decide_eq_false o1
      by_cases o2 : p0 < 1
      · have o2b : decide (p0 < 1) = true := decide_eq_true o2
        have HF : Aside0 (res = (0, [], 2)) := ⟨by
          have hr : rngErr ⟨p0, p1⟩ 1 10000 = 2 := rng_out o1 (.inl o2)
          have he : err = 2 := by rw [HE.out, if_neg (by rw [HOK.out.1 (by omega)]; decide), if_pos (by rw [hr]; decide), hr]
          rw [HRS.out, he, if_neg (by decide)]⟩
        clear HRS HE HL0 HOK
        go_wp2_with (first
      | ((with_reducible refine gate_dst (N := 5) rfl ?_); refine ev_new HM.out rfl 144 rfl info144 ?_; intro g5 W3 hm3 hq1; clear hq1; have HN3 := Aside0.mk hm3; clear hm3 HM)
      | ((with_reducible refine gate_store (t := 144) (p := 5) rfl ?_); refine ev_store HN3.out rfl 144 (.tmp 5) (.tmp 33) rfl rfl (cs := #[.int .i64 p0, .int .i64 p1, .int .i64 1, .int .i64 10000]) rfl size144 rfl rfl (by simp [Value.oneCell']) ?_; intro W4 hm4 hq1; clear hq1; have HN4 := Aside0.mk hm4; clear hm4 HN3; have k0 : W4.cell? ⟨g5, 0, none⟩ = some (.int .i64 p0) := (HN4.out.cell 0).trans rfl; have k1 : W4.cell? ⟨g5, 1, none⟩ = some (.int .i64 p1) := (HN4.out.cell 1).trans rfl; have k2 : W4.cell? ⟨g5, 2, none⟩ = some (.int .i64 1) := (HN4.out.cell 2).trans rfl; have k3 : W4.cell? ⟨g5, 3, none⟩ = some (.int .i64 10000) := (HN4.out.cell 3).trans rfl)
      | ((with_reducible refine gate_store (t := 27) (p := 2) rfl ?_); refine ev_store HN4.out.drop rfl 27 (.tmp 2) (.tmp 58) rfl rfl (cs := #[.int .i64 0, .slice none 0 0]) rfl size27 rfl rfl (by simp [Value.oneCell']) ?_; intro W5 hm5 hq1; clear hq1; have HN5 := Aside0.mk hm5; clear hm5 HN4))
        refine bodyPost_ret (results_row_tmp rfl _ _ _ _ _ _ _ rfl HN5.out.head Try.underlying27 rfl size27) rfl ?_
        rw [HF.out]
        exact ⟨_, rfl, Kd.R_nil _ _ _ _ _, HN5.out.below⟩
      have o2b : decide (p0 < 1) = false := decide_eq_false o2
      by_cases o3 : 10000 < p1
      · have o3b : decide (10000 < p1) = true := decide_eq_true o3
        have HF : Aside0 (res = (0, [], 2)) := ⟨by
          have hr : rngErr ⟨p0, p1⟩ 1 10000 = 2 := rng_out o1 (.inr o3)
          have he : err = 2 := by rw [HE.out, if_neg (by rw [HOK.out.1 (by omega)]; decide), if_pos (by rw [hr]; decide), hr]
          rw [HRS.out, he, if_neg (by decide)]⟩
        clear HRS HE HL0 HOK
        go_wp2_with (first
      | ((with_reducible refine gate_dst (N := 5) rfl ?_); refine ev_new HM.out rfl 144 rfl info144 ?_; intro g5 W3 hm3 hq1; clear hq1; have HN3 := Aside0.mk hm3; clear hm3 HM)
      | ((with_reducible refine gate_store (t := 144) (p := 5) rfl ?_); refine ev_store HN3.out rfl 144 (.tmp 5) (.tmp 33) rfl rfl (cs := #[.int .i64 p0, .int .i64 p1, .int .i64 1, .int .i64 10000]) rfl size144 rfl rfl (by simp [Value.oneCell']) ?_; intro W4 hm4 hq1; clear hq1; have HN4 := Aside0.mk hm4; clear hm4 HN3; have k0 : W4.cell? ⟨g5, 0, none⟩ = some (.int .i64 p0) := (HN4.out.cell 0).trans rfl; have k1 : W4.cell? ⟨g5, 1, none⟩ = some (.int .i64 p1) := (HN4.out.cell 1).trans rfl; have k2 : W4.cell? ⟨g5, 2, none⟩ = some (.int .i64 1) := (HN4.out.cell 2).trans rfl; have k3 : W4.cell? ⟨g5, 3, none⟩ = some (.int .i64 10000) := (HN4.out.cell 3).trans rfl)
      | ((with_reducible refine gate_store (t := 27) (p := 2) rfl ?_); refine ev_store HN4.out.drop rfl 27 (.tmp 2) (.tmp 58) rfl rfl (cs := #[.int .i64 0, .slice none 0 0]) rfl size27 rfl rfl (by simp [Value.oneCell']) ?_; intro W5 hm5 hq1; clear hq1; have HN5 := Aside0.mk hm5; clear hm5 HN4))
        refine bodyPost_ret (results_row_tmp rfl _ _ _ _ _ _ _ rfl HN5.out.head Try.underlying27 rfl size27) rfl ?_
        rw [HF.out]
        exact ⟨_, rfl, Kd.R_nil _ _ _ _ _, HN5.out.below⟩
      have o3b : decide (10000 < p1) = false := decide_eq_false o3
      have HR1 := Aside0.mk (rng_ok (r := ⟨p0, p1⟩) (low := 1) (high := 10000) o1 (fun h => h.elim o2 o3))
      go_wp2_with (first
      | ((with_reducible refine gate_dst (N := 5) rfl ?_); refine ev_new HM.out rfl 144 rfl info144 ?_; intro g5 W3 hm3 hq1; clear hq1; have HN3 := Aside0.mk hm3; clear hm3 HM)
      | ((with_reducible refine gate_store (t := 144) (p := 5) rfl ?_); refine ev_store HN3.out rfl 144 (.tmp 5) (.tmp 33) rfl rfl (cs := #[.int .i64 p0, .int .i64 p1, .int .i64 1, .int .i64 10000]) rfl size144 rfl rfl (by simp [Value.oneCell']) ?_; intro W4 hm4 hq1; clear hq1; have HN4 := Aside0.mk hm4; clear hm4 HN3; have k0 : W4.cell? ⟨g5, 0, none⟩ = some (.int .i64 p0) := (HN4.out.cell 0).trans rfl; have k1 : W4.cell? ⟨g5, 1, none⟩ = some (.int .i64 p1) := (HN4.out.cell 1).trans rfl; have k2 : W4.cell? ⟨g5, 2, none⟩ = some (.int .i64 1) := (HN4.out.cell 2).trans rfl; have k3 : W4.cell? ⟨g5, 3, none⟩ = some (.int .i64 10000) := (HN4.out.cell 3).trans rfl))
      go_roundg 3
      case measure => omega
      case rel => exact ⟨2, rfl, rfl, ⟨fun _ => HOK.out.1 (by omega), fun _ => HR1.out, fun h => by omega, fun h => by omega, fun h => by omega⟩, ⟨HN4.out.drop⟩⟩
    · -- round 2
      have hix : (Instr.index 145 (.agg #[.int .i64 w0, .int .i64 w1, .int .i64 1, .int .i64 10000, .int .i64 p0, .int .i64 p1, .int .i64 1, .int .i64 10000, .int .i64 s0, .int .i64 s1, .int .i64 0, .int .i64 1000000, .int .i64 f0, .int .i64 f1, .int .i64 0, .int .i64 1000000, .int .i64 l0, .int .i64 l1, .int .i64 0, .int .i64 1000000]) (.int .i64 2)).run Try.prog = fun W => .ok (.agg #[.int .i64 s0, .int .i64 s1, .int .i64 0, .int .i64 1000000]) W := by
        funext W
        exact run_index_row 145 144 5 _ 2 4 _ Try.underlying145 Try.underlying144 rfl size144 (by omega) W
      have HIX := Aside0.mk hix
      by_cases o1 : s1 < s0
      · have o1b : decide (s1 < s0) = true := decide_eq_true o1
        have HF : Aside0 (res = (0, [], 11)) := ⟨by
          have hr : rngErr ⟨s0, s1⟩ 0 1000000 = 11 := rng_bad o1
          have he : err = 11 := by rw [HE.out, if_neg (by rw [HOK.out.1 (by omega)]; decide), if_neg (by rw [HOK.out.2.1 (by omega)]; decide), if_pos (by rw [hr]; decide), hr]
          rw [HRS.out, he, if_neg (by decide)]⟩
        clear HRS HE HL0 HOK
        go_wp2_with (first
      | ((with_reducible refine gate_dst (N := 5) rfl ?_); refine ev_new HM.out rfl 144 rfl info144 ?_; intro g5 W3 hm3 hq1; clear hq1; have HN3 := Aside0.mk hm3; clear hm3 HM)
      | ((with_reducible refine gate_store (t := 144) (p := 5) rfl ?_); refine ev_store HN3.out rfl 144 (.tmp 5) (.tmp 33) rfl rfl (cs := #[.int .i64 s0, .int .i64 s1, .int .i64 0, .int .i64 1000000]) rfl size144 rfl rfl (by simp [Value.oneCell']) ?_; intro W4 hm4 hq1; clear hq1; have HN4 := Aside0.mk hm4; clear hm4 HN3; have k0 : W4.cell? ⟨g5, 0, none⟩ = some (.int .i64 s0) := (HN4.out.cell 0).trans rfl; have k1 : W4.cell? ⟨g5, 1, none⟩ = some (.int .i64 s1) := (HN4.out.cell 1).trans rfl; have k2 : W4.cell? ⟨g5, 2, none⟩ = some (.int .i64 0) := (HN4.out.cell 2).trans rfl; have k3 : W4.cell? ⟨g5, 3, none⟩ = some (.int .i64 1000000) := (HN4.out.cell 3).trans rfl)
      | ((with_reducible refine gate_store (t := 27) (p := 2) rfl ?_); refine ev_store HN4.out.drop rfl 27 (.tmp 2) (.tmp 42) rfl rfl (cs := #[.int .i64 0, .slice none 0 0]) rfl size27 rfl rfl (by simp [Value.oneCell']) ?_; intro W5 hm5 hq1; clear hq1; have HN5 := Aside0.mk hm5; clear hm5 HN4))
        refine bodyPost_ret (results_row_tmp rfl _ _ _ _ _ _ _ rfl HN5.out.head Try.underlying27 rfl size27) rfl ?_
        rw [HF.out]
        exact ⟨_, rfl, Kd.R_nil _ _ _ _ _, HN5.out.below⟩
      have o1b : decide (s1 < s0) = false := decide_eq_false o1
      by_cases o2 : s0 < 0
      · have o2b : decide (s0 < 0) = true := decide_eq_true o2
        have HF : Aside0 (res = (0, [], 2)) := ⟨by
          have hr : rngErr ⟨s0, s1⟩ 0 1000000 = 2 := rng_out o1 (.inl o2)
          have he : err = 2 := by rw [HE.out, if_neg (by rw [HOK.out.1 (by omega)]; decide), if_neg (by rw [HOK.out.2.1 (by omega)]; decide), if_pos (by rw [hr]; decide), hr]
          rw [HRS.out, he, if_neg (by decide)]⟩
        clear HRS HE HL0 HOK
        go_wp2_with (first
      | ((with_reducible refine gate_dst (N := 5) rfl ?_); refine ev_new HM.out rfl 144 rfl info144 ?_; intro g5 W3 hm3 hq1; clear hq1; have HN3 := Aside0.mk hm3; clear hm3 HM)
      | ((with_reducible refine gate_store (t := 144) (p := 5) rfl ?_); refine ev_store HN3.out rfl 144 (.tmp 5) (.tmp 33) rfl rfl (cs := #[.int .i64 s0, .int .i64 s1, .int .i64 0, .int .i64 1000000]) rfl size144 rfl rfl (by simp [Value.oneCell']) ?_; intro W4 hm4 hq1; clear hq1; have HN4 := Aside0.mk hm4; clear hm4 HN3; have k0 : W4.cell? ⟨g5, 0, none⟩ = some (.int .i64 s0) := (HN4.out.cell 0).trans rfl; have k1 : W4.cell? ⟨g5, 1, none⟩ = some (.int .i64 s1) := (HN4.out.cell 1).trans rfl; have k2 : W4.cell? ⟨g5, 2, none⟩ = some (.int .i64 0) := (HN4.out.cell 2).trans rfl; have k3 : W4.cell? ⟨g5, 3, none⟩ = some (.int .i64 1000000) := (HN4.out.cell 3).trans rfl)
      | ((with_reducible refine gate_store (t := 27) (p := 2) rfl ?_); refine ev_store HN4.out.drop rfl 27 (.tmp 2) (.tmp 58) rfl rfl (cs := #[.int .i64 0, .slice none 0 0]) rfl size27 rfl rfl (by simp [Value.oneCell']) ?_; intro W5 hm5 hq1; clear hq1; have HN5 := Aside0.mk hm5; clear hm5 HN4))
        refine bodyPost_ret (results_row_tmp rfl _ _ _ _ _ _ _ rfl HN5.out.head Try.underlying27 rfl size27) rfl ?_
        rw [HF.out]
        exact ⟨_, rfl, Kd.R_nil _ _ _ _ _, HN5.out.below⟩
      have o2b : decide (s0 < 0) = false := decide_eq_false o2
      by_cases o3 : 1000000 < s1
      · have o3b : decide (1000000 < s1) = true := decide_eq_true o3
        have HF : Aside0 (res = (0, [], 2)) := ⟨by
          have hr : rngErr ⟨s0, s1⟩ 0 1000000 = 2 := rng_out o1 (.inr o3)
          have he : err = 2 := by rw [HE.out, if_neg (by rw [HOK.out.1 (by omega)]; decide), if_neg (by rw [HOK.out.2.1 (by omega)]; decide), if_pos (by rw [hr]; decide), hr]
          rw [HRS.out, he, if_neg (by decide)]⟩
        clear HRS HE HL0 HOK
        go_wp2_with (first
      | ((with_reducible refine gate_dst (N := 5) rfl ?_); refine ev_new HM.out rfl 144 rfl info144 ?_; intro g5 W3 hm3 hq1; clear hq1; have HN3 := Aside0.mk hm3; clear hm3 HM)
      | ((with_reducible refine gate_store (t := 144) (p := 5) rfl ?_); refine ev_store HN3.out rfl 144 (.tmp 5) (.tmp 33) rfl rfl (cs := #[.int .i64 s0, .int .i64 s1, .int .i64 0, .int .i64 1000000]) rfl size144 rfl rfl (by simp [Value.oneCell']) ?_; intro W4 hm4 hq1; clear hq1; have HN4 := Aside0.mk hm4; clear hm4 HN3; have k0 : W4.cell? ⟨g5, 0, none⟩ = some (.int .i64 s0) := (HN4.out.cell 0).trans rfl; have k1 : W4.cell? ⟨g5, 1, none⟩ = some (.int .i64 s1) := (HN4.out.cell 1).trans rfl; have k2 : W4.cell? ⟨g5, 2, none⟩ = some (.int .i64 0) := (HN4.out.cell 2).trans rfl; have k3 : W4.cell? ⟨g5, 3, none⟩ = some (.int .i64 1000000) := (HN4.out.cell 3).trans rfl)
      | ((with_reducible refine gate_store (t := 27) (p := 2) rfl ?_); refine ev_store HN4.out.drop rfl 27 (.tmp 2) (.tmp 58) rfl rfl (cs := #[.int .i64 0, .slice none 0 0]) rfl size27 rfl rfl (by simp [Value.oneCell']) ?_; intro W5 hm5 hq1; clear hq1; have HN5 := Aside0.mk hm5; clear hm5 HN4))
        refine bodyPost_ret (results_row_tmp rfl _ _ _ _ _ _ _ rfl HN5.out.head Try.underlying27 rfl size27) rfl ?_
        rw [HF.out]
        exact ⟨_, rfl, Kd.R_nil _ _ _ _ _, HN5.out.below⟩
      have o3b : decide (1000000 < s1) = false := decide_eq_false o3
      have HR1 := Aside0.mk (rng_ok (r := ⟨s0, s1⟩) (low := 0) (high := 1000000) o1 (fun h => h.elim o2 o3))
      go_wp2_with (first
      | ((with_reducible refine gate_dst (N := 5) rfl ?_); refine ev_new HM.out rfl 144 rfl info144 ?_; intro g5 W3 hm3 hq1; clear hq1; have HN3 := Aside0.mk hm3; clear hm3 HM)
      | ((with_reducible refine gate_store (t := 144) (p := 5) rfl ?_); refine ev_store HN3.out rfl 144 (.tmp 5) (.tmp 33) rfl rfl (cs := #[.int .i64 s0, .int .i64 s1, .int .i64 0, .int .i64 1000000]) rfl size144 rfl rfl (by simp [Value.oneCell']) ?_; intro W4 hm4 hq1; clear hq1; have HN4 := Aside0.mk hm4; clear hm4 HN3; have k0 : W4.cell? ⟨g5, 0, none⟩ = some (.int .i64 s0) := (HN4.out.cell 0).trans rfl; have k1 : W4.cell? ⟨g5, 1, none⟩ = some (.int .i64 s1) := (HN4.out.cell 1).trans rfl; have k2 : W4.cell? ⟨g5, 2, none⟩ = some (.int .i64 0) := (HN4.out.cell 2).trans rfl; have k3 : W4.cell? ⟨g5, 3, none⟩ = some (.int .i64 1000000) := (HN4.out.cell 3).trans rfl))
      go_roundg 2
      case measure => omega
      case rel => exact ⟨3, rfl, rfl, ⟨fun _ => HOK.out.1 (by omega), fun _ => HOK.out.2.1 (by omega), fun _ => HR1.out, fun h => by omega, fun h => by omega⟩, ⟨HN4.out.drop⟩⟩
    · -- round 3
      have hix : (Instr.index 145 (.agg #[.int .i64 w0, .int .i64 w1, .int .i64 1, .int .i64 10000, .int .i64 p0, .int .i64 p1, .int .i64 1, .int .i64 10000, .int .i64 s0, .int .i64 s1, .int .i64 0, .int .i64 1000000, .int .i64 f0, .int .i64 f1, .int .i64 0, .int .i64 1000000, .int .i64 l0, .int .i64 l1, .int .i64 0, .int .i64 1000000]) (.int .i64 3)).run Try.prog = fun W => .ok (.agg #[.int .i64 f0, .int .i64 f1, .int .i64 0, .int .i64 1000000]) W := by
        funext W
        exact run_index_row 145 144 5 _ 3 4 _ Try.underlying145 Try.underlying144 rfl size144 (by omega) W
      have HIX := Aside0.mk hix
      by_cases o1 : f1 < f0
      · have o1b : decide (f1 < f0) = true := decide_eq_true o1
        have HF : Aside0 (res = (0, [], 11)) := ⟨by
          have hr : rngErr ⟨f0, f1⟩ 0 1000000 = 11 := rng_bad o1
          have he : err = 11 := by rw [HE.out, if_neg (by rw [HOK.out.1 (by omega)]; decide), if_neg (by rw [HOK.out.2.1 (by omega)]; decide), if_neg (by rw [HOK.out.2.2.1 (by omega)]; decide), if_pos (by rw [hr]; decide), hr]
          rw [HRS.out, he, if_neg (by decide)]⟩
        clear HRS HE HL0 HOK
        go_wp2_with (first
      | ((with_reducible refine gate_dst (N := 5) rfl ?_); refine ev_new HM.out rfl 144 rfl info144 ?_; intro g5 W3 hm3 hq1; clear hq1; have HN3 := Aside0.mk hm3; clear hm3 HM)
      | ((with_reducible refine gate_store (t := 144) (p := 5) rfl ?_); refine ev_store HN3.out rfl 144 (.tmp 5) (.tmp 33) rfl rfl (cs := #[.int .i64 f0, .int .i64 f1, .int .i64 0, .int .i64 1000000]) rfl size144 rfl rfl (by simp [Value.oneCell']) ?_; intro W4 hm4 hq1; clear hq1; have HN4 := Aside0.mk hm4; clear hm4 HN3; have k0 : W4.cell? ⟨g5, 0, none⟩ = some (.int .i64 f0) := (HN4.out.cell 0).trans rfl; have k1 : W4.cell? ⟨g5, 1, none⟩ = some (.int .i64 f1) := (HN4.out.cell 1).trans rfl; have k2 : W4.cell? ⟨g5, 2, none⟩ = some (.int .i64 0) := (HN4.out.cell 2).trans rfl; have k3 : W4.cell? ⟨g5, 3, none⟩ = some (.int .i64 1000000) := (HN4.out.cell 3).trans rfl)
      | ((with_reducible refine gate_store (t := 27) (p := 2) rfl ?_); refine ev_store HN4.out.drop rfl 27 (.tmp 2) (.tmp 42) rfl rfl (cs := #[.int .i64 0, .slice none 0 0]) rfl size27 rfl rfl (by simp [Value.oneCell']) ?_; intro W5 hm5 hq1; clear hq1; have HN5 := Aside0.mk hm5; clear hm5 HN4))
        refine bodyPost_ret (results_row_tmp rfl _ _ _ _ _ _ _ rfl HN5.out.head Try.underlying27 rfl size27) rfl ?_
        rw [HF.out]
        exact ⟨_, rfl, Kd.R_nil _ _ _ _ _, HN5.out.below⟩
      have o1b : decide (f1 < f0) = false := decide_eq_false o1
      by_cases o2 : f0 < 0
      · have o2b : decide (f0 < 0) = true := decide_eq_true o2
        have HF : Aside0 (res = (0, [], 2)) := ⟨by
          have hr : rngErr ⟨f0, f1⟩ 0 1000000 = 2 := rng_out o1 (.inl o2)
          have he : err = 2 := by rw [HE.out, if_neg (by rw [HOK.out.1 (by omega)]; decide), if_neg (by rw [HOK.out.2.1 (by omega)]; decide), if_neg (by rw [HOK.out.2.2.1 (by omega)]; decide), if_pos (by rw [hr]; decide), hr]
          rw [HRS.out, he, if_neg (by decide)]⟩
        clear HRS HE HL0 HOK
        go_wp2_with (first
      | ((with_reducible refine gate_dst (N := 5) rfl ?_); refine ev_new HM.out rfl 144 rfl info144 ?_; intro g5 W3 hm3 hq1; clear hq1; have HN3 := Aside0.mk hm3; clear hm3 HM)
      | ((with_reducible refine gate_store (t := 144) (p := 5) rfl ?_); refine ev_store HN3.out rfl 144 (.tmp 5) (.tmp 33) rfl rfl (cs := #[.int .i64 f0, .int .i64 f1, .int .i64 0, .int .i64 1000000]) rfl size144 rfl rfl (by simp [Value.oneCell']) ?_; intro W4 hm4 hq1; clear hq1; have HN4 := Aside0.mk hm4; clear hm4 HN3; have k0 : W4.cell? ⟨g5, 0, none⟩ = some (.int .i64 f0) := (HN4.out.cell 0).trans rfl; have k1 : W4.cell? ⟨g5, 1, none⟩ = some (.int .i64 f1) := (HN4.out.cell 1).trans rfl; have k2 : W4.cell? ⟨g5, 2, none⟩ = some (.int .i64 0) := (HN4.out.cell 2).trans rfl; have k3 : W4.cell? ⟨g5, 3, none⟩ = some (.int .i64 1000000) := (HN4.out.cell 3).trans rfl)
      | ((with_reducible refine gate_store (t := 27) (p := 2) rfl ?_); refine ev_store HN4.out.drop rfl 27 (.tmp 2) (.tmp 58) rfl rfl (cs := #[.int .i64 0, .slice none 0 0]) rfl size27 rfl rfl (by simp [Value.oneCell']) ?_; intro W5 hm5 hq1; clear hq1; have HN5 := Aside0.mk hm5; clear hm5 HN4))
        refine bodyPost_ret (results_row_tmp rfl _ _ _ _ _ _ _ rfl HN5.out.head Try.underlying27 rfl size27) rfl ?_
        rw [HF.out]
        exact ⟨_, rfl, Kd.R_nil _ _ _ _ _, HN5.out.below⟩
      have o2b : decide (f0 < 0) = false := decide_eq_false o2
      by_cases o3 : 1000000 < f1
      · have o3b : decide (1000000 < f1) = true := decide_eq_true o3
        have HF : Aside0 (res = (0, [], 2)) := ⟨by
          have hr : rngErr ⟨f0, f1⟩ 0 1000000 = 2 := rng_out o1 (.inr o3)
          have he : err = 2 := by rw [HE.out, if_neg (by rw [HOK.out.1 (by omega)]; decide), if_neg (by rw [HOK.out.2.1 (by omega)]; decide), if_neg (by rw [HOK.out.2.2.1 (by omega)]; decide), if_pos (by rw [hr]; decide), hr]
          rw [HRS.out, he, if_neg (by decide)]⟩
        clear HRS HE HL0 HOK
        go_wp2_with (first
      | ((with_reducible refine gate_dst (N := 5) rfl ?_); refine ev_new HM.out rfl 144 rfl info144 ?_; intro g5 W3 hm3 hq1; clear hq1; have HN3 := Aside0.mk hm3; clear hm3 HM)
      | ((with_reducible refine gate_store (t := 144) (p := 5) rfl ?_); refine ev_store HN3.out rfl 144 (.tmp 5) (.tmp 33) rfl rfl (cs := #[.int .i64 f0, .int .i64 f1, .int .i64 0, .int .i64 1000000]) rfl size144 rfl rfl (by simp [Value.oneCell']) ?_; intro W4 hm4 hq1; clear hq1; have HN4 := Aside0.mk hm4; clear hm4 HN3; have k0 : W4.cell? ⟨g5, 0, none⟩ = some (.int .i64 f0) := (HN4.out.cell 0).trans rfl; have k1 : W4.cell? ⟨g5, 1, none⟩ = some (.int .i64 f1) := (HN4.out.cell 1).trans rfl; have k2 : W4.cell? ⟨g5, 2, none⟩ = some (.int .i64 0) := (HN4.out.cell 2).trans rfl; have k3 : W4.cell? ⟨g5, 3, none⟩ = some (.int .i64 1000000) := (HN4.out.cell 3).trans rfl)
      | ((with_reducible refine gate_store (t := 27) (p := 2) rfl ?_); refine ev_store HN4.out.drop rfl 27 (.tmp 2) (.tmp 58) rfl rfl (cs := #[.int .i64 0, .slice none 0 0]) rfl size27 rfl rfl (by simp [Value.oneCell']) ?_; intro W5 hm5 hq1; clear hq1; have HN5 := Aside0.mk hm5; clear hm5 HN4))
        refine bodyPost_ret (results_row_tmp rfl _ _ _ _ _ _ _ rfl HN5.out.head Try.underlying27 rfl size27) rfl ?_
        rw [HF.out]
        exact ⟨_, rfl, Kd.R_nil _ _ _ _ _, HN5.out.below⟩
      have o3b : decide (1000000 < f1) = false := decide_eq_false o3
      have HR1 := Aside0.mk (rng_ok (r := ⟨f0, f1⟩) (low := 0) (high := 1000000) o1 (fun h => h.elim o2 o3))
      go_wp2_with (first
      | ((with_reducible refine gate_dst (N := 5) rfl ?_); refine ev_new HM.out rfl 144 rfl info144 ?_; intro g5 W3 hm3 hq1; clear hq1; have HN3 := Aside0.mk hm3; clear hm3 HM)
      | ((with_reducible refine gate_store (t := 144) (p := 5) rfl ?_); refine ev_store HN3.out rfl 144 (.tmp 5) (.tmp 33) rfl rfl (cs := #[.int .i64 f0, .int .i64 f1, .int .i64 0, .int .i64 1000000]) rfl size144 rfl rfl (by simp [Value.oneCell']) ?_; intro W4 hm4 hq1; clear hq1; have HN4 := Aside0.mk hm4; clear hm4 HN3; have k0 : W4.cell? ⟨g5, 0, none⟩ = some (.int .i64 f0) := (HN4.out.cell 0).trans rfl; have k1 : W4.cell? ⟨g5, 1, none⟩ = some (.int .i64 f1) := (HN4.out.cell 1).trans rfl; have k2 : W4.cell? ⟨g5, 2, none⟩ = some (.int .i64 0) := (HN4.out.cell 2).trans rfl; have k3 : W4.cell? ⟨g5, 3, none⟩ = some (.int .i64 1000000) := (HN4.out.cell 3).trans rfl))
      go_roundg 1
      case measure => omega
      case rel => exact ⟨4, rfl, rfl, ⟨fun _ => HOK.out.1 (by omega), fun _ => HOK.out.2.1 (by omega), fun _ => HOK.out.2.2.1 (by omega), fun _ => HR1.out, fun h => by omega⟩, ⟨HN4.out.drop⟩⟩
    · -- round 4
      have hix : (Instr.index 145 (.agg #[.int .i64 w0, .int .i64 w1, .int .i64 1, .int .i64 10000, .int .i64 p0, .int .i64 p1, .int .i64 1, .int .i64 10000, .int .i64 s0, .int .i64 s1, .int .i64 0, .int .i64 1000000, .int .i64 f0, .int .i64 f1, .int .i64 0, .int .i64 1000000, .int .i64 l0, .int .i64 l1, .int .i64 0, .int .i64 1000000]) (.int .i64 4)).run Try.prog = fun W => .ok (.agg #[.int .i64 l0, .int .i64 l1, .int .i64 0, .int .i64 1000000]) W := by
        funext W
        exact run_index_row 145 144 5 _ 4 4 _ Try.underlying145 Try.underlying144 rfl size144 (by omega) W
      have HIX := Aside0.mk hix
      by_cases o1 : l1 < l0
      · have o1b : decide (l1 < l0) = true := decide_eq_true o1
        have HF : Aside0 (res = (0, [], 11)) := ⟨by
          have hr : rngErr ⟨l0, l1⟩ 0 1000000 = 11 := rng_bad o1
          have he : err = 11 := by rw [HE.out, if_neg (by rw [HOK.out.1 (by omega)]; decide), if_neg (by rw [HOK.out.2.1 (by omega)]; decide), if_neg (by rw [HOK.out.2.2.1 (by omega)]; decide), if_neg (by rw [HOK.out.2.2.2.1 (by omega)]; decide), hr]
          rw [HRS.out, he, if_neg (by decide)]⟩
        clear HRS HE HL0 HOK
        go_wp2_with (first
      | ((with_reducible refine gate_dst (N := 5) rfl ?_); refine ev_new HM.out rfl 144 rfl info144 ?_; intro g5 W3 hm3 hq1; clear hq1; have HN3 := Aside0.mk hm3; clear hm3 HM)
      | ((with_reducible refine gate_store (t := 144) (p := 5) rfl ?_); refine ev_store HN3.out rfl 144 (.tmp 5) (.tmp 33) rfl rfl (cs := #[.int .i64 l0, .int .i64 l1, .int .i64 0, .int .i64 1000000]) rfl size144 rfl rfl (by simp [Value.oneCell']) ?_; intro W4 hm4 hq1; clear hq1; have HN4 := Aside0.mk hm4; clear hm4 HN3; have k0 : W4.cell? ⟨g5, 0, none⟩ = some (.int .i64 l0) := (HN4.out.cell 0).trans rfl; have k1 : W4.cell? ⟨g5, 1, none⟩ = some (.int .i64 l1) := (HN4.out.cell 1).trans rfl; have k2 : W4.cell? ⟨g5, 2, none⟩ = some (.int .i64 0) := (HN4.out.cell 2).trans rfl; have k3 : W4.cell? ⟨g5, 3, none⟩ = some (.int .i64 1000000) := (HN4.out.cell 3).trans rfl)
      | ((with_reducible refine gate_store (t := 27) (p := 2) rfl ?_); refine ev_store HN4.out.drop rfl 27 (.tmp 2) (.tmp 42) rfl rfl (cs := #[.int .i64 0, .slice none 0 0]) rfl size27 rfl rfl (by simp [Value.oneCell']) ?_; intro W5 hm5 hq1; clear hq1; have HN5 := Aside0.mk hm5; clear hm5 HN4))
        refine bodyPost_ret (results_row_tmp rfl _ _ _ _ _ _ _ rfl HN5.out.head Try.underlying27 rfl size27) rfl ?_
        rw [HF.out]
        exact ⟨_, rfl, Kd.R_nil _ _ _ _ _, HN5.out.below⟩
      have o1b : decide (l1 < l0) = false := decide_eq_false o1
      by_cases o2 : l0 < 0
      · have o2b : decide (l0 < 0) = true := decide_eq_true o2
        have HF : Aside0 (res = (0, [], 2)) := ⟨by
          have hr : rngErr ⟨l0, l1⟩ 0 1000000 = 2 := rng_out o1 (.inl o2)
          have he : err = 2 := by rw [HE.out, if_neg (by rw [HOK.out.1 (by omega)]; decide), if_neg (by rw [HOK.out.2.1 (by omega)]; decide), if_neg (by rw [HOK.out.2.2.1 (by omega)]; decide), if_neg (by rw [HOK.out.2.2.2.1 (by omega)]; decide), hr]
          rw [HRS.out, he, if_neg (by decide)]⟩
        clear HRS HE HL0 HOK
        go_wp2_with (first
      | ((with_reducible refine gate_dst (N := 5) rfl ?_); refine ev_new HM.out rfl 144 rfl info144 ?_; intro g5 W3 hm3 hq1; clear hq1; have HN3 := Aside0.mk hm3; clear hm3 HM)
      | ((with_reducible refine gate_store (t := 144) (p := 5) rfl ?_); refine ev_store HN3.out rfl 144 (.tmp 5) (.tmp 33) rfl rfl (cs := #[.int .i64 l0, .int .i64 l1, .int .i64 0, .int .i64 1000000]) rfl size144 rfl rfl (by simp [Value.oneCell']) ?_; intro W4 hm4 hq1; clear hq1; have HN4 := Aside0.mk hm4; clear hm4 HN3; have k0 : W4.cell? ⟨g5, 0, none⟩ = some (.int .i64 l0) := (HN4.out.cell 0).trans rfl; have k1 : W4.cell? ⟨g5, 1, none⟩ = some (.int .i64 l1) := (HN4.out.cell 1).trans rfl; have k2 : W4.cell? ⟨g5, 2, none⟩ = some (.int .i64 0) := (HN4.out.cell 2).trans rfl; have k3 : W4.cell? ⟨g5, 3, none⟩ = some (.int .i64 1000000) := (HN4.out.cell 3).trans rfl)
      | ((with_reducible refine gate_store (t := 27) (p := 2) rfl ?_); refine ev_store HN4.out.drop rfl 27 (.tmp 2) (.tmp 58) rfl rfl (cs := #[.int .i64 0, .slice none 0 0]) rfl size27 rfl rfl (by simp [Value.oneCell']) ?_; intro W5 hm5 hq1; clear hq1; have HN5 := Aside0.mk hm5; clear hm5 HN4))
        refine bodyPost_ret (results_row_tmp rfl _ _ _ _ _ _ _ rfl HN5.out.head Try.underlying27 rfl size27) rfl ?_
        rw [HF.out]
        exact ⟨_, rfl, Kd.R_nil _ _ _ _ _, HN5.out.below⟩
      have o2b : decide (l0 < 0) = false := decide_eq_false o2
      by_cases o3 : 1000000 < l1
      · have o3b : decide (1000000 < l1) = true := decide_eq_true o3
        have HF : Aside0 (res = (0, [], 2)) := ⟨by
          have hr : rngErr ⟨l0, l1⟩ 0 1000000 = 2 := rng_out o1 (.inr o3)
          have he : err = 2 := by rw [HE.out, if_neg (by rw [HOK.out.1 (by omega)]; decide), if_neg (by rw [HOK.out.2.1 (by omega)]; decide), if_neg (by rw [HOK.out.2.2.1 (by omega)]; decide), if_neg (by rw [HOK.out.2.2.2.1 (by omega)]; decide), hr]
          rw [HRS.out, he, if_neg (by decide)]⟩
        clear HRS HE HL0 HOK
        go_wp2_with (first
      | ((with_reducible refine gate_dst (N := 5) rfl ?_); refine ev_new HM.out rfl 144 rfl info144 ?_; intro g5 W3 hm3 hq1; clear hq1; have HN3 := Aside0.mk hm3; clear hm3 HM)
      | ((with_reducible refine gate_store (t := 144) (p := 5) rfl ?_); refine ev_store HN3.out rfl 144 (.tmp 5) (.tmp 33) rfl rfl (cs := #[.int .i64 l0, .int .i64 l1, .int .i64 0, .int .i64 1000000]) rfl size144 rfl rfl (by simp [Value.oneCell']) ?_; intro W4 hm4 hq1; clear hq1; have HN4 := Aside0.mk hm4; clear hm4 HN3; have k0 : W4.cell? ⟨g5, 0, none⟩ = some (.int .i64 l0) := (HN4.out.cell 0).trans rfl; have k1 : W4.cell? ⟨g5, 1, none⟩ = some (.int .i64 l1) := (HN4.out.cell 1).trans rfl; have k2 : W4.cell? ⟨g5, 2, none⟩ = some (.int .i64 0) := (HN4.out.cell 2).trans rfl; have k3 : W4.cell? ⟨g5, 3, none⟩ = some (.int .i64 1000000) := (HN4.out.cell 3).trans rfl)
      | ((with_reducible refine gate_store (t := 27) (p := 2) rfl ?_); refine ev_store HN4.out.drop rfl 27 (.tmp 2) (.tmp 58) rfl rfl (cs := #[.int .i64 0, .slice none 0 0]) rfl size27 rfl rfl (by simp [Value.oneCell']) ?_; intro W5 hm5 hq1; clear hq1; have HN5 := Aside0.mk hm5; clear hm5 HN4))
        refine bodyPost_ret (results_row_tmp rfl _ _ _ _ _ _ _ rfl HN5.out.head Try.underlying27 rfl size27) rfl ?_
        rw [HF.out]
        exact ⟨_, rfl, Kd.R_nil _ _ _ _ _, HN5.out.below⟩
      have o3b : decide (1000000 < l1) = false := decide_eq_false o3
      have HR1 := Aside0.mk (rng_ok (r := ⟨l0, l1⟩) (low := 0) (high := 1000000) o1 (fun h => h.elim o2 o3))
      go_wp2_with (first
      | ((with_reducible refine gate_dst (N := 5) rfl ?_); refine ev_new HM.out rfl 144 rfl info144 ?_; intro g5 W3 hm3 hq1; clear hq1; have HN3 := Aside0.mk hm3; clear hm3 HM)
      | ((with_reducible refine gate_store (t := 144) (p := 5) rfl ?_); refine ev_store HN3.out rfl 144 (.tmp 5) (.tmp 33) rfl rfl (cs := #[.int .i64 l0, .int .i64 l1, .int .i64 0, .int .i64 1000000]) rfl size144 rfl rfl (by simp [Value.oneCell']) ?_; intro W4 hm4 hq1; clear hq1; have HN4 := Aside0.mk hm4; clear hm4 HN3; have k0 : W4.cell? ⟨g5, 0, none⟩ = some (.int .i64 l0) := (HN4.out.cell 0).trans rfl; have k1 : W4.cell? ⟨g5, 1, none⟩ = some (.int .i64 l1) := (HN4.out.cell 1).trans rfl; have k2 : W4.cell? ⟨g5, 2, none⟩ = some (.int .i64 0) := (HN4.out.cell 2).trans rfl; have k3 : W4.cell? ⟨g5, 3, none⟩ = some (.int .i64 1000000) := (HN4.out.cell 3).trans rfl))
      go_roundg 0
      case measure => omega
      case rel => exact ⟨5, rfl, rfl, ⟨fun _ => HOK.out.1 (by omega), fun _ => HOK.out.2.1 (by omega), fun _ => HOK.out.2.2.1 (by omega), fun _ => HOK.out.2.2.2.1 (by omega), fun _ => HR1.out⟩, ⟨HN4.out.drop⟩⟩
    · -- all ranges are fine
      have hb : (1 ≤ p0 ∧ p0 ≤ p1 ∧ p1 ≤ 10000) ∧ (0 ≤ s0 ∧ s0 ≤ s1 ∧ s1 ≤ 1000000) := by
        have h2 := HOK.out.2.1 (by omega)
        have h3 := HOK.out.2.2.1 (by omega)
        unfold rngErr at h2 h3
        simp only [] at h2 h3
        constructor
        · split at h2
          · omega
          · split at h2
            · omega
            · omega
        · split at h3
          · omega
          · split at h3
            · omega
            · omega
      have HF : Aside0 (res = (2 * t + 1, links, 0)) := ⟨by
        have he : err = 0 := by
          rw [HE.out, if_neg (by rw [HOK.out.1 (by omega)]; decide), if_neg (by rw [HOK.out.2.1 (by omega)]; decide), if_neg (by rw [HOK.out.2.2.1 (by omega)]; decide), if_neg (by rw [HOK.out.2.2.2.1 (by omega)]; decide)]
          exact HOK.out.2.2.2.2 (by omega)
        rw [HRS.out, if_pos he]⟩
      clear HRS HE HOK
      have hm0 := mul_small p0 s0 (by omega) (by omega)
      have hm1 := mul_small p1 s1 (by omega) (by omega)
      have hq0 := quo_small (p0 * s0) (by omega)
      have hq1 := quo_small (p1 * s1 + 1000000 - 1) (by omega)
      generalize hM0 : p0 * s0 = m0 at hm0 hq0 HL0
      generalize hM1 : p1 * s1 = m1 at hm1 hq1 HL0
      generalize hQ0 : Int.tdiv m0 1000000 = d0 at hq0 HL0
      generalize hQ1 : Int.tdiv (m1 + 1000000 - 1) 1000000 = d1 at hq1 HL0
      have n1 : IntKind.i64.wrap m0 = m0 := IntWalk.i64_in _ (by omega)
      have n2 : IntKind.i64.wrap d0 = d0 := IntWalk.i64_in _ (by omega)
      have n3 : IntKind.i64.wrap (p0 + d0) = p0 + d0 := IntWalk.i64_in _ (by omega)
      have n4 : IntKind.i64.wrap m1 = m1 := IntWalk.i64_in _ (by omega)
      have n5 : IntKind.i64.wrap (m1 + 1000000) = m1 + 1000000 := IntWalk.i64_in _ (by omega)
      have n6 : IntKind.i64.wrap (m1 + 1000000 - 1) = m1 + 1000000 - 1 := IntWalk.i64_in _ (by omega)
      have n7 : IntKind.i64.wrap d1 = d1 := IntWalk.i64_in _ (by omega)
      have n8 : IntKind.i64.wrap (p1 + d1) = p1 + d1 := IntWalk.i64_in _ (by omega)
      obtain ⟨m, rfl⟩ : ∃ m : Nat, t = m := ⟨t.toNat, by omega⟩
      have n9 : IntKind.i64.wrap (2 * (m : Int)) = 2 * (m : Int) := IntWalk.i64_in _ (by omega)
      have n10 : IntKind.i64.wrap (2 * (m : Int) + 1) = 2 * (m : Int) + 1 := IntWalk.i64_in _ (by omega)
      have hlt : ¬ ((5 : Nat) : Int) < 5 := by omega
      have c0 : wr.cell? ⟨g1, 0, none⟩ = some (.int .i64 m) := (blk_cell HM.out.second 0).trans rfl
      have d3 : wr.cell? ⟨g1, 3, none⟩ = some (.int .i64 p0) := (blk_cell HM.out.second 3).trans rfl
      have d4 : wr.cell? ⟨g1, 4, none⟩ = some (.int .i64 p1) := (blk_cell HM.out.second 4).trans rfl
      have d5 : wr.cell? ⟨g1, 5, none⟩ = some (.int .i64 s0) := (blk_cell HM.out.second 5).trans rfl
      have d6 : wr.cell? ⟨g1, 6, none⟩ = some (.int .i64 s1) := (blk_cell HM.out.second 6).trans rfl
      go_wp2_with (first
        | ((with_reducible refine gate_dst (N := 6) rfl ?_); refine ev_new HM.out rfl 32 rfl info32a ?_; intro g6 W3 hm3 hq1; clear hq1; have HM3 := Aside0.mk hm3; clear hm3 HM)
        | ((with_reducible refine gate_store (t := 32) (p := 6) rfl ?_); refine ev_store HM3.out rfl 32 (.tmp 6) (.tmp 86) rfl rfl (cs := #[.int .i64 (p0 + d0), .int .i64 (p1 + d1)]) rfl size32 rfl rfl (by simp [Value.oneCell']) ?_; intro W4 hm4 hq1; clear hq1; have HM4 := Aside0.mk hm4; clear hm4 HM3; have k0 : W4.cell? ⟨g1, 0, none⟩ = some (.int .i64 m) := (blk_cell HM4.out.third 0).trans rfl)
        | ((with_reducible refine gate_dst (N := 7) rfl ?_); refine ev_new HM4.out rfl 27 rfl info27 ?_; intro g7 W5 hm5 hq1; clear hq1; have HM5 := Aside0.mk hm5; clear hm5 HM4 k0)
        | ((with_reducible refine gate_store (t := 27) (p := 7) rfl ?_); refine ev_store HM5.out rfl 27 (.tmp 7) (.tmp 91) rfl rfl (cs := #[.int .i64 (2 * (m : Int) + 1), .slice none 0 0]) rfl size27 rfl rfl (by simp [Value.oneCell']) ?_; intro W6 hm6 hq1; clear hq1; have HW6 : Aside0 (WN w W6 g7 (2 * (m : Int) + 1) (.slice none 0 0) [] [(g6, #[.int .i64 (p0 + d0), .int .i64 (p1 + d1)], 32), (g2, #[.int .i64 0, .slice none 0 0], 27), (g1, #[.int .i64 m, .int .i64 w0, .int .i64 w1, .int .i64 p0, .int .i64 p1, .int .i64 s0, .int .i64 s1, .int .i64 f0, .int .i64 f1, .int .i64 l0, .int .i64 l1], 72)]) := ⟨⟨hm6, Kd.R_nil _ _ _ _ _, by simp⟩⟩; clear hm6 HM5; have k7 : W6.cell? ⟨g1, 7, none⟩ = some (.int .i64 f0) := (blk_cell (HW6.out.mem.blk (g1, _, 72) (by simp; rfl)) 7).trans rfl; have k8 : W6.cell? ⟨g1, 8, none⟩ = some (.int .i64 f1) := (blk_cell (HW6.out.mem.blk (g1, _, 72) (by simp; rfl)) 8).trans rfl)
        | (go_at_call 105; refine (link_calls HW6.out 0 1 f0 f1 (by simp)).mono ?_; rintro e W7 ⟨rfl, vl7, hC7⟩; have HW7 := Aside0.mk hC7; clear hC7 HW6 k7 k8))
      clear c0 d3 d4 d5 d6 n1 n2 n3 n4 n5 n6 n7 n8 n9 n10 hlt
      go_loopg [9] m (fun k v9 w' => ∃ (j : Nat), v9 = .int .i64 (2 * (j : Int) + 1) ∧ Aside0 (j + k = m) ∧ Aside0 (∃ vl, WN w w' g7 (2 * (m : Int) + 1) vl (windTo ⟨f0, f1⟩ ⟨w0, w1⟩ ⟨p0 + d0, p1 + d1⟩ j) [(g6, #[.int .i64 (p0 + d0), .int .i64 (p1 + d1)], 32), (g2, #[.int .i64 0, .slice none 0 0], 27), (g1, #[.int .i64 m, .int .i64 w0, .int .i64 w1, .int .i64 p0, .int .i64 p1, .int .i64 s0, .int .i64 s1, .int .i64 f0, .int .i64 f1, .int .i64 l0, .int .i64 l1], 72)]))
      case atStart => exact ⟨0, rfl, ⟨by omega⟩, ⟨vl7, HW7.out⟩⟩
      case round =>
        clear HW7
        obtain ⟨j, rfl, HK, HX⟩ := hrel
        obtain ⟨vl, hW⟩ := HX.out
        have HW := Aside0.mk hW
        clear HX hW
        have cP : wr.cell? ⟨g7, 0, none⟩ = some (.int .i64 (2 * (m : Int) + 1)) := HW.out.cellP
        have hlen := windTo_length ⟨f0, f1⟩ ⟨w0, w1⟩ ⟨p0 + d0, p1 + d1⟩ j
        have hjm : j ≤ m := by have := HK.out; omega
        have HLEN := Aside0.mk hlen
        clear hlen
        by_cases hj : j < m
        · have j1 : decide (2 * (j : Int) + 1 < 2 * (m : Int) + 1) = true := decide_eq_true (by omega)
          have a1 : IntKind.i64.wrap (2 * (j : Int) + 1 + 1) = 2 * (j : Int) + 2 := by rw [IntWalk.i64_in _ (by omega)]; omega
          have a2 : IntKind.i64.wrap (2 * (j : Int) + 1 + 2) = 2 * ((j + 1 : Nat) : Int) + 1 := by rw [IntWalk.i64_in _ (by omega)]; omega
          have a3 : IntKind.i64.wrap (2 * (j : Int) + 1 - 2) = 2 * (j : Int) - 1 := by rw [IntWalk.i64_in _ (by omega)]; omega
          have k1 : wr.cell? ⟨g1, 1, none⟩ = some (.int .i64 w0) := (blk_cell (HW.out.mem.blk (g1, _, 72) (by simp; rfl)) 1).trans rfl
          have k2 : wr.cell? ⟨g1, 2, none⟩ = some (.int .i64 w1) := (blk_cell (HW.out.mem.blk (g1, _, 72) (by simp; rfl)) 2).trans rfl
          by_cases hj0 : 0 < j
          · have j2 : decide (1 < 2 * (j : Int) + 1) = true := decide_eq_true (by omega)
            go_wp2_with (first
              | (go_at_call 105; refine (link_calls HW.out (2 * (j : Int) + 1) (2 * (j : Int) + 2) w0 w1 (by have := HLEN.out; omega)).mono ?_; rintro e W8 ⟨rfl, vl8, hC8⟩; have HW8 := Aside0.mk hC8; have k6 : W8.cell? ⟨g6, 0, none⟩ = some (.int .i64 (p0 + d0)) := (blk_cell HW8.out.mem.second 0).trans rfl; have k6b : W8.cell? ⟨g6, 1, none⟩ = some (.int .i64 (p1 + d1)) := (blk_cell HW8.out.mem.second 1).trans rfl; clear hC8 HW k1 k2 cP)
              | (go_at_call 105; refine (link_calls HW8.out (2 * (j : Int) - 1) (2 * (j : Int) + 1) (p0 + d0) (p1 + d1) (by rw [List.length_append]; have := HLEN.out; simp; omega)).mono ?_; rintro e W9 ⟨rfl, vl9, hC9⟩; have HW9 := Aside0.mk hC9; clear hC9 HW8 k6 k6b))
            go_roundg (m - (j + 1))
            case measure => have := HK.out; omega
            case rel => exact ⟨j + 1, rfl, ⟨by omega⟩, ⟨vl9, by rw [windTo, if_pos hj0]; exact HW9.out⟩⟩
          · have j2 : ¬ 1 < 2 * (j : Int) + 1 := by omega
            go_wp2_with (first
              | (go_at_call 105; refine (link_calls HW.out (2 * (j : Int) + 1) (2 * (j : Int) + 2) w0 w1 (by have := HLEN.out; omega)).mono ?_; rintro e W8 ⟨rfl, vl8, hC8⟩; have HW8 := Aside0.mk hC8; clear hC8 HW k1 k2 cP))
            go_roundg (m - (j + 1))
            case measure => have := HK.out; omega
            case rel => exact ⟨j + 1, rfl, ⟨by omega⟩, ⟨vl8, by rw [windTo, if_neg hj0, List.append_nil]; exact HW8.out⟩⟩
        · obtain rfl : j = m := by omega
          have j1 : ¬ (2 * (j : Int) + 1 < 2 * (j : Int) + 1) := by omega
          have a1 : IntKind.i64.wrap (2 * (j : Int) + 1 - 1) = 2 * (j : Int) := by rw [IntWalk.i64_in _ (by omega)]; omega
          have k0 : wr.cell? ⟨g1, 0, none⟩ = some (.int .i64 j) := (blk_cell (HW.out.mem.blk (g1, _, 72) (by simp; rfl)) 0).trans rfl
          have k9 : wr.cell? ⟨g1, 9, none⟩ = some (.int .i64 l0) := (blk_cell (HW.out.mem.blk (g1, _, 72) (by simp; rfl)) 9).trans rfl
          have k10 : wr.cell? ⟨g1, 10, none⟩ = some (.int .i64 l1) := (blk_cell (HW.out.mem.blk (g1, _, 72) (by simp; rfl)) 10).trans rfl
          have HL1 := HL0.out
          rw [Int.toNat_natCast] at HL1
          by_cases h1 : 1 < (j : Int)
          · rw [if_pos h1] at HL1
            have HL2 := Aside0.mk HL1
            clear HL1 HL0
            go_wp2_with (first
              | (go_at_call 105; refine (link_calls HW.out 1 (2 * (j : Int)) l0 l1 (by have := HLEN.out; omega)).mono ?_; rintro e W8 ⟨rfl, vl8, hC8⟩; rw [← HL2.out] at hC8; obtain ⟨AF, nF, eF⟩ := Kd.R_slice hC8.rl; subst eF; have HW8 := Aside0.mk hC8; clear hC8 HW k0 k9 k10 cP)
              | ((with_reducible refine gate_dst (N := 128) rfl ?_); refine ev_load HW8.out.mem.head rfl 27 (.tmp 7) rfl rfl _ Try.underlying27 rfl size27 rfl ?_)
              | ((with_reducible refine gate_store (t := 27) (p := 2) rfl ?_); refine ev_storeW HW8.out.mem.drop.drop rfl 27 (.tmp 2) (.tmp 128) rfl rfl (cs := #[.int .i64 (2 * (j : Int) + 1), .slice AF links.length nF]) rfl size27 rfl rfl (by simp [Value.oneCell']) ?_; intro hm9; have HM9 := Aside0.mk hm9; have HR9 := Aside0.mk (HW8.out.final (cs := #[.int .i64 (2 * (j : Int) + 1), .slice AF links.length nF]) HW8.out.mem.drop.drop.head); clear hm9))
            refine bodyPost_ret (results_row_tmp rfl _ _ _ _ _ _ _ rfl HM9.out.head Try.underlying27 rfl size27) rfl ?_
            rw [HF.out]
            exact ⟨_, rfl, HR9.out, HM9.out.below⟩
          · rw [if_neg h1, List.append_nil] at HL1
            rw [← HL1] at HW
            obtain ⟨AF, nF, eF⟩ := Kd.R_slice HW.out.rl
            subst eF
            clear HL1 HL0
            go_wp2_with (first
              | ((with_reducible refine gate_dst (N := 128) rfl ?_); refine ev_load HW.out.mem.head rfl 27 (.tmp 7) rfl rfl _ Try.underlying27 rfl size27 rfl ?_)
              | ((with_reducible refine gate_store (t := 27) (p := 2) rfl ?_); refine ev_storeW HW.out.mem.drop.drop rfl 27 (.tmp 2) (.tmp 128) rfl rfl (cs := #[.int .i64 (2 * (j : Int) + 1), .slice AF links.length nF]) rfl size27 rfl rfl (by simp [Value.oneCell']) ?_; intro hm9; have HM9 := Aside0.mk hm9; have HR9 := Aside0.mk (HW.out.final (cs := #[.int .i64 (2 * (j : Int) + 1), .slice AF links.length nF]) HW.out.mem.drop.drop.head); clear hm9))
            refine bodyPost_ret (results_row_tmp rfl _ _ _ _ _ _ _ rfl HM9.out.head Try.underlying27 rfl size27) rfl ?_
            rw [HF.out]
            exact ⟨_, rfl, HR9.out, HM9.out.below⟩
theorem mount_Wind.calls (a0_0 : Int) (a0_1 : Int) (a0_2 : Int) (a0_3 : Int) (a0_4 : Int) (a0_5 : Int) (a0_6 : Int) (a0_7 : Int) (a0_8 : Int) (a0_9 : Int) (a0_10 : Int) (r1 : Int) (r2 : List (S35)) (r3 : Int) (w : World) (h : mount_Wind.f a0_0 a0_1 a0_2 a0_3 a0_4 a0_5 a0_6 a0_7 a0_8 a0_9 a0_10 = some (r1, r2, r3)) :
    Calls Try.prog 45 #[.agg #[.int .i64 a0_0, .int .i64 a0_1, .int .i64 a0_2, .int .i64 a0_3, .int .i64 a0_4, .int .i64 a0_5, .int .i64 a0_6, .int .i64 a0_7, .int .i64 a0_8, .int .i64 a0_9, .int .i64 a0_10]] w fun e w' => ∃ v1_ : Value, e = .returned (.tuple #[.agg #[.int .i64 r1, v1_], .int .i64 r3]) ∧ Kd.R k35 35 w' w.heap.size (fun _ => True) v1_ r2 ∧ Below w.heap.size w w' := by
  have h2 := wind_calls a0_0 a0_1 a0_2 a0_3 a0_4 a0_5 a0_6 a0_7 a0_8 a0_9 a0_10 w
  rw [Option.some.inj h] at h2
  exact h2
end Go.Proofs.Ytbcfphoheijmdaa.Print
end

section
/- What the Go function thermionlaw04_MountWinds does, as a Lean function, and that its call does so. Printed by a program of this work out of the translation. -/
namespace Go.Proofs.Ytbcfphoheijmdaa.Print
open Go.RowKit Go.Proofs.YtbcfphoheijmdaaW.PrintWords Go.Proofs.YtbcfphoheijmdaaW.PrintLast Go.Proofs.YtbcfphoheijmdaaW.PrintMore
attribute [local go_sem] max2_int min2_int max_two min_two max_three min_three max_four min_four
set_option linter.unusedVariables false
set_option linter.unusedSimpArgs false

/-! ### thermionlaw04_MountWinds: function 7 -/
def thermionlaw04_MountWinds.l0 : Nat → List (S72) → Int → Option (Bool)
 | 0, _, _ => none
 | k + 1, x5, x6 => if x6 < (x5.length : Int) then (if 0 ≤ x6 then ((mount_Wind.f ((rd_T72 x5 x6).f0) ((rd_T72 x5 x6).f1.f0) ((rd_T72 x5 x6).f1.f1) ((rd_T72 x5 x6).f2.f0) ((rd_T72 x5 x6).f2.f1) ((rd_T72 x5 x6).f3.f0) ((rd_T72 x5 x6).f3.f1) ((rd_T72 x5 x6).f4.f0) ((rd_T72 x5 x6).f4.f1) ((rd_T72 x5 x6).f5.f0) ((rd_T72 x5 x6).f5.f1)).bind fun bt503 => ((thermionref04_Wind.f k ((rd_T72 x5 x6).f0) ((rd_T72 x5 x6).f1.f0) ((rd_T72 x5 x6).f1.f1) ((rd_T72 x5 x6).f2.f0) ((rd_T72 x5 x6).f2.f1) ((rd_T72 x5 x6).f3.f0) ((rd_T72 x5 x6).f3.f1) ((rd_T72 x5 x6).f4.f0) ((rd_T72 x5 x6).f4.f1) ((rd_T72 x5 x6).f5.f0) ((rd_T72 x5 x6).f5.f1)).bind fun bt510 => (if bt503.2.2 = bt510.2.2 then ((thermionlaw04_sameChain.f k bt503.1 bt503.2.1 bt510.1 bt510.2.1).bind fun t516 => (if t516 = true then (thermionlaw04_MountWinds.l0 k x5 (wrap64 (x6 + 1))) else (some false))) else (some false)))) else (none)) else ((thermionlaw04_awake.f k).bind fun t501 => (some t501))
def thermionlaw04_MountWinds.f (k : Nat) (a0_0 : Int) (a0_1 : Int) (a0_2 : Int) (a0_3 : Int) (a0_4 : Int) (a0_5 : Int) (a0_6 : Int) (a0_7 : Int) (a0_8 : Int) (a0_9 : Int) (a0_10 : Int) (l1 : List Int) : Option (Bool) := (thermionkit_NewDice.f l1).bind fun t484 => ((thermionkit_WindingOf.f t484).bind fun bt486 => (thermionlaw04_MountWinds.l0 k (([(⟨a0_0, (⟨a0_1, a0_2⟩ : S32), (⟨a0_3, a0_4⟩ : S32), (⟨a0_5, a0_6⟩ : S32), (⟨a0_7, a0_8⟩ : S32), (⟨a0_9, a0_10⟩ : S32)⟩ : S72), (⟨bt486.1, (⟨bt486.2.1, bt486.2.2.1⟩ : S32), (⟨bt486.2.2.2.1, bt486.2.2.2.2.1⟩ : S32), (⟨bt486.2.2.2.2.2.1, bt486.2.2.2.2.2.2.1⟩ : S32), (⟨bt486.2.2.2.2.2.2.2.1, bt486.2.2.2.2.2.2.2.2.1⟩ : S32), (⟨bt486.2.2.2.2.2.2.2.2.2.1, bt486.2.2.2.2.2.2.2.2.2.2.1⟩ : S32)⟩ : S72)] : List (S72))) 0))
theorem thermionlaw04_MountWinds.mono_l : ∀ k, (∀ y0 y1, LeO (thermionlaw04_MountWinds.l0 k y0 y1) (thermionlaw04_MountWinds.l0 (k + 1) y0 y1))
 | 0 => fun _ _ r h => by simp [thermionlaw04_MountWinds.l0] at h
 | k + 1 => by
  have ih0 := thermionlaw04_MountWinds.mono_l k
  ·intro y0 y1
   unfold thermionlaw04_MountWinds.l0
   repeat' first
   | (with_reducible exact ih0 _ _)
   | (with_reducible exact thermionlaw04_awake.mono _)
   | (with_reducible exact thermionlaw04_sameChain.mono _ _ _ _ _)
   | (with_reducible exact thermionref04_Wind.mono _ _ _ _ _ _ _ _ _ _ _ _)
   | (with_reducible exact LeO.refl _)
   | (with_reducible exact LeO.none _)
   | (with_reducible refine LeO.ite ?_ ?_)
   | (with_reducible refine LeO.bind ?_ (fun _ => ?_))
   | exact ih0 _ _
   | exact thermionlaw04_awake.mono _
   | exact thermionlaw04_sameChain.mono _ _ _ _ _
   | exact thermionref04_Wind.mono _ _ _ _ _ _ _ _ _ _ _ _
   | exact LeO.none _
   | refine LeO.ite ?_ ?_
   | refine LeO.bind ?_ (fun _ => ?_)
theorem thermionlaw04_MountWinds.mono : ∀ a0 a1 a2 a3 a4 a5 a6 a7 a8 a9 a10 a11 k, LeO (thermionlaw04_MountWinds.f k a0 a1 a2 a3 a4 a5 a6 a7 a8 a9 a10 a11) (thermionlaw04_MountWinds.f (k + 1) a0 a1 a2 a3 a4 a5 a6 a7 a8 a9 a10 a11) := by
 intro a0 a1 a2 a3 a4 a5 a6 a7 a8 a9 a10 a11 k
 have ih0 := thermionlaw04_MountWinds.mono_l k
 unfold thermionlaw04_MountWinds.f
 repeat' first
   | (with_reducible exact ih0 _ _)
   | (with_reducible exact thermionlaw04_awake.mono _)
   | (with_reducible exact thermionlaw04_sameChain.mono _ _ _ _ _)
   | (with_reducible exact thermionref04_Wind.mono _ _ _ _ _ _ _ _ _ _ _ _)
   | (with_reducible exact LeO.refl _)
   | (with_reducible exact LeO.none _)
   | (with_reducible refine LeO.ite ?_ ?_)
   | (with_reducible refine LeO.bind ?_ (fun _ => ?_))
   | exact ih0 _ _
   | exact thermionlaw04_awake.mono _
   | exact thermionlaw04_sameChain.mono _ _ _ _ _
   | exact thermionref04_Wind.mono _ _ _ _ _ _ _ _ _ _ _ _
   | exact LeO.none _
   | refine LeO.ite ?_ ?_
   | refine LeO.bind ?_ (fun _ => ?_)
set_option maxHeartbeats 8000000 in
set_option maxRecDepth 100000 in
theorem thermionlaw04_MountWinds.calls (k : Nat) (a0_0 : Int) (a0_1 : Int) (a0_2 : Int) (a0_3 : Int) (a0_4 : Int) (a0_5 : Int) (a0_6 : Int) (a0_7 : Int) (a0_8 : Int) (a0_9 : Int) (a0_10 : Int) (A1 : Option Addr) (c1 : Nat) (l1 : List Int) (r : Bool) (w : World) (hr1 : Kd.C (Kd.int .i64) w A1 l1.length l1) (hc1 : l1.length ≤ c1) (h : thermionlaw04_MountWinds.f k a0_0 a0_1 a0_2 a0_3 a0_4 a0_5 a0_6 a0_7 a0_8 a0_9 a0_10 l1 = some r) :
  Calls Try.prog 7 #[.agg #[.int .i64 a0_0, .int .i64 a0_1, .int .i64 a0_2, .int .i64 a0_3, .int .i64 a0_4, .int .i64 a0_5, .int .i64 a0_6, .int .i64 a0_7, .int .i64 a0_8, .int .i64 a0_9, .int .i64 a0_10], .slice A1 l1.length c1] w fun e w' => e = .returned (.bool r) ∧ Below w.heap.size w w' := by
 have hu72 := Try.underlying72
 have hu27 := Try.underlying27
 have HR1 := Aside0.mk hr1
 have HC1 := Aside0.mk hc1
 clear hr1 hc1
 have HB := Aside0.mk (Below.refl w.heap.size w)
 have H : ((thermionkit_NewDice.f l1).bind fun t484 => ((thermionkit_WindingOf.f t484).bind fun bt486 => (thermionlaw04_MountWinds.l0 k (([(⟨a0_0, (⟨a0_1, a0_2⟩ : S32), (⟨a0_3, a0_4⟩ : S32), (⟨a0_5, a0_6⟩ : S32), (⟨a0_7, a0_8⟩ : S32), (⟨a0_9, a0_10⟩ : S32)⟩ : S72), (⟨bt486.1, (⟨bt486.2.1, bt486.2.2.1⟩ : S32), (⟨bt486.2.2.2.1, bt486.2.2.2.2.1⟩ : S32), (⟨bt486.2.2.2.2.2.1, bt486.2.2.2.2.2.2.1⟩ : S32), (⟨bt486.2.2.2.2.2.2.2.1, bt486.2.2.2.2.2.2.2.2.1⟩ : S32), (⟨bt486.2.2.2.2.2.2.2.2.2.1, bt486.2.2.2.2.2.2.2.2.2.2.1⟩ : S32)⟩ : S72)] : List (S72))) 0))) = some r := h
 clear h
 replace H := Option.bind_eq_some_iff.mp H
 obtain ⟨t484, A30, H⟩ := H
 replace H : ((thermionkit_WindingOf.f t484).bind fun bt486 => (thermionlaw04_MountWinds.l0 k (([(⟨a0_0, (⟨a0_1, a0_2⟩ : S32), (⟨a0_3, a0_4⟩ : S32), (⟨a0_5, a0_6⟩ : S32), (⟨a0_7, a0_8⟩ : S32), (⟨a0_9, a0_10⟩ : S32)⟩ : S72), (⟨bt486.1, (⟨bt486.2.1, bt486.2.2.1⟩ : S32), (⟨bt486.2.2.2.1, bt486.2.2.2.2.1⟩ : S32), (⟨bt486.2.2.2.2.2.1, bt486.2.2.2.2.2.2.1⟩ : S32), (⟨bt486.2.2.2.2.2.2.2.1, bt486.2.2.2.2.2.2.2.2.1⟩ : S32), (⟨bt486.2.2.2.2.2.2.2.2.2.1, bt486.2.2.2.2.2.2.2.2.2.2.1⟩ : S32)⟩ : S72)] : List (S72))) 0)) = some r := H
 have A3 := Aside0.mk A30
 clear A30
 replace H := Option.bind_eq_some_iff.mp H
 obtain ⟨⟨t486, t487, t488, t489, t490, t491, t492, t493, t494, t495, t496, t497⟩, A40, H⟩ := H
 replace H : (thermionlaw04_MountWinds.l0 k (([(⟨a0_0, (⟨a0_1, a0_2⟩ : S32), (⟨a0_3, a0_4⟩ : S32), (⟨a0_5, a0_6⟩ : S32), (⟨a0_7, a0_8⟩ : S32), (⟨a0_9, a0_10⟩ : S32)⟩ : S72), (⟨t486, (⟨t487, t488⟩ : S32), (⟨t489, t490⟩ : S32), (⟨t491, t492⟩ : S32), (⟨t493, t494⟩ : S32), (⟨t495, t496⟩ : S32)⟩ : S72)] : List (S72))) 0) = some r := H
 have A4 := Aside0.mk A40
 clear A40
 obtain ⟨y498, hy498⟩ : ∃ y_ : List (S72), y_ = (([(⟨a0_0, (⟨a0_1, a0_2⟩ : S32), (⟨a0_3, a0_4⟩ : S32), (⟨a0_5, a0_6⟩ : S32), (⟨a0_7, a0_8⟩ : S32), (⟨a0_9, a0_10⟩ : S32)⟩ : S72), (⟨t486, (⟨t487, t488⟩ : S32), (⟨t489, t490⟩ : S32), (⟨t491, t492⟩ : S32), (⟨t493, t494⟩ : S32), (⟨t495, t496⟩ : S32)⟩ : S72)] : List (S72))) := ⟨_, rfl⟩
 replace H : (thermionlaw04_MountWinds.l0 k y498 0) = some r := by first | (rw [hy498]; with_reducible exact H) | (have H2_ := (Option.bind_some _ _).symm.trans H; rw [hy498]; with_reducible exact H2_) | (have H2_ := (Option.bind_some _ _).symm.trans H; with_reducible exact H2_) | with_reducible exact H | (rw [hy498]; exact H) | exact H
 have Ny498 := Aside0.mk hy498
 clear hy498
 have H' := Aside0.mk H
 clear H
 go_enter Try.func7, Try.ntmps7
 try go_wp2_with (first | ((with_reducible refine gate_dst (N := 2) rfl ?_); refine box_event ?hg (N := 2) ?hd (cs := #[.int .i64 a0_0, .int .i64 a0_1, .int .i64 a0_2, .int .i64 a0_3, .int .i64 a0_4, .int .i64 a0_5, .int .i64 a0_6, .int .i64 a0_7, .int .i64 a0_8, .int .i64 a0_9, .int .i64 a0_10]) (t := 72) ?hr ?_; (case hd => rfl); (case hg => rfl); (case hr => first | (go_simp; done) | (go_simp; rfl)); intro gb483 hg w5 hbox hb; have n0_ := Aside0.mk (below_step (by repeat (first | (with_reducible first | exact HB.out | apply below_alloc | apply pw_below_drewN | apply below_drew1) | exact HB.out)) hb); have n1_ := Aside0.mk (hbox); have n2_ := Aside0.mk ((by rw [hg]; exact (below_size (by repeat (first | (with_reducible first | exact HB.out | apply below_alloc | apply pw_below_drewN | apply below_drew1) | exact HB.out))) : w.heap.size ≤ gb483)); have n3_ := Aside0.mk ((by rw [hg]; exact (below_size (by repeat (first | (with_reducible first | exact HB.out | apply below_alloc | apply pw_below_drewN | apply below_drew1) | exact HB.out))) : w.heap.size ≤ gb483)); clear HB; have HB := n0_; have BK483 := n1_; have GW483 := n2_; have GE483 := n3_; clear n0_ n1_ n2_ n3_; clear hb hbox hg))
 have n0_ := Aside0.mk (blk_drew BK483.out)
 have n1_ := Aside0.mk (below_drew1 HB.out)
 clear BK483
 clear HB
 have BK483 := n0_
 have HB := n1_
 clear n0_ n1_
 refine start_ (n := 6) (S := fun w' => w'.cell? ⟨gb483, 0, none⟩ = some (.int .i64 a0_0) ∧ w'.cell? ⟨gb483, 1, none⟩ = some (.int .i64 a0_1) ∧ w'.cell? ⟨gb483, 2, none⟩ = some (.int .i64 a0_2) ∧ w'.cell? ⟨gb483, 3, none⟩ = some (.int .i64 a0_3) ∧ w'.cell? ⟨gb483, 4, none⟩ = some (.int .i64 a0_4) ∧ w'.cell? ⟨gb483, 5, none⟩ = some (.int .i64 a0_5) ∧ w'.cell? ⟨gb483, 6, none⟩ = some (.int .i64 a0_6) ∧ w'.cell? ⟨gb483, 7, none⟩ = some (.int .i64 a0_7) ∧ w'.cell? ⟨gb483, 8, none⟩ = some (.int .i64 a0_8) ∧ w'.cell? ⟨gb483, 9, none⟩ = some (.int .i64 a0_9) ∧ w'.cell? ⟨gb483, 10, none⟩ = some (.int .i64 a0_10)) (ds := []) #[false, false, false, false, false, false] (by kernel_rfl) rfl rfl ⟨(blk_cell BK483.out 0).trans rfl, (blk_cell BK483.out 1).trans rfl, (blk_cell BK483.out 2).trans rfl, (blk_cell BK483.out 3).trans rfl, (blk_cell BK483.out 4).trans rfl, (blk_cell BK483.out 5).trans rfl, (blk_cell BK483.out 6).trans rfl, (blk_cell BK483.out 7).trans rfl, (blk_cell BK483.out 8).trans rfl, (blk_cell BK483.out 9).trans rfl, (blk_cell BK483.out 10).trans rfl⟩ (fun hHeld => ?_)
 generalize w5.drew = w6 at BK483 HB hHeld ⊢
 refine pure_ (i := 1) (N := some 12) (v := ?_) (a' := ?_) #[false, true, false, false, false, false] rfl rfl (by kernel_rfl) (fun _ _ _ h => h) (Or.inl ⟨by rfl, ?_⟩) ?_ ?_
 rotate_left
 ·intro w'
  go_simp
  with_reducible rfl
 rotate_left
 ·simp only [Act.put, List.setIfInBounds_toArray, List.set_cons_zero, List.set_cons_succ, i64_w, i32_w]
  rfl
 refine take_ (i := 0) (N := some 11) (v := ?_) (a' := ?_) #[true, true, false, false, false, false] rfl rfl (by kernel_rfl) (fun _ _ _ h => h) (Or.inl ⟨by rfl, ?_⟩) hHeld ?_ ?_
 rotate_left
 ·rintro w' ⟨s0, s1, s2, s3, s4, s5, s6, s7, s8, s9, s10⟩
  go_simp
  with_reducible rfl
 rotate_left
 ·simp only [Act.put, List.setIfInBounds_toArray, List.set_cons_zero, List.set_cons_succ, i64_w, i32_w]
  rfl
 refine one_ (i := 2) (N := some 13) #[true, true, true, false, false, false] rfl rfl (by kernel_rfl) (by decide) (fun K hK => ?_)
 refine goes_ Try.func19 (by kernel_rfl) rfl #[.slice A1 l1.length c1] (by rfl) rfl rfl (by (try simp only [List.map_toArray, List.map_cons, List.map_nil]); first | done | rfl | (simp only [List.length_drop, List.length_take]; rfl)) ?_
 with_reducible refine (thermionkit_NewDice.calls _ _ l1 t484 w _ ?side1 ?side2 ?side3 A3.out).mono ?_
 (case side1 => repeat (first | (with_reducible first | exact HB.out | apply below_alloc | apply pw_below_drewN | apply below_drew1 | refine below_set ?_ GE483.out) | exact HB.out))
 (case side2 => exact HR1.out)
 (case side3 => exact HC1.out)
 rintro e w7 ⟨g485, rfl, hi, hb, hb2⟩
 refine ⟨_, rfl, ?_⟩
 have n0_ := Aside0.mk (blk_below (g := gb483) (o := .cells #[.int .i64 a0_0, .int .i64 a0_1, .int .i64 a0_2, .int .i64 a0_3, .int .i64 a0_4, .int .i64 a0_5, .int .i64 a0_6, .int .i64 a0_7, .int .i64 a0_8, .int .i64 a0_9, .int .i64 a0_10] 72 (0, 0)) (by (with_reducible repeat (first | refine blk_drewN ?_ _ | refine blk_drew ?_ | refine blk_alloc ?_ _)); exact BK483.out) hb2)
 have n1_ := Aside0.mk (hb)
 have n2_ := Aside0.mk (hi)
 have n3_ := Aside0.mk (IsS118.ne_blk hi (blk_below (g := gb483) (o := .cells #[.int .i64 a0_0, .int .i64 a0_1, .int .i64 a0_2, .int .i64 a0_3, .int .i64 a0_4, .int .i64 a0_5, .int .i64 a0_6, .int .i64 a0_7, .int .i64 a0_8, .int .i64 a0_9, .int .i64 a0_10] 72 (0, 0)) (by (with_reducible repeat (first | refine blk_drewN ?_ _ | refine blk_drew ?_ | refine blk_alloc ?_ _)); exact BK483.out) hb2) (by decide))
 have n4_ := Aside0.mk (Ne.symm (IsS118.ne_blk hi (blk_below (g := gb483) (o := .cells #[.int .i64 a0_0, .int .i64 a0_1, .int .i64 a0_2, .int .i64 a0_3, .int .i64 a0_4, .int .i64 a0_5, .int .i64 a0_6, .int .i64 a0_7, .int .i64 a0_8, .int .i64 a0_9, .int .i64 a0_10] 72 (0, 0)) (by (with_reducible repeat (first | refine blk_drewN ?_ _ | refine blk_drew ?_ | refine blk_alloc ?_ _)); exact BK483.out) hb2) (by decide)))
 clear BK483
 clear HB
 have BK483 := n0_
 have HB := n1_
 have HI485 := n2_
 have NB485_483 := n3_
 have NB483_485 := n4_
 clear n0_ n1_ n2_ n3_ n4_
 (try clear hb)
 (try clear hb2)
 (try clear hk)
 (try clear hi)
 refine hK.out _ _ ⟨(blk_cell BK483.out 0).trans rfl, (blk_cell BK483.out 1).trans rfl, (blk_cell BK483.out 2).trans rfl, (blk_cell BK483.out 3).trans rfl, (blk_cell BK483.out 4).trans rfl, (blk_cell BK483.out 5).trans rfl, (blk_cell BK483.out 6).trans rfl, (blk_cell BK483.out 7).trans rfl, (blk_cell BK483.out 8).trans rfl, (blk_cell BK483.out 9).trans rfl, (blk_cell BK483.out 10).trans rfl⟩ (fun hHeld => ?_)
 clear hK K
 refine norm_ (a' := ?_) ?_ ?_
 rotate_left
 ·show Act.put _ (some 13) _ = _
  simp only [Act.put, List.setIfInBounds_toArray, List.set_cons_zero, List.set_cons_succ, i64_w, i32_w]
  rfl
 refine one_ (i := 3) (N := some 14) #[true, true, true, true, false, false] rfl rfl (by kernel_rfl) (by decide) (fun K hK => ?_)
 refine goes_ Try.func44 (by kernel_rfl) rfl #[.pointer (some ⟨g485, 0, none⟩)] (by rfl) rfl rfl (by (try simp only [List.map_toArray, List.map_cons, List.map_nil]); first | done | rfl | (simp only [List.length_drop, List.length_take]; rfl)) ?_
 with_reducible refine (thermionkit_WindingOf.calls g485 t484 t486 t487 t488 t489 t490 t491 t492 t493 t494 t495 t496 t497 w _ ?side1 ?side2 A4.out).mono ?_
 (case side1 => repeat (first | (with_reducible first | exact HI485.out | apply IsS118.alloc | apply IsS118.drewN | apply IsS118.drew | apply IsS118.set_0 | refine IsS118.far ?_ NB485_483.out _) | exact HI485.out))
 (case side2 => repeat (first | (with_reducible first | exact HB.out | apply below_alloc | apply pw_below_drewN | apply below_drew1 | refine below_set ?_ (IsS118.ge HI485.out) | refine below_set ?_ GE483.out) | exact HB.out))
 rintro e w8 ⟨rfl, hi, hb, hk⟩
 refine ⟨_, rfl, ?_⟩
 have n0_ := Aside0.mk (KeepBut.blk hk (g' := gb483) (o := .cells #[.int .i64 a0_0, .int .i64 a0_1, .int .i64 a0_2, .int .i64 a0_3, .int .i64 a0_4, .int .i64 a0_5, .int .i64 a0_6, .int .i64 a0_7, .int .i64 a0_8, .int .i64 a0_9, .int .i64 a0_10] 72 (0, 0)) (by (with_reducible repeat (first | refine blk_drewN ?_ _ | refine blk_drew ?_ | refine blk_alloc ?_ _)); exact BK483.out) NB483_485.out (by simp))
 have n1_ := Aside0.mk (hb)
 have n2_ := Aside0.mk (hi)
 clear BK483
 clear HB
 clear HI485
 have BK483 := n0_
 have HB := n1_
 have HI485 := n2_
 clear n0_ n1_ n2_
 (try clear hb)
 (try clear hb2)
 (try clear hk)
 (try clear hi)
 refine hK.out _ _ ⟨(blk_cell BK483.out 0).trans rfl, (blk_cell BK483.out 1).trans rfl, (blk_cell BK483.out 2).trans rfl, (blk_cell BK483.out 3).trans rfl, (blk_cell BK483.out 4).trans rfl, (blk_cell BK483.out 5).trans rfl, (blk_cell BK483.out 6).trans rfl, (blk_cell BK483.out 7).trans rfl, (blk_cell BK483.out 8).trans rfl, (blk_cell BK483.out 9).trans rfl, (blk_cell BK483.out 10).trans rfl⟩ (fun hHeld => ?_)
 clear hK K
 refine norm_ (a' := ?_) ?_ ?_
 rotate_left
 ·show Act.put _ (some 14) _ = _
  simp only [Act.put, List.setIfInBounds_toArray, List.set_cons_zero, List.set_cons_succ, i64_w, i32_w]
  rfl
 refine one_ (i := 4) (N := some 15) #[true, true, true, true, true, false] rfl rfl (by kernel_rfl) (by decide) (fun K hK => ?_)
 refine Kd.R_lit_step k72 _ 72 ?hg (N := 15) ?hd (xs := ([(⟨a0_0, (⟨a0_1, a0_2⟩ : S32), (⟨a0_3, a0_4⟩ : S32), (⟨a0_5, a0_6⟩ : S32), (⟨a0_7, a0_8⟩ : S32), (⟨a0_9, a0_10⟩ : S32)⟩ : S72), (⟨t486, (⟨t487, t488⟩ : S32), (⟨t489, t490⟩ : S32), (⟨t491, t492⟩ : S32), (⟨t493, t494⟩ : S32), (⟨t495, t496⟩ : S32)⟩ : S72)] : List (S72))) (inner := [.int .i64 a0_0, .int .i64 a0_1, .int .i64 a0_2, .int .i64 a0_3, .int .i64 a0_4, .int .i64 a0_5, .int .i64 a0_6, .int .i64 a0_7, .int .i64 a0_8, .int .i64 a0_9, .int .i64 a0_10, .int .i64 t486, .int .i64 t487, .int .i64 t488, .int .i64 t489, .int .i64 t490, .int .i64 t491, .int .i64 t492, .int .i64 t493, .int .i64 t494, .int .i64 t495, .int .i64 t496]) (ok := fun _ => True) (okp := fun _ => True) ?hr ?hp (fun _ hk => hk) trivial (Below.refl _ _) (Nat.le_refl _) (by simp) ?_; (case hd => rfl); (case hg => rfl); (case hr => first | (go_simp; done) | (go_simp; rfl)); (case hp => exact (Reps.front (show Kd.M k72 _ _ _ (⟨a0_0, (⟨a0_1, a0_2⟩ : S32), (⟨a0_3, a0_4⟩ : S32), (⟨a0_5, a0_6⟩ : S32), (⟨a0_7, a0_8⟩ : S32), (⟨a0_9, a0_10⟩ : S32)⟩ : S72) [.int .i64 a0_0, .int .i64 a0_1, .int .i64 a0_2, .int .i64 a0_3, .int .i64 a0_4, .int .i64 a0_5, .int .i64 a0_6, .int .i64 a0_7, .int .i64 a0_8, .int .i64 a0_9, .int .i64 a0_10] from (k72_mkM _ _ _ (⟨a0_0, (⟨a0_1, a0_2⟩ : S32), (⟨a0_3, a0_4⟩ : S32), (⟨a0_5, a0_6⟩ : S32), (⟨a0_7, a0_8⟩ : S32), (⟨a0_9, a0_10⟩ : S32)⟩ : S72) )) rfl (Reps.front (show Kd.M k72 _ _ _ (⟨t486, (⟨t487, t488⟩ : S32), (⟨t489, t490⟩ : S32), (⟨t491, t492⟩ : S32), (⟨t493, t494⟩ : S32), (⟨t495, t496⟩ : S32)⟩ : S72) [.int .i64 t486, .int .i64 t487, .int .i64 t488, .int .i64 t489, .int .i64 t490, .int .i64 t491, .int .i64 t492, .int .i64 t493, .int .i64 t494, .int .i64 t495, .int .i64 t496] from (k72_mkM _ _ _ (⟨t486, (⟨t487, t488⟩ : S32), (⟨t489, t490⟩ : S32), (⟨t491, t492⟩ : S32), (⟨t493, t494⟩ : S32), (⟨t495, t496⟩ : S32)⟩ : S72) )) rfl (Reps.none _ _) rfl) rfl))
 intro v499 w9 ho10 hb hg_ hnew_
 clear hg_ hnew_
 (first | rw [← Ny498.out] at ho10 | (simp only [Int.reduceToNat] at ho10; rw [← Ny498.out] at ho10))
 have n0_ := Aside0.mk (Kd.R_lower (Kd.R_newB ho10 (g := gb483) (o := .cells #[.int .i64 a0_0, .int .i64 a0_1, .int .i64 a0_2, .int .i64 a0_3, .int .i64 a0_4, .int .i64 a0_5, .int .i64 a0_6, .int .i64 a0_7, .int .i64 a0_8, .int .i64 a0_9, .int .i64 a0_10] 72 (0, 0)) (by (with_reducible repeat (first | refine blk_drewN ?_ _ | refine blk_drew ?_ | refine blk_alloc ?_ _)); exact BK483.out)) (below_size (by repeat (first | (with_reducible first | exact HB.out | apply below_alloc | apply pw_below_drewN | apply below_drew1 | refine below_set ?_ (IsS118.ge HI485.out) | refine below_set ?_ GE483.out) | exact HB.out))))
 have n1_ := Aside0.mk (blk_below (g := gb483) (o := .cells #[.int .i64 a0_0, .int .i64 a0_1, .int .i64 a0_2, .int .i64 a0_3, .int .i64 a0_4, .int .i64 a0_5, .int .i64 a0_6, .int .i64 a0_7, .int .i64 a0_8, .int .i64 a0_9, .int .i64 a0_10] 72 (0, 0)) (by (with_reducible repeat (first | refine blk_drewN ?_ _ | refine blk_drew ?_ | refine blk_alloc ?_ _)); exact BK483.out) hb)
 have n2_ := Aside0.mk (IsS118.below (by repeat (first | (with_reducible first | exact HI485.out | apply IsS118.alloc | apply IsS118.drewN | apply IsS118.drew | apply IsS118.set_0 | refine IsS118.far ?_ NB485_483.out _) | exact HI485.out)) hb)
 have n3_ := Aside0.mk (below_step (by repeat (first | (with_reducible first | exact HB.out | apply below_alloc | apply pw_below_drewN | apply below_drew1 | refine below_set ?_ (IsS118.ge HI485.out) | refine below_set ?_ GE483.out) | exact HB.out)) hb)
 clear BK483
 clear HI485
 clear HB
 have HO500 := n0_
 have BK483 := n1_
 have HI485 := n2_
 have HB := n3_
 clear n0_ n1_ n2_ n3_
 clear hb ho10
 refine hK.out _ _ ⟨(blk_cell BK483.out 0).trans rfl, (blk_cell BK483.out 1).trans rfl, (blk_cell BK483.out 2).trans rfl, (blk_cell BK483.out 3).trans rfl, (blk_cell BK483.out 4).trans rfl, (blk_cell BK483.out 5).trans rfl, (blk_cell BK483.out 6).trans rfl, (blk_cell BK483.out 7).trans rfl, (blk_cell BK483.out 8).trans rfl, (blk_cell BK483.out 9).trans rfl, (blk_cell BK483.out 10).trans rfl⟩ (fun hHeld => ?_)
 clear hK K
 refine norm_ (a' := ?_) ?_ ?_
 rotate_left
 ·show Act.put _ (some 15) _ = _
  simp only [Act.put, List.setIfInBounds_toArray, List.set_cons_zero, List.set_cons_succ, i64_w, i32_w]
  rfl
 refine pure_ (i := 5) (N := some 5) (v := ?_) (a' := ?_) #[true, true, true, true, true, true] rfl rfl (by kernel_rfl) (fun _ _ _ h => h) (Or.inl ⟨by rfl, ?_⟩) ?_ ?_
 rotate_left
 ·intro w'
  go_simp
  with_reducible rfl
 rotate_left
 ·simp only [Act.put, List.setIfInBounds_toArray, List.set_cons_zero, List.set_cons_succ, i64_w, i32_w]
  rfl
 refine done_ (by kernel_rfl) ?_
 try go_wp2
 go_loopg [6] k (fun kq v6 w' => ∃ (x6_1 : Int), v6 = .int .i64 x6_1 ∧ Aside0 (thermionlaw04_MountWinds.l0 kq y498 x6_1 = some r) ∧ Aside0 (kq ≤ k) ∧ Aside0 (Kd.R k72 72 w' w.heap.size (fun k_ => k_ ≠ gb483) v499 y498) ∧ Aside0 (w'.heap[gb483]? = some (.cells #[.int .i64 a0_0, .int .i64 a0_1, .int .i64 a0_2, .int .i64 a0_3, .int .i64 a0_4, .int .i64 a0_5, .int .i64 a0_6, .int .i64 a0_7, .int .i64 a0_8, .int .i64 a0_9, .int .i64 a0_10] 72 (0, 0))) ∧ Aside0 (Below w.heap.size w w'))
 case atStart => exact ⟨(0), (by first | rfl | (simp; done) | (simp [*]; done)), H', ⟨Nat.le_refl _⟩, ⟨by (with_reducible repeat (first | apply Kd.R_alloc | apply Kd.R_drewN | apply Kd.R_drew)); exact Kd.R_mono HO500.out (fun _ hk => hk.2)⟩, ⟨by (with_reducible repeat (first | refine blk_drewN ?_ _ | refine blk_drew ?_ | refine blk_alloc ?_ _)); exact BK483.out⟩, ⟨by repeat (first | (with_reducible first | exact HB.out | apply below_alloc | apply pw_below_drewN | apply below_drew1 | refine below_set ?_ (IsS118.ge HI485.out) | refine below_set ?_ GE483.out) | exact HB.out)⟩⟩
 case round =>
  clear H'
  try clear c1
  try clear p2
  try clear c4
  try clear c7
  obtain ⟨x6_1, rfl, HA, HK1, HO_5, BK483, HB⟩ := hrel
  cases gk with
  | zero => exact absurd HA.out (by simp [thermionlaw04_MountWinds.l0])
  | succ k1 =>
   have H := HA.out
   clear HA
   simp only [thermionlaw04_MountWinds.l0] at H
   by_cases c11 : x6_1 < (y498.length : Int)
   ·rw [if_pos c11] at H
    have c11b0 : decide (x6_1 < (y498.length : Int)) = true := decide_eq_true c11
    clear c11
    by_cases c12 : 0 ≤ x6_1
    ·rw [if_pos c12] at H
     have c12b0 : decide (0 ≤ x6_1) = true := decide_eq_true c12
     clear c12
     replace H := Option.bind_eq_some_iff.mp H
     obtain ⟨⟨t503, t504, t507⟩, A130, H⟩ := H
     replace H : ((thermionref04_Wind.f k1 ((rd_T72 y498 x6_1).f0) ((rd_T72 y498 x6_1).f1.f0) ((rd_T72 y498 x6_1).f1.f1) ((rd_T72 y498 x6_1).f2.f0) ((rd_T72 y498 x6_1).f2.f1) ((rd_T72 y498 x6_1).f3.f0) ((rd_T72 y498 x6_1).f3.f1) ((rd_T72 y498 x6_1).f4.f0) ((rd_T72 y498 x6_1).f4.f1) ((rd_T72 y498 x6_1).f5.f0) ((rd_T72 y498 x6_1).f5.f1)).bind fun bt510 => (if t507 = bt510.2.2 then ((thermionlaw04_sameChain.f k1 t503 t504 bt510.1 bt510.2.1).bind fun t516 => (if t516 = true then (thermionlaw04_MountWinds.l0 k1 y498 (wrap64 (x6_1 + 1))) else (some false))) else (some false))) = some r := H
     have A13 := Aside0.mk A130
     clear A130
     replace H := Option.bind_eq_some_iff.mp H
     obtain ⟨⟨t510, t511, t514⟩, A140, H⟩ := H
     replace H : (if t507 = t514 then ((thermionlaw04_sameChain.f k1 t503 t504 t510 t511).bind fun t516 => (if t516 = true then (thermionlaw04_MountWinds.l0 k1 y498 (wrap64 (x6_1 + 1))) else (some false))) else (some false)) = some r := H
     have A14 := Aside0.mk A140
     clear A140
     by_cases c15 : t507 = t514
     ·rw [if_pos c15] at H
      have c15b0 : (t507 == t514) = true := beq_iff_eq.mpr c15
      have c15b1 : (t507 != t514) = false := bne_eq_false_iff_eq.mpr c15
      clear c15
      replace H := Option.bind_eq_some_iff.mp H
      obtain ⟨t516, A160, H⟩ := H
      replace H : (if t516 = true then (thermionlaw04_MountWinds.l0 k1 y498 (wrap64 (x6_1 + 1))) else (some false)) = some r := H
      have A16 := Aside0.mk A160
      clear A160
      by_cases c17 : t516 = true
      ·subst c17
       have H1 : (thermionlaw04_MountWinds.l0 k1 y498 (wrap64 (x6_1 + 1))) = some r := by rw [if_pos rfl] at H; exact H
       clear H
       have H := H1
       clear H1
       have H' := Aside0.mk H
       clear H
       obtain ⟨Ao18, co18, eo18⟩ := Kd.R_slice HO_5.out
       subst eo18
       have p502 : 0 ≤ (x6_1 : Int) := of_decide_eq_true (by first | (with_reducible assumption) | assumption)
       have q502 : x6_1 < (y498.length : Int) := of_decide_eq_true (by first | (with_reducible assumption) | assumption)
       obtain ⟨ad502, e502, hx502_0, hx502_1, hx502_2, hx502_3, hx502_4, hx502_5, hx502_6, hx502_7, hx502_8, hx502_9, hx502_10⟩ := at_T72 (Kd.R_reads' HO_5.out).2.2 x6_1 p502 q502
       cases e502
       replace p502 := eq_true p502
       replace q502 := eq_true q502
       go_wp2_with (first | ((with_reducible refine gate_callee (f := 45) rfl ?_); refine goesL_ (some 27) rfl rfl Try.func45 (by kernel_rfl) rfl #[.agg #[.int .i64 ((rd_T72 y498 x6_1).f0), .int .i64 ((rd_T72 y498 x6_1).f1.f0), .int .i64 ((rd_T72 y498 x6_1).f1.f1), .int .i64 ((rd_T72 y498 x6_1).f2.f0), .int .i64 ((rd_T72 y498 x6_1).f2.f1), .int .i64 ((rd_T72 y498 x6_1).f3.f0), .int .i64 ((rd_T72 y498 x6_1).f3.f1), .int .i64 ((rd_T72 y498 x6_1).f4.f0), .int .i64 ((rd_T72 y498 x6_1).f4.f1), .int .i64 ((rd_T72 y498 x6_1).f5.f0), .int .i64 ((rd_T72 y498 x6_1).f5.f1)]] rfl (by (try simp only [List.map_toArray, List.map_cons, List.map_nil]); first | done | rfl | (simp only [List.length_drop, List.length_take]; rfl)) ?_; (with_reducible refine (mount_Wind.calls ((rd_T72 y498 x6_1).f0) ((rd_T72 y498 x6_1).f1.f0) ((rd_T72 y498 x6_1).f1.f1) ((rd_T72 y498 x6_1).f2.f0) ((rd_T72 y498 x6_1).f2.f1) ((rd_T72 y498 x6_1).f3.f0) ((rd_T72 y498 x6_1).f3.f1) ((rd_T72 y498 x6_1).f4.f0) ((rd_T72 y498 x6_1).f4.f1) ((rd_T72 y498 x6_1).f5.f0) ((rd_T72 y498 x6_1).f5.f1) t503 t504 t507 _ A13.out).mono ?_); rintro e w19 ⟨v505, rfl, ho0, hb⟩; refine ⟨_, rfl, ?_⟩; have n0_ := Aside0.mk (Kd.R_below (by (with_reducible repeat (first | apply Kd.R_alloc | apply Kd.R_drewN | apply Kd.R_drew)); exact HO_5.out) hb); have n1_ := Aside0.mk (Kd.R_lower ho0 (below_size (by repeat (first | (with_reducible first | exact HB.out | apply below_alloc | apply pw_below_drewN | apply below_drew1 | refine below_set ?_ GE483.out) | exact HB.out)))); have n2_ := Aside0.mk (blk_below (g := gb483) (o := .cells #[.int .i64 a0_0, .int .i64 a0_1, .int .i64 a0_2, .int .i64 a0_3, .int .i64 a0_4, .int .i64 a0_5, .int .i64 a0_6, .int .i64 a0_7, .int .i64 a0_8, .int .i64 a0_9, .int .i64 a0_10] 72 (0, 0)) (by (with_reducible repeat (first | refine blk_drewN ?_ _ | refine blk_drew ?_ | refine blk_alloc ?_ _)); exact BK483.out) hb); have n3_ := Aside0.mk (below_step (by repeat (first | (with_reducible first | exact HB.out | apply below_alloc | apply pw_below_drewN | apply below_drew1 | refine below_set ?_ GE483.out) | exact HB.out)) hb); clear HO_5; clear BK483; clear HB; have HO_5 := n0_; have HO506 := n1_; have BK483 := n2_; have HB := n3_; clear n0_ n1_ n2_ n3_; (try clear hb); (try clear hb2); (try clear hk); (try clear hi); (try clear ho0)) | ((with_reducible refine gate_dst (N := 7) rfl ?_); refine box_event ?hg (N := 7) ?hd (cs := #[.int .i64 0, .slice none 0 0]) (t := 27) ?hr ?_; (case hd => rfl); (case hg => rfl); (case hr => first | (go_simp; done) | (go_simp; rfl)); intro gb508 hg w20 hbox hb; have n0_ := Aside0.mk (Kd.R_below (by (with_reducible repeat (first | apply Kd.R_alloc | apply Kd.R_drewN | apply Kd.R_drew)); exact HO_5.out) hb); have n1_ := Aside0.mk (Kd.R_below (by (with_reducible repeat (first | apply Kd.R_alloc | apply Kd.R_drewN | apply Kd.R_drew)); exact HO506.out) hb); have n2_ := Aside0.mk (blk_below (g := gb483) (o := .cells #[.int .i64 a0_0, .int .i64 a0_1, .int .i64 a0_2, .int .i64 a0_3, .int .i64 a0_4, .int .i64 a0_5, .int .i64 a0_6, .int .i64 a0_7, .int .i64 a0_8, .int .i64 a0_9, .int .i64 a0_10] 72 (0, 0)) (by (with_reducible repeat (first | refine blk_drewN ?_ _ | refine blk_drew ?_ | refine blk_alloc ?_ _)); exact BK483.out) hb); have n3_ := Aside0.mk (below_step (by repeat (first | (with_reducible first | exact HB.out | apply below_alloc | apply pw_below_drewN | apply below_drew1 | refine below_set ?_ GE483.out) | exact HB.out)) hb); have n4_ := Aside0.mk (hbox); have n5_ := Aside0.mk ((by rw [hg]; exact (below_size (by repeat (first | (with_reducible first | exact HB.out | apply below_alloc | apply pw_below_drewN | apply below_drew1 | refine below_set ?_ GE483.out) | exact HB.out))) : w.heap.size ≤ gb508)); have n6_ := Aside0.mk ((by rw [hg]; exact (below_size (by repeat (first | (with_reducible first | exact HB.out | apply below_alloc | apply pw_below_drewN | apply below_drew1 | refine below_set ?_ GE483.out) | exact HB.out))) : w.heap.size ≤ gb508)); have n7_ := Aside0.mk ((by rw [hg]; exact Nat.ne_of_lt (blk_lt (g := gb483) (o := .cells #[.int .i64 a0_0, .int .i64 a0_1, .int .i64 a0_2, .int .i64 a0_3, .int .i64 a0_4, .int .i64 a0_5, .int .i64 a0_6, .int .i64 a0_7, .int .i64 a0_8, .int .i64 a0_9, .int .i64 a0_10] 72 (0, 0)) (by (with_reducible repeat (first | refine blk_drewN ?_ _ | refine blk_drew ?_ | refine blk_alloc ?_ _)); exact BK483.out)) : gb483 ≠ gb508)); have n8_ := Aside0.mk ((by rw [hg]; exact Nat.ne_of_gt (blk_lt (g := gb483) (o := .cells #[.int .i64 a0_0, .int .i64 a0_1, .int .i64 a0_2, .int .i64 a0_3, .int .i64 a0_4, .int .i64 a0_5, .int .i64 a0_6, .int .i64 a0_7, .int .i64 a0_8, .int .i64 a0_9, .int .i64 a0_10] 72 (0, 0)) (by (with_reducible repeat (first | refine blk_drewN ?_ _ | refine blk_drew ?_ | refine blk_alloc ?_ _)); exact BK483.out)) : gb508 ≠ gb483)); clear HO_5; clear HO506; clear BK483; clear HB; have HO_5 := n0_; have HO506 := n1_; have BK483 := n2_; have HB := n3_; have BK508 := n4_; have GW508 := n5_; have GE508 := n6_; have NB483_508 := n7_; have NB508_483 := n8_; clear n0_ n1_ n2_ n3_ n4_ n5_ n6_ n7_ n8_; clear hb hbox hg; have hnb21 := NB508_483.out; have hnc21 := NB483_508.out; have hcz22_0 : w20.cell? ⟨gb508, 0, none⟩ = some (.int .i64 0) := (blk_cell BK508.out 0).trans rfl; have hcz22_1 : w20.cell? ⟨gb508, 1, none⟩ = some (.slice none 0 0) := (blk_cell BK508.out 1).trans rfl; have hfz22_0 := blk_frozen BK508.out 0; have hfz22_1 := blk_frozen BK508.out 1; obtain ⟨Ao23, co23, eo23⟩ := Kd.R_slice HO506.out; subst eo23; have p509 : 0 ≤ (x6_1 : Int) := of_decide_eq_true (by first | (with_reducible assumption) | assumption); have q509 : x6_1 < (y498.length : Int) := of_decide_eq_true (by first | (with_reducible assumption) | assumption); obtain ⟨ad509, e509, hx509_0, hx509_1, hx509_2, hx509_3, hx509_4, hx509_5, hx509_6, hx509_7, hx509_8, hx509_9, hx509_10⟩ := at_T72 (Kd.R_reads' HO_5.out).2.2 x6_1 p509 q509; obtain rfl : ad502 = ad509 := (by injection e509); have hn509_0 : ad502.block ≠ gb508 := Kd.own_blk (Kd.R_ne HO_5.out BK508.out (by decide)); have hn509_1 : ad502.block ≠ gb508 := Kd.own_blk (Kd.R_ne HO_5.out BK508.out (by decide)); replace hx509_0 := (cell_far (p := ⟨gb508, 0, none⟩) (by first | (rw [add_block]; exact hn509_0) | (show (Addr.add _ _).block ≠ _; rw [add_block]; exact hn509_0) | exact hn509_0) (.int .i64 t503)).trans hx509_0; replace hx509_1 := (cell_far (p := ⟨gb508, 0, none⟩) (by first | (rw [add_block]; exact hn509_0) | (show (Addr.add _ _).block ≠ _; rw [add_block]; exact hn509_0) | exact hn509_0) (.int .i64 t503)).trans hx509_1; replace hx509_2 := (cell_far (p := ⟨gb508, 0, none⟩) (by first | (rw [add_block]; exact hn509_0) | (show (Addr.add _ _).block ≠ _; rw [add_block]; exact hn509_0) | exact hn509_0) (.int .i64 t503)).trans hx509_2; replace hx509_3 := (cell_far (p := ⟨gb508, 0, none⟩) (by first | (rw [add_block]; exact hn509_0) | (show (Addr.add _ _).block ≠ _; rw [add_block]; exact hn509_0) | exact hn509_0) (.int .i64 t503)).trans hx509_3; replace hx509_4 := (cell_far (p := ⟨gb508, 0, none⟩) (by first | (rw [add_block]; exact hn509_0) | (show (Addr.add _ _).block ≠ _; rw [add_block]; exact hn509_0) | exact hn509_0) (.int .i64 t503)).trans hx509_4; replace hx509_5 := (cell_far (p := ⟨gb508, 0, none⟩) (by first | (rw [add_block]; exact hn509_0) | (show (Addr.add _ _).block ≠ _; rw [add_block]; exact hn509_0) | exact hn509_0) (.int .i64 t503)).trans hx509_5; replace hx509_6 := (cell_far (p := ⟨gb508, 0, none⟩) (by first | (rw [add_block]; exact hn509_0) | (show (Addr.add _ _).block ≠ _; rw [add_block]; exact hn509_0) | exact hn509_0) (.int .i64 t503)).trans hx509_6; replace hx509_7 := (cell_far (p := ⟨gb508, 0, none⟩) (by first | (rw [add_block]; exact hn509_0) | (show (Addr.add _ _).block ≠ _; rw [add_block]; exact hn509_0) | exact hn509_0) (.int .i64 t503)).trans hx509_7; replace hx509_8 := (cell_far (p := ⟨gb508, 0, none⟩) (by first | (rw [add_block]; exact hn509_0) | (show (Addr.add _ _).block ≠ _; rw [add_block]; exact hn509_0) | exact hn509_0) (.int .i64 t503)).trans hx509_8; replace hx509_9 := (cell_far (p := ⟨gb508, 0, none⟩) (by first | (rw [add_block]; exact hn509_0) | (show (Addr.add _ _).block ≠ _; rw [add_block]; exact hn509_0) | exact hn509_0) (.int .i64 t503)).trans hx509_9; replace hx509_10 := (cell_far (p := ⟨gb508, 0, none⟩) (by first | (rw [add_block]; exact hn509_0) | (show (Addr.add _ _).block ≠ _; rw [add_block]; exact hn509_0) | exact hn509_0) (.int .i64 t503)).trans hx509_10; replace hx509_0 := (cell_far (p := ⟨gb508, 1, none⟩) (by first | (rw [add_block]; exact hn509_1) | (show (Addr.add _ _).block ≠ _; rw [add_block]; exact hn509_1) | exact hn509_1) (.slice Ao23 t504.length co23)).trans hx509_0; replace hx509_1 := (cell_far (p := ⟨gb508, 1, none⟩) (by first | (rw [add_block]; exact hn509_1) | (show (Addr.add _ _).block ≠ _; rw [add_block]; exact hn509_1) | exact hn509_1) (.slice Ao23 t504.length co23)).trans hx509_1; replace hx509_2 := (cell_far (p := ⟨gb508, 1, none⟩) (by first | (rw [add_block]; exact hn509_1) | (show (Addr.add _ _).block ≠ _; rw [add_block]; exact hn509_1) | exact hn509_1) (.slice Ao23 t504.length co23)).trans hx509_2; replace hx509_3 := (cell_far (p := ⟨gb508, 1, none⟩) (by first | (rw [add_block]; exact hn509_1) | (show (Addr.add _ _).block ≠ _; rw [add_block]; exact hn509_1) | exact hn509_1) (.slice Ao23 t504.length co23)).trans hx509_3; replace hx509_4 := (cell_far (p := ⟨gb508, 1, none⟩) (by first | (rw [add_block]; exact hn509_1) | (show (Addr.add _ _).block ≠ _; rw [add_block]; exact hn509_1) | exact hn509_1) (.slice Ao23 t504.length co23)).trans hx509_4; replace hx509_5 := (cell_far (p := ⟨gb508, 1, none⟩) (by first | (rw [add_block]; exact hn509_1) | (show (Addr.add _ _).block ≠ _; rw [add_block]; exact hn509_1) | exact hn509_1) (.slice Ao23 t504.length co23)).trans hx509_5; replace hx509_6 := (cell_far (p := ⟨gb508, 1, none⟩) (by first | (rw [add_block]; exact hn509_1) | (show (Addr.add _ _).block ≠ _; rw [add_block]; exact hn509_1) | exact hn509_1) (.slice Ao23 t504.length co23)).trans hx509_6; replace hx509_7 := (cell_far (p := ⟨gb508, 1, none⟩) (by first | (rw [add_block]; exact hn509_1) | (show (Addr.add _ _).block ≠ _; rw [add_block]; exact hn509_1) | exact hn509_1) (.slice Ao23 t504.length co23)).trans hx509_7; replace hx509_8 := (cell_far (p := ⟨gb508, 1, none⟩) (by first | (rw [add_block]; exact hn509_1) | (show (Addr.add _ _).block ≠ _; rw [add_block]; exact hn509_1) | exact hn509_1) (.slice Ao23 t504.length co23)).trans hx509_8; replace hx509_9 := (cell_far (p := ⟨gb508, 1, none⟩) (by first | (rw [add_block]; exact hn509_1) | (show (Addr.add _ _).block ≠ _; rw [add_block]; exact hn509_1) | exact hn509_1) (.slice Ao23 t504.length co23)).trans hx509_9; replace hx509_10 := (cell_far (p := ⟨gb508, 1, none⟩) (by first | (rw [add_block]; exact hn509_1) | (show (Addr.add _ _).block ≠ _; rw [add_block]; exact hn509_1) | exact hn509_1) (.slice Ao23 t504.length co23)).trans hx509_10; clear hn509_0; clear hn509_1; replace p509 := eq_true p509; replace q509 := eq_true q509) | ((with_reducible refine gate_callee (f := 46) rfl ?_); refine goesL_ (some 35) rfl rfl Try.func46 (by kernel_rfl) rfl #[.agg #[.int .i64 ((rd_T72 y498 x6_1).f0), .int .i64 ((rd_T72 y498 x6_1).f1.f0), .int .i64 ((rd_T72 y498 x6_1).f1.f1), .int .i64 ((rd_T72 y498 x6_1).f2.f0), .int .i64 ((rd_T72 y498 x6_1).f2.f1), .int .i64 ((rd_T72 y498 x6_1).f3.f0), .int .i64 ((rd_T72 y498 x6_1).f3.f1), .int .i64 ((rd_T72 y498 x6_1).f4.f0), .int .i64 ((rd_T72 y498 x6_1).f4.f1), .int .i64 ((rd_T72 y498 x6_1).f5.f0), .int .i64 ((rd_T72 y498 x6_1).f5.f1)]] rfl (by (try simp only [List.map_toArray, List.map_cons, List.map_nil]); first | done | rfl | (simp only [List.length_drop, List.length_take]; rfl)) ?_; (with_reducible refine (thermionref04_Wind.calls k1 ((rd_T72 y498 x6_1).f0) ((rd_T72 y498 x6_1).f1.f0) ((rd_T72 y498 x6_1).f1.f1) ((rd_T72 y498 x6_1).f2.f0) ((rd_T72 y498 x6_1).f2.f1) ((rd_T72 y498 x6_1).f3.f0) ((rd_T72 y498 x6_1).f3.f1) ((rd_T72 y498 x6_1).f4.f0) ((rd_T72 y498 x6_1).f4.f1) ((rd_T72 y498 x6_1).f5.f0) ((rd_T72 y498 x6_1).f5.f1) t510 t511 t514 _ A14.out).mono ?_); rintro e w24 ⟨v512, rfl, ho0, hb⟩; refine ⟨_, rfl, ?_⟩; have n0_ := Aside0.mk (Kd.R_below (by (with_reducible repeat (first | apply Kd.R_alloc | apply Kd.R_drewN | apply Kd.R_drew)); exact (Kd.R_mono (Kd.R_far (p := ⟨gb508, 1, none⟩) (Kd.R_far (p := ⟨gb508, 0, none⟩) (Kd.R_types HO_5.out BK508.out (by decide)) (fun _ hk => hk.2) (.int .i64 t503)) (fun _ hk => hk.2) (.slice Ao23 t504.length co23)) (fun _ h_ => h_.1))) hb); have n1_ := Aside0.mk (Kd.R_elder' (by (with_reducible repeat (first | apply Kd.R_alloc | apply Kd.R_drewN | apply Kd.R_drew)); exact (Kd.R_mono (Kd.R_far (p := ⟨gb508, 1, none⟩) (Kd.R_far (p := ⟨gb508, 0, none⟩) (Kd.R_types HO506.out BK508.out (by decide)) (fun _ hk => hk.2) (.int .i64 t503)) (fun _ hk => hk.2) (.slice Ao23 t504.length co23)) (fun _ h_ => h_.1))) (Kd.R_base ho0) hb); have n2_ := Aside0.mk (Kd.R_lower (Kd.R_new' ho0 (Kd.R_lt (by (with_reducible repeat (first | apply Kd.R_alloc | apply Kd.R_drewN | apply Kd.R_drew)); exact (Kd.R_mono (Kd.R_far (p := ⟨gb508, 1, none⟩) (Kd.R_far (p := ⟨gb508, 0, none⟩) (Kd.R_types HO506.out BK508.out (by decide)) (fun _ hk => hk.2) (.int .i64 t503)) (fun _ hk => hk.2) (.slice Ao23 t504.length co23)) (fun _ h_ => h_.1))))) (below_size (by repeat (first | (with_reducible first | exact HB.out | apply below_alloc | apply pw_below_drewN | apply below_drew1 | refine below_set ?_ GE483.out | refine below_set ?_ GE508.out) | exact HB.out)))); have n3_ := Aside0.mk (blk_below (g := gb483) (o := .cells #[.int .i64 a0_0, .int .i64 a0_1, .int .i64 a0_2, .int .i64 a0_3, .int .i64 a0_4, .int .i64 a0_5, .int .i64 a0_6, .int .i64 a0_7, .int .i64 a0_8, .int .i64 a0_9, .int .i64 a0_10] 72 (0, 0)) (by (with_reducible repeat (first | refine blk_drewN ?_ _ | refine blk_drew ?_ | refine blk_alloc ?_ _)); refine blk_far ?_ NB483_508.out _; (with_reducible repeat (first | refine blk_drewN ?_ _ | refine blk_drew ?_ | refine blk_alloc ?_ _)); refine blk_far ?_ NB483_508.out _; (with_reducible repeat (first | refine blk_drewN ?_ _ | refine blk_drew ?_ | refine blk_alloc ?_ _)); exact BK483.out) hb); have n4_ := Aside0.mk (blk_below (g := gb508) (o := .cells #[.int .i64 t503, .slice Ao23 t504.length co23] 27 (0, 0)) (by (with_reducible repeat (first | refine blk_drewN ?_ _ | refine blk_drew ?_ | refine blk_alloc ?_ _)); refine blk_put (cs := #[.int .i64 t503, .slice none 0 0]) ?_ 1 _ rfl; (with_reducible repeat (first | refine blk_drewN ?_ _ | refine blk_drew ?_ | refine blk_alloc ?_ _)); refine blk_put (cs := #[.int .i64 0, .slice none 0 0]) ?_ 0 _ rfl; (with_reducible repeat (first | refine blk_drewN ?_ _ | refine blk_drew ?_ | refine blk_alloc ?_ _)); exact BK508.out) hb); have n5_ := Aside0.mk (below_step (by repeat (first | (with_reducible first | exact HB.out | apply below_alloc | apply pw_below_drewN | apply below_drew1 | refine below_set ?_ GE483.out | refine below_set ?_ GE508.out) | exact HB.out)) hb); clear HO_5; clear HO506; clear BK483; clear BK508; clear HB; have HO_5 := n0_; have HO506 := n1_; have HO513 := n2_; have BK483 := n3_; have BK508 := n4_; have HB := n5_; clear n0_ n1_ n2_ n3_ n4_ n5_; (try clear hb); (try clear hb2); (try clear hk); (try clear hi); (try clear ho0)) | ((with_reducible refine gate_dst (N := 9) rfl ?_); refine box_event ?hg (N := 9) ?hd (cs := #[.int .i64 0, .slice none 0 0]) (t := 27) ?hr ?_; (case hd => rfl); (case hg => rfl); (case hr => first | (go_simp; done) | (go_simp; rfl)); intro gb515 hg w25 hbox hb; have n0_ := Aside0.mk (Kd.R_below (by (with_reducible repeat (first | apply Kd.R_alloc | apply Kd.R_drewN | apply Kd.R_drew)); exact HO_5.out) hb); have n1_ := Aside0.mk (Kd.R_below (by (with_reducible repeat (first | apply Kd.R_alloc | apply Kd.R_drewN | apply Kd.R_drew)); exact HO506.out) hb); have n2_ := Aside0.mk (Kd.R_below (by (with_reducible repeat (first | apply Kd.R_alloc | apply Kd.R_drewN | apply Kd.R_drew)); exact HO513.out) hb); have n3_ := Aside0.mk (blk_below (g := gb483) (o := .cells #[.int .i64 a0_0, .int .i64 a0_1, .int .i64 a0_2, .int .i64 a0_3, .int .i64 a0_4, .int .i64 a0_5, .int .i64 a0_6, .int .i64 a0_7, .int .i64 a0_8, .int .i64 a0_9, .int .i64 a0_10] 72 (0, 0)) (by (with_reducible repeat (first | refine blk_drewN ?_ _ | refine blk_drew ?_ | refine blk_alloc ?_ _)); exact BK483.out) hb); have n4_ := Aside0.mk (blk_below (g := gb508) (o := .cells #[.int .i64 t503, .slice Ao23 t504.length co23] 27 (0, 0)) (by (with_reducible repeat (first | refine blk_drewN ?_ _ | refine blk_drew ?_ | refine blk_alloc ?_ _)); exact BK508.out) hb); have n5_ := Aside0.mk (below_step (by repeat (first | (with_reducible first | exact HB.out | apply below_alloc | apply pw_below_drewN | apply below_drew1 | refine below_set ?_ GE483.out | refine below_set ?_ GE508.out) | exact HB.out)) hb); have n6_ := Aside0.mk (hbox); have n7_ := Aside0.mk ((by rw [hg]; exact (below_size (by repeat (first | (with_reducible first | exact HB.out | apply below_alloc | apply pw_below_drewN | apply below_drew1 | refine below_set ?_ GE483.out | refine below_set ?_ GE508.out) | exact HB.out))) : w.heap.size ≤ gb515)); have n8_ := Aside0.mk ((by rw [hg]; exact (below_size (by repeat (first | (with_reducible first | exact HB.out | apply below_alloc | apply pw_below_drewN | apply below_drew1 | refine below_set ?_ GE483.out | refine below_set ?_ GE508.out) | exact HB.out))) : w.heap.size ≤ gb515)); have n9_ := Aside0.mk ((by rw [hg]; exact Nat.ne_of_lt (blk_lt (g := gb483) (o := .cells #[.int .i64 a0_0, .int .i64 a0_1, .int .i64 a0_2, .int .i64 a0_3, .int .i64 a0_4, .int .i64 a0_5, .int .i64 a0_6, .int .i64 a0_7, .int .i64 a0_8, .int .i64 a0_9, .int .i64 a0_10] 72 (0, 0)) (by (with_reducible repeat (first | refine blk_drewN ?_ _ | refine blk_drew ?_ | refine blk_alloc ?_ _)); exact BK483.out)) : gb483 ≠ gb515)); have n10_ := Aside0.mk ((by rw [hg]; exact Nat.ne_of_gt (blk_lt (g := gb483) (o := .cells #[.int .i64 a0_0, .int .i64 a0_1, .int .i64 a0_2, .int .i64 a0_3, .int .i64 a0_4, .int .i64 a0_5, .int .i64 a0_6, .int .i64 a0_7, .int .i64 a0_8, .int .i64 a0_9, .int .i64 a0_10] 72 (0, 0)) (by (with_reducible repeat (first | refine blk_drewN ?_ _ | refine blk_drew ?_ | refine blk_alloc ?_ _)); exact BK483.out)) : gb515 ≠ gb483)); have n11_ := Aside0.mk ((by rw [hg]; exact Nat.ne_of_lt (blk_lt (g := gb508) (o := .cells #[.int .i64 t503, .slice Ao23 t504.length co23] 27 (0, 0)) (by (with_reducible repeat (first | refine blk_drewN ?_ _ | refine blk_drew ?_ | refine blk_alloc ?_ _)); exact BK508.out)) : gb508 ≠ gb515)); have n12_ := Aside0.mk ((by rw [hg]; exact Nat.ne_of_gt (blk_lt (g := gb508) (o := .cells #[.int .i64 t503, .slice Ao23 t504.length co23] 27 (0, 0)) (by (with_reducible repeat (first | refine blk_drewN ?_ _ | refine blk_drew ?_ | refine blk_alloc ?_ _)); exact BK508.out)) : gb515 ≠ gb508)); clear HO_5; clear HO506; clear HO513; clear BK483; clear BK508; clear HB; have HO_5 := n0_; have HO506 := n1_; have HO513 := n2_; have BK483 := n3_; have BK508 := n4_; have HB := n5_; have BK515 := n6_; have GW515 := n7_; have GE515 := n8_; have NB483_515 := n9_; have NB515_483 := n10_; have NB508_515 := n11_; have NB515_508 := n12_; clear n0_ n1_ n2_ n3_ n4_ n5_ n6_ n7_ n8_ n9_ n10_ n11_ n12_; clear hb hbox hg; have hnb26 := NB515_483.out; have hnc26 := NB483_515.out; have hnb27 := NB515_508.out; have hnc27 := NB508_515.out; have hcz28_0 : w25.cell? ⟨gb515, 0, none⟩ = some (.int .i64 0) := (blk_cell BK515.out 0).trans rfl; have hcz28_1 : w25.cell? ⟨gb515, 1, none⟩ = some (.slice none 0 0) := (blk_cell BK515.out 1).trans rfl; have hfz28_0 := blk_frozen BK515.out 0; have hfz28_1 := blk_frozen BK515.out 1; obtain ⟨Ao29, co29, eo29⟩ := Kd.R_slice HO513.out; subst eo29; have hcz30_0 : w25.cell? ⟨gb508, 0, none⟩ = some (.int .i64 t503) := (blk_cell BK508.out 0).trans rfl; have hcz30_1 : w25.cell? ⟨gb508, 1, none⟩ = some (.slice Ao23 t504.length co23) := (blk_cell BK508.out 1).trans rfl; have hfz30_0 := blk_frozen BK508.out 0; have hfz30_1 := blk_frozen BK508.out 1) | (go_at_call 47; (with_reducible refine (thermionlaw04_sameChain.calls k1 t503 _ _ t504 t510 _ _ t511 true _ ?side1 ?side2 ?side3 ?side4 A16.out).mono ?_); (case side1 => refine (Kd.R_reads' (e := 35) (base := w.heap.size) (ok := fun k_ => (True ∧ some k_ ≠ (.slice Ao29 t511.length co29 : Value).ownBlock)) (n := t504.length) (c := co23) ?_).2.2; exact (by (with_reducible repeat (first | apply Kd.R_alloc | apply Kd.R_drewN | apply Kd.R_drew)); exact (Kd.R_mono (Kd.R_far (p := ⟨gb515, 1, none⟩) (Kd.R_far (p := ⟨gb515, 0, none⟩) (Kd.R_types HO506.out BK515.out (by decide)) (fun _ hk => hk.2) (.int .i64 t510)) (fun _ hk => hk.2) (.slice Ao29 t511.length co29)) (fun _ h_ => h_.1)))); (case side2 => exact (Kd.R_reads' HO506.out).2.1); (case side3 => refine (Kd.R_reads' (e := 35) (base := w.heap.size) (ok := fun k_ => (True ∧ some k_ ≠ (.slice Ao23 t504.length co23 : Value).ownBlock)) (n := t511.length) (c := co29) ?_).2.2; exact (by (with_reducible repeat (first | apply Kd.R_alloc | apply Kd.R_drewN | apply Kd.R_drew)); exact (Kd.R_mono (Kd.R_far (p := ⟨gb515, 1, none⟩) (Kd.R_far (p := ⟨gb515, 0, none⟩) (Kd.R_types HO513.out BK515.out (by decide)) (fun _ hk => hk.2) (.int .i64 t510)) (fun _ hk => hk.2) (.slice Ao29 t511.length co29)) (fun _ h_ => h_.1)))); (case side4 => exact (Kd.R_reads' HO513.out).2.1); rintro e w31 ⟨rfl, hb⟩; have n0_ := Aside0.mk (Kd.R_below (by (with_reducible repeat (first | apply Kd.R_alloc | apply Kd.R_drewN | apply Kd.R_drew)); exact (Kd.R_mono (Kd.R_far (p := ⟨gb515, 1, none⟩) (Kd.R_far (p := ⟨gb515, 0, none⟩) (Kd.R_types HO_5.out BK515.out (by decide)) (fun _ hk => hk.2) (.int .i64 t510)) (fun _ hk => hk.2) (.slice Ao29 t511.length co29)) (fun _ h_ => h_.1))) hb); have n1_ := Aside0.mk (Kd.R_below (by (with_reducible repeat (first | apply Kd.R_alloc | apply Kd.R_drewN | apply Kd.R_drew)); exact (Kd.R_mono (Kd.R_far (p := ⟨gb515, 1, none⟩) (Kd.R_far (p := ⟨gb515, 0, none⟩) (Kd.R_types HO506.out BK515.out (by decide)) (fun _ hk => hk.2) (.int .i64 t510)) (fun _ hk => hk.2) (.slice Ao29 t511.length co29)) (fun _ h_ => h_.1))) hb); have n2_ := Aside0.mk (Kd.R_below (by (with_reducible repeat (first | apply Kd.R_alloc | apply Kd.R_drewN | apply Kd.R_drew)); exact (Kd.R_mono (Kd.R_far (p := ⟨gb515, 1, none⟩) (Kd.R_far (p := ⟨gb515, 0, none⟩) (Kd.R_types HO513.out BK515.out (by decide)) (fun _ hk => hk.2) (.int .i64 t510)) (fun _ hk => hk.2) (.slice Ao29 t511.length co29)) (fun _ h_ => h_.1))) hb); have n3_ := Aside0.mk (blk_below (g := gb483) (o := .cells #[.int .i64 a0_0, .int .i64 a0_1, .int .i64 a0_2, .int .i64 a0_3, .int .i64 a0_4, .int .i64 a0_5, .int .i64 a0_6, .int .i64 a0_7, .int .i64 a0_8, .int .i64 a0_9, .int .i64 a0_10] 72 (0, 0)) (by (with_reducible repeat (first | refine blk_drewN ?_ _ | refine blk_drew ?_ | refine blk_alloc ?_ _)); refine blk_far ?_ NB483_515.out _; (with_reducible repeat (first | refine blk_drewN ?_ _ | refine blk_drew ?_ | refine blk_alloc ?_ _)); refine blk_far ?_ NB483_515.out _; (with_reducible repeat (first | refine blk_drewN ?_ _ | refine blk_drew ?_ | refine blk_alloc ?_ _)); exact BK483.out) hb); have n4_ := Aside0.mk (blk_below (g := gb508) (o := .cells #[.int .i64 t503, .slice Ao23 t504.length co23] 27 (0, 0)) (by (with_reducible repeat (first | refine blk_drewN ?_ _ | refine blk_drew ?_ | refine blk_alloc ?_ _)); refine blk_far ?_ NB508_515.out _; (with_reducible repeat (first | refine blk_drewN ?_ _ | refine blk_drew ?_ | refine blk_alloc ?_ _)); refine blk_far ?_ NB508_515.out _; (with_reducible repeat (first | refine blk_drewN ?_ _ | refine blk_drew ?_ | refine blk_alloc ?_ _)); exact BK508.out) hb); have n5_ := Aside0.mk (blk_below (g := gb515) (o := .cells #[.int .i64 t510, .slice Ao29 t511.length co29] 27 (0, 0)) (by (with_reducible repeat (first | refine blk_drewN ?_ _ | refine blk_drew ?_ | refine blk_alloc ?_ _)); refine blk_put (cs := #[.int .i64 t510, .slice none 0 0]) ?_ 1 _ rfl; (with_reducible repeat (first | refine blk_drewN ?_ _ | refine blk_drew ?_ | refine blk_alloc ?_ _)); refine blk_put (cs := #[.int .i64 0, .slice none 0 0]) ?_ 0 _ rfl; (with_reducible repeat (first | refine blk_drewN ?_ _ | refine blk_drew ?_ | refine blk_alloc ?_ _)); exact BK515.out) hb); have n6_ := Aside0.mk (below_step (by repeat (first | (with_reducible first | exact HB.out | apply below_alloc | apply pw_below_drewN | apply below_drew1 | refine below_set ?_ GE483.out | refine below_set ?_ GE508.out | refine below_set ?_ GE515.out) | exact HB.out)) hb); clear HO_5; clear HO506; clear HO513; clear BK483; clear BK508; clear BK515; clear HB; have HO_5 := n0_; have HO506 := n1_; have HO513 := n2_; have BK483 := n3_; have BK508 := n4_; have BK515 := n5_; have HB := n6_; clear n0_ n1_ n2_ n3_ n4_ n5_ n6_; (try clear hb); (try clear hb2); (try clear hk); (try clear hi)))
       go_roundg k1
       case measure => have := HK1.out; omega
       case rel => exact ⟨(wrap64 (x6_1 + 1)), (by first | rfl | (simp; done) | (simp [*]; done)), H', ⟨by have := HK1.out; omega⟩, ⟨by (with_reducible repeat (first | apply Kd.R_alloc | apply Kd.R_drewN | apply Kd.R_drew)); exact HO_5.out⟩, ⟨by (with_reducible repeat (first | refine blk_drewN ?_ _ | refine blk_drew ?_ | refine blk_alloc ?_ _)); exact BK483.out⟩, ⟨by repeat (first | (with_reducible first | exact HB.out | apply below_alloc | apply pw_below_drewN | apply below_drew1 | refine below_set ?_ GE483.out | refine below_set ?_ GE508.out | refine below_set ?_ GE515.out) | exact HB.out)⟩⟩
      ·replace c17 := Bool.eq_false_iff.mpr c17
       subst c17
       have H1 : (some false) = some r := by rw [if_neg (show ¬ (false = true) by decide)] at H; exact H
       clear H
       have H := H1
       clear H1
       obtain rfl := Option.some.inj H
       obtain ⟨Ao32, co32, eo32⟩ := Kd.R_slice HO_5.out
       subst eo32
       have p502 : 0 ≤ (x6_1 : Int) := of_decide_eq_true (by first | (with_reducible assumption) | assumption)
       have q502 : x6_1 < (y498.length : Int) := of_decide_eq_true (by first | (with_reducible assumption) | assumption)
       obtain ⟨ad502, e502, hx502_0, hx502_1, hx502_2, hx502_3, hx502_4, hx502_5, hx502_6, hx502_7, hx502_8, hx502_9, hx502_10⟩ := at_T72 (Kd.R_reads' HO_5.out).2.2 x6_1 p502 q502
       cases e502
       replace p502 := eq_true p502
       replace q502 := eq_true q502
       go_wp2_with (first | ((with_reducible refine gate_callee (f := 45) rfl ?_); refine goesL_ (some 27) rfl rfl Try.func45 (by kernel_rfl) rfl #[.agg #[.int .i64 ((rd_T72 y498 x6_1).f0), .int .i64 ((rd_T72 y498 x6_1).f1.f0), .int .i64 ((rd_T72 y498 x6_1).f1.f1), .int .i64 ((rd_T72 y498 x6_1).f2.f0), .int .i64 ((rd_T72 y498 x6_1).f2.f1), .int .i64 ((rd_T72 y498 x6_1).f3.f0), .int .i64 ((rd_T72 y498 x6_1).f3.f1), .int .i64 ((rd_T72 y498 x6_1).f4.f0), .int .i64 ((rd_T72 y498 x6_1).f4.f1), .int .i64 ((rd_T72 y498 x6_1).f5.f0), .int .i64 ((rd_T72 y498 x6_1).f5.f1)]] rfl (by (try simp only [List.map_toArray, List.map_cons, List.map_nil]); first | done | rfl | (simp only [List.length_drop, List.length_take]; rfl)) ?_; (with_reducible refine (mount_Wind.calls ((rd_T72 y498 x6_1).f0) ((rd_T72 y498 x6_1).f1.f0) ((rd_T72 y498 x6_1).f1.f1) ((rd_T72 y498 x6_1).f2.f0) ((rd_T72 y498 x6_1).f2.f1) ((rd_T72 y498 x6_1).f3.f0) ((rd_T72 y498 x6_1).f3.f1) ((rd_T72 y498 x6_1).f4.f0) ((rd_T72 y498 x6_1).f4.f1) ((rd_T72 y498 x6_1).f5.f0) ((rd_T72 y498 x6_1).f5.f1) t503 t504 t507 _ A13.out).mono ?_); rintro e w33 ⟨v505, rfl, ho0, hb⟩; refine ⟨_, rfl, ?_⟩; have n0_ := Aside0.mk (Kd.R_below (by (with_reducible repeat (first | apply Kd.R_alloc | apply Kd.R_drewN | apply Kd.R_drew)); exact HO_5.out) hb); have n1_ := Aside0.mk (Kd.R_lower ho0 (below_size (by repeat (first | (with_reducible first | exact HB.out | apply below_alloc | apply pw_below_drewN | apply below_drew1 | refine below_set ?_ GE483.out) | exact HB.out)))); have n2_ := Aside0.mk (blk_below (g := gb483) (o := .cells #[.int .i64 a0_0, .int .i64 a0_1, .int .i64 a0_2, .int .i64 a0_3, .int .i64 a0_4, .int .i64 a0_5, .int .i64 a0_6, .int .i64 a0_7, .int .i64 a0_8, .int .i64 a0_9, .int .i64 a0_10] 72 (0, 0)) (by (with_reducible repeat (first | refine blk_drewN ?_ _ | refine blk_drew ?_ | refine blk_alloc ?_ _)); exact BK483.out) hb); have n3_ := Aside0.mk (below_step (by repeat (first | (with_reducible first | exact HB.out | apply below_alloc | apply pw_below_drewN | apply below_drew1 | refine below_set ?_ GE483.out) | exact HB.out)) hb); clear HO_5; clear BK483; clear HB; have HO_5 := n0_; have HO506 := n1_; have BK483 := n2_; have HB := n3_; clear n0_ n1_ n2_ n3_; (try clear hb); (try clear hb2); (try clear hk); (try clear hi); (try clear ho0)) | ((with_reducible refine gate_dst (N := 7) rfl ?_); refine box_event ?hg (N := 7) ?hd (cs := #[.int .i64 0, .slice none 0 0]) (t := 27) ?hr ?_; (case hd => rfl); (case hg => rfl); (case hr => first | (go_simp; done) | (go_simp; rfl)); intro gb508 hg w34 hbox hb; have n0_ := Aside0.mk (Kd.R_below (by (with_reducible repeat (first | apply Kd.R_alloc | apply Kd.R_drewN | apply Kd.R_drew)); exact HO_5.out) hb); have n1_ := Aside0.mk (Kd.R_below (by (with_reducible repeat (first | apply Kd.R_alloc | apply Kd.R_drewN | apply Kd.R_drew)); exact HO506.out) hb); have n2_ := Aside0.mk (blk_below (g := gb483) (o := .cells #[.int .i64 a0_0, .int .i64 a0_1, .int .i64 a0_2, .int .i64 a0_3, .int .i64 a0_4, .int .i64 a0_5, .int .i64 a0_6, .int .i64 a0_7, .int .i64 a0_8, .int .i64 a0_9, .int .i64 a0_10] 72 (0, 0)) (by (with_reducible repeat (first | refine blk_drewN ?_ _ | refine blk_drew ?_ | refine blk_alloc ?_ _)); exact BK483.out) hb); have n3_ := Aside0.mk (below_step (by repeat (first | (with_reducible first | exact HB.out | apply below_alloc | apply pw_below_drewN | apply below_drew1 | refine below_set ?_ GE483.out) | exact HB.out)) hb); have n4_ := Aside0.mk (hbox); have n5_ := Aside0.mk ((by rw [hg]; exact (below_size (by repeat (first | (with_reducible first | exact HB.out | apply below_alloc | apply pw_below_drewN | apply below_drew1 | refine below_set ?_ GE483.out) | exact HB.out))) : w.heap.size ≤ gb508)); have n6_ := Aside0.mk ((by rw [hg]; exact (below_size (by repeat (first | (with_reducible first | exact HB.out | apply below_alloc | apply pw_below_drewN | apply below_drew1 | refine below_set ?_ GE483.out) | exact HB.out))) : w.heap.size ≤ gb508)); have n7_ := Aside0.mk ((by rw [hg]; exact Nat.ne_of_lt (blk_lt (g := gb483) (o := .cells #[.int .i64 a0_0, .int .i64 a0_1, .int .i64 a0_2, .int .i64 a0_3, .int .i64 a0_4, .int .i64 a0_5, .int .i64 a0_6, .int .i64 a0_7, .int .i64 a0_8, .int .i64 a0_9, .int .i64 a0_10] 72 (0, 0)) (by (with_reducible repeat (first | refine blk_drewN ?_ _ | refine blk_drew ?_ | refine blk_alloc ?_ _)); exact BK483.out)) : gb483 ≠ gb508)); have n8_ := Aside0.mk ((by rw [hg]; exact Nat.ne_of_gt (blk_lt (g := gb483) (o := .cells #[.int .i64 a0_0, .int .i64 a0_1, .int .i64 a0_2, .int .i64 a0_3, .int .i64 a0_4, .int .i64 a0_5, .int .i64 a0_6, .int .i64 a0_7, .int .i64 a0_8, .int .i64 a0_9, .int .i64 a0_10] 72 (0, 0)) (by (with_reducible repeat (first | refine blk_drewN ?_ _ | refine blk_drew ?_ | refine blk_alloc ?_ _)); exact BK483.out)) : gb508 ≠ gb483)); clear HO_5; clear HO506; clear BK483; clear HB; have HO_5 := n0_; have HO506 := n1_; have BK483 := n2_; have HB := n3_; have BK508 := n4_; have GW508 := n5_; have GE508 := n6_; have NB483_508 := n7_; have NB508_483 := n8_; clear n0_ n1_ n2_ n3_ n4_ n5_ n6_ n7_ n8_; clear hb hbox hg; have hnb35 := NB508_483.out; have hnc35 := NB483_508.out; have hcz36_0 : w34.cell? ⟨gb508, 0, none⟩ = some (.int .i64 0) := (blk_cell BK508.out 0).trans rfl; have hcz36_1 : w34.cell? ⟨gb508, 1, none⟩ = some (.slice none 0 0) := (blk_cell BK508.out 1).trans rfl; have hfz36_0 := blk_frozen BK508.out 0; have hfz36_1 := blk_frozen BK508.out 1; obtain ⟨Ao37, co37, eo37⟩ := Kd.R_slice HO506.out; subst eo37; have p509 : 0 ≤ (x6_1 : Int) := of_decide_eq_true (by first | (with_reducible assumption) | assumption); have q509 : x6_1 < (y498.length : Int) := of_decide_eq_true (by first | (with_reducible assumption) | assumption); obtain ⟨ad509, e509, hx509_0, hx509_1, hx509_2, hx509_3, hx509_4, hx509_5, hx509_6, hx509_7, hx509_8, hx509_9, hx509_10⟩ := at_T72 (Kd.R_reads' HO_5.out).2.2 x6_1 p509 q509; obtain rfl : ad502 = ad509 := (by injection e509); have hn509_0 : ad502.block ≠ gb508 := Kd.own_blk (Kd.R_ne HO_5.out BK508.out (by decide)); have hn509_1 : ad502.block ≠ gb508 := Kd.own_blk (Kd.R_ne HO_5.out BK508.out (by decide)); replace hx509_0 := (cell_far (p := ⟨gb508, 0, none⟩) (by first | (rw [add_block]; exact hn509_0) | (show (Addr.add _ _).block ≠ _; rw [add_block]; exact hn509_0) | exact hn509_0) (.int .i64 t503)).trans hx509_0; replace hx509_1 := (cell_far (p := ⟨gb508, 0, none⟩) (by first | (rw [add_block]; exact hn509_0) | (show (Addr.add _ _).block ≠ _; rw [add_block]; exact hn509_0) | exact hn509_0) (.int .i64 t503)).trans hx509_1; replace hx509_2 := (cell_far (p := ⟨gb508, 0, none⟩) (by first | (rw [add_block]; exact hn509_0) | (show (Addr.add _ _).block ≠ _; rw [add_block]; exact hn509_0) | exact hn509_0) (.int .i64 t503)).trans hx509_2; replace hx509_3 := (cell_far (p := ⟨gb508, 0, none⟩) (by first | (rw [add_block]; exact hn509_0) | (show (Addr.add _ _).block ≠ _; rw [add_block]; exact hn509_0) | exact hn509_0) (.int .i64 t503)).trans hx509_3; replace hx509_4 := (cell_far (p := ⟨gb508, 0, none⟩) (by first | (rw [add_block]; exact hn509_0) | (show (Addr.add _ _).block ≠ _; rw [add_block]; exact hn509_0) | exact hn509_0) (.int .i64 t503)).trans hx509_4; replace hx509_5 := (cell_far (p := ⟨gb508, 0, none⟩) (by first | (rw [add_block]; exact hn509_0) | (show (Addr.add _ _).block ≠ _; rw [add_block]; exact hn509_0) | exact hn509_0) (.int .i64 t503)).trans hx509_5; replace hx509_6 := (cell_far (p := ⟨gb508, 0, none⟩) (by first | (rw [add_block]; exact hn509_0) | (show (Addr.add _ _).block ≠ _; rw [add_block]; exact hn509_0) | exact hn509_0) (.int .i64 t503)).trans hx509_6; replace hx509_7 := (cell_far (p := ⟨gb508, 0, none⟩) (by first | (rw [add_block]; exact hn509_0) | (show (Addr.add _ _).block ≠ _; rw [add_block]; exact hn509_0) | exact hn509_0) (.int .i64 t503)).trans hx509_7; replace hx509_8 := (cell_far (p := ⟨gb508, 0, none⟩) (by first | (rw [add_block]; exact hn509_0) | (show (Addr.add _ _).block ≠ _; rw [add_block]; exact hn509_0) | exact hn509_0) (.int .i64 t503)).trans hx509_8; replace hx509_9 := (cell_far (p := ⟨gb508, 0, none⟩) (by first | (rw [add_block]; exact hn509_0) | (show (Addr.add _ _).block ≠ _; rw [add_block]; exact hn509_0) | exact hn509_0) (.int .i64 t503)).trans hx509_9; replace hx509_10 := (cell_far (p := ⟨gb508, 0, none⟩) (by first | (rw [add_block]; exact hn509_0) | (show (Addr.add _ _).block ≠ _; rw [add_block]; exact hn509_0) | exact hn509_0) (.int .i64 t503)).trans hx509_10; replace hx509_0 := (cell_far (p := ⟨gb508, 1, none⟩) (by first | (rw [add_block]; exact hn509_1) | (show (Addr.add _ _).block ≠ _; rw [add_block]; exact hn509_1) | exact hn509_1) (.slice Ao37 t504.length co37)).trans hx509_0; replace hx509_1 := (cell_far (p := ⟨gb508, 1, none⟩) (by first | (rw [add_block]; exact hn509_1) | (show (Addr.add _ _).block ≠ _; rw [add_block]; exact hn509_1) | exact hn509_1) (.slice Ao37 t504.length co37)).trans hx509_1; replace hx509_2 := (cell_far (p := ⟨gb508, 1, none⟩) (by first | (rw [add_block]; exact hn509_1) | (show (Addr.add _ _).block ≠ _; rw [add_block]; exact hn509_1) | exact hn509_1) (.slice Ao37 t504.length co37)).trans hx509_2; replace hx509_3 := (cell_far (p := ⟨gb508, 1, none⟩) (by first | (rw [add_block]; exact hn509_1) | (show (Addr.add _ _).block ≠ _; rw [add_block]; exact hn509_1) | exact hn509_1) (.slice Ao37 t504.length co37)).trans hx509_3; replace hx509_4 := (cell_far (p := ⟨gb508, 1, none⟩) (by first | (rw [add_block]; exact hn509_1) | (show (Addr.add _ _).block ≠ _; rw [add_block]; exact hn509_1) | exact hn509_1) (.slice Ao37 t504.length co37)).trans hx509_4; replace hx509_5 := (cell_far (p := ⟨gb508, 1, none⟩) (by first | (rw [add_block]; exact hn509_1) | (show (Addr.add _ _).block ≠ _; rw [add_block]; exact hn509_1) | exact hn509_1) (.slice Ao37 t504.length co37)).trans hx509_5; replace hx509_6 := (cell_far (p := ⟨gb508, 1, none⟩) (by first | (rw [add_block]; exact hn509_1) | (show (Addr.add _ _).block ≠ _; rw [add_block]; exact hn509_1) | exact hn509_1) (.slice Ao37 t504.length co37)).trans hx509_6; replace hx509_7 := (cell_far (p := ⟨gb508, 1, none⟩) (by first | (rw [add_block]; exact hn509_1) | (show (Addr.add _ _).block ≠ _; rw [add_block]; exact hn509_1) | exact hn509_1) (.slice Ao37 t504.length co37)).trans hx509_7; replace hx509_8 := (cell_far (p := ⟨gb508, 1, none⟩) (by first | (rw [add_block]; exact hn509_1) | (show (Addr.add _ _).block ≠ _; rw [add_block]; exact hn509_1) | exact hn509_1) (.slice Ao37 t504.length co37)).trans hx509_8; replace hx509_9 := (cell_far (p := ⟨gb508, 1, none⟩) (by first | (rw [add_block]; exact hn509_1) | (show (Addr.add _ _).block ≠ _; rw [add_block]; exact hn509_1) | exact hn509_1) (.slice Ao37 t504.length co37)).trans hx509_9; replace hx509_10 := (cell_far (p := ⟨gb508, 1, none⟩) (by first | (rw [add_block]; exact hn509_1) | (show (Addr.add _ _).block ≠ _; rw [add_block]; exact hn509_1) | exact hn509_1) (.slice Ao37 t504.length co37)).trans hx509_10; clear hn509_0; clear hn509_1; replace p509 := eq_true p509; replace q509 := eq_true q509) | ((with_reducible refine gate_callee (f := 46) rfl ?_); refine goesL_ (some 35) rfl rfl Try.func46 (by kernel_rfl) rfl #[.agg #[.int .i64 ((rd_T72 y498 x6_1).f0), .int .i64 ((rd_T72 y498 x6_1).f1.f0), .int .i64 ((rd_T72 y498 x6_1).f1.f1), .int .i64 ((rd_T72 y498 x6_1).f2.f0), .int .i64 ((rd_T72 y498 x6_1).f2.f1), .int .i64 ((rd_T72 y498 x6_1).f3.f0), .int .i64 ((rd_T72 y498 x6_1).f3.f1), .int .i64 ((rd_T72 y498 x6_1).f4.f0), .int .i64 ((rd_T72 y498 x6_1).f4.f1), .int .i64 ((rd_T72 y498 x6_1).f5.f0), .int .i64 ((rd_T72 y498 x6_1).f5.f1)]] rfl (by (try simp only [List.map_toArray, List.map_cons, List.map_nil]); first | done | rfl | (simp only [List.length_drop, List.length_take]; rfl)) ?_; (with_reducible refine (thermionref04_Wind.calls k1 ((rd_T72 y498 x6_1).f0) ((rd_T72 y498 x6_1).f1.f0) ((rd_T72 y498 x6_1).f1.f1) ((rd_T72 y498 x6_1).f2.f0) ((rd_T72 y498 x6_1).f2.f1) ((rd_T72 y498 x6_1).f3.f0) ((rd_T72 y498 x6_1).f3.f1) ((rd_T72 y498 x6_1).f4.f0) ((rd_T72 y498 x6_1).f4.f1) ((rd_T72 y498 x6_1).f5.f0) ((rd_T72 y498 x6_1).f5.f1) t510 t511 t514 _ A14.out).mono ?_); rintro e w38 ⟨v512, rfl, ho0, hb⟩; refine ⟨_, rfl, ?_⟩; have n0_ := Aside0.mk (Kd.R_below (by (with_reducible repeat (first | apply Kd.R_alloc | apply Kd.R_drewN | apply Kd.R_drew)); exact (Kd.R_mono (Kd.R_far (p := ⟨gb508, 1, none⟩) (Kd.R_far (p := ⟨gb508, 0, none⟩) (Kd.R_types HO_5.out BK508.out (by decide)) (fun _ hk => hk.2) (.int .i64 t503)) (fun _ hk => hk.2) (.slice Ao37 t504.length co37)) (fun _ h_ => h_.1))) hb); have n1_ := Aside0.mk (Kd.R_elder' (by (with_reducible repeat (first | apply Kd.R_alloc | apply Kd.R_drewN | apply Kd.R_drew)); exact (Kd.R_mono (Kd.R_far (p := ⟨gb508, 1, none⟩) (Kd.R_far (p := ⟨gb508, 0, none⟩) (Kd.R_types HO506.out BK508.out (by decide)) (fun _ hk => hk.2) (.int .i64 t503)) (fun _ hk => hk.2) (.slice Ao37 t504.length co37)) (fun _ h_ => h_.1))) (Kd.R_base ho0) hb); have n2_ := Aside0.mk (Kd.R_lower (Kd.R_new' ho0 (Kd.R_lt (by (with_reducible repeat (first | apply Kd.R_alloc | apply Kd.R_drewN | apply Kd.R_drew)); exact (Kd.R_mono (Kd.R_far (p := ⟨gb508, 1, none⟩) (Kd.R_far (p := ⟨gb508, 0, none⟩) (Kd.R_types HO506.out BK508.out (by decide)) (fun _ hk => hk.2) (.int .i64 t503)) (fun _ hk => hk.2) (.slice Ao37 t504.length co37)) (fun _ h_ => h_.1))))) (below_size (by repeat (first | (with_reducible first | exact HB.out | apply below_alloc | apply pw_below_drewN | apply below_drew1 | refine below_set ?_ GE483.out | refine below_set ?_ GE508.out) | exact HB.out)))); have n3_ := Aside0.mk (blk_below (g := gb483) (o := .cells #[.int .i64 a0_0, .int .i64 a0_1, .int .i64 a0_2, .int .i64 a0_3, .int .i64 a0_4, .int .i64 a0_5, .int .i64 a0_6, .int .i64 a0_7, .int .i64 a0_8, .int .i64 a0_9, .int .i64 a0_10] 72 (0, 0)) (by (with_reducible repeat (first | refine blk_drewN ?_ _ | refine blk_drew ?_ | refine blk_alloc ?_ _)); refine blk_far ?_ NB483_508.out _; (with_reducible repeat (first | refine blk_drewN ?_ _ | refine blk_drew ?_ | refine blk_alloc ?_ _)); refine blk_far ?_ NB483_508.out _; (with_reducible repeat (first | refine blk_drewN ?_ _ | refine blk_drew ?_ | refine blk_alloc ?_ _)); exact BK483.out) hb); have n4_ := Aside0.mk (blk_below (g := gb508) (o := .cells #[.int .i64 t503, .slice Ao37 t504.length co37] 27 (0, 0)) (by (with_reducible repeat (first | refine blk_drewN ?_ _ | refine blk_drew ?_ | refine blk_alloc ?_ _)); refine blk_put (cs := #[.int .i64 t503, .slice none 0 0]) ?_ 1 _ rfl; (with_reducible repeat (first | refine blk_drewN ?_ _ | refine blk_drew ?_ | refine blk_alloc ?_ _)); refine blk_put (cs := #[.int .i64 0, .slice none 0 0]) ?_ 0 _ rfl; (with_reducible repeat (first | refine blk_drewN ?_ _ | refine blk_drew ?_ | refine blk_alloc ?_ _)); exact BK508.out) hb); have n5_ := Aside0.mk (below_step (by repeat (first | (with_reducible first | exact HB.out | apply below_alloc | apply pw_below_drewN | apply below_drew1 | refine below_set ?_ GE483.out | refine below_set ?_ GE508.out) | exact HB.out)) hb); clear HO_5; clear HO506; clear BK483; clear BK508; clear HB; have HO_5 := n0_; have HO506 := n1_; have HO513 := n2_; have BK483 := n3_; have BK508 := n4_; have HB := n5_; clear n0_ n1_ n2_ n3_ n4_ n5_; (try clear hb); (try clear hb2); (try clear hk); (try clear hi); (try clear ho0)) | ((with_reducible refine gate_dst (N := 9) rfl ?_); refine box_event ?hg (N := 9) ?hd (cs := #[.int .i64 0, .slice none 0 0]) (t := 27) ?hr ?_; (case hd => rfl); (case hg => rfl); (case hr => first | (go_simp; done) | (go_simp; rfl)); intro gb515 hg w39 hbox hb; have n0_ := Aside0.mk (Kd.R_below (by (with_reducible repeat (first | apply Kd.R_alloc | apply Kd.R_drewN | apply Kd.R_drew)); exact HO_5.out) hb); have n1_ := Aside0.mk (Kd.R_below (by (with_reducible repeat (first | apply Kd.R_alloc | apply Kd.R_drewN | apply Kd.R_drew)); exact HO506.out) hb); have n2_ := Aside0.mk (Kd.R_below (by (with_reducible repeat (first | apply Kd.R_alloc | apply Kd.R_drewN | apply Kd.R_drew)); exact HO513.out) hb); have n3_ := Aside0.mk (blk_below (g := gb483) (o := .cells #[.int .i64 a0_0, .int .i64 a0_1, .int .i64 a0_2, .int .i64 a0_3, .int .i64 a0_4, .int .i64 a0_5, .int .i64 a0_6, .int .i64 a0_7, .int .i64 a0_8, .int .i64 a0_9, .int .i64 a0_10] 72 (0, 0)) (by (with_reducible repeat (first | refine blk_drewN ?_ _ | refine blk_drew ?_ | refine blk_alloc ?_ _)); exact BK483.out) hb); have n4_ := Aside0.mk (blk_below (g := gb508) (o := .cells #[.int .i64 t503, .slice Ao37 t504.length co37] 27 (0, 0)) (by (with_reducible repeat (first | refine blk_drewN ?_ _ | refine blk_drew ?_ | refine blk_alloc ?_ _)); exact BK508.out) hb); have n5_ := Aside0.mk (below_step (by repeat (first | (with_reducible first | exact HB.out | apply below_alloc | apply pw_below_drewN | apply below_drew1 | refine below_set ?_ GE483.out | refine below_set ?_ GE508.out) | exact HB.out)) hb); have n6_ := Aside0.mk (hbox); have n7_ := Aside0.mk ((by rw [hg]; exact (below_size (by repeat (first | (with_reducible first | exact HB.out | apply below_alloc | apply pw_below_drewN | apply below_drew1 | refine below_set ?_ GE483.out | refine below_set ?_ GE508.out) | exact HB.out))) : w.heap.size ≤ gb515)); have n8_ := Aside0.mk ((by rw [hg]; exact (below_size (by repeat (first | (with_reducible first | exact HB.out | apply below_alloc | apply pw_below_drewN | apply below_drew1 | refine below_set ?_ GE483.out | refine below_set ?_ GE508.out) | exact HB.out))) : w.heap.size ≤ gb515)); have n9_ := Aside0.mk ((by rw [hg]; exact Nat.ne_of_lt (blk_lt (g := gb483) (o := .cells #[.int .i64 a0_0, .int .i64 a0_1, .int .i64 a0_2, .int .i64 a0_3, .int .i64 a0_4, .int .i64 a0_5, .int .i64 a0_6, .int .i64 a0_7, .int .i64 a0_8, .int .i64 a0_9, .int .i64 a0_10] 72 (0, 0)) (by (with_reducible repeat (first | refine blk_drewN ?_ _ | refine blk_drew ?_ | refine blk_alloc ?_ _)); exact BK483.out)) : gb483 ≠ gb515)); have n10_ := Aside0.mk ((by rw [hg]; exact Nat.ne_of_gt (blk_lt (g := gb483) (o := .cells #[.int .i64 a0_0, .int .i64 a0_1, .int .i64 a0_2, .int .i64 a0_3, .int .i64 a0_4, .int .i64 a0_5, .int .i64 a0_6, .int .i64 a0_7, .int .i64 a0_8, .int .i64 a0_9, .int .i64 a0_10] 72 (0, 0)) (by (with_reducible repeat (first | refine blk_drewN ?_ _ | refine blk_drew ?_ | refine blk_alloc ?_ _)); exact BK483.out)) : gb515 ≠ gb483)); have n11_ := Aside0.mk ((by rw [hg]; exact Nat.ne_of_lt (blk_lt (g := gb508) (o := .cells #[.int .i64 t503, .slice Ao37 t504.length co37] 27 (0, 0)) (by (with_reducible repeat (first | refine blk_drewN ?_ _ | refine blk_drew ?_ | refine blk_alloc ?_ _)); exact BK508.out)) : gb508 ≠ gb515)); have n12_ := Aside0.mk ((by rw [hg]; exact Nat.ne_of_gt (blk_lt (g := gb508) (o := .cells #[.int .i64 t503, .slice Ao37 t504.length co37] 27 (0, 0)) (by (with_reducible repeat (first | refine blk_drewN ?_ _ | refine blk_drew ?_ | refine blk_alloc ?_ _)); exact BK508.out)) : gb515 ≠ gb508)); clear HO_5; clear HO506; clear HO513; clear BK483; clear BK508; clear HB; have HO_5 := n0_; have HO506 := n1_; have HO513 := n2_; have BK483 := n3_; have BK508 := n4_; have HB := n5_; have BK515 := n6_; have GW515 := n7_; have GE515 := n8_; have NB483_515 := n9_; have NB515_483 := n10_; have NB508_515 := n11_; have NB515_508 := n12_; clear n0_ n1_ n2_ n3_ n4_ n5_ n6_ n7_ n8_ n9_ n10_ n11_ n12_; clear hb hbox hg; have hnb40 := NB515_483.out; have hnc40 := NB483_515.out; have hnb41 := NB515_508.out; have hnc41 := NB508_515.out; have hcz42_0 : w39.cell? ⟨gb515, 0, none⟩ = some (.int .i64 0) := (blk_cell BK515.out 0).trans rfl; have hcz42_1 : w39.cell? ⟨gb515, 1, none⟩ = some (.slice none 0 0) := (blk_cell BK515.out 1).trans rfl; have hfz42_0 := blk_frozen BK515.out 0; have hfz42_1 := blk_frozen BK515.out 1; obtain ⟨Ao43, co43, eo43⟩ := Kd.R_slice HO513.out; subst eo43; have hcz44_0 : w39.cell? ⟨gb508, 0, none⟩ = some (.int .i64 t503) := (blk_cell BK508.out 0).trans rfl; have hcz44_1 : w39.cell? ⟨gb508, 1, none⟩ = some (.slice Ao37 t504.length co37) := (blk_cell BK508.out 1).trans rfl; have hfz44_0 := blk_frozen BK508.out 0; have hfz44_1 := blk_frozen BK508.out 1) | (go_at_call 47; (with_reducible refine (thermionlaw04_sameChain.calls k1 t503 _ _ t504 t510 _ _ t511 false _ ?side1 ?side2 ?side3 ?side4 A16.out).mono ?_); (case side1 => refine (Kd.R_reads' (e := 35) (base := w.heap.size) (ok := fun k_ => (True ∧ some k_ ≠ (.slice Ao43 t511.length co43 : Value).ownBlock)) (n := t504.length) (c := co37) ?_).2.2; exact (by (with_reducible repeat (first | apply Kd.R_alloc | apply Kd.R_drewN | apply Kd.R_drew)); exact (Kd.R_mono (Kd.R_far (p := ⟨gb515, 1, none⟩) (Kd.R_far (p := ⟨gb515, 0, none⟩) (Kd.R_types HO506.out BK515.out (by decide)) (fun _ hk => hk.2) (.int .i64 t510)) (fun _ hk => hk.2) (.slice Ao43 t511.length co43)) (fun _ h_ => h_.1)))); (case side2 => exact (Kd.R_reads' HO506.out).2.1); (case side3 => refine (Kd.R_reads' (e := 35) (base := w.heap.size) (ok := fun k_ => (True ∧ some k_ ≠ (.slice Ao37 t504.length co37 : Value).ownBlock)) (n := t511.length) (c := co43) ?_).2.2; exact (by (with_reducible repeat (first | apply Kd.R_alloc | apply Kd.R_drewN | apply Kd.R_drew)); exact (Kd.R_mono (Kd.R_far (p := ⟨gb515, 1, none⟩) (Kd.R_far (p := ⟨gb515, 0, none⟩) (Kd.R_types HO513.out BK515.out (by decide)) (fun _ hk => hk.2) (.int .i64 t510)) (fun _ hk => hk.2) (.slice Ao43 t511.length co43)) (fun _ h_ => h_.1)))); (case side4 => exact (Kd.R_reads' HO513.out).2.1); rintro e w45 ⟨rfl, hb⟩; have n0_ := Aside0.mk (Kd.R_below (by (with_reducible repeat (first | apply Kd.R_alloc | apply Kd.R_drewN | apply Kd.R_drew)); exact (Kd.R_mono (Kd.R_far (p := ⟨gb515, 1, none⟩) (Kd.R_far (p := ⟨gb515, 0, none⟩) (Kd.R_types HO_5.out BK515.out (by decide)) (fun _ hk => hk.2) (.int .i64 t510)) (fun _ hk => hk.2) (.slice Ao43 t511.length co43)) (fun _ h_ => h_.1))) hb); have n1_ := Aside0.mk (Kd.R_below (by (with_reducible repeat (first | apply Kd.R_alloc | apply Kd.R_drewN | apply Kd.R_drew)); exact (Kd.R_mono (Kd.R_far (p := ⟨gb515, 1, none⟩) (Kd.R_far (p := ⟨gb515, 0, none⟩) (Kd.R_types HO506.out BK515.out (by decide)) (fun _ hk => hk.2) (.int .i64 t510)) (fun _ hk => hk.2) (.slice Ao43 t511.length co43)) (fun _ h_ => h_.1))) hb); have n2_ := Aside0.mk (Kd.R_below (by (with_reducible repeat (first | apply Kd.R_alloc | apply Kd.R_drewN | apply Kd.R_drew)); exact (Kd.R_mono (Kd.R_far (p := ⟨gb515, 1, none⟩) (Kd.R_far (p := ⟨gb515, 0, none⟩) (Kd.R_types HO513.out BK515.out (by decide)) (fun _ hk => hk.2) (.int .i64 t510)) (fun _ hk => hk.2) (.slice Ao43 t511.length co43)) (fun _ h_ => h_.1))) hb); have n3_ := Aside0.mk (blk_below (g := gb483) (o := .cells #[.int .i64 a0_0, .int .i64 a0_1, .int .i64 a0_2, .int .i64 a0_3, .int .i64 a0_4, .int .i64 a0_5, .int .i64 a0_6, .int .i64 a0_7, .int .i64 a0_8, .int .i64 a0_9, .int .i64 a0_10] 72 (0, 0)) (by (with_reducible repeat (first | refine blk_drewN ?_ _ | refine blk_drew ?_ | refine blk_alloc ?_ _)); refine blk_far ?_ NB483_515.out _; (with_reducible repeat (first | refine blk_drewN ?_ _ | refine blk_drew ?_ | refine blk_alloc ?_ _)); refine blk_far ?_ NB483_515.out _; (with_reducible repeat (first | refine blk_drewN ?_ _ | refine blk_drew ?_ | refine blk_alloc ?_ _)); exact BK483.out) hb); have n4_ := Aside0.mk (blk_below (g := gb508) (o := .cells #[.int .i64 t503, .slice Ao37 t504.length co37] 27 (0, 0)) (by (with_reducible repeat (first | refine blk_drewN ?_ _ | refine blk_drew ?_ | refine blk_alloc ?_ _)); refine blk_far ?_ NB508_515.out _; (with_reducible repeat (first | refine blk_drewN ?_ _ | refine blk_drew ?_ | refine blk_alloc ?_ _)); refine blk_far ?_ NB508_515.out _; (with_reducible repeat (first | refine blk_drewN ?_ _ | refine blk_drew ?_ | refine blk_alloc ?_ _)); exact BK508.out) hb); have n5_ := Aside0.mk (blk_below (g := gb515) (o := .cells #[.int .i64 t510, .slice Ao43 t511.length co43] 27 (0, 0)) (by (with_reducible repeat (first | refine blk_drewN ?_ _ | refine blk_drew ?_ | refine blk_alloc ?_ _)); refine blk_put (cs := #[.int .i64 t510, .slice none 0 0]) ?_ 1 _ rfl; (with_reducible repeat (first | refine blk_drewN ?_ _ | refine blk_drew ?_ | refine blk_alloc ?_ _)); refine blk_put (cs := #[.int .i64 0, .slice none 0 0]) ?_ 0 _ rfl; (with_reducible repeat (first | refine blk_drewN ?_ _ | refine blk_drew ?_ | refine blk_alloc ?_ _)); exact BK515.out) hb); have n6_ := Aside0.mk (below_step (by repeat (first | (with_reducible first | exact HB.out | apply below_alloc | apply pw_below_drewN | apply below_drew1 | refine below_set ?_ GE483.out | refine below_set ?_ GE508.out | refine below_set ?_ GE515.out) | exact HB.out)) hb); clear HO_5; clear HO506; clear HO513; clear BK483; clear BK508; clear BK515; clear HB; have HO_5 := n0_; have HO506 := n1_; have HO513 := n2_; have BK483 := n3_; have BK508 := n4_; have BK515 := n5_; have HB := n6_; clear n0_ n1_ n2_ n3_ n4_ n5_ n6_; (try clear hb); (try clear hb2); (try clear hk); (try clear hi)))
       go_ret
       exact ⟨by first | rfl | (simp [errW_none, errW_some] <;> rfl) | (simp [*, errW_none, errW_some] <;> rfl), by repeat (first | (with_reducible first | exact HB.out | apply below_alloc | apply pw_below_drewN | apply below_drew1 | refine below_set ?_ GE483.out | refine below_set ?_ GE508.out | refine below_set ?_ GE515.out) | exact HB.out)⟩
     ·rw [if_neg c15] at H
      have c15b0 : (t507 == t514) = false := beq_eq_false_iff_ne.mpr c15
      have c15b1 : (t507 != t514) = true := bne_iff_ne.mpr c15
      obtain rfl := Option.some.inj H
      obtain ⟨Ao46, co46, eo46⟩ := Kd.R_slice HO_5.out
      subst eo46
      have p502 : 0 ≤ (x6_1 : Int) := of_decide_eq_true (by first | (with_reducible assumption) | assumption)
      have q502 : x6_1 < (y498.length : Int) := of_decide_eq_true (by first | (with_reducible assumption) | assumption)
      obtain ⟨ad502, e502, hx502_0, hx502_1, hx502_2, hx502_3, hx502_4, hx502_5, hx502_6, hx502_7, hx502_8, hx502_9, hx502_10⟩ := at_T72 (Kd.R_reads' HO_5.out).2.2 x6_1 p502 q502
      cases e502
      replace p502 := eq_true p502
      replace q502 := eq_true q502
      go_wp2_with (first | ((with_reducible refine gate_callee (f := 45) rfl ?_); refine goesL_ (some 27) rfl rfl Try.func45 (by kernel_rfl) rfl #[.agg #[.int .i64 ((rd_T72 y498 x6_1).f0), .int .i64 ((rd_T72 y498 x6_1).f1.f0), .int .i64 ((rd_T72 y498 x6_1).f1.f1), .int .i64 ((rd_T72 y498 x6_1).f2.f0), .int .i64 ((rd_T72 y498 x6_1).f2.f1), .int .i64 ((rd_T72 y498 x6_1).f3.f0), .int .i64 ((rd_T72 y498 x6_1).f3.f1), .int .i64 ((rd_T72 y498 x6_1).f4.f0), .int .i64 ((rd_T72 y498 x6_1).f4.f1), .int .i64 ((rd_T72 y498 x6_1).f5.f0), .int .i64 ((rd_T72 y498 x6_1).f5.f1)]] rfl (by (try simp only [List.map_toArray, List.map_cons, List.map_nil]); first | done | rfl | (simp only [List.length_drop, List.length_take]; rfl)) ?_; (with_reducible refine (mount_Wind.calls ((rd_T72 y498 x6_1).f0) ((rd_T72 y498 x6_1).f1.f0) ((rd_T72 y498 x6_1).f1.f1) ((rd_T72 y498 x6_1).f2.f0) ((rd_T72 y498 x6_1).f2.f1) ((rd_T72 y498 x6_1).f3.f0) ((rd_T72 y498 x6_1).f3.f1) ((rd_T72 y498 x6_1).f4.f0) ((rd_T72 y498 x6_1).f4.f1) ((rd_T72 y498 x6_1).f5.f0) ((rd_T72 y498 x6_1).f5.f1) t503 t504 t507 _ A13.out).mono ?_); rintro e w47 ⟨v505, rfl, ho0, hb⟩; refine ⟨_, rfl, ?_⟩; have n0_ := Aside0.mk (Kd.R_below (by (with_reducible repeat (first | apply Kd.R_alloc | apply Kd.R_drewN | apply Kd.R_drew)); exact HO_5.out) hb); have n1_ := Aside0.mk (Kd.R_lower ho0 (below_size (by repeat (first | (with_reducible first | exact HB.out | apply below_alloc | apply pw_below_drewN | apply below_drew1 | refine below_set ?_ GE483.out) | exact HB.out)))); have n2_ := Aside0.mk (blk_below (g := gb483) (o := .cells #[.int .i64 a0_0, .int .i64 a0_1, .int .i64 a0_2, .int .i64 a0_3, .int .i64 a0_4, .int .i64 a0_5, .int .i64 a0_6, .int .i64 a0_7, .int .i64 a0_8, .int .i64 a0_9, .int .i64 a0_10] 72 (0, 0)) (by (with_reducible repeat (first | refine blk_drewN ?_ _ | refine blk_drew ?_ | refine blk_alloc ?_ _)); exact BK483.out) hb); have n3_ := Aside0.mk (below_step (by repeat (first | (with_reducible first | exact HB.out | apply below_alloc | apply pw_below_drewN | apply below_drew1 | refine below_set ?_ GE483.out) | exact HB.out)) hb); clear HO_5; clear BK483; clear HB; have HO_5 := n0_; have HO506 := n1_; have BK483 := n2_; have HB := n3_; clear n0_ n1_ n2_ n3_; (try clear hb); (try clear hb2); (try clear hk); (try clear hi); (try clear ho0)) | ((with_reducible refine gate_dst (N := 7) rfl ?_); refine box_event ?hg (N := 7) ?hd (cs := #[.int .i64 0, .slice none 0 0]) (t := 27) ?hr ?_; (case hd => rfl); (case hg => rfl); (case hr => first | (go_simp; done) | (go_simp; rfl)); intro gb508 hg w48 hbox hb; have n0_ := Aside0.mk (Kd.R_below (by (with_reducible repeat (first | apply Kd.R_alloc | apply Kd.R_drewN | apply Kd.R_drew)); exact HO_5.out) hb); have n1_ := Aside0.mk (Kd.R_below (by (with_reducible repeat (first | apply Kd.R_alloc | apply Kd.R_drewN | apply Kd.R_drew)); exact HO506.out) hb); have n2_ := Aside0.mk (blk_below (g := gb483) (o := .cells #[.int .i64 a0_0, .int .i64 a0_1, .int .i64 a0_2, .int .i64 a0_3, .int .i64 a0_4, .int .i64 a0_5, .int .i64 a0_6, .int .i64 a0_7, .int .i64 a0_8, .int .i64 a0_9, .int .i64 a0_10] 72 (0, 0)) (by (with_reducible repeat (first | refine blk_drewN ?_ _ | refine blk_drew ?_ | refine blk_alloc ?_ _)); exact BK483.out) hb); have n3_ := Aside0.mk (below_step (by repeat (first | (with_reducible first | exact HB.out | apply below_alloc | apply pw_below_drewN | apply below_drew1 | refine below_set ?_ GE483.out) | exact HB.out)) hb); have n4_ := Aside0.mk (hbox); have n5_ := Aside0.mk ((by rw [hg]; exact (below_size (by repeat (first | (with_reducible first | exact HB.out | apply below_alloc | apply pw_below_drewN | apply below_drew1 | refine below_set ?_ GE483.out) | exact HB.out))) : w.heap.size ≤ gb508)); have n6_ := Aside0.mk ((by rw [hg]; exact (below_size (by repeat (first | (with_reducible first | exact HB.out | apply below_alloc | apply pw_below_drewN | apply below_drew1 | refine below_set ?_ GE483.out) | exact HB.out))) : w.heap.size ≤ gb508)); have n7_ := Aside0.mk ((by rw [hg]; exact Nat.ne_of_lt (blk_lt (g := gb483) (o := .cells #[.int .i64 a0_0, .int .i64 a0_1, .int .i64 a0_2, .int .i64 a0_3, .int .i64 a0_4, .int .i64 a0_5, .int .i64 a0_6, .int .i64 a0_7, .int .i64 a0_8, .int .i64 a0_9, .int .i64 a0_10] 72 (0, 0)) (by (with_reducible repeat (first | refine blk_drewN ?_ _ | refine blk_drew ?_ | refine blk_alloc ?_ _)); exact BK483.out)) : gb483 ≠ gb508)); have n8_ := Aside0.mk ((by rw [hg]; exact Nat.ne_of_gt (blk_lt (g := gb483) (o := .cells #[.int .i64 a0_0, .int .i64 a0_1, .int .i64 a0_2, .int .i64 a0_3, .int .i64 a0_4, .int .i64 a0_5, .int .i64 a0_6, .int .i64 a0_7, .int .i64 a0_8, .int .i64 a0_9, .int .i64 a0_10] 72 (0, 0)) (by (with_reducible repeat (first | refine blk_drewN ?_ _ | refine blk_drew ?_ | refine blk_alloc ?_ _)); exact BK483.out)) : gb508 ≠ gb483)); clear HO_5; clear HO506; clear BK483; clear HB; have HO_5 := n0_; have HO506 := n1_; have BK483 := n2_; have HB := n3_; have BK508 := n4_; have GW508 := n5_; have GE508 := n6_; have NB483_508 := n7_; have NB508_483 := n8_; clear n0_ n1_ n2_ n3_ n4_ n5_ n6_ n7_ n8_; clear hb hbox hg; have hnb49 := NB508_483.out; have hnc49 := NB483_508.out; have hcz50_0 : w48.cell? ⟨gb508, 0, none⟩ = some (.int .i64 0) := (blk_cell BK508.out 0).trans rfl; have hcz50_1 : w48.cell? ⟨gb508, 1, none⟩ = some (.slice none 0 0) := (blk_cell BK508.out 1).trans rfl; have hfz50_0 := blk_frozen BK508.out 0; have hfz50_1 := blk_frozen BK508.out 1; obtain ⟨Ao51, co51, eo51⟩ := Kd.R_slice HO506.out; subst eo51; have p509 : 0 ≤ (x6_1 : Int) := of_decide_eq_true (by first | (with_reducible assumption) | assumption); have q509 : x6_1 < (y498.length : Int) := of_decide_eq_true (by first | (with_reducible assumption) | assumption); obtain ⟨ad509, e509, hx509_0, hx509_1, hx509_2, hx509_3, hx509_4, hx509_5, hx509_6, hx509_7, hx509_8, hx509_9, hx509_10⟩ := at_T72 (Kd.R_reads' HO_5.out).2.2 x6_1 p509 q509; obtain rfl : ad502 = ad509 := (by injection e509); have hn509_0 : ad502.block ≠ gb508 := Kd.own_blk (Kd.R_ne HO_5.out BK508.out (by decide)); have hn509_1 : ad502.block ≠ gb508 := Kd.own_blk (Kd.R_ne HO_5.out BK508.out (by decide)); replace hx509_0 := (cell_far (p := ⟨gb508, 0, none⟩) (by first | (rw [add_block]; exact hn509_0) | (show (Addr.add _ _).block ≠ _; rw [add_block]; exact hn509_0) | exact hn509_0) (.int .i64 t503)).trans hx509_0; replace hx509_1 := (cell_far (p := ⟨gb508, 0, none⟩) (by first | (rw [add_block]; exact hn509_0) | (show (Addr.add _ _).block ≠ _; rw [add_block]; exact hn509_0) | exact hn509_0) (.int .i64 t503)).trans hx509_1; replace hx509_2 := (cell_far (p := ⟨gb508, 0, none⟩) (by first | (rw [add_block]; exact hn509_0) | (show (Addr.add _ _).block ≠ _; rw [add_block]; exact hn509_0) | exact hn509_0) (.int .i64 t503)).trans hx509_2; replace hx509_3 := (cell_far (p := ⟨gb508, 0, none⟩) (by first | (rw [add_block]; exact hn509_0) | (show (Addr.add _ _).block ≠ _; rw [add_block]; exact hn509_0) | exact hn509_0) (.int .i64 t503)).trans hx509_3; replace hx509_4 := (cell_far (p := ⟨gb508, 0, none⟩) (by first | (rw [add_block]; exact hn509_0) | (show (Addr.add _ _).block ≠ _; rw [add_block]; exact hn509_0) | exact hn509_0) (.int .i64 t503)).trans hx509_4; replace hx509_5 := (cell_far (p := ⟨gb508, 0, none⟩) (by first | (rw [add_block]; exact hn509_0) | (show (Addr.add _ _).block ≠ _; rw [add_block]; exact hn509_0) | exact hn509_0) (.int .i64 t503)).trans hx509_5; replace hx509_6 := (cell_far (p := ⟨gb508, 0, none⟩) (by first | (rw [add_block]; exact hn509_0) | (show (Addr.add _ _).block ≠ _; rw [add_block]; exact hn509_0) | exact hn509_0) (.int .i64 t503)).trans hx509_6; replace hx509_7 := (cell_far (p := ⟨gb508, 0, none⟩) (by first | (rw [add_block]; exact hn509_0) | (show (Addr.add _ _).block ≠ _; rw [add_block]; exact hn509_0) | exact hn509_0) (.int .i64 t503)).trans hx509_7; replace hx509_8 := (cell_far (p := ⟨gb508, 0, none⟩) (by first | (rw [add_block]; exact hn509_0) | (show (Addr.add _ _).block ≠ _; rw [add_block]; exact hn509_0) | exact hn509_0) (.int .i64 t503)).trans hx509_8; replace hx509_9 := (cell_far (p := ⟨gb508, 0, none⟩) (by first | (rw [add_block]; exact hn509_0) | (show (Addr.add _ _).block ≠ _; rw [add_block]; exact hn509_0) | exact hn509_0) (.int .i64 t503)).trans hx509_9; replace hx509_10 := (cell_far (p := ⟨gb508, 0, none⟩) (by first | (rw [add_block]; exact hn509_0) | (show (Addr.add _ _).block ≠ _; rw [add_block]; exact hn509_0) | exact hn509_0) (.int .i64 t503)).trans hx509_10; replace hx509_0 := (cell_far (p := ⟨gb508, 1, none⟩) (by first | (rw [add_block]; exact hn509_1) | (show (Addr.add _ _).block ≠ _; rw [add_block]; exact hn509_1) | exact hn509_1) (.slice Ao51 t504.length co51)).trans hx509_0; replace hx509_1 := (cell_far (p := ⟨gb508, 1, none⟩) (by first | (rw [add_block]; exact hn509_1) | (show (Addr.add _ _).block ≠ _; rw [add_block]; exact hn509_1) | exact hn509_1) (.slice Ao51 t504.length co51)).trans hx509_1; replace hx509_2 := (cell_far (p := ⟨gb508, 1, none⟩) (by first | (rw [add_block]; exact hn509_1) | (show (Addr.add _ _).block ≠ _; rw [add_block]; exact hn509_1) | exact hn509_1) (.slice Ao51 t504.length co51)).trans hx509_2; replace hx509_3 := (cell_far (p := ⟨gb508, 1, none⟩) (by first | (rw [add_block]; exact hn509_1) | (show (Addr.add _ _).block ≠ _; rw [add_block]; exact hn509_1) | exact hn509_1) (.slice Ao51 t504.length co51)).trans hx509_3; replace hx509_4 := (cell_far (p := ⟨gb508, 1, none⟩) (by first | (rw [add_block]; exact hn509_1) | (show (Addr.add _ _).block ≠ _; rw [add_block]; exact hn509_1) | exact hn509_1) (.slice Ao51 t504.length co51)).trans hx509_4; replace hx509_5 := (cell_far (p := ⟨gb508, 1, none⟩) (by first | (rw [add_block]; exact hn509_1) | (show (Addr.add _ _).block ≠ _; rw [add_block]; exact hn509_1) | exact hn509_1) (.slice Ao51 t504.length co51)).trans hx509_5; replace hx509_6 := (cell_far (p := ⟨gb508, 1, none⟩) (by first | (rw [add_block]; exact hn509_1) | (show (Addr.add _ _).block ≠ _; rw [add_block]; exact hn509_1) | exact hn509_1) (.slice Ao51 t504.length co51)).trans hx509_6; replace hx509_7 := (cell_far (p := ⟨gb508, 1, none⟩) (by first | (rw [add_block]; exact hn509_1) | (show (Addr.add _ _).block ≠ _; rw [add_block]; exact hn509_1) | exact hn509_1) (.slice Ao51 t504.length co51)).trans hx509_7; replace hx509_8 := (cell_far (p := ⟨gb508, 1, none⟩) (by first | (rw [add_block]; exact hn509_1) | (show (Addr.add _ _).block ≠ _; rw [add_block]; exact hn509_1) | exact hn509_1) (.slice Ao51 t504.length co51)).trans hx509_8; replace hx509_9 := (cell_far (p := ⟨gb508, 1, none⟩) (by first | (rw [add_block]; exact hn509_1) | (show (Addr.add _ _).block ≠ _; rw [add_block]; exact hn509_1) | exact hn509_1) (.slice Ao51 t504.length co51)).trans hx509_9; replace hx509_10 := (cell_far (p := ⟨gb508, 1, none⟩) (by first | (rw [add_block]; exact hn509_1) | (show (Addr.add _ _).block ≠ _; rw [add_block]; exact hn509_1) | exact hn509_1) (.slice Ao51 t504.length co51)).trans hx509_10; clear hn509_0; clear hn509_1; replace p509 := eq_true p509; replace q509 := eq_true q509) | ((with_reducible refine gate_callee (f := 46) rfl ?_); refine goesL_ (some 35) rfl rfl Try.func46 (by kernel_rfl) rfl #[.agg #[.int .i64 ((rd_T72 y498 x6_1).f0), .int .i64 ((rd_T72 y498 x6_1).f1.f0), .int .i64 ((rd_T72 y498 x6_1).f1.f1), .int .i64 ((rd_T72 y498 x6_1).f2.f0), .int .i64 ((rd_T72 y498 x6_1).f2.f1), .int .i64 ((rd_T72 y498 x6_1).f3.f0), .int .i64 ((rd_T72 y498 x6_1).f3.f1), .int .i64 ((rd_T72 y498 x6_1).f4.f0), .int .i64 ((rd_T72 y498 x6_1).f4.f1), .int .i64 ((rd_T72 y498 x6_1).f5.f0), .int .i64 ((rd_T72 y498 x6_1).f5.f1)]] rfl (by (try simp only [List.map_toArray, List.map_cons, List.map_nil]); first | done | rfl | (simp only [List.length_drop, List.length_take]; rfl)) ?_; (with_reducible refine (thermionref04_Wind.calls k1 ((rd_T72 y498 x6_1).f0) ((rd_T72 y498 x6_1).f1.f0) ((rd_T72 y498 x6_1).f1.f1) ((rd_T72 y498 x6_1).f2.f0) ((rd_T72 y498 x6_1).f2.f1) ((rd_T72 y498 x6_1).f3.f0) ((rd_T72 y498 x6_1).f3.f1) ((rd_T72 y498 x6_1).f4.f0) ((rd_T72 y498 x6_1).f4.f1) ((rd_T72 y498 x6_1).f5.f0) ((rd_T72 y498 x6_1).f5.f1) t510 t511 t514 _ A14.out).mono ?_); rintro e w52 ⟨v512, rfl, ho0, hb⟩; refine ⟨_, rfl, ?_⟩; have n0_ := Aside0.mk (Kd.R_below (by (with_reducible repeat (first | apply Kd.R_alloc | apply Kd.R_drewN | apply Kd.R_drew)); exact (Kd.R_mono (Kd.R_far (p := ⟨gb508, 1, none⟩) (Kd.R_far (p := ⟨gb508, 0, none⟩) (Kd.R_types HO_5.out BK508.out (by decide)) (fun _ hk => hk.2) (.int .i64 t503)) (fun _ hk => hk.2) (.slice Ao51 t504.length co51)) (fun _ h_ => h_.1))) hb); have n1_ := Aside0.mk (Kd.R_elder' (by (with_reducible repeat (first | apply Kd.R_alloc | apply Kd.R_drewN | apply Kd.R_drew)); exact (Kd.R_mono (Kd.R_far (p := ⟨gb508, 1, none⟩) (Kd.R_far (p := ⟨gb508, 0, none⟩) (Kd.R_types HO506.out BK508.out (by decide)) (fun _ hk => hk.2) (.int .i64 t503)) (fun _ hk => hk.2) (.slice Ao51 t504.length co51)) (fun _ h_ => h_.1))) (Kd.R_base ho0) hb); have n2_ := Aside0.mk (Kd.R_lower (Kd.R_new' ho0 (Kd.R_lt (by (with_reducible repeat (first | apply Kd.R_alloc | apply Kd.R_drewN | apply Kd.R_drew)); exact (Kd.R_mono (Kd.R_far (p := ⟨gb508, 1, none⟩) (Kd.R_far (p := ⟨gb508, 0, none⟩) (Kd.R_types HO506.out BK508.out (by decide)) (fun _ hk => hk.2) (.int .i64 t503)) (fun _ hk => hk.2) (.slice Ao51 t504.length co51)) (fun _ h_ => h_.1))))) (below_size (by repeat (first | (with_reducible first | exact HB.out | apply below_alloc | apply pw_below_drewN | apply below_drew1 | refine below_set ?_ GE483.out | refine below_set ?_ GE508.out) | exact HB.out)))); have n3_ := Aside0.mk (blk_below (g := gb483) (o := .cells #[.int .i64 a0_0, .int .i64 a0_1, .int .i64 a0_2, .int .i64 a0_3, .int .i64 a0_4, .int .i64 a0_5, .int .i64 a0_6, .int .i64 a0_7, .int .i64 a0_8, .int .i64 a0_9, .int .i64 a0_10] 72 (0, 0)) (by (with_reducible repeat (first | refine blk_drewN ?_ _ | refine blk_drew ?_ | refine blk_alloc ?_ _)); refine blk_far ?_ NB483_508.out _; (with_reducible repeat (first | refine blk_drewN ?_ _ | refine blk_drew ?_ | refine blk_alloc ?_ _)); refine blk_far ?_ NB483_508.out _; (with_reducible repeat (first | refine blk_drewN ?_ _ | refine blk_drew ?_ | refine blk_alloc ?_ _)); exact BK483.out) hb); have n4_ := Aside0.mk (blk_below (g := gb508) (o := .cells #[.int .i64 t503, .slice Ao51 t504.length co51] 27 (0, 0)) (by (with_reducible repeat (first | refine blk_drewN ?_ _ | refine blk_drew ?_ | refine blk_alloc ?_ _)); refine blk_put (cs := #[.int .i64 t503, .slice none 0 0]) ?_ 1 _ rfl; (with_reducible repeat (first | refine blk_drewN ?_ _ | refine blk_drew ?_ | refine blk_alloc ?_ _)); refine blk_put (cs := #[.int .i64 0, .slice none 0 0]) ?_ 0 _ rfl; (with_reducible repeat (first | refine blk_drewN ?_ _ | refine blk_drew ?_ | refine blk_alloc ?_ _)); exact BK508.out) hb); have n5_ := Aside0.mk (below_step (by repeat (first | (with_reducible first | exact HB.out | apply below_alloc | apply pw_below_drewN | apply below_drew1 | refine below_set ?_ GE483.out | refine below_set ?_ GE508.out) | exact HB.out)) hb); clear HO_5; clear HO506; clear BK483; clear BK508; clear HB; have HO_5 := n0_; have HO506 := n1_; have HO513 := n2_; have BK483 := n3_; have BK508 := n4_; have HB := n5_; clear n0_ n1_ n2_ n3_ n4_ n5_; (try clear hb); (try clear hb2); (try clear hk); (try clear hi); (try clear ho0)) | ((with_reducible refine gate_dst (N := 9) rfl ?_); refine box_event ?hg (N := 9) ?hd (cs := #[.int .i64 0, .slice none 0 0]) (t := 27) ?hr ?_; (case hd => rfl); (case hg => rfl); (case hr => first | (go_simp; done) | (go_simp; rfl)); intro gb515 hg w53 hbox hb; have n0_ := Aside0.mk (Kd.R_below (by (with_reducible repeat (first | apply Kd.R_alloc | apply Kd.R_drewN | apply Kd.R_drew)); exact HO_5.out) hb); have n1_ := Aside0.mk (Kd.R_below (by (with_reducible repeat (first | apply Kd.R_alloc | apply Kd.R_drewN | apply Kd.R_drew)); exact HO506.out) hb); have n2_ := Aside0.mk (Kd.R_below (by (with_reducible repeat (first | apply Kd.R_alloc | apply Kd.R_drewN | apply Kd.R_drew)); exact HO513.out) hb); have n3_ := Aside0.mk (blk_below (g := gb483) (o := .cells #[.int .i64 a0_0, .int .i64 a0_1, .int .i64 a0_2, .int .i64 a0_3, .int .i64 a0_4, .int .i64 a0_5, .int .i64 a0_6, .int .i64 a0_7, .int .i64 a0_8, .int .i64 a0_9, .int .i64 a0_10] 72 (0, 0)) (by (with_reducible repeat (first | refine blk_drewN ?_ _ | refine blk_drew ?_ | refine blk_alloc ?_ _)); exact BK483.out) hb); have n4_ := Aside0.mk (blk_below (g := gb508) (o := .cells #[.int .i64 t503, .slice Ao51 t504.length co51] 27 (0, 0)) (by (with_reducible repeat (first | refine blk_drewN ?_ _ | refine blk_drew ?_ | refine blk_alloc ?_ _)); exact BK508.out) hb); have n5_ := Aside0.mk (below_step (by repeat (first | (with_reducible first | exact HB.out | apply below_alloc | apply pw_below_drewN | apply below_drew1 | refine below_set ?_ GE483.out | refine below_set ?_ GE508.out) | exact HB.out)) hb); have n6_ := Aside0.mk (hbox); have n7_ := Aside0.mk ((by rw [hg]; exact (below_size (by repeat (first | (with_reducible first | exact HB.out | apply below_alloc | apply pw_below_drewN | apply below_drew1 | refine below_set ?_ GE483.out | refine below_set ?_ GE508.out) | exact HB.out))) : w.heap.size ≤ gb515)); have n8_ := Aside0.mk ((by rw [hg]; exact (below_size (by repeat (first | (with_reducible first | exact HB.out | apply below_alloc | apply pw_below_drewN | apply below_drew1 | refine below_set ?_ GE483.out | refine below_set ?_ GE508.out) | exact HB.out))) : w.heap.size ≤ gb515)); have n9_ := Aside0.mk ((by rw [hg]; exact Nat.ne_of_lt (blk_lt (g := gb483) (o := .cells #[.int .i64 a0_0, .int .i64 a0_1, .int .i64 a0_2, .int .i64 a0_3, .int .i64 a0_4, .int .i64 a0_5, .int .i64 a0_6, .int .i64 a0_7, .int .i64 a0_8, .int .i64 a0_9, .int .i64 a0_10] 72 (0, 0)) (by (with_reducible repeat (first | refine blk_drewN ?_ _ | refine blk_drew ?_ | refine blk_alloc ?_ _)); exact BK483.out)) : gb483 ≠ gb515)); have n10_ := Aside0.mk ((by rw [hg]; exact Nat.ne_of_gt (blk_lt (g := gb483) (o := .cells #[.int .i64 a0_0, .int .i64 a0_1, .int .i64 a0_2, .int .i64 a0_3, .int .i64 a0_4, .int .i64 a0_5, .int .i64 a0_6, .int .i64 a0_7, .int .i64 a0_8, .int .i64 a0_9, .int .i64 a0_10] 72 (0, 0)) (by (with_reducible repeat (first | refine blk_drewN ?_ _ | refine blk_drew ?_ | refine blk_alloc ?_ _)); exact BK483.out)) : gb515 ≠ gb483)); have n11_ := Aside0.mk ((by rw [hg]; exact Nat.ne_of_lt (blk_lt (g := gb508) (o := .cells #[.int .i64 t503, .slice Ao51 t504.length co51] 27 (0, 0)) (by (with_reducible repeat (first | refine blk_drewN ?_ _ | refine blk_drew ?_ | refine blk_alloc ?_ _)); exact BK508.out)) : gb508 ≠ gb515)); have n12_ := Aside0.mk ((by rw [hg]; exact Nat.ne_of_gt (blk_lt (g := gb508) (o := .cells #[.int .i64 t503, .slice Ao51 t504.length co51] 27 (0, 0)) (by (with_reducible repeat (first | refine blk_drewN ?_ _ | refine blk_drew ?_ | refine blk_alloc ?_ _)); exact BK508.out)) : gb515 ≠ gb508)); clear HO_5; clear HO506; clear HO513; clear BK483; clear BK508; clear HB; have HO_5 := n0_; have HO506 := n1_; have HO513 := n2_; have BK483 := n3_; have BK508 := n4_; have HB := n5_; have BK515 := n6_; have GW515 := n7_; have GE515 := n8_; have NB483_515 := n9_; have NB515_483 := n10_; have NB508_515 := n11_; have NB515_508 := n12_; clear n0_ n1_ n2_ n3_ n4_ n5_ n6_ n7_ n8_ n9_ n10_ n11_ n12_; clear hb hbox hg; have hnb54 := NB515_483.out; have hnc54 := NB483_515.out; have hnb55 := NB515_508.out; have hnc55 := NB508_515.out; have hcz56_0 : w53.cell? ⟨gb515, 0, none⟩ = some (.int .i64 0) := (blk_cell BK515.out 0).trans rfl; have hcz56_1 : w53.cell? ⟨gb515, 1, none⟩ = some (.slice none 0 0) := (blk_cell BK515.out 1).trans rfl; have hfz56_0 := blk_frozen BK515.out 0; have hfz56_1 := blk_frozen BK515.out 1; obtain ⟨Ao57, co57, eo57⟩ := Kd.R_slice HO513.out; subst eo57))
      go_ret
      exact ⟨by first | rfl | (simp [errW_none, errW_some] <;> rfl) | (simp [*, errW_none, errW_some] <;> rfl), by repeat (first | (with_reducible first | exact HB.out | apply below_alloc | apply pw_below_drewN | apply below_drew1 | refine below_set ?_ GE483.out | refine below_set ?_ GE508.out | refine below_set ?_ GE515.out) | exact HB.out)⟩
    ·rw [if_neg c12] at H
     exact absurd H (by simp)
   ·rw [if_neg c11] at H
    have c11b0 : decide (x6_1 < (y498.length : Int)) = false := decide_eq_false c11
    clear c11
    replace H := Option.bind_eq_some_iff.mp H
    obtain ⟨t501, A580, H⟩ := H
    replace H : (some t501) = some r := H
    have A58 := Aside0.mk A580
    clear A580
    obtain rfl := Option.some.inj H
    obtain ⟨Ao59, co59, eo59⟩ := Kd.R_slice HO_5.out
    subst eo59
    go_wp2_with (first | ((with_reducible refine gate_callee (f := 21) rfl ?_); refine goesL_ (some 47) rfl rfl Try.func21 (by kernel_rfl) rfl #[] rfl (by (try simp only [List.map_toArray, List.map_cons, List.map_nil]); first | done | rfl | (simp only [List.length_drop, List.length_take]; rfl)) ?_; (with_reducible refine (thermionlaw04_awake.calls k1  t501 _ A58.out).mono ?_); rintro e w60 ⟨rfl, hb⟩; refine ⟨_, rfl, ?_⟩; have n0_ := Aside0.mk (Kd.R_below (by (with_reducible repeat (first | apply Kd.R_alloc | apply Kd.R_drewN | apply Kd.R_drew)); exact HO_5.out) hb); have n1_ := Aside0.mk (blk_below (g := gb483) (o := .cells #[.int .i64 a0_0, .int .i64 a0_1, .int .i64 a0_2, .int .i64 a0_3, .int .i64 a0_4, .int .i64 a0_5, .int .i64 a0_6, .int .i64 a0_7, .int .i64 a0_8, .int .i64 a0_9, .int .i64 a0_10] 72 (0, 0)) (by (with_reducible repeat (first | refine blk_drewN ?_ _ | refine blk_drew ?_ | refine blk_alloc ?_ _)); exact BK483.out) hb); have n2_ := Aside0.mk (below_step (by repeat (first | (with_reducible first | exact HB.out | apply below_alloc | apply pw_below_drewN | apply below_drew1 | refine below_set ?_ GE483.out) | exact HB.out)) hb); clear HO_5; clear BK483; clear HB; have HO_5 := n0_; have BK483 := n1_; have HB := n2_; clear n0_ n1_ n2_; (try clear hb); (try clear hb2); (try clear hk); (try clear hi)))
    go_ret
    exact ⟨by first | rfl | (simp [errW_none, errW_some] <;> rfl) | (simp [*, errW_none, errW_some] <;> rfl), by repeat (first | (with_reducible first | exact HB.out | apply below_alloc | apply pw_below_drewN | apply below_drew1 | refine below_set ?_ GE483.out) | exact HB.out)⟩

end Go.Proofs.Ytbcfphoheijmdaa.Print
end

section
/- MountWinds: that the law's Lean function gives true. -/
namespace Go.Proofs.Ytbcfphoheijmdaa.Print
open Go.RowKit Go.Proofs.YtbcfphoheijmdaaW.PrintWords Go.Proofs.YtbcfphoheijmdaaW.PrintLast Go.Proofs.YtbcfphoheijmdaaW.PrintMore Go.Proofs.Ytbcfphoheijmdaa.H
set_option linter.unusedVariables false
set_option linter.unusedSimpArgs false

theorem winds_step (k : Nat) (hk : 1003 ≤ k) (X : List S72) (i : Nat) (hi : i < X.length) (hX : X.length ≤ 1000) : thermionlaw04_MountWinds.l0 (k + 1) X (i : Int) = thermionlaw04_MountWinds.l0 k X ((i + 1 : Nat) : Int) := by
  rw [thermionlaw04_MountWinds.l0, if_pos (by omega), if_pos (by omega)]
  have e1 : mount_Wind.f ((rd_T72 X i).f0) ((rd_T72 X i).f1.f0) ((rd_T72 X i).f1.f1) ((rd_T72 X i).f2.f0) ((rd_T72 X i).f2.f1) ((rd_T72 X i).f3.f0) ((rd_T72 X i).f3.f1) ((rd_T72 X i).f4.f0) ((rd_T72 X i).f4.f1) ((rd_T72 X i).f5.f0) ((rd_T72 X i).f5.f1) = some (windRes (rd_T72 X i)) := rfl
  have e2 : thermionref04_Wind.f k ((rd_T72 X i).f0) ((rd_T72 X i).f1.f0) ((rd_T72 X i).f1.f1) ((rd_T72 X i).f2.f0) ((rd_T72 X i).f2.f1) ((rd_T72 X i).f3.f0) ((rd_T72 X i).f3.f1) ((rd_T72 X i).f4.f0) ((rd_T72 X i).f4.f1) ((rd_T72 X i).f5.f0) ((rd_T72 X i).f5.f1) = some (windRes (rd_T72 X i)) := ref_wind k (by omega) _ _ _ _ _ _ _ _ _ _ _
  have hl := windRes_length (rd_T72 X i)
  rw [e1, e2, Option.bind_some, Option.bind_some, if_pos rfl, same_chain _ _ hl k hk, Option.bind_some, if_pos rfl, wrap_one i (by omega)]
theorem winding_some (s : Int) : ∃ r, thermionkit_WindingOf.f s = some r := by
  unfold thermionkit_WindingOf.f
  have b1 := bet_eq s 1 11 (by omega) (by omega) (by omega)
  rw [b1.1, Option.bind_some]
  obtain ⟨a1, a2, t1, q1, _⟩ := range_eq (nextWord s) 20 60 (by omega) (by omega) (by omega)
  simp only []
  rw [q1, Option.bind_some]
  simp only []
  obtain ⟨a3, a4, t2, q2, _⟩ := range_eq t1 150 260 (by omega) (by omega) (by omega)
  rw [q2, Option.bind_some]
  simp only []
  obtain ⟨a5, a6, t3, q3, _⟩ := range_eq t2 0 30000 (by omega) (by omega) (by omega)
  rw [q3, Option.bind_some]
  simp only []
  obtain ⟨a7, a8, t4, q4, _⟩ := range_eq t3 0 40 (by omega) (by omega) (by omega)
  rw [q4, Option.bind_some]
  simp only []
  have u1 := up_eq t4 200 (by omega) (by omega)
  rw [u1.1, Option.bind_some]
  have u2 := up_eq (nextWord t4) 300 (by omega) (by omega)
  simp only []
  rw [u2.1, Option.bind_some]
  exact ⟨_, rfl⟩
theorem winds_true (a0_0 a0_1 a0_2 a0_3 a0_4 a0_5 a0_6 a0_7 a0_8 a0_9 a0_10 : Int) (l1 : List Int) : thermionlaw04_MountWinds.f 1010 a0_0 a0_1 a0_2 a0_3 a0_4 a0_5 a0_6 a0_7 a0_8 a0_9 a0_10 l1 = some true := by
  unfold thermionlaw04_MountWinds.f
  have hd : thermionkit_NewDice.f l1 = some (wordTo ((l1.length : Int) + 1374496523) l1) := rfl
  obtain ⟨r, hr⟩ := winding_some (wordTo ((l1.length : Int) + 1374496523) l1)
  rw [hd, Option.bind_some, hr, Option.bind_some]
  generalize (⟨a0_0, ⟨a0_1, a0_2⟩, ⟨a0_3, a0_4⟩, ⟨a0_5, a0_6⟩, ⟨a0_7, a0_8⟩, ⟨a0_9, a0_10⟩⟩ : S72) = x
  generalize (⟨r.1, ⟨r.2.1, r.2.2.1⟩, ⟨r.2.2.2.1, r.2.2.2.2.1⟩, ⟨r.2.2.2.2.2.1, r.2.2.2.2.2.2.1⟩, ⟨r.2.2.2.2.2.2.2.1, r.2.2.2.2.2.2.2.2.1⟩, ⟨r.2.2.2.2.2.2.2.2.2.1, r.2.2.2.2.2.2.2.2.2.2.1⟩⟩ : S72) = y
  have s0 := winds_step 1009 (by omega) [x, y] 0 (by simp) (by simp)
  have s1 := winds_step 1008 (by omega) [x, y] 1 (by simp) (by simp)
  refine (show thermionlaw04_MountWinds.l0 1010 [x, y] 0 = thermionlaw04_MountWinds.l0 1009 [x, y] 1 from s0).trans ?_
  refine (show thermionlaw04_MountWinds.l0 1009 [x, y] 1 = thermionlaw04_MountWinds.l0 1008 [x, y] 2 from s1).trans ?_
  rw [thermionlaw04_MountWinds.l0, if_neg (by simp), awake_up (by omega)]
  rfl
end Go.Proofs.Ytbcfphoheijmdaa.Print
end
