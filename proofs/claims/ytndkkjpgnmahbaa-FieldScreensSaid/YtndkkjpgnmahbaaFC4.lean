/- Part 4 of the texts of a claim about Ytndkkjpgnmahbaa, put together by a program of this work: what the Go functions do, and that their calls do so. -/
import Derived.Test.YtndkkjpgnmahbaaFC3
import Derived.Test.YtndkkjpgnmahbaaFC2
section
namespace Go.Proofs.Ytndkkjpgnmahbaa.Print
open Go.RowKit Go.Proofs.YtndkkjpgnmahbaaW.PrintWords Go.Proofs.YtndkkjpgnmahbaaW.PrintLast Go.Proofs.YtndkkjpgnmahbaaW.PrintMore Go.Proofs.Ytndkkjpgnmahbaa.H Go.Proofs.Field
attribute [local go_sem] Oper.semAt_some
attribute [local go_sem] max2_int min2_int max_two min_two max_three min_three max_four min_four
set_option linter.unusedVariables false
set_option linter.unusedSimpArgs false
def chargeF.T14 : Bool × List (List Nat × List Nat) := (true, [([], []), ([0], [0]), ([], []), ([1, 2], [1, 2]), ([3], [3]), ([], []), ([4, 5], [4, 5])])
def chargeF.B14 : List Nat := [0, 1, 0, 7, 15, 0, 63]
theorem chargeF.tab14 : rtab .any (opsOf Try.f30 14) = chargeF.T14 := by kernel_rfl
theorem chargeF.bits14 : waitsOk chargeF.T14.2 chargeF.B14 = true := by kernel_rfl
def chargeF.T15 : Bool × List (List Nat × List Nat) := (true, [([], []), ([0], [0]), ([], []), ([], []), ([], []), ([4], [4]), ([3, 5], [3, 5]), ([6], [6]), ([], []), ([8], [8]), ([], []), ([9, 10], [9, 10]), ([11], [11]), ([7, 12], [7, 12]), ([2, 13], [2, 13]), ([1, 14], [1, 14]), ([0, 1, 2, 3, 4, 5, 6, 7, 8, 9, 10, 11, 12, 13, 14, 15], []), ([16, 15, 0, 1, 2, 3, 4, 5, 6, 7, 8, 9, 10, 11, 12, 13, 14, 15], [15, 16])])
def chargeF.B15 : List Nat := [0, 1, 0, 0, 0, 16, 56, 120, 0, 256, 0, 1792, 3840, 8184, 16380, 32767, 65535, 131071]
theorem chargeF.tab15 : rtab .any (opsOf Try.f30 15) = chargeF.T15 := by kernel_rfl
theorem chargeF.bits15 : waitsOk chargeF.T15.2 chargeF.B15 = true := by kernel_rfl
def chargeF.T16 : Bool × List (List Nat × List Nat) := (true, [([], []), ([0], [0]), ([], []), ([], []), ([], []), ([4], [4]), ([3, 5], [3, 5]), ([6], [6]), ([], []), ([8], [8]), ([], []), ([9, 10], [9, 10]), ([11], [11]), ([7, 12], [7, 12]), ([2, 13], [2, 13]), ([1, 14], [1, 14]), ([0, 1, 2, 3, 4, 5, 6, 7, 8, 9, 10, 11, 12, 13, 14, 15], []), ([16, 15, 0, 1, 2, 3, 4, 5, 6, 7, 8, 9, 10, 11, 12, 13, 14, 15], [15, 16])])
def chargeF.B16 : List Nat := [0, 1, 0, 0, 0, 16, 56, 120, 0, 256, 0, 1792, 3840, 8184, 16380, 32767, 65535, 131071]
theorem chargeF.tab16 : rtab .any (opsOf Try.f30 16) = chargeF.T16 := by kernel_rfl
theorem chargeF.bits16 : waitsOk chargeF.T16.2 chargeF.B16 = true := by kernel_rfl
theorem info42 : (Try.prog.info? 42).map (fun i => (i.zero, i.size, i.bytes)) = some (some (.agg #[.int .i64 0, .int .i64 0]), 2, 16) := by kernel_rfl
theorem size42 : (Try.prog.info? 42).map (·.size) = some 2 := by kernel_rfl
structure CI (wS W : World) (g10 g12 : Nat) (v0 v1 : Value) (r3 : Int) (r4 : Bool) (L M : Int) : Prop where
  below : Below wS.heap.size wS W
  s : W.heap[g10]? = some (.cells #[v0, v1, .int .i64 r3, .bool r4] 33 (0, 0))
  r : W.heap[g12]? = some (.cells #[.int .i64 L, .int .i64 M] 42 (0, 0))
  g120 : wS.heap.size ≤ g12
namespace CI
variable {wS W W1 : World} {g10 g12 : Nat} {v0 v1 : Value} {r3 : Int} {r4 : Bool} {L M : Int}
theorem step (h : CI wS W g10 g12 v0 v1 r3 r4 L M) (hb : Below W.heap.size W W1) : CI wS W1 g10 g12 v0 v1 r3 r4 L M :=
  ⟨below_step h.below hb, blk_below h.s hb, blk_below h.r hb, h.g120⟩
theorem turn {B : Nat} {row : Option Nat} (h : CI wS W g10 g12 v0 v1 r3 r4 L M) (ht : Turn B W W1 row) (hB : wS.heap.size ≤ B) : CI wS W1 g10 g12 v0 v1 r3 r4 L M :=
  ⟨ht.below h.below hB h.below.size, ht.heap h.s, ht.heap h.r, h.g120⟩
theorem put0 (h : CI wS W g10 g12 v0 v1 r3 r4 L M) (L' : Int) : CI wS (W.setCell ⟨g12, 0, none⟩ (.int .i64 L')) g10 g12 v0 v1 r3 r4 L' M :=
  ⟨below_set h.below h.g120, blk_far h.s (p := ⟨g12, 0, none⟩) (blk_ne h.s h.r (by decide)) _, by rw [blk_set h.r 0]; rfl, h.g120⟩
theorem put1 (h : CI wS W g10 g12 v0 v1 r3 r4 L M) (M' : Int) : CI wS (W.setCell ⟨g12, 1, none⟩ (.int .i64 M')) g10 g12 v0 v1 r3 r4 L M' :=
  ⟨below_set h.below h.g120, blk_far h.s (p := ⟨g12, 1, none⟩) (blk_ne h.s h.r (by decide)) _, by rw [blk_set h.r 1]; rfl, h.g120⟩
end CI
def CJ (w wS : World) (g10 g12 : Nat) (v0 v1 : Value) (r3 : Int) (r4 : Bool) (L M : Int) (B : Nat) (ds : List Deferred) (gi gq : Nat) (ci cq : Array Value) (V : World) : Prop :=
  CI wS V g10 g12 v0 v1 r3 r4 L M ∧ MarksTo w.heap.size B V ds ∧ B ≤ V.heap.size ∧ V.heap[gi]? = some (.cells ci 3 (0, 0)) ∧ V.heap[gq]? = some (.cells cq 24 (0, 0))
namespace CJ
variable {w wS : World} {g10 g12 : Nat} {v0 v1 : Value} {r3 : Int} {r4 : Bool} {L M : Int} {B : Nat} {ds : List Deferred} {gi gq : Nat} {ci cq : Array Value} {V V1 : World}
theorem step (h : CJ w wS g10 g12 v0 v1 r3 r4 L M B ds gi gq ci cq V) (hb : Below V.heap.size V V1) : CJ w wS g10 g12 v0 v1 r3 r4 L M B ds gi gq ci cq V1 :=
  ⟨h.1.step hb, h.2.1.others (below_others hb), Nat.le_trans h.2.2.1 hb.size, blk_below h.2.2.2.1 hb, blk_below h.2.2.2.2 hb⟩
theorem put0 (h : CJ w wS g10 g12 v0 v1 r3 r4 L M B ds gi gq ci cq V) (L' : Int) : CJ w wS g10 g12 v0 v1 r3 r4 L' M B ds gi gq ci cq (V.setCell ⟨g12, 0, none⟩ (.int .i64 L')) :=
  ⟨h.1.put0 L', h.2.1.others (KeepsOthers.setCell _ _ _), Nat.le_trans h.2.2.1 (KeepsOthers.setCell V ⟨g12, 0, none⟩ (.int .i64 L')).size, blk_far (p := ⟨g12, 0, none⟩) h.2.2.2.1 (blk_ne h.2.2.2.1 h.1.r (by decide)) _, blk_far (p := ⟨g12, 0, none⟩) h.2.2.2.2 (blk_ne h.2.2.2.2 h.1.r (by decide)) _⟩
theorem put1 (h : CJ w wS g10 g12 v0 v1 r3 r4 L M B ds gi gq ci cq V) (M' : Int) : CJ w wS g10 g12 v0 v1 r3 r4 L M' B ds gi gq ci cq (V.setCell ⟨g12, 1, none⟩ (.int .i64 M')) :=
  ⟨h.1.put1 M', h.2.1.others (KeepsOthers.setCell _ _ _), Nat.le_trans h.2.2.1 (KeepsOthers.setCell V ⟨g12, 1, none⟩ (.int .i64 M')).size, blk_far (p := ⟨g12, 1, none⟩) h.2.2.2.1 (blk_ne h.2.2.2.1 h.1.r (by decide)) _, blk_far (p := ⟨g12, 1, none⟩) h.2.2.2.2 (blk_ne h.2.2.2.2 h.1.r (by decide)) _⟩
end CJ
theorem below_row {w W : World} {g : Nat} {cs : Array Value} (h : Below w.heap.size w W) (hg : w.heap.size ≤ g) : Below w.heap.size w (W.setRow g cs) :=
  ⟨h.os, h.tape, h.output, by rw [size_setRow]; exact h.size, fun i hi => by rw [setRow_other _ g i _ (by omega)]; exact h.block i hi⟩
set_option maxHeartbeats 6400000 in
set_option maxRecDepth 100000 in
theorem field_Charge.calls (W H : Int) (R : Bool) (A : Option Addr) (c : Nat) (C : List Int) (A1 : Option Addr) (c1 : Nat) (volts : List Int) (a2 : Int) (a3 : Int) (x1 : Int) (x2 : Int) (x3 : Int) (w : World) (hr : Kd.C (Kd.int .i64) w A C.length C) (hc : C.length ≤ c) (hr1 : Kd.C (Kd.int .i64) w A1 volts.length volts) (hc1 : volts.length ≤ c1)
    (h : field_Charge.f W H R C volts a2 a3 = some (x1, x2, x3)) :
    Calls Try.prog 30 #[.agg (planV W H R A C.length c), .slice A1 volts.length c1, .int .i64 a2, .int .i64 a3] w fun e w' => e = .returned (.tuple #[.agg #[.int .i64 x1, .int .i64 x2], .int .i64 x3]) ∧ Below w.heap.size w w' := by
  have HR := Aside0.mk hr
  have HC := Aside0.mk hc
  have HR1 := Aside0.mk hr1
  have HC1 := Aside0.mk hc1
  have HM := Aside0.mk (Mem.start w)
  have hu24 := Try.underlying24
  have hu22 := Try.underlying22
  have hu33 := Try.underlying33
  have hu42 := Try.underlying42
  have hlen : (C.length : Int) ≤ 9223372036854775807 := by have := (Kd.reads_of_C (enc := Value.int .i64) (d := (0 : Int)) (h1 := fun _ => rfl) hr).2.1; omega
  clear hr hc hr1 hc1
  unfold field_Charge.f at h
  have h0 := Option.bind_eq_some_iff.1 h
  clear h
  obtain ⟨⟨r1, r2, r3, r4, r5⟩, hs, h⟩ := h0
  have HS := Aside0.mk hs
  by_cases g0 : r5 ≠ 0
  · rw [if_pos g0] at h
    simp only [Option.some.injEq, Prod.mk.injEq] at h
    obtain ⟨rfl, rfl, rfl⟩ := h
    have g1 : (r5 != 0) = true := bne_iff_ne.mpr g0
    clear g0 hs
    refine (callsIn_wide (n := 5)).1 (callsIn_of_wp_marks Try.func30 rfl trivial ?_)
    simp only [Try.ntmps30, List.size_toArray, List.length_cons, List.length_nil, Nat.reduceAdd, Nat.reduceSub, Array.replicate_succ, Array.replicate_zero, List.push_toArray, List.append_toArray, List.nil_append, List.cons_append]
    refine wpIn_wide.2 ?_
    go_wp2_with (first
      | ((with_reducible refine gate_dst (N := 4) rfl ?_); refine ev_box HM.out rfl 24 (.tmp 0) rfl (cs := planV W H R A C.length c) rfl ?_; intro gp w1 hm1 hq1; clear hq1; have HM1 := Aside0.mk hm1; clear hm1 HM)
      | ((with_reducible refine gate_dst (N := 5) rfl ?_); refine ev_box1 HM1.out rfl 22 (.tmp 1) rfl rfl rfl ?_; intro g5 w2 hm2 hq2; clear hq2; have HM2 := Aside0.mk hm2; clear hm2 HM1)
      | ((with_reducible refine gate_dst (N := 7) rfl ?_); refine ev_box1 HM2.out rfl 3 (.tmp 3) rfl rfl rfl ?_; intro g7 w3 hm3 hq3; clear hq3; have HM3 := Aside0.mk hm3; clear hm3 HM2)
      | ((with_reducible refine gate_dst (N := 8) rfl ?_); refine ev_new HM3.out rfl 42 rfl info42 ?_; intro g8 w4 hm4 hq4; clear hq4; have HM4 := Aside0.mk hm4; clear hm4 HM3; have q5 : w4.cell? ⟨g5, 0, none⟩ = some (.slice A1 volts.length c1) := (blk_cell HM4.out.third 0).trans rfl)
      | ((with_reducible refine gate_dst (N := 18) rfl ?_); refine ev_load HM4.out.drop.third rfl 24 (.tmp 4) rfl rfl _ Try.underlying24 rfl size24 rfl ?_)
      | (go_at_call 25; refine (field_Solve.calls W H R A c C A1 c1 volts _ r1 r2 r3 r4 _ _ (Kd.C_below HR.out HM4.out.below) HC.out (Kd.C_below HR1.out HM4.out.below) HC1.out HS.out).mono ?_; rintro e w5 ⟨v0, v1, rfl, hv0, hv1, hb5⟩; obtain ⟨A7, c7, rfl⟩ := Kd.R_slice hv0; obtain ⟨A8, c8, rfl⟩ := Kd.R_slice hv1; have HV0 := Aside0.mk (Kd.R_reads' hv0); have HV1 := Aside0.mk (Kd.R_reads' hv1); have HM5 := Aside0.mk (HM4.out.step hb5); clear hb5 HM4 hv0 hv1 q5)
      | ((with_reducible refine gate_dst (N := 10) rfl ?_); refine ev_new HM5.out rfl 33 rfl info33 ?_; intro g10 w6 hm6 hq6; have HBS0 := Aside0.mk hq6; clear hq6; have HM50 := Aside0.mk hm6; clear hm6)
      | ((with_reducible refine gate_store (t := 33) (p := 10) rfl ?_); refine ev_store HM50.out rfl 33 (.tmp 10) (.tmp 22) rfl rfl (cs := #[.slice A7 r1.length c7, .slice A8 r2.length c8, .int .i64 r3, .bool r4]) rfl size33 rfl rfl (by simp [Value.oneCell']) ?_; intro w7 hm7 hq7; clear hq7; have HM6 := Aside0.mk hm7; clear hm7 HM50; have q7 : w7.cell? ⟨g7, 0, none⟩ = some (.int .i64 a3) := (blk_cell HM6.out.third 0).trans rfl)
      | ((with_reducible refine gate_store (t := 42) (p := 8) rfl ?_); refine ev_storeB HM6.out.second rfl 42 (.tmp 8) (.tmp 26) rfl rfl rfl size42 rfl rfl (by simp [Value.oneCell']) ?_))
    exact ret_marks (by rw [size_setRow]; exact HM6.out.below.size) (Marks.nil _ _) (fun W' hq => ⟨_, results_row_tmp rfl _ _ g8 42 _ (0, 0) _ rfl (hq.cells _ _ (setRow_heap _ _ _ _ _ _ HM6.out.second) rfl) hu42 rfl (by rw [size42]; rfl), rfl, (below_row HM6.out.below HM6.out.drop.geh).trans hq.below⟩)
  obtain rfl : r5 = 0 := Classical.byContradiction g0
  replace h : (if (0 : Int) ≠ 0 then some (0, 0, 0) else if hasB C a3 = false then some (0, 0, 7) else some (chTo W.toNat H.toNat R C a3 (fn volts (a3.toNat - 1)) r2 C.length, chTo W.toNat H.toNat R C a3 (fn volts (a3.toNat - 1)) r1 C.length, 0)) = some (x1, x2, x3) := h
  obtain ⟨W', H', N, rfl, rfl, rfl, hN2, hW, hH, hN, hV, e1, e2, e3, e4⟩ := solve_good hs
  have HHAS := Aside0.mk (has_eq (W' : Int) (H' : Int) R C a3 (by omega) 0)
  rw [if_neg (by simp)] at h
  by_cases g1 : hasB C a3 = false
  · rw [if_pos g1] at h
    simp only [Option.some.injEq, Prod.mk.injEq] at h
    obtain ⟨rfl, rfl, rfl⟩ := h
    rw [g1] at HHAS
    clear g0 hs g1 hN2 hW hH hN hV e1 e2 e3 e4
    refine (callsIn_wide (n := 5)).1 (callsIn_of_wp_marks Try.func30 rfl trivial ?_)
    simp only [Try.ntmps30, List.size_toArray, List.length_cons, List.length_nil, Nat.reduceAdd, Nat.reduceSub, Array.replicate_succ, Array.replicate_zero, List.push_toArray, List.append_toArray, List.nil_append, List.cons_append]
    refine wpIn_wide.2 ?_
    go_wp2_with (first
      | ((with_reducible refine gate_dst (N := 4) rfl ?_); refine ev_box HM.out rfl 24 (.tmp 0) rfl (cs := planV (W' : Int) (H' : Int) R A C.length c) rfl ?_; intro gp w1 hm1 hq1; clear hq1; have HM1 := Aside0.mk hm1; clear hm1 HM)
      | ((with_reducible refine gate_dst (N := 5) rfl ?_); refine ev_box1 HM1.out rfl 22 (.tmp 1) rfl rfl rfl ?_; intro g5 w2 hm2 hq2; clear hq2; have HM2 := Aside0.mk hm2; clear hm2 HM1)
      | ((with_reducible refine gate_dst (N := 7) rfl ?_); refine ev_box1 HM2.out rfl 3 (.tmp 3) rfl rfl rfl ?_; intro g7 w3 hm3 hq3; clear hq3; have HM3 := Aside0.mk hm3; clear hm3 HM2)
      | ((with_reducible refine gate_dst (N := 8) rfl ?_); refine ev_new HM3.out rfl 42 rfl info42 ?_; intro g8 w4 hm4 hq4; clear hq4; have HM4 := Aside0.mk hm4; clear hm4 HM3; have q5 : w4.cell? ⟨g5, 0, none⟩ = some (.slice A1 volts.length c1) := (blk_cell HM4.out.third 0).trans rfl)
      | ((with_reducible refine gate_dst (N := 18) rfl ?_); refine ev_load HM4.out.drop.third rfl 24 (.tmp 4) rfl rfl _ Try.underlying24 rfl size24 rfl ?_)
      | (go_at_call 25; refine (field_Solve.calls (W' : Int) (H' : Int) R A c C A1 c1 volts _ r1 r2 r3 r4 _ _ (Kd.C_below HR.out HM4.out.below) HC.out (Kd.C_below HR1.out HM4.out.below) HC1.out HS.out).mono ?_; rintro e w5 ⟨v0, v1, rfl, hv0, hv1, hb5⟩; obtain ⟨A7, c7, rfl⟩ := Kd.R_slice hv0; obtain ⟨A8, c8, rfl⟩ := Kd.R_slice hv1; have HV0 := Aside0.mk (Kd.R_reads' hv0); have HV1 := Aside0.mk (Kd.R_reads' hv1); have HM5 := Aside0.mk (HM4.out.step hb5); clear hb5 HM4 hv0 hv1 q5)
      | ((with_reducible refine gate_dst (N := 10) rfl ?_); refine ev_new HM5.out rfl 33 rfl info33 ?_; intro g10 w6 hm6 hq6; have HBS0 := Aside0.mk hq6; clear hq6; have HM50 := Aside0.mk hm6; clear hm6)
      | ((with_reducible refine gate_store (t := 33) (p := 10) rfl ?_); refine ev_store HM50.out rfl 33 (.tmp 10) (.tmp 22) rfl rfl (cs := #[.slice A7 r1.length c7, .slice A8 r2.length c8, .int .i64 r3, .bool r4]) rfl size33 rfl rfl (by simp [Value.oneCell']) ?_; intro w7 hm7 hq7; clear hq7; have HM6 := Aside0.mk hm7; clear hm7 HM50; have q7 : w7.cell? ⟨g7, 0, none⟩ = some (.int .i64 a3) := (blk_cell HM6.out.third 0).trans rfl)
      | ((with_reducible refine gate_dst (N := 28) rfl ?_); refine ev_load HM6.out.drop.drop.third rfl 24 (.tmp 4) rfl rfl _ Try.underlying24 rfl size24 rfl ?_)
      | (go_at_call 77; refine (field_has.calls _ (W' : Int) (H' : Int) R A c C _ _ _ (Kd.C_below HR.out HM6.out.below) HC.out HHAS.out).mono ?_; rintro e w8 ⟨rfl, hb8⟩; have HM7 := Aside0.mk (HM6.out.step hb8); clear hb8 HM6 q7)
      | ((with_reducible refine gate_store (t := 42) (p := 8) rfl ?_); refine ev_storeB HM7.out.second rfl 42 (.tmp 8) (.tmp 32) rfl rfl rfl size42 rfl rfl (by simp [Value.oneCell']) ?_))
    exact ret_marks (by rw [size_setRow]; exact HM7.out.below.size) (Marks.nil _ _) (fun W' hq => ⟨_, results_row_tmp rfl _ _ g8 42 _ (0, 0) _ rfl (hq.cells _ _ (setRow_heap _ _ _ _ _ _ HM7.out.second) rfl) hu42 rfl (by rw [size42]; rfl), rfl, (below_row HM7.out.below HM7.out.drop.geh).trans hq.below⟩)
  rw [if_neg g1] at h
  have g1' : hasB C a3 = true := by simpa using g1
  rw [g1'] at HHAS
  obtain ⟨n, rfl⟩ : ∃ n : Nat, a3 = (n : Int) + 1 := ⟨(a3 - 1).toNat, by
    unfold hasB at g1'
    rw [Bool.and_eq_true, decide_eq_true_eq] at g1'
    omega⟩
  have hel : (n : Int) + 1 ∈ C := by
    unfold hasB at g1'
    rw [Bool.and_eq_true, List.contains_iff_mem] at g1'
    exact g1'.2
  obtain ⟨i0, hi0, hce⟩ := mem_fn hel
  have hvl := hV.vlen i0 hi0
  rw [hce] at hvl
  have hub := volt_range hV hi0 (by rw [hce]; omega)
  have huv : volt C volts i0 = fn volts n := by unfold volt; rw [hce, show ((n : Int) + 1).toNat - 1 = n by omega]
  rw [huv] at hub
  have HUB := Aside0.mk hub
  obtain ⟨adv, ev, hcv⟩ := at_natM HR1.out n (by omega)
  rw [show volts.getD n 0 = fn volts n from rfl] at hcv
  have HNV : Aside0 (n < volts.length) := ⟨by omega⟩
  have HRNG : Aside0 (∀ j, j < W' * H' → (-1000000 ≤ fn r1 j ∧ fn r1 j ≤ 1000000) ∧ (-1000000 ≤ fn r2 j ∧ fn r2 j ≤ 1000000)) := ⟨fun j hj => by
    have hj' : j < C.length := by rw [hV.len]; exact hj
    have h5 := solve_range hV hN N hj'
    rw [← e1, ← e2, fn_take hj', fn_take hj']
    exact h5⟩
  have l1 : r1.length = C.length := by rw [← e1, List.length_take, (solve_pair hV hN N).low.1.len]; omega
  have l2 : r2.length = C.length := by rw [← e2, List.length_take, (solve_pair hV hN N).high.1.len]; omega
  have HEQ : Aside0 (chTo W' H' R C ((n : Int) + 1) (fn volts n) r2 C.length = x1 ∧ chTo W' H' R C ((n : Int) + 1) (fn volts n) r1 C.length = x2 ∧ (0 : Int) = x3) := ⟨by
    rw [Int.toNat_natCast, Int.toNat_natCast, show ((n : Int) + 1).toNat - 1 = n by omega] at h
    simpa only [Option.some.injEq, Prod.mk.injEq] using h⟩
  have HLEN : Aside0 (C.length = W' * H' ∧ W' ≤ 16 ∧ H' ≤ 16 ∧ C.length ≤ 256) := ⟨⟨hV.len, hW, hH, hN⟩⟩
  have HL12 : Aside0 (r1.length = C.length ∧ r2.length = C.length) := ⟨⟨l1, l2⟩⟩
  have b1 : (C.length : Int) ≤ 256 := by omega
  have k1 : (0 : Int) ≤ (n : Int) := by omega
  have k2 : (n : Int) < (volts.length : Int) := by omega
  have n1 : IntKind.i64.wrap ((n : Int) + 1 - 1) = (n : Int) := by rw [Int.add_sub_cancel]; exact IntWalk.i64_in _ (by have := (Kd.reads_of_C (enc := Value.int .i64) (d := (0 : Int)) (h1 := fun _ => rfl) HR1.out).2.1; omega)
  have n2 : IntKind.i64.wrap (n : Int) = (n : Int) := IntWalk.i64_in _ (by have := (Kd.reads_of_C (enc := Value.int .i64) (d := (0 : Int)) (h1 := fun _ => rfl) HR1.out).2.1; omega)
  obtain ⟨u, hu⟩ : ∃ u, fn volts n = u := ⟨_, rfl⟩
  rw [hu] at HUB HEQ hcv
  have HCV := Aside0.mk (And.intro ev hcv)
  clear hs g0 g1 g1' h hN2 hW hH hN hV e1 e2 e3 e4 hel hi0 hce hvl hub huv ev hcv hu l1 l2 i0
  refine (callsIn_wide (n := 5)).1 (callsIn_of_wp_marks Try.func30 rfl trivial ?_)
  simp only [Try.ntmps30, List.size_toArray, List.length_cons, List.length_nil, Nat.reduceAdd, Nat.reduceSub, Array.replicate_succ, Array.replicate_zero, List.push_toArray, List.append_toArray, List.nil_append, List.cons_append]
  refine wpIn_wide.2 ?_
  go_wp2_with (first
    | ((with_reducible refine gate_dst (N := 4) rfl ?_); refine ev_box HM.out rfl 24 (.tmp 0) rfl (cs := planV (W' : Int) (H' : Int) R A C.length c) rfl ?_; intro gp w1 hm1 hq1; clear hq1; have HM1 := Aside0.mk hm1; clear hm1 HM)
    | ((with_reducible refine gate_dst (N := 5) rfl ?_); refine ev_box1 HM1.out rfl 22 (.tmp 1) rfl rfl rfl ?_; intro g5 w2 hm2 hq2; clear hq2; have HM2 := Aside0.mk hm2; clear hm2 HM1)
    | ((with_reducible refine gate_dst (N := 7) rfl ?_); refine ev_box1 HM2.out rfl 3 (.tmp 3) rfl rfl rfl ?_; intro g7 w3 hm3 hq3; clear hq3; have HM3 := Aside0.mk hm3; clear hm3 HM2)
    | ((with_reducible refine gate_dst (N := 8) rfl ?_); refine ev_new HM3.out rfl 42 rfl info42 ?_; intro g8 w4 hm4 hq4; clear hq4; have HM4 := Aside0.mk hm4; clear hm4 HM3; have q5 : w4.cell? ⟨g5, 0, none⟩ = some (.slice A1 volts.length c1) := (blk_cell HM4.out.third 0).trans rfl)
    | ((with_reducible refine gate_dst (N := 18) rfl ?_); refine ev_load HM4.out.drop.third rfl 24 (.tmp 4) rfl rfl _ Try.underlying24 rfl size24 rfl ?_)
    | (go_at_call 25; refine (field_Solve.calls (W' : Int) (H' : Int) R A c C A1 c1 volts _ r1 r2 r3 r4 _ _ (Kd.C_below HR.out HM4.out.below) HC.out (Kd.C_below HR1.out HM4.out.below) HC1.out HS.out).mono ?_; rintro e w5 ⟨v0, v1, rfl, hv0, hv1, hb5⟩; obtain ⟨A7, c7, rfl⟩ := Kd.R_slice hv0; obtain ⟨A8, c8, rfl⟩ := Kd.R_slice hv1; have HV0 := Aside0.mk (Kd.R_reads' hv0); have HV1 := Aside0.mk (Kd.R_reads' hv1); have HM5 := Aside0.mk (HM4.out.step hb5); have HN5 := Aside0.mk (Mem.start w5); clear hb5 HM4 hv0 hv1 q5)
    | ((with_reducible refine gate_dst (N := 10) rfl ?_); refine ev_new HN5.out rfl 33 rfl info33 ?_; intro g10 w6 hm6 hq6; clear hq6; have HN50 := Aside0.mk hm6; clear hm6 HN5)
    | ((with_reducible refine gate_store (t := 33) (p := 10) rfl ?_); refine ev_store HN50.out rfl 33 (.tmp 10) (.tmp 22) rfl rfl (cs := #[.slice A7 r1.length c7, .slice A8 r2.length c8, .int .i64 r3, .bool r4]) rfl size33 rfl rfl (by simp [Value.oneCell']) ?_; intro w7 hm7 hq7; clear hq7; have HN6 := Aside0.mk hm7; clear hm7 HN50; have q7 : w7.cell? ⟨g7, 0, none⟩ = some (.int .i64 ((n : Int) + 1)) := (blk_cell (blk_below HM5.out.second HN6.out.below) 0).trans rfl)
    | ((with_reducible refine gate_dst (N := 28) rfl ?_); refine ev_load (blk_below HM5.out.drop.third HN6.out.below) rfl 24 (.tmp 4) rfl rfl _ Try.underlying24 rfl size24 rfl ?_)
    | (go_at_call 77; refine (field_has.calls _ (W' : Int) (H' : Int) R A c C _ _ _ (Kd.C_below HR.out (below_step HM5.out.below HN6.out.below)) HC.out HHAS.out).mono ?_; rintro e w8 ⟨rfl, hb8⟩; have HN7 := Aside0.mk (HN6.out.step hb8); clear hb8 HN6 q7)
    | ((with_reducible refine gate_dst (N := 12) rfl ?_); refine ev_new HN7.out rfl 42 rfl info42 ?_; intro g12 w9 hm9 hq9; clear hq9; have HN8 := Aside0.mk hm9; clear hm9 HN7; have q3 : w9.cell? ⟨gp, 3, none⟩ = some (.slice A C.length c) := (blk_cell (blk_below HM5.out.drop.third HN8.out.below) 3).trans rfl))
  rename_i Ka hKa
  have HKa := Aside0.mk hKa
  clear hKa
  have HCI0 : Aside0 (CI w5 w9 g10 g12 (.slice A7 r1.length c7) (.slice A8 r2.length c8) r3 r4 (chTo W' H' R C ((n : Int) + 1) u r2 0) (chTo W' H' R C ((n : Int) + 1) u r1 0)) := ⟨⟨HN8.out.below, HN8.out.second, HN8.out.head, HN8.out.geh⟩⟩
  have HG10 : Aside0 (w5.heap.size ≤ g10) := ⟨HN8.out.drop.geh⟩
  clear HN8 q3
  have HE5 : Aside0 (w5.heap[gp]? = some (.cells (planV (W' : Int) (H' : Int) R A C.length c) 24 (0, 0)) ∧ w5.heap[g5]? = some (.cells #[.slice A1 volts.length c1] 22 (0, 0)) ∧ w5.heap[g7]? = some (.cells #[.int .i64 ((n : Int) + 1)] 3 (0, 0)) ∧ w5.heap[g8]? = some (.cells #[.int .i64 0, .int .i64 0] 42 (0, 0)) ∧ w.heap.size ≤ g8 ∧ Below w.heap.size w w5) := ⟨⟨HM5.out.drop.third, HM5.out.third, HM5.out.second, HM5.out.head, HM5.out.geh, HM5.out.below⟩⟩
  clear HM5
  refine (wpIn_wide (n := 5)).1 ?_
  refine loop_ghost (fun k a' Wz => ∃ (i : Nat) (ds : List Deferred), a' = (fun (zs : Nat → Value) => ({ tmps := List.toArray (zs 0 :: zs 1 :: zs 2 :: zs 3 :: .pointer (some ⟨gp, 0, none⟩) :: .pointer (some ⟨g5, 0, none⟩) :: zs 6 :: .pointer (some ⟨g7, 0, none⟩) :: .pointer (some ⟨g8, 0, none⟩) :: zs 9 :: .pointer (some ⟨g10, 0, none⟩) :: zs 11 :: .pointer (some ⟨g12, 0, none⟩) :: zs 13 :: zs 14 :: zs 15 :: zs 16 :: zs 17 :: zs 18 :: zs 19 :: zs 20 :: zs 21 :: zs 22 :: zs 23 :: zs 24 :: zs 25 :: zs 26 :: zs 27 :: zs 28 :: zs 29 :: zs 30 :: zs 31 :: zs 32 :: zs 33 :: .slice A C.length c :: .int .i64 (C.length : Int) :: .int .i64 (i : Int) :: zs 37 :: zs 38 :: zs 39 :: zs 40 :: zs 41 :: zs 42 :: zs 43 :: zs 44 :: zs 45 :: zs 46 :: zs 47 :: zs 48 :: zs 49 :: zs 50 :: zs 51 :: zs 52 :: zs 53 :: zs 54 :: zs 55 :: zs 56 :: zs 57 :: zs 58 :: zs 59 :: zs 60 :: zs 61 :: zs 62 :: zs 63 :: zs 64 :: zs 65 :: zs 66 :: zs 67 :: zs 68 :: zs 69 :: zs 70 :: zs 71 :: zs 72 :: zs 73 :: zs 74 :: zs 75 :: zs 76 :: zs 77 :: zs 78 :: zs 79 :: zs 80 :: zs 81 :: zs 82 :: zs 83 :: zs 84 :: zs 85 :: zs 86 :: zs 87 :: zs 88 :: zs 89 :: zs 90 :: zs 91 :: []), defers := ds } : Act)) (fun q => a'.tmps.getD q undef) ∧ Aside0 (i + k = C.length) ∧ Aside0 (Marks w.heap.size Wz ds) ∧ Aside0 (CI w5 Wz g10 g12 (.slice A7 r1.length c7) (.slice A8 r2.length c8) r3 r4 (chTo W' H' R C ((n : Int) + 1) u r2 i) (chTo W' H' R C ((n : Int) + 1) u r1 i))) C.length ?_ ?_
  · exact ⟨0, [], rfl, ⟨by omega⟩, ⟨Marks.nil _ _⟩, HCI0⟩
  clear HCI0
  rintro k a1 W1 ⟨i, ds, ha, HK, HMK, HCI⟩
  generalize (fun q => a1.tmps.getD q undef) = zs at ha
  replace ha : a1 = ({ tmps := List.toArray (zs 0 :: zs 1 :: zs 2 :: zs 3 :: .pointer (some ⟨gp, 0, none⟩) :: .pointer (some ⟨g5, 0, none⟩) :: zs 6 :: .pointer (some ⟨g7, 0, none⟩) :: .pointer (some ⟨g8, 0, none⟩) :: zs 9 :: .pointer (some ⟨g10, 0, none⟩) :: zs 11 :: .pointer (some ⟨g12, 0, none⟩) :: zs 13 :: zs 14 :: zs 15 :: zs 16 :: zs 17 :: zs 18 :: zs 19 :: zs 20 :: zs 21 :: zs 22 :: zs 23 :: zs 24 :: zs 25 :: zs 26 :: zs 27 :: zs 28 :: zs 29 :: zs 30 :: zs 31 :: zs 32 :: zs 33 :: .slice A C.length c :: .int .i64 (C.length : Int) :: .int .i64 (i : Int) :: zs 37 :: zs 38 :: zs 39 :: zs 40 :: zs 41 :: zs 42 :: zs 43 :: zs 44 :: zs 45 :: zs 46 :: zs 47 :: zs 48 :: zs 49 :: zs 50 :: zs 51 :: zs 52 :: zs 53 :: zs 54 :: zs 55 :: zs 56 :: zs 57 :: zs 58 :: zs 59 :: zs 60 :: zs 61 :: zs 62 :: zs 63 :: zs 64 :: zs 65 :: zs 66 :: zs 67 :: zs 68 :: zs 69 :: zs 70 :: zs 71 :: zs 72 :: zs 73 :: zs 74 :: zs 75 :: zs 76 :: zs 77 :: zs 78 :: zs 79 :: zs 80 :: zs 81 :: zs 82 :: zs 83 :: zs 84 :: zs 85 :: zs 86 :: zs 87 :: zs 88 :: zs 89 :: zs 90 :: zs 91 :: []), defers := ds } : Act) := ha
  subst ha
  by_cases hi : i < C.length
  rotate_left
  · obtain rfl : i = C.length := by have := HK.out; omega
    clear hi
    refine wpIn_wide.2 ?_
    have hlt : decide ((C.length : Int) < (C.length : Int)) = false := decide_eq_false (by omega)
    rw [HEQ.out.1, HEQ.out.2.1] at HCI
    go_wp2_with fail
    refine HKa.out _ _ ?_
    go_wp2_with (first
      | ((with_reducible refine gate_dst (N := 91) rfl ?_); refine ev_load HCI.out.r rfl 42 (.tmp 12) rfl rfl _ Try.underlying42 rfl size42 rfl ?_)
      | ((with_reducible refine gate_store (t := 42) (p := 8) rfl ?_); refine ev_storeB (blk_below HE5.out.2.2.2.1 HCI.out.below) rfl 42 (.tmp 8) (.tmp 91) rfl rfl rfl size42 rfl rfl (by simp [Value.oneCell']) ?_))
    exact ret_marks (by rw [size_setRow]; exact Nat.le_trans HE5.out.2.2.2.2.2.size HCI.out.below.size) (HMK.out.keep (fun q o _ ho hcs => by rw [setRow_other _ _ _ _ (fun e => by rw [e, blk_below HE5.out.2.2.2.1 HCI.out.below] at ho; cases ho; cases hcs)]; exact ho)) (fun W' hq => ⟨_, results_row_tmp rfl _ _ g8 42 _ (0, 0) _ rfl (hq.cells _ _ (setRow_heap _ _ _ _ _ _ (blk_below HE5.out.2.2.2.1 HCI.out.below)) rfl) hu42 rfl (by rw [size42]; rfl), by rw [← HEQ.out.2.2]; rfl, (below_row (below_step HE5.out.2.2.2.2.2 HCI.out.below) HE5.out.2.2.2.2.1).trans hq.below⟩)
  have HI := Aside0.mk hi
  obtain ⟨ad, e0, hx⟩ := at_natM (Kd.C_below HR.out (below_step HE5.out.2.2.2.2.2 HCI.out.below)) i hi
  cases e0
  have i1 : (0 : Int) ≤ (i : Int) := by omega
  have i2 : (i : Int) < (C.length : Int) := by omega
  have i3 : (i : Int) < 256 := by omega
  have q7 : W1.cell? ⟨g7, 0, none⟩ = some (.int .i64 ((n : Int) + 1)) := (blk_cell (blk_below HE5.out.2.2.1 HCI.out.below) 0).trans rfl
  obtain ⟨X, hX⟩ : ∃ X, C.getD i 0 = X := ⟨_, rfl⟩
  rw [hX] at hx
  have HX2 : Aside0 (fn C i = X) := ⟨hX⟩
  clear hX hi
  by_cases q : X = (n : Int) + 1
  rotate_left
  · have hg : (X != (n : Int) + 1) = true := bne_iff_ne.mpr q
    have HN : Aside0 (∀ b, chTo W' H' R C ((n : Int) + 1) u b (i + 1) = chTo W' H' R C ((n : Int) + 1) u b i) := ⟨fun b => by rw [chTo, HX2.out, if_neg q]; omega⟩
    clear q
    refine wpIn_wide.2 ?_
    go_wp2_with fail
    exact ⟨k - 1, by have := HK.out; have := HI.out; omega, i + 1, ds, rfl, ⟨by have := HK.out; have := HI.out; omega⟩, HMK, ⟨by rw [HN.out, HN.out]; exact HCI.out⟩⟩
  have hg : (X != (n : Int) + 1) = false := by rw [q]; simp
  have HNX : Aside0 (∀ b, chTo W' H' R C ((n : Int) + 1) u b (i + 1) = chTo W' H' R C ((n : Int) + 1) u b i + chSum C ((n : Int) + 1) u b (nbs W' H' R i)) := ⟨fun b => by rw [chTo, HX2.out, if_pos q]⟩
  have HCB : Aside0 (∀ b, (∀ j, j < W' * H' → -1000000 ≤ fn b j ∧ fn b j ≤ 1000000) → -256000000 * (i : Int) ≤ chTo W' H' R C ((n : Int) + 1) u b i ∧ chTo W' H' R C ((n : Int) + 1) u b i ≤ 256000000 * (i : Int)) := ⟨fun b hb => chTo_bound HUB.out HLEN.out.2.1 hb i (by have := HI.out; have := HLEN.out.1; omega)⟩
  have HBL := HCB.out r2 (fun j hj => (HRNG.out j hj).2)
  have HBM := HCB.out r1 (fun j hj => (HRNG.out j hj).1)
  have HN2' := HNX.out r2
  have HN1' := HNX.out r1
  have HEND : Aside0 (∀ L M, L = chTo W' H' R C ((n : Int) + 1) u r2 i + chSum C ((n : Int) + 1) u r2 (nbs W' H' R i) → M = chTo W' H' R C ((n : Int) + 1) u r1 i + chSum C ((n : Int) + 1) u r1 (nbs W' H' R i) → L = chTo W' H' R C ((n : Int) + 1) u r2 (i + 1) ∧ M = chTo W' H' R C ((n : Int) + 1) u r1 (i + 1)) := ⟨fun L M h1 h2 => ⟨h1.trans HN2'.symm, h2.trans HN1'.symm⟩⟩
  clear HN2' HN1' HNX HCB q
  generalize chTo W' H' R C ((n : Int) + 1) u r2 i = L at HCI HBL HEND
  generalize chTo W' H' R C ((n : Int) + 1) u r1 i = M at HCI HBM HEND
  have HBLM := Aside0.mk (And.intro HBL HBM)
  clear HBL HBM
  refine wpIn_wide.2 ?_
  go_wp2_with (first
    | ((with_reducible refine gate_dst (N := 44) rfl ?_); refine ev_load (blk_below HE5.out.1 HCI.out.below) rfl 24 (.tmp 4) rfl rfl _ Try.underlying24 rfl size24 rfl ?_)
    | (go_at_call 78; refine (near_calls _ _ _ _ _ _ _ _).mono ?_; rintro e w6 ⟨gp2, gi2, rfl, hM6, hz6, hgp2, hgi2⟩; have HS6 := Aside0.mk (HCI.out.step hM6.below); have HMK6 := Aside0.mk ((HMK.out.others (below_others hM6.below)).to); have HBX := Aside0.mk (And.intro hM6.head hM6.second); clear hM6 hz6 hgp2 hgi2 HCI HMK q7 hx))
  rename_i Kb hKb
  have HKb := Aside0.mk hKb
  clear hKb
  refine (wpIn_wide (n := 5)).1 ?_
  have HBase : Aside0 (w5.heap.size ≤ w6.heap.size ∧ w.heap.size ≤ w6.heap.size) := ⟨⟨HS6.out.below.size, Nat.le_trans HE5.out.2.2.2.2.2.size HS6.out.below.size⟩⟩
  have HGB : Aside0 (gi2 < w6.heap.size ∧ gp2 < w6.heap.size) := ⟨⟨blk_lt HBX.out.1, blk_lt HBX.out.2⟩⟩
  refine wpIn_rangeFunc_ownG rfl (by decide) (gf := 98) (lb := #[.pointer (some ⟨gi2, 0, none⟩), .pointer (some ⟨gp2, 0, none⟩)]) rfl trivial (enters_of Try.func98 (by kernel_rfl) rfl)
    (near1_stops 4 W' H' R (some ad) C.length c i gi2 gp2 (by rw [← HLEN.out.1]; exact HI.out) HLEN.out.2.1 HLEN.out.2.2.1 w6 HBX.out) (fun h k => ⟨k.1.trans h.1, k.2.trans h.2⟩) (fun V l o o' hl ho _ _ => ⟨World.putObj_heap_other (by have := HGB.out.1; omega), World.putObj_heap_other (by have := HGB.out.2; omega)⟩) (Below.refl _ _) (fun _ => rfl)
    (fun pre V => CJ w w5 g10 g12 (.slice A7 r1.length c7) (.slice A8 r2.length c8) r3 r4 (L + chSum C ((n : Int) + 1) u r2 (pre.map (·.1))) (M + chSum C ((n : Int) + 1) u r1 (pre.map (·.1))) w6.heap.size ds gi2 gp2 #[.int .i64 i] (planV W' H' R (some ad) C.length c) V)
    (fun _ _ _ => False) ?hI ?hIx ?h0 (fun x => { tmps := List.toArray (zs 0 :: zs 1 :: zs 2 :: zs 3 :: .pointer (some ⟨gp, 0, none⟩) :: .pointer (some ⟨g5, 0, none⟩) :: zs 6 :: .pointer (some ⟨g7, 0, none⟩) :: .pointer (some ⟨g8, 0, none⟩) :: zs 9 :: .pointer (some ⟨g10, 0, none⟩) :: zs 11 :: .pointer (some ⟨g12, 0, none⟩) :: .int .i64 (i : Int) :: .int .i64 X :: .int .i64 x.1.1 :: .int .i64 x.1.2 :: zs 17 :: zs 18 :: zs 19 :: zs 20 :: zs 21 :: zs 22 :: zs 23 :: zs 24 :: zs 25 :: zs 26 :: zs 27 :: zs 28 :: zs 29 :: zs 30 :: zs 31 :: zs 32 :: zs 33 :: .slice (some ad) C.length c :: .int .i64 (C.length : Int) :: .int .i64 (i : Int) :: .bool true :: .int .i64 (i : Int) :: .pointer (some (ad.add i)) :: .int .i64 X :: .int .i64 X :: .int .i64 ((n : Int) + 1) :: .bool false :: .agg (planV (W' : Int) (H' : Int) R (some ad) C.length c) :: .int .i64 (i : Int) :: .func (.func 98) #[] #[.pointer (some ⟨gi2, 0, none⟩), .pointer (some ⟨gp2, 0, none⟩)] :: .int .i64 x.1.1 :: .int .i64 x.1.2 :: zs 49 :: zs 50 :: zs 51 :: zs 52 :: zs 53 :: zs 54 :: zs 55 :: zs 56 :: zs 57 :: zs 58 :: zs 59 :: zs 60 :: zs 61 :: zs 62 :: zs 63 :: zs 64 :: zs 65 :: zs 66 :: zs 67 :: zs 68 :: zs 69 :: zs 70 :: zs 71 :: zs 72 :: zs 73 :: zs 74 :: zs 75 :: zs 76 :: zs 77 :: zs 78 :: zs 79 :: zs 80 :: zs 81 :: zs 82 :: zs 83 :: zs 84 :: zs 85 :: zs 86 :: zs 87 :: zs 88 :: zs 89 :: zs 90 :: zs 91 :: []), defers := [] }) ?assign ?body ?done ?stop
  case hI =>
    rintro pre V V' row ⟨h1, h4, h5, h6, h7⟩ hg hr
    have ht : Turn w6.heap.size V V' row := ⟨hg, hr⟩
    exact ⟨h1.turn ht HBase.out.1, h4.turn ht h5, Nat.le_trans h5 hg.size, ht.heap h6, ht.heap h7⟩
  case hIx =>
    intro _ _ _ _ _ h
    exact h.elim
  case h0 => exact ⟨by rw [List.map_nil]; show CI _ _ _ _ _ _ _ _ (L + 0) (M + 0); rw [Int.add_zero, Int.add_zero]; exact HS6.out, HMK6.out, Nat.le_refl _, HBX.out.1, HBX.out.2⟩
  case assign =>
    intro l x V K hK
    gi_wp2
    exact hK
  case body =>
    rintro l pre x V hcj hlt
    have hnb := nbs_lt (by rw [← HLEN.out.1]; exact HI.out) x.2
    have hw12 := hnb.2.2.2 HLEN.out.2.1
    have hpre : ∀ p, p ∈ pre.map (·.1) → p.1 < W' * H' ∧ 1 ≤ p.2 ∧ p.2 ≤ 32 := fun p hp => by
      obtain ⟨y, _, rfl⟩ := List.mem_map.1 hp
      have h8 := nbs_lt (by rw [← HLEN.out.1]; exact HI.out) y.2
      exact ⟨h8.1, h8.2.2.1, h8.2.2.2 HLEN.out.2.1⟩
    have hb2 := chSum_bound (C := C) (e := (n : Int) + 1) (b := r2) HUB.out (l := pre.map (·.1)) (fun p hp => ⟨(HRNG.out _ (hpre p hp).1).2, (hpre p hp).2⟩)
    have hb1 := chSum_bound (C := C) (e := (n : Int) + 1) (b := r1) HUB.out (l := pre.map (·.1)) (fun p hp => ⟨(HRNG.out _ (hpre p hp).1).1, (hpre p hp).2⟩)
    rw [List.length_map] at hb1 hb2
    have hr2 := (HRNG.out _ hnb.1).2
    have hr1 := (HRNG.out _ hnb.1).1
    have ho2 := chOne_bound (C := C) (e := (n : Int) + 1) (b := r2) (p := x.1) HUB.out hr2 ⟨hnb.2.2.1, hw12⟩
    have ho1 := chOne_bound (C := C) (e := (n : Int) + 1) (b := r1) (p := x.1) HUB.out hr1 ⟨hnb.2.2.1, hw12⟩
    have HUN : Aside0 (∀ b, chSum C ((n : Int) + 1) u b ((pre ++ [x]).map (·.1)) = chSum C ((n : Int) + 1) u b (pre.map (·.1)) + chOne C ((n : Int) + 1) u b x.1) := ⟨fun b => by rw [List.map_append, List.map_singleton, chSum_snoc]⟩
    have HU2 := HUN.out r2
    have HU1 := HUN.out r1
    have hkC : x.1.1 < C.length := by rw [HLEN.out.1]; exact hnb.1
    have hO2 : chOne C ((n : Int) + 1) u r2 x.1 = if fn C x.1.1 = (n : Int) + 1 then 0 else x.1.2 * (u - fn r2 x.1.1) := rfl
    have hO1 : chOne C ((n : Int) + 1) u r1 x.1 = if fn C x.1.1 = (n : Int) + 1 then 0 else x.1.2 * (u - fn r1 x.1.1) := rfl
    generalize chOne C ((n : Int) + 1) u r2 x.1 = O2 at HU2 hO2 ho2
    generalize chOne C ((n : Int) + 1) u r1 x.1 = O1 at HU1 hO1 ho1
    generalize chSum C ((n : Int) + 1) u r2 (pre.map (·.1)) = P2 at HU2 hb2 hcj
    generalize chSum C ((n : Int) + 1) u r1 (pre.map (·.1)) = P1 at HU1 hb1 hcj
    have HU12 := Aside0.mk (And.intro HU1 HU2)
    have hw11 := hnb.2.2.1
    clear HU1 HU2 HUN hpre hnb
    show Code.wpIn (Fence.wide.inRound l) (5 - 1 - 1) Try.prog _ (ownPostG w6.heap.size (Boxes gi2 gp2) _ _ (pre ++ [x]) V) _ _
    obtain ⟨kx, hkx⟩ : ∃ kx, x.1.1 = kx := ⟨_, rfl⟩
    obtain ⟨wx, hwx⟩ : ∃ wx, x.1.2 = wx := ⟨_, rfl⟩
    rw [hkx] at hkC hO1 hO2 hr1 hr2
    rw [hwx] at hO1 hO2 hw11 hw12
    rw [hkx, hwx]
    clear hkx hwx
    have hsz : -128000000000 ≤ L + P2 ∧ L + P2 ≤ 128000000000 ∧ -128000000000 ≤ M + P1 ∧ M + P1 ≤ 128000000000 := by
      have h1 := HBLM.out
      have h2 := HI.out
      have h3 := HLEN.out.2.2.2
      omega
    clear hb1 hb2 hlt
    obtain ⟨adk, ek, hck0⟩ := at_natM HR.out kx hkC
    cases ek
    obtain ⟨ad7, e7, hc70⟩ := at_natM HV0.out.2.2 kx (by rw [HL12.out.1]; exact hkC)
    cases e7
    obtain ⟨ad8, e8, hc80⟩ := at_natM HV1.out.2.2 kx (by rw [HL12.out.2]; exact hkC)
    cases e8
    rw [show r1.getD kx 0 = fn r1 kx from rfl] at hc70
    rw [show r2.getD kx 0 = fn r2 kx from rfl] at hc80
    obtain ⟨Y, hY⟩ : ∃ Y, C.getD kx 0 = Y := ⟨_, rfl⟩
    rw [hY] at hck0
    rw [show fn C kx = Y from hY] at hO1 hO2
    obtain ⟨hi1, hhi⟩ : ∃ z, fn r2 kx = z := ⟨_, rfl⟩
    obtain ⟨lo1, hlo⟩ : ∃ z, fn r1 kx = z := ⟨_, rfl⟩
    rw [hhi] at hc80 hr2 hO2
    rw [hlo] at hc70 hr1 hO1
    obtain ⟨evv, hcv0⟩ := HCV.out
    subst evv
    have HCELLS : Aside0 (∀ V' : World, Below w5.heap.size w5 V' → V'.cell? ⟨gp, 3, none⟩ = some (.slice (some ad) C.length c) ∧ V'.cell? (ad.add kx) = some (.int .i64 Y) ∧ V'.cell? ⟨g7, 0, none⟩ = some (.int .i64 ((n : Int) + 1)) ∧ V'.cell? ⟨g5, 0, none⟩ = some (.slice (some adv) volts.length c1) ∧ V'.cell? (adv.add n) = some (.int .i64 u) ∧ V'.cell? (ad7.add kx) = some (.int .i64 lo1) ∧ V'.cell? (ad8.add kx) = some (.int .i64 hi1)) := ⟨fun V' hb => ⟨(blk_cell (blk_below HE5.out.1 hb) 3).trans rfl, pw_cell_below (below_step HE5.out.2.2.2.2.2 hb) hck0, (blk_cell (blk_below HE5.out.2.2.1 hb) 0).trans rfl, (blk_cell (blk_below HE5.out.2.1 hb) 0).trans rfl, pw_cell_below (below_step HE5.out.2.2.2.2.2 hb) hcv0, pw_cell_below hb hc70, pw_cell_below hb hc80⟩⟩
    obtain ⟨t1, t2, t3, _⟩ := HCELLS.out V hcj.1.below
    have k3 : (0 : Int) ≤ (kx : Int) := by omega
    have k4 : (kx : Int) < (C.length : Int) := by omega
    have HKR : Aside0 ((kx : Int) < (r1.length : Int) ∧ (kx : Int) < (r2.length : Int)) := ⟨by have := HL12.out; omega⟩
    have HCJ := Aside0.mk hcj
    clear hck0 hc70 hc80 hcv0 hY hhi hlo hcj hkC
    by_cases qy : Y = (n : Int) + 1
    · have q1 : (Y != (n : Int) + 1) = false := by rw [qy]; simp
      rw [if_pos qy] at hO1 hO2
      have HO := Aside0.mk (And.intro hO1 hO2)
      clear qy hO1 hO2 ho1 ho2 hr1 hr2 hw11 hw12 hsz
      refine wpIn_block (wpIn_seq_k (fun K hK => ?_))
      have HK1 := Aside0.mk hK
      clear hK
      have HBd := Aside0.mk (below_drew1 (Below.refl V.heap.size V))
      refine startIn_ (r := some l) (n := 5 - 1 - 1) (m := 7) (S := fun w' => w'.cell? ⟨gp, 3, none⟩ = some (.slice (some ad) C.length c) ∧ w'.cell? (ad.add kx) = some (.int .i64 Y) ∧ w'.cell? ⟨g7, 0, none⟩ = some (.int .i64 ((n : Int) + 1))) (ds := []) #[false, false, false, false, false, false, false] (by kernel_rfl) (by kernel_rfl) (then_out (block_out ownG_out)) rfl rfl ⟨t1, t2, t3⟩ (fun hHeld => ?_); refine with_tabW chargeF.tab14 chargeF.bits14 (fun HT_ HW_ => ?_)
      generalize V.drew = wd at HBd hHeld  ⊢
      refine pure_ (i := 0) (N := some 49) (v := ?_) (a' := ?_) #[true, false, false, false, false, false, false] rfl rfl (any_of HT_.out (by kernel_rfl)) (fun _ _ _ h => h) (Or.inl ⟨by rfl, ?_⟩) ?_ ?_
      rotate_left
      · intro w'
        go_simp
        with_reducible rfl
      rotate_left
      · simp only [Act.put, List.setIfInBounds_toArray, List.set_cons_zero, List.set_cons_succ, i64_w, i32_w]
        rfl
      refine pure_ (i := 2) (N := some 51) (v := ?_) (a' := ?_) #[true, false, true, false, false, false, false] rfl rfl (any_of HT_.out (by kernel_rfl)) (fun _ _ _ h => h) (Or.inl ⟨by rfl, ?_⟩) ?_ ?_
      rotate_left
      · intro w'
        go_simp
        with_reducible rfl
      rotate_left
      · simp only [Act.put, List.setIfInBounds_toArray, List.set_cons_zero, List.set_cons_succ, i64_w, i32_w]
        rfl
      refine take_ (i := 1) (N := some 50) (v := ?_) (a' := ?_) #[true, true, true, false, false, false, false] rfl rfl (take_ofW HT_.out HW_.out (by kernel_rfl)) (fun _ _ _ h => h) (Or.inl ⟨by rfl, ?_⟩) hHeld ?_ ?_
      rotate_left
      · rintro w' ⟨s0, s1, s2⟩
        go_simp
        with_reducible rfl
      rotate_left
      · simp only [Act.put, List.setIfInBounds_toArray, List.set_cons_zero, List.set_cons_succ, i64_w, i32_w]
        rfl
      refine pure_ (i := 3) (N := some 52) (v := ?_) (a' := ?_) #[true, true, true, true, false, false, false] rfl rfl (any_of HT_.out (by kernel_rfl)) (fun _ _ _ h => h) (Or.inl ⟨by rfl, ?_⟩) ?_ ?_
      rotate_left
      · intro w'
        go_simp
        with_reducible rfl
      rotate_left
      · simp only [Act.put, List.setIfInBounds_toArray, List.set_cons_zero, List.set_cons_succ, i64_w, i32_w]
        rfl
      refine take_ (i := 4) (N := some 53) (v := ?_) (a' := ?_) #[true, true, true, true, true, false, false] rfl rfl (take_ofW HT_.out HW_.out (by kernel_rfl)) (fun _ _ _ h => h) (Or.inl ⟨by rfl, ?_⟩) hHeld ?_ ?_
      rotate_left
      · rintro w' ⟨s0, s1, s2⟩
        go_simp
        with_reducible rfl
      rotate_left
      · simp only [Act.put, List.setIfInBounds_toArray, List.set_cons_zero, List.set_cons_succ, i64_w, i32_w]
        rfl
      refine take_ (i := 5) (N := some 54) (v := ?_) (a' := ?_) #[true, true, true, true, true, true, false] rfl rfl (take_ofW HT_.out HW_.out (by kernel_rfl)) (fun _ _ _ h => h) (Or.inl ⟨by rfl, ?_⟩) hHeld ?_ ?_
      rotate_left
      · rintro w' ⟨s0, s1, s2⟩
        go_simp
        with_reducible rfl
      rotate_left
      · simp only [Act.put, List.setIfInBounds_toArray, List.set_cons_zero, List.set_cons_succ, i64_w, i32_w]
        rfl
      refine pure_ (i := 6) (N := some 55) (v := ?_) (a' := ?_) #[true, true, true, true, true, true, true] rfl rfl (any_of HT_.out (by kernel_rfl)) (fun _ _ _ h => h) (Or.inl ⟨by rfl, ?_⟩) ?_ ?_
      rotate_left
      · intro w'
        go_simp
        with_reducible rfl
      rotate_left
      · simp only [Act.put, List.setIfInBounds_toArray, List.set_cons_zero, List.set_cons_succ, i64_w, i32_w]
        rfl
      refine done_ (done_of HT_.out (by kernel_rfl)) ?_
      clear hHeld HT_ HW_
      refine HK1.out _ _ (wpIn_cond_false rfl (wpIn_skip ?_))
      have HCJ2 := Aside0.mk (HCJ.out.step HBd.out)
      exact ⟨(below_others HBd.out).from _, ⟨HCJ2.out.2.2.2.1.trans HCJ.out.2.2.2.1.symm, HCJ2.out.2.2.2.2.trans HCJ.out.2.2.2.2.symm⟩, by show CJ w w5 g10 g12 (.slice (some ad7) r1.length c7) (.slice (some ad8) r2.length c8) r3 r4 (L + chSum C ((n : Int) + 1) u r2 ((pre ++ [x]).map (·.1))) (M + chSum C ((n : Int) + 1) u r1 ((pre ++ [x]).map (·.1))) w6.heap.size ds gi2 gp2 #[.int .i64 i] (planV W' H' R (some ad) C.length c) wd; rw [HU12.out.1, HU12.out.2, HO.out.1, HO.out.2, Int.add_zero, Int.add_zero]; exact HCJ2.out⟩
    · have q1 : (Y != (n : Int) + 1) = true := bne_iff_ne.mpr qy
      rw [if_neg qy] at hO1 hO2
      clear qy
      obtain ⟨d2, hd2⟩ : ∃ d, u - hi1 = d := ⟨_, rfl⟩
      obtain ⟨d1, hd1⟩ : ∃ d, u - lo1 = d := ⟨_, rfl⟩
      rw [hd2] at hO2
      rw [hd1] at hO1
      have m2 : IntKind.i64.wrap (u - hi1) = d2 := by rw [hd2]; exact IntWalk.i64_in _ (by have := HUB.out; omega)
      have m1 : IntKind.i64.wrap (u - lo1) = d1 := by rw [hd1]; exact IntWalk.i64_in _ (by have := HUB.out; omega)
      have p2 : IntKind.i64.wrap (wx * d2) = O2 := by rw [← hO2]; exact IntWalk.i64_in _ (by omega)
      have p1 : IntKind.i64.wrap (wx * d1) = O1 := by rw [← hO1]; exact IntWalk.i64_in _ (by omega)
      obtain ⟨L2, hL2⟩ : ∃ z, L + P2 = z := ⟨_, rfl⟩
      obtain ⟨M2, hM2⟩ : ∃ z, M + P1 = z := ⟨_, rfl⟩
      rw [hL2, hM2] at HCJ hsz
      have s2 : IntKind.i64.wrap (L2 + O2) = L2 + O2 := IntWalk.i64_in _ (by omega)
      have s1 : IntKind.i64.wrap (M2 + O1) = M2 + O1 := IntWalk.i64_in _ (by omega)
      have HLM : Aside0 (L + (P2 + O2) = L2 + O2 ∧ M + (P1 + O1) = M2 + O1) := ⟨by omega⟩
      clear hd1 hd2 hO1 hO2 ho1 ho2 hr1 hr2 hw11 hw12 hL2 hM2 hsz
      refine wpIn_block (wpIn_seq_k (fun K hK => ?_))
      have HK1 := Aside0.mk hK
      clear hK
      have HBd := Aside0.mk (below_drew1 (Below.refl V.heap.size V))
      refine startIn_ (r := some l) (n := 5 - 1 - 1) (m := 7) (S := fun w' => w'.cell? ⟨gp, 3, none⟩ = some (.slice (some ad) C.length c) ∧ w'.cell? (ad.add kx) = some (.int .i64 Y) ∧ w'.cell? ⟨g7, 0, none⟩ = some (.int .i64 ((n : Int) + 1))) (ds := []) #[false, false, false, false, false, false, false] (by kernel_rfl) (by kernel_rfl) (then_out (block_out ownG_out)) rfl rfl ⟨t1, t2, t3⟩ (fun hHeld => ?_); refine with_tabW chargeF.tab14 chargeF.bits14 (fun HT_ HW_ => ?_)
      generalize V.drew = wd at HBd hHeld  ⊢
      refine pure_ (i := 0) (N := some 49) (v := ?_) (a' := ?_) #[true, false, false, false, false, false, false] rfl rfl (any_of HT_.out (by kernel_rfl)) (fun _ _ _ h => h) (Or.inl ⟨by rfl, ?_⟩) ?_ ?_
      rotate_left
      · intro w'
        go_simp
        with_reducible rfl
      rotate_left
      · simp only [Act.put, List.setIfInBounds_toArray, List.set_cons_zero, List.set_cons_succ, i64_w, i32_w]
        rfl
      refine pure_ (i := 2) (N := some 51) (v := ?_) (a' := ?_) #[true, false, true, false, false, false, false] rfl rfl (any_of HT_.out (by kernel_rfl)) (fun _ _ _ h => h) (Or.inl ⟨by rfl, ?_⟩) ?_ ?_
      rotate_left
      · intro w'
        go_simp
        with_reducible rfl
      rotate_left
      · simp only [Act.put, List.setIfInBounds_toArray, List.set_cons_zero, List.set_cons_succ, i64_w, i32_w]
        rfl
      refine take_ (i := 1) (N := some 50) (v := ?_) (a' := ?_) #[true, true, true, false, false, false, false] rfl rfl (take_ofW HT_.out HW_.out (by kernel_rfl)) (fun _ _ _ h => h) (Or.inl ⟨by rfl, ?_⟩) hHeld ?_ ?_
      rotate_left
      · rintro w' ⟨s0, s1, s2⟩
        go_simp
        with_reducible rfl
      rotate_left
      · simp only [Act.put, List.setIfInBounds_toArray, List.set_cons_zero, List.set_cons_succ, i64_w, i32_w]
        rfl
      refine pure_ (i := 3) (N := some 52) (v := ?_) (a' := ?_) #[true, true, true, true, false, false, false] rfl rfl (any_of HT_.out (by kernel_rfl)) (fun _ _ _ h => h) (Or.inl ⟨by rfl, ?_⟩) ?_ ?_
      rotate_left
      · intro w'
        go_simp
        with_reducible rfl
      rotate_left
      · simp only [Act.put, List.setIfInBounds_toArray, List.set_cons_zero, List.set_cons_succ, i64_w, i32_w]
        rfl
      refine take_ (i := 4) (N := some 53) (v := ?_) (a' := ?_) #[true, true, true, true, true, false, false] rfl rfl (take_ofW HT_.out HW_.out (by kernel_rfl)) (fun _ _ _ h => h) (Or.inl ⟨by rfl, ?_⟩) hHeld ?_ ?_
      rotate_left
      · rintro w' ⟨s0, s1, s2⟩
        go_simp
        with_reducible rfl
      rotate_left
      · simp only [Act.put, List.setIfInBounds_toArray, List.set_cons_zero, List.set_cons_succ, i64_w, i32_w]
        rfl
      refine take_ (i := 5) (N := some 54) (v := ?_) (a' := ?_) #[true, true, true, true, true, true, false] rfl rfl (take_ofW HT_.out HW_.out (by kernel_rfl)) (fun _ _ _ h => h) (Or.inl ⟨by rfl, ?_⟩) hHeld ?_ ?_
      rotate_left
      · rintro w' ⟨s0, s1, s2⟩
        go_simp
        with_reducible rfl
      rotate_left
      · simp only [Act.put, List.setIfInBounds_toArray, List.set_cons_zero, List.set_cons_succ, i64_w, i32_w]
        rfl
      refine pure_ (i := 6) (N := some 55) (v := ?_) (a' := ?_) #[true, true, true, true, true, true, true] rfl rfl (any_of HT_.out (by kernel_rfl)) (fun _ _ _ h => h) (Or.inl ⟨by rfl, ?_⟩) ?_ ?_
      rotate_left
      · intro w'
        go_simp
        with_reducible rfl
      rotate_left
      · simp only [Act.put, List.setIfInBounds_toArray, List.set_cons_zero, List.set_cons_succ, i64_w, i32_w]
        rfl
      refine done_ (done_of HT_.out (by kernel_rfl)) ?_
      clear hHeld HT_ HW_
      refine HK1.out _ _ (wpIn_cond_true rfl ?_)
      clear HK1
      have HCJ2 := Aside0.mk (HCJ.out.step HBd.out)
      have HKO := Aside0.mk (below_others HBd.out)
      refine wpIn_seq_k (fun K2 hK2 => ?_)
      have HK2 := Aside0.mk hK2
      clear hK2 t1 t2 t3 HBd
      obtain ⟨_, _, u1, u2, u3, u4, u5⟩ := HCELLS.out wd HCJ2.out.1.below
      have u6 : wd.cell? ⟨g12, 0, none⟩ = some (.int .i64 L2) := (blk_cell HCJ2.out.1.r 0).trans rfl
      have u7 : wd.cell? ⟨g10, 1, none⟩ = some (.slice (some ad8) r2.length c8) := (blk_cell HCJ2.out.1.s 1).trans rfl
      have k5 := HKR.out.2
      have HBwe := Aside0.mk (below_drew1 (Below.refl wd.heap.size wd))
      refine startIn_ (r := some l) (n := 5 - 1 - 1) (m := 18) (S := fun w' => w'.cell? ⟨g12, 0, none⟩ = some (.int .i64 L2) ∧ w'.cell? ⟨g5, 0, none⟩ = some (.slice (some adv) volts.length c1) ∧ w'.cell? ⟨g7, 0, none⟩ = some (.int .i64 ((n : Int) + 1)) ∧ w'.cell? (adv.add n) = some (.int .i64 u) ∧ w'.cell? ⟨g10, 1, none⟩ = some (.slice (some ad8) r2.length c8) ∧ w'.cell? (ad8.add kx) = some (.int .i64 hi1)) (ds := [17]) #[false, false, false, false, false, false, false, false, false, false, false, false, false, false, false, false, false, false] (by kernel_rfl) (by kernel_rfl) (then_out (block_out ownG_out)) rfl rfl ⟨u6, u2, u1, u3, u7, u5⟩ (fun hHeld => ?_); refine with_tabW chargeF.tab15 chargeF.bits15 (fun HT_ HW_ => ?_)
      generalize wd.drew = we at HBwe hHeld  ⊢
      refine pure_ (i := 0) (N := some 56) (v := ?_) (a' := ?_) #[true, false, false, false, false, false, false, false, false, false, false, false, false, false, false, false, false, false] rfl rfl (any_of HT_.out (by kernel_rfl)) (fun _ _ _ h => h) (Or.inl ⟨by rfl, ?_⟩) ?_ ?_
      rotate_left
      · intro w'
        go_simp
        with_reducible rfl
      rotate_left
      · simp only [Act.put, List.setIfInBounds_toArray, List.set_cons_zero, List.set_cons_succ, i64_w, i32_w]
        rfl
      refine pure_ (i := 2) (N := some 58) (v := ?_) (a' := ?_) #[true, false, true, false, false, false, false, false, false, false, false, false, false, false, false, false, false, false] rfl rfl (any_of HT_.out (by kernel_rfl)) (fun _ _ _ h => h) (Or.inl ⟨by rfl, ?_⟩) ?_ ?_
      rotate_left
      · intro w'
        go_simp
        with_reducible rfl
      rotate_left
      · simp only [Act.put, List.setIfInBounds_toArray, List.set_cons_zero, List.set_cons_succ, i64_w, i32_w]
        rfl
      refine pure_ (i := 8) (N := some 64) (v := ?_) (a' := ?_) #[true, false, true, false, false, false, false, false, true, false, false, false, false, false, false, false, false, false] rfl rfl (any_of HT_.out (by kernel_rfl)) (fun _ _ _ h => h) (Or.inl ⟨by rfl, ?_⟩) ?_ ?_
      rotate_left
      · intro w'
        go_simp
        with_reducible rfl
      rotate_left
      · simp only [Act.put, List.setIfInBounds_toArray, List.set_cons_zero, List.set_cons_succ, i64_w, i32_w]
        rfl
      refine pure_ (i := 10) (N := some 66) (v := ?_) (a' := ?_) #[true, false, true, false, false, false, false, false, true, false, true, false, false, false, false, false, false, false] rfl rfl (any_of HT_.out (by kernel_rfl)) (fun _ _ _ h => h) (Or.inl ⟨by rfl, ?_⟩) ?_ ?_
      rotate_left
      · intro w'
        go_simp
        with_reducible rfl
      rotate_left
      · simp only [Act.put, List.setIfInBounds_toArray, List.set_cons_zero, List.set_cons_succ, i64_w, i32_w]
        rfl
      refine take_ (i := 1) (N := some 57) (v := ?_) (a' := ?_) #[true, true, true, false, false, false, false, false, true, false, true, false, false, false, false, false, false, false] rfl rfl (take_ofW HT_.out HW_.out (by kernel_rfl)) (fun _ _ _ h => h) (Or.inl ⟨by rfl, ?_⟩) hHeld ?_ ?_
      rotate_left
      · rintro w' ⟨s0, s1, s2, s3, s4, s5⟩
        go_simp
        with_reducible rfl
      rotate_left
      · simp only [Act.put, List.setIfInBounds_toArray, List.set_cons_zero, List.set_cons_succ, i64_w, i32_w]
        rfl
      refine take_ (i := 3) (N := some 59) (v := ?_) (a' := ?_) #[true, true, true, true, false, false, false, false, true, false, true, false, false, false, false, false, false, false] rfl rfl (take_ofW HT_.out HW_.out (by kernel_rfl)) (fun _ _ _ h => h) (Or.inl ⟨by rfl, ?_⟩) hHeld ?_ ?_
      rotate_left
      · rintro w' ⟨s0, s1, s2, s3, s4, s5⟩
        go_simp
        with_reducible rfl
      rotate_left
      · simp only [Act.put, List.setIfInBounds_toArray, List.set_cons_zero, List.set_cons_succ, i64_w, i32_w]
        rfl
      refine take_ (i := 4) (N := some 60) (v := ?_) (a' := ?_) #[true, true, true, true, true, false, false, false, true, false, true, false, false, false, false, false, false, false] rfl rfl (take_ofW HT_.out HW_.out (by kernel_rfl)) (fun _ _ _ h => h) (Or.inl ⟨by rfl, ?_⟩) hHeld ?_ ?_
      rotate_left
      · rintro w' ⟨s0, s1, s2, s3, s4, s5⟩
        go_simp
        with_reducible rfl
      rotate_left
      · simp only [Act.put, List.setIfInBounds_toArray, List.set_cons_zero, List.set_cons_succ, i64_w, i32_w]
        rfl
      refine pure_ (i := 5) (N := some 61) (v := ?_) (a' := ?_) #[true, true, true, true, true, true, false, false, true, false, true, false, false, false, false, false, false, false] rfl rfl (any_of HT_.out (by kernel_rfl)) (fun _ _ _ h => h) (Or.inl ⟨by rfl, ?_⟩) ?_ ?_
      rotate_left
      · intro w'
        go_simp
        with_reducible rfl
      rotate_left
      · simp only [Act.put, List.setIfInBounds_toArray, List.set_cons_zero, List.set_cons_succ, i64_w, i32_w]
        rfl
      refine pure_ (i := 6) (N := some 62) (v := ?_) (a' := ?_) #[true, true, true, true, true, true, true, false, true, false, true, false, false, false, false, false, false, false] rfl rfl (any_of HT_.out (by kernel_rfl)) (fun _ _ _ h => h) (Or.inl ⟨by rfl, ?_⟩) ?_ ?_
      rotate_left
      · intro w'
        go_simp
        with_reducible rfl
      rotate_left
      · simp only [Act.put, List.setIfInBounds_toArray, List.set_cons_zero, List.set_cons_succ, i64_w, i32_w]
        rfl
      refine take_ (i := 7) (N := some 63) (v := ?_) (a' := ?_) #[true, true, true, true, true, true, true, true, true, false, true, false, false, false, false, false, false, false] rfl rfl (take_ofW HT_.out HW_.out (by kernel_rfl)) (fun _ _ _ h => h) (Or.inl ⟨by rfl, ?_⟩) hHeld ?_ ?_
      rotate_left
      · rintro w' ⟨s0, s1, s2, s3, s4, s5⟩
        go_simp
        with_reducible rfl
      rotate_left
      · simp only [Act.put, List.setIfInBounds_toArray, List.set_cons_zero, List.set_cons_succ, i64_w, i32_w]
        rfl
      refine take_ (i := 9) (N := some 65) (v := ?_) (a' := ?_) #[true, true, true, true, true, true, true, true, true, true, true, false, false, false, false, false, false, false] rfl rfl (take_ofW HT_.out HW_.out (by kernel_rfl)) (fun _ _ _ h => h) (Or.inl ⟨by rfl, ?_⟩) hHeld ?_ ?_
      rotate_left
      · rintro w' ⟨s0, s1, s2, s3, s4, s5⟩
        go_simp
        with_reducible rfl
      rotate_left
      · simp only [Act.put, List.setIfInBounds_toArray, List.set_cons_zero, List.set_cons_succ, i64_w, i32_w]
        rfl
      refine pure_ (i := 11) (N := some 67) (v := ?_) (a' := ?_) #[true, true, true, true, true, true, true, true, true, true, true, true, false, false, false, false, false, false] rfl rfl (any_of HT_.out (by kernel_rfl)) (fun _ _ _ h => h) (Or.inl ⟨by rfl, ?_⟩) ?_ ?_
      rotate_left
      · intro w'
        go_simp
        with_reducible rfl
      rotate_left
      · simp only [Act.put, List.setIfInBounds_toArray, List.set_cons_zero, List.set_cons_succ, i64_w, i32_w]
        rfl
      refine take_ (i := 12) (N := some 68) (v := ?_) (a' := ?_) #[true, true, true, true, true, true, true, true, true, true, true, true, true, false, false, false, false, false] rfl rfl (take_ofW HT_.out HW_.out (by kernel_rfl)) (fun _ _ _ h => h) (Or.inl ⟨by rfl, ?_⟩) hHeld ?_ ?_
      rotate_left
      · rintro w' ⟨s0, s1, s2, s3, s4, s5⟩
        go_simp
        with_reducible rfl
      rotate_left
      · simp only [Act.put, List.setIfInBounds_toArray, List.set_cons_zero, List.set_cons_succ, i64_w, i32_w]
        rfl
      refine pure_ (i := 13) (N := some 69) (v := ?_) (a' := ?_) #[true, true, true, true, true, true, true, true, true, true, true, true, true, true, false, false, false, false] rfl rfl (any_of HT_.out (by kernel_rfl)) (fun _ _ _ h => h) (Or.inl ⟨by rfl, ?_⟩) ?_ ?_
      rotate_left
      · intro w'
        go_simp
        with_reducible rfl
      rotate_left
      · simp only [Act.put, List.setIfInBounds_toArray, List.set_cons_zero, List.set_cons_succ, i64_w, i32_w]
        rfl
      refine pure_ (i := 14) (N := some 70) (v := ?_) (a' := ?_) #[true, true, true, true, true, true, true, true, true, true, true, true, true, true, true, false, false, false] rfl rfl (any_of HT_.out (by kernel_rfl)) (fun _ _ _ h => h) (Or.inl ⟨by rfl, ?_⟩) ?_ ?_
      rotate_left
      · intro w'
        go_simp
        with_reducible rfl
      rotate_left
      · simp only [Act.put, List.setIfInBounds_toArray, List.set_cons_zero, List.set_cons_succ, i64_w, i32_w]
        rfl
      refine pure_ (i := 15) (N := some 71) (v := ?_) (a' := ?_) #[true, true, true, true, true, true, true, true, true, true, true, true, true, true, true, true, false, false] rfl rfl (any_of HT_.out (by kernel_rfl)) (fun _ _ _ h => h) (Or.inl ⟨by rfl, ?_⟩) ?_ ?_
      rotate_left
      · intro w'
        go_simp
        with_reducible rfl
      rotate_left
      · simp only [Act.put, List.setIfInBounds_toArray, List.set_cons_zero, List.set_cons_succ, i64_w, i32_w]
        rfl
      refine pure_ (i := 16) (N := some 72) (v := ?_) (a' := ?_) #[true, true, true, true, true, true, true, true, true, true, true, true, true, true, true, true, true, false] rfl rfl (any_of HT_.out (by kernel_rfl)) (fun _ _ _ h => h) (Or.inl ⟨by rfl, ?_⟩) ?_ ?_
      rotate_left
      · intro w'
        go_simp
        with_reducible rfl
      rotate_left
      · simp only [Act.put, List.setIfInBounds_toArray, List.set_cons_zero, List.set_cons_succ, i64_w, i32_w]
        rfl
      have HCJ3 := Aside0.mk (HCJ2.out.step HBwe.out)
      have HKO2 := Aside0.mk (HKO.out.trans (below_others HBwe.out))
      have v6 : we.cell? ⟨g12, 0, none⟩ = some (.int .i64 L2) := (blk_cell HCJ3.out.1.r 0).trans rfl
      have w6' := blk_frozen HCJ3.out.1.r 0
      clear u1 u2 u3 u4 u5 u6 u7 k5 HBwe HCJ2 HKO hHeld
      refine last_ (i := 17) (N := none) #[true, true, true, true, true, true, true, true, true, true, true, true, true, true, true, true, true, true] rfl rfl (by kernel_rfl) (by decide) (fun K hK => ?_)
      go_simp
      refine hK.out _ _ ?_
      refine done_ (by kernel_rfl) ?_
      clear hK K HT_ HW_ v6 w6'
      refine HK2.out _ _ ?_
      clear HK2
      have HCJ4 := Aside0.mk (HCJ3.out.put0 (L2 + O2))
      have HKO3 := Aside0.mk (HKO2.out.trans (KeepsOthers.setCell _ ⟨g12, 0, none⟩ (.int .i64 (L2 + O2))))
      clear HCJ3 HKO2
      generalize we.setCell ⟨g12, 0, none⟩ (.int .i64 (L2 + O2)) = W8 at HCJ4 HKO3 ⊢
      obtain ⟨_, _, u1, u2, u3, u4, u5⟩ := HCELLS.out W8 HCJ4.out.1.below
      have u6 : W8.cell? ⟨g12, 1, none⟩ = some (.int .i64 M2) := (blk_cell HCJ4.out.1.r 1).trans rfl
      have u7 : W8.cell? ⟨g10, 0, none⟩ = some (.slice (some ad7) r1.length c7) := (blk_cell HCJ4.out.1.s 0).trans rfl
      have k5 := HKR.out.1
      have HBwf := Aside0.mk (below_drew1 (Below.refl W8.heap.size W8))
      refine startIn_ (r := some l) (n := 5 - 1 - 1) (m := 18) (S := fun w' => w'.cell? ⟨g12, 1, none⟩ = some (.int .i64 M2) ∧ w'.cell? ⟨g5, 0, none⟩ = some (.slice (some adv) volts.length c1) ∧ w'.cell? ⟨g7, 0, none⟩ = some (.int .i64 ((n : Int) + 1)) ∧ w'.cell? (adv.add n) = some (.int .i64 u) ∧ w'.cell? ⟨g10, 0, none⟩ = some (.slice (some ad7) r1.length c7) ∧ w'.cell? (ad7.add kx) = some (.int .i64 lo1)) (ds := [17]) #[false, false, false, false, false, false, false, false, false, false, false, false, false, false, false, false, false, false] (by kernel_rfl) (by kernel_rfl) (block_out ownG_out) rfl rfl ⟨u6, u2, u1, u3, u7, u4⟩ (fun hHeld => ?_); refine with_tabW chargeF.tab16 chargeF.bits16 (fun HT_ HW_ => ?_)
      generalize W8.drew = wf at HBwf hHeld  ⊢
      refine pure_ (i := 0) (N := some 73) (v := ?_) (a' := ?_) #[true, false, false, false, false, false, false, false, false, false, false, false, false, false, false, false, false, false] rfl rfl (any_of HT_.out (by kernel_rfl)) (fun _ _ _ h => h) (Or.inl ⟨by rfl, ?_⟩) ?_ ?_
      rotate_left
      · intro w'
        go_simp
        with_reducible rfl
      rotate_left
      · simp only [Act.put, List.setIfInBounds_toArray, List.set_cons_zero, List.set_cons_succ, i64_w, i32_w]
        rfl
      refine pure_ (i := 2) (N := some 75) (v := ?_) (a' := ?_) #[true, false, true, false, false, false, false, false, false, false, false, false, false, false, false, false, false, false] rfl rfl (any_of HT_.out (by kernel_rfl)) (fun _ _ _ h => h) (Or.inl ⟨by rfl, ?_⟩) ?_ ?_
      rotate_left
      · intro w'
        go_simp
        with_reducible rfl
      rotate_left
      · simp only [Act.put, List.setIfInBounds_toArray, List.set_cons_zero, List.set_cons_succ, i64_w, i32_w]
        rfl
      refine pure_ (i := 8) (N := some 81) (v := ?_) (a' := ?_) #[true, false, true, false, false, false, false, false, true, false, false, false, false, false, false, false, false, false] rfl rfl (any_of HT_.out (by kernel_rfl)) (fun _ _ _ h => h) (Or.inl ⟨by rfl, ?_⟩) ?_ ?_
      rotate_left
      · intro w'
        go_simp
        with_reducible rfl
      rotate_left
      · simp only [Act.put, List.setIfInBounds_toArray, List.set_cons_zero, List.set_cons_succ, i64_w, i32_w]
        rfl
      refine pure_ (i := 10) (N := some 83) (v := ?_) (a' := ?_) #[true, false, true, false, false, false, false, false, true, false, true, false, false, false, false, false, false, false] rfl rfl (any_of HT_.out (by kernel_rfl)) (fun _ _ _ h => h) (Or.inl ⟨by rfl, ?_⟩) ?_ ?_
      rotate_left
      · intro w'
        go_simp
        with_reducible rfl
      rotate_left
      · simp only [Act.put, List.setIfInBounds_toArray, List.set_cons_zero, List.set_cons_succ, i64_w, i32_w]
        rfl
      refine take_ (i := 1) (N := some 74) (v := ?_) (a' := ?_) #[true, true, true, false, false, false, false, false, true, false, true, false, false, false, false, false, false, false] rfl rfl (take_ofW HT_.out HW_.out (by kernel_rfl)) (fun _ _ _ h => h) (Or.inl ⟨by rfl, ?_⟩) hHeld ?_ ?_
      rotate_left
      · rintro w' ⟨s0, s1, s2, s3, s4, s5⟩
        go_simp
        with_reducible rfl
      rotate_left
      · simp only [Act.put, List.setIfInBounds_toArray, List.set_cons_zero, List.set_cons_succ, i64_w, i32_w]
        rfl
      refine take_ (i := 3) (N := some 76) (v := ?_) (a' := ?_) #[true, true, true, true, false, false, false, false, true, false, true, false, false, false, false, false, false, false] rfl rfl (take_ofW HT_.out HW_.out (by kernel_rfl)) (fun _ _ _ h => h) (Or.inl ⟨by rfl, ?_⟩) hHeld ?_ ?_
      rotate_left
      · rintro w' ⟨s0, s1, s2, s3, s4, s5⟩
        go_simp
        with_reducible rfl
      rotate_left
      · simp only [Act.put, List.setIfInBounds_toArray, List.set_cons_zero, List.set_cons_succ, i64_w, i32_w]
        rfl
      refine take_ (i := 4) (N := some 77) (v := ?_) (a' := ?_) #[true, true, true, true, true, false, false, false, true, false, true, false, false, false, false, false, false, false] rfl rfl (take_ofW HT_.out HW_.out (by kernel_rfl)) (fun _ _ _ h => h) (Or.inl ⟨by rfl, ?_⟩) hHeld ?_ ?_
      rotate_left
      · rintro w' ⟨s0, s1, s2, s3, s4, s5⟩
        go_simp
        with_reducible rfl
      rotate_left
      · simp only [Act.put, List.setIfInBounds_toArray, List.set_cons_zero, List.set_cons_succ, i64_w, i32_w]
        rfl
      refine pure_ (i := 5) (N := some 78) (v := ?_) (a' := ?_) #[true, true, true, true, true, true, false, false, true, false, true, false, false, false, false, false, false, false] rfl rfl (any_of HT_.out (by kernel_rfl)) (fun _ _ _ h => h) (Or.inl ⟨by rfl, ?_⟩) ?_ ?_
      rotate_left
      · intro w'
        go_simp
        with_reducible rfl
      rotate_left
      · simp only [Act.put, List.setIfInBounds_toArray, List.set_cons_zero, List.set_cons_succ, i64_w, i32_w]
        rfl
      refine pure_ (i := 6) (N := some 79) (v := ?_) (a' := ?_) #[true, true, true, true, true, true, true, false, true, false, true, false, false, false, false, false, false, false] rfl rfl (any_of HT_.out (by kernel_rfl)) (fun _ _ _ h => h) (Or.inl ⟨by rfl, ?_⟩) ?_ ?_
      rotate_left
      · intro w'
        go_simp
        with_reducible rfl
      rotate_left
      · simp only [Act.put, List.setIfInBounds_toArray, List.set_cons_zero, List.set_cons_succ, i64_w, i32_w]
        rfl
      refine take_ (i := 7) (N := some 80) (v := ?_) (a' := ?_) #[true, true, true, true, true, true, true, true, true, false, true, false, false, false, false, false, false, false] rfl rfl (take_ofW HT_.out HW_.out (by kernel_rfl)) (fun _ _ _ h => h) (Or.inl ⟨by rfl, ?_⟩) hHeld ?_ ?_
      rotate_left
      · rintro w' ⟨s0, s1, s2, s3, s4, s5⟩
        go_simp
        with_reducible rfl
      rotate_left
      · simp only [Act.put, List.setIfInBounds_toArray, List.set_cons_zero, List.set_cons_succ, i64_w, i32_w]
        rfl
      refine take_ (i := 9) (N := some 82) (v := ?_) (a' := ?_) #[true, true, true, true, true, true, true, true, true, true, true, false, false, false, false, false, false, false] rfl rfl (take_ofW HT_.out HW_.out (by kernel_rfl)) (fun _ _ _ h => h) (Or.inl ⟨by rfl, ?_⟩) hHeld ?_ ?_
      rotate_left
      · rintro w' ⟨s0, s1, s2, s3, s4, s5⟩
        go_simp
        with_reducible rfl
      rotate_left
      · simp only [Act.put, List.setIfInBounds_toArray, List.set_cons_zero, List.set_cons_succ, i64_w, i32_w]
        rfl
      refine pure_ (i := 11) (N := some 84) (v := ?_) (a' := ?_) #[true, true, true, true, true, true, true, true, true, true, true, true, false, false, false, false, false, false] rfl rfl (any_of HT_.out (by kernel_rfl)) (fun _ _ _ h => h) (Or.inl ⟨by rfl, ?_⟩) ?_ ?_
      rotate_left
      · intro w'
        go_simp
        with_reducible rfl
      rotate_left
      · simp only [Act.put, List.setIfInBounds_toArray, List.set_cons_zero, List.set_cons_succ, i64_w, i32_w]
        rfl
      refine take_ (i := 12) (N := some 85) (v := ?_) (a' := ?_) #[true, true, true, true, true, true, true, true, true, true, true, true, true, false, false, false, false, false] rfl rfl (take_ofW HT_.out HW_.out (by kernel_rfl)) (fun _ _ _ h => h) (Or.inl ⟨by rfl, ?_⟩) hHeld ?_ ?_
      rotate_left
      · rintro w' ⟨s0, s1, s2, s3, s4, s5⟩
        go_simp
        with_reducible rfl
      rotate_left
      · simp only [Act.put, List.setIfInBounds_toArray, List.set_cons_zero, List.set_cons_succ, i64_w, i32_w]
        rfl
      refine pure_ (i := 13) (N := some 86) (v := ?_) (a' := ?_) #[true, true, true, true, true, true, true, true, true, true, true, true, true, true, false, false, false, false] rfl rfl (any_of HT_.out (by kernel_rfl)) (fun _ _ _ h => h) (Or.inl ⟨by rfl, ?_⟩) ?_ ?_
      rotate_left
      · intro w'
        go_simp
        with_reducible rfl
      rotate_left
      · simp only [Act.put, List.setIfInBounds_toArray, List.set_cons_zero, List.set_cons_succ, i64_w, i32_w]
        rfl
      refine pure_ (i := 14) (N := some 87) (v := ?_) (a' := ?_) #[true, true, true, true, true, true, true, true, true, true, true, true, true, true, true, false, false, false] rfl rfl (any_of HT_.out (by kernel_rfl)) (fun _ _ _ h => h) (Or.inl ⟨by rfl, ?_⟩) ?_ ?_
      rotate_left
      · intro w'
        go_simp
        with_reducible rfl
      rotate_left
      · simp only [Act.put, List.setIfInBounds_toArray, List.set_cons_zero, List.set_cons_succ, i64_w, i32_w]
        rfl
      refine pure_ (i := 15) (N := some 88) (v := ?_) (a' := ?_) #[true, true, true, true, true, true, true, true, true, true, true, true, true, true, true, true, false, false] rfl rfl (any_of HT_.out (by kernel_rfl)) (fun _ _ _ h => h) (Or.inl ⟨by rfl, ?_⟩) ?_ ?_
      rotate_left
      · intro w'
        go_simp
        with_reducible rfl
      rotate_left
      · simp only [Act.put, List.setIfInBounds_toArray, List.set_cons_zero, List.set_cons_succ, i64_w, i32_w]
        rfl
      refine pure_ (i := 16) (N := some 89) (v := ?_) (a' := ?_) #[true, true, true, true, true, true, true, true, true, true, true, true, true, true, true, true, true, false] rfl rfl (any_of HT_.out (by kernel_rfl)) (fun _ _ _ h => h) (Or.inl ⟨by rfl, ?_⟩) ?_ ?_
      rotate_left
      · intro w'
        go_simp
        with_reducible rfl
      rotate_left
      · simp only [Act.put, List.setIfInBounds_toArray, List.set_cons_zero, List.set_cons_succ, i64_w, i32_w]
        rfl
      have HCJ5 := Aside0.mk (HCJ4.out.step HBwf.out)
      have HKO4 := Aside0.mk (HKO3.out.trans (below_others HBwf.out))
      have v6 : wf.cell? ⟨g12, 1, none⟩ = some (.int .i64 M2) := (blk_cell HCJ5.out.1.r 1).trans rfl
      have w6' := blk_frozen HCJ5.out.1.r 1
      clear u1 u2 u3 u4 u5 u6 u7 k5 HBwf HCJ4 HKO3 hHeld
      refine last_ (i := 17) (N := none) #[true, true, true, true, true, true, true, true, true, true, true, true, true, true, true, true, true, true] rfl rfl (by kernel_rfl) (by decide) (fun K hK => ?_)
      go_simp
      refine hK.out _ _ ?_
      refine done_ (by kernel_rfl) ?_
      clear hK K HT_ HW_ v6 w6'
      have HCJ6 := Aside0.mk (HCJ5.out.put1 (M2 + O1))
      have HKO5 := Aside0.mk (HKO4.out.trans (KeepsOthers.setCell _ ⟨g12, 1, none⟩ (.int .i64 (M2 + O1))))
      exact ⟨HKO5.out.from _, ⟨HCJ6.out.2.2.2.1.trans HCJ.out.2.2.2.1.symm, HCJ6.out.2.2.2.2.trans HCJ.out.2.2.2.2.symm⟩, by show CJ w w5 g10 g12 (.slice (some ad7) r1.length c7) (.slice (some ad8) r2.length c8) r3 r4 (L + chSum C ((n : Int) + 1) u r2 ((pre ++ [x]).map (·.1))) (M + chSum C ((n : Int) + 1) u r1 ((pre ++ [x]).map (·.1))) w6.heap.size ds gi2 gp2 #[.int .i64 i] (planV W' H' R (some ad) C.length c) _; rw [HU12.out.1, HU12.out.2, HLM.out.1, HLM.out.2]; exact HCJ6.out⟩
  case done =>
    rintro D xs V hD hxs ⟨h1, h4, h5, _⟩ hK
    have HMV := Aside0.mk (h4.push HBase.out.2 hD hK)
    rw [hxs] at h1
    obtain ⟨eL, eM⟩ := HEND.out _ _ rfl rfl
    rw [eL, eM] at h1
    have HV := Aside0.mk h1
    clear h1 h4 h5 hK hD hxs eL eM
    refine HKb.out _ _ ?_
    clear HKb
    go_wp2_with fail
    exact ⟨k - 1, by have := HK.out; have := HI.out; omega, i + 1, _, rfl, ⟨by have := HK.out; have := HI.out; omega⟩, HMV, HV⟩
  case stop =>
    rintro D cd pre V _ _ h _
    exact h.elim
end Go.Proofs.Ytndkkjpgnmahbaa.Print
end

section
namespace Go.Proofs.Ytndkkjpgnmahbaa.Print
open Go.RowKit Go.Proofs.YtndkkjpgnmahbaaW.PrintWords Go.Proofs.YtndkkjpgnmahbaaW.PrintLast Go.Proofs.YtndkkjpgnmahbaaW.PrintMore Go.Proofs.Ytndkkjpgnmahbaa.H Go.Proofs.Field
attribute [local go_sem] max2_int min2_int max_two min_two max_three min_three max_four min_four
set_option linter.unusedVariables false
set_option linter.unusedSimpArgs false
def thermionlaw01_ring.f : Option (Int × Int × Bool × List Int) := (thermionlaw01_line.f).bind fun bt124 => (some (bt124.1, bt124.2.1, true, bt124.2.2.2))
set_option maxHeartbeats 1600000 in
set_option maxRecDepth 100000 in
theorem thermionlaw01_ring.calls (r1 : Int) (r2 : Int) (r3 : Bool) (r4 : List Int) (w : World) (h : thermionlaw01_ring.f = some (r1, r2, r3, r4)) :
  Calls Try.prog 64 #[] w fun e w' => ∃ v3_ : Value, e = .returned (.agg #[.int .i64 r1, .int .i64 r2, .bool r3, v3_]) ∧ Kd.R (Kd.int .i64) 3 w' w.heap.size (fun _ => True) v3_ r4 ∧ Below w.heap.size w w' := by
  have HM := Aside0.mk (Mem.start w)
  have hu24 := Try.underlying24
  obtain ⟨⟨t1, t2, t3, t4⟩, hl, hh⟩ := Option.bind_eq_some_iff.1 h
  simp only [Option.some.injEq, Prod.mk.injEq] at hh
  obtain ⟨rfl, rfl, rfl, rfl⟩ := hh
  have HL := Aside0.mk hl
  clear h hl
  have HCL : Aside0 (∀ V : World, Calls Try.prog 62 #[] V fun e w' => ∃ v3_ : Value, e = .returned (.agg #[.int .i64 t1, .int .i64 t2, .bool t3, v3_]) ∧ Kd.R (Kd.int .i64) 3 w' V.heap.size (fun _ => True) v3_ t4 ∧ Below V.heap.size V w') := ⟨fun V => thermionlaw01_line.calls t1 t2 t3 t4 V HL.out⟩
  clear HL
  go_enter Try.func64, Try.ntmps64
  go_upto_region 3 with (first
    | ((with_reducible refine gate_dst (N := 0) rfl ?_); refine ev_new HM.out rfl 24 rfl info24 ?_; intro g0 w1 hm1 hq1; clear hq1; have HM1 := Aside0.mk hm1; clear hm1 HM)
    | (go_at_call 62; refine (HCL.out _).mono ?_; rintro e w2 ⟨v3, rfl, hv, hb⟩; obtain ⟨A7, c7, rfl⟩ := Kd.R_slice hv; have HV := Aside0.mk (Kd.R_lower hv HM1.out.below.size); have HM2 := Aside0.mk (HM1.out.step hb); clear hv hb HM1)
    | ((with_reducible refine gate_dst (N := 1) rfl ?_); refine ev_new HM2.out rfl 24 rfl info24 ?_; intro g1 w3 hm3 hq3; have HV2 := Aside0.mk (Kd.R_below HV.out hq3); clear hq3 HV; have HM3 := Aside0.mk hm3; clear hm3 HM2)
    | ((with_reducible refine gate_store (t := 24) (p := 1) rfl ?_); refine ev_storeB HM3.out.head rfl 24 (.tmp 1) (.tmp 2) rfl rfl (cs := #[.int .i64 t1, .int .i64 t2, .bool t3, .slice A7 t4.length c7]) rfl size24 rfl rfl (by simp [Value.oneCell']) ?_; have HM4 := Aside0.mk (HM3.out.row #[.int .i64 t1, .int .i64 t2, .bool t3, .slice A7 t4.length c7]); have HV3 := Aside0.mk (Kd.R_mono (Kd.R_step (Kd.R_types HV2.out HM3.out.head (by decide)) (w1 := w3.setRow g1 #[.int .i64 t1, .int .i64 t2, .bool t3, .slice A7 t4.length c7]) (fun k hk _ => setRow_other _ _ _ _ hk.2)) (fun _ hk => hk.1)); clear HM3 HV2; generalize w3.setRow g1 _ = w4 at HM4 HV3 ⊢; have c2 : w4.cell? ⟨g1, 2, none⟩ = some (.bool t3) := (HM4.out.cell 2).trans rfl; have f2 := HM4.out.frozen 2))
  have HM5 := Aside0.mk (HM4.out.put 2 (.bool true) (cs' := #[.int .i64 t1, .int .i64 t2, .bool true, .slice A7 t4.length c7]) rfl)
  have HV4 := Aside0.mk (Kd.R_set HV3.out HM4.out.head (by decide) 2 (.bool true))
  clear HM4 HV3 c2 f2
  generalize w4.setCell ⟨g1, 2, none⟩ (.bool true) = w5 at HM5 HV4 ⊢
  go_wp2_with (first
    | ((with_reducible refine gate_dst (N := 4) rfl ?_); refine ev_load HM5.out.head rfl 24 (.tmp 1) rfl rfl _ Try.underlying24 rfl size24 rfl ?_)
    | ((with_reducible refine gate_store (t := 24) (p := 0) rfl ?_); refine ev_storeB HM5.out.second rfl 24 (.tmp 0) (.tmp 4) rfl rfl rfl size24 rfl rfl (by simp [Value.oneCell']) ?_))
  (try simp only [Exit.inBlock, Exit.then])
  refine bodyPost_ret (results_cell_row rfl _ _ g0 24 _ (0, 0) _ rfl (setRow_heap _ _ _ _ _ _ HM5.out.second) hu24 rfl (by rw [size24]; rfl)) rfl ⟨_, rfl, Kd.R_mono (Kd.R_step (Kd.R_types HV4.out HM5.out.second (by decide)) (fun k hk _ => setRow_other _ _ _ _ hk.2)) (fun _ _ => trivial), ?_⟩
  have hb := HM5.out.below
  exact ⟨hb.os, hb.tape, hb.output, by rw [size_setRow]; exact hb.size, fun i hi => by rw [setRow_other _ g0 i _ (by have := HM5.out.drop.geh; omega)]; exact hb.block i hi⟩
end Go.Proofs.Ytndkkjpgnmahbaa.Print
end
