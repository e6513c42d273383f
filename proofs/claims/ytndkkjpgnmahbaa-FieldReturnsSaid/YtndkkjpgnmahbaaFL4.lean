/- Part 4 of the texts of a claim about Ytndkkjpgnmahbaa, put together by a program of this work: what the Go functions do, and that their calls do so. -/
import Derived.Test.YtndkkjpgnmahbaaFL2
import Derived.Test.YtndkkjpgnmahbaaFL3
section
namespace Go.Proofs.Ytndkkjpgnmahbaa.Print
open Go.RowKit Go.Proofs.YtndkkjpgnmahbaaW.PrintWords Go.Proofs.YtndkkjpgnmahbaaW.PrintLast Go.Proofs.YtndkkjpgnmahbaaW.PrintMore Go.Proofs.Ytndkkjpgnmahbaa.H Go.Proofs.Field
attribute [local go_sem] Oper.semAt_some
attribute [local go_sem] max2_int min2_int max_two min_two max_three min_three max_four min_four
set_option linter.unusedVariables false
set_option linter.unusedSimpArgs false
def chargeF.T14 : Bool × List (List Nat × List Nat) := (true, [([], []), ([0], [0]), ([], []), ([1, 2], [1, 2]), ([3], [3]), ([], []), ([4, 5], [4, 5])])
def chargeF.B14 : List Nat := [0, 1, 0, 7, 15, 0, 63]
theorem chargeF.tab14 : rtab .any (opsOf Try.f30 14) = chargeF.T14 := by kernel_rfl
theorem chargeF.bits14 : waitsOk chargeF.T14.2 chargeF.B14 = true := by kernel_rfl
def chargeF.T15 : Bool × List (List Nat × List Nat) := (true, [([], []), ([0], [0]), ([], []), ([], []), ([], []), ([4], [4]), ([3, 5], [3, 5]), ([6], [6]), ([], []), ([8], [8]), ([], []), ([9, 10], [9, 10]), ([11], [11]), ([7, 12], [7, 12]), ([2, 13], [2, 13]), ([1, 14], [1, 14]), ([0, 1, 2, 3, 4, 5, 6, 7, 8, 9, 10, 11, 12, 13, 14, 15], []), ([16, 15, 0, 1, 2, 3, 4, 5, 6, 7, 8, 9, 10, 11, 12, 13, 14, 15], [15, 16])])
def chargeF.B15 : List Nat := [0, 1, 0, 0, 0, 16, 56, 120, 0, 256, 0, 1792, 3840, 8184, 16380, 32767, 65535, 131071]
theorem chargeF.tab15 : rtab .any (opsOf Try.f30 15) = chargeF.T15 := by kernel_rfl
theorem chargeF.bits15 : waitsOk chargeF.T15.2 chargeF.B15 = true := by kernel_rfl
def chargeF.T16 : Bool × List (List Nat × List Nat) := (true, [([], []), ([0], [0]), ([], []), ([], []), ([], []), ([4], [4]), ([3, 5], [3, 5]), ([6], [6]), ([], []), ([8], [8]), ([], []), ([9, 10], [9, 10]), ([11], [11]), ([7, 12], [7, 12]), ([2, 13], [2, 13]), ([1, 14], [1, 14]), ([0, 1, 2, 3, 4, 5, 6, 7, 8, 9, 10, 11, 12, 13, 14, 15], []), ([16, 15, 0, 1, 2, 3, 4, 5, 6, 7, 8, 9, 10, 11, 12, 13, 14, 15], [15, 16])])
def chargeF.B16 : List Nat := [0, 1, 0, 0, 0, 16, 56, 120, 0, 256, 0, 1792, 3840, 8184, 16380, 32767, 65535, 131071]
theorem chargeF.tab16 : rtab .any (opsOf Try.f30 16) = chargeF.T16 := by kernel_rfl
theorem chargeF.bits16 : waitsOk chargeF.T16.2 chargeF.B16 = true := by kernel_rfl
theorem info42 : (Try.prog.info? 42).map (fun i => (i.zero, i.size, i.bytes)) = some (some (.agg #[.int .i64 0, .int .i64 0]), 2, 16) := by kernel_rfl
theorem size42 : (Try.prog.info? 42).map (·.size) = some 2 := by kernel_rfl
structure CI (wS W : World) (g10 g12 : Nat) (v0 v1 : Value) (r3 : Int) (r4 : Bool) (L M : Int) : Prop where
 below : Below wS.heap.size wS W
 s : W.heap[g10]? = some (.cells #[v0, v1, .int .i64 r3, .bool r4] 33 (0, 0))
 r : W.heap[g12]? = some (.cells #[.int .i64 L, .int .i64 M] 42 (0, 0))
 g120 : wS.heap.size ≤ g12
namespace CI
variable {wS W W1 : World} {g10 g12 : Nat} {v0 v1 : Value} {r3 : Int} {r4 : Bool} {L M : Int}
theorem step (h : CI wS W g10 g12 v0 v1 r3 r4 L M) (hb : Below W.heap.size W W1) : CI wS W1 g10 g12 v0 v1 r3 r4 L M :=
 ⟨below_step h.below hb, blk_below h.s hb, blk_below h.r hb, h.g120⟩
theorem turn {B : Nat} {row : Option Nat} (h : CI wS W g10 g12 v0 v1 r3 r4 L M) (ht : Turn B W W1 row) (hB : wS.heap.size ≤ B) : CI wS W1 g10 g12 v0 v1 r3 r4 L M :=
 ⟨ht.below h.below hB h.below.size, ht.heap h.s, ht.heap h.r, h.g120⟩
theorem put0 (h : CI wS W g10 g12 v0 v1 r3 r4 L M) (L' : Int) : CI wS (W.setCell ⟨g12, 0, none⟩ (.int .i64 L')) g10 g12 v0 v1 r3 r4 L' M :=
 ⟨below_set h.below h.g120, blk_far h.s (p := ⟨g12, 0, none⟩) (blk_ne h.s h.r (by decide)) _, by rw [blk_set h.r 0]; rfl, h.g120⟩
theorem put1 (h : CI wS W g10 g12 v0 v1 r3 r4 L M) (M' : Int) : CI wS (W.setCell ⟨g12, 1, none⟩ (.int .i64 M')) g10 g12 v0 v1 r3 r4 L M' :=
 ⟨below_set h.below h.g120, blk_far h.s (p := ⟨g12, 1, none⟩) (blk_ne h.s h.r (by decide)) _, by rw [blk_set h.r 1]; rfl, h.g120⟩
end CI
def CJ (w wS : World) (g10 g12 : Nat) (v0 v1 : Value) (r3 : Int) (r4 : Bool) (L M : Int) (B : Nat) (ds : List Deferred) (gi gq : Nat) (ci cq : Array Value) (V : World) : Prop :=
 CI wS V g10 g12 v0 v1 r3 r4 L M ∧ MarksTo w.heap.size B V ds ∧ B ≤ V.heap.size ∧ V.heap[gi]? = some (.cells ci 3 (0, 0)) ∧ V.heap[gq]? = some (.cells cq 24 (0, 0))
namespace CJ
variable {w wS : World} {g10 g12 : Nat} {v0 v1 : Value} {r3 : Int} {r4 : Bool} {L M : Int} {B : Nat} {ds : List Deferred} {gi gq : Nat} {ci cq : Array Value} {V V1 : World}
theorem step (h : CJ w wS g10 g12 v0 v1 r3 r4 L M B ds gi gq ci cq V) (hb : Below V.heap.size V V1) : CJ w wS g10 g12 v0 v1 r3 r4 L M B ds gi gq ci cq V1 :=
 ⟨h.1.step hb, h.2.1.others (below_others hb), Nat.le_trans h.2.2.1 hb.size, blk_below h.2.2.2.1 hb, blk_below h.2.2.2.2 hb⟩
theorem put0 (h : CJ w wS g10 g12 v0 v1 r3 r4 L M B ds gi gq ci cq V) (L' : Int) : CJ w wS g10 g12 v0 v1 r3 r4 L' M B ds gi gq ci cq (V.setCell ⟨g12, 0, none⟩ (.int .i64 L')) :=
 ⟨h.1.put0 L', h.2.1.others (KeepsOthers.setCell _ _ _), Nat.le_trans h.2.2.1 (KeepsOthers.setCell V ⟨g12, 0, none⟩ (.int .i64 L')).size, blk_far (p := ⟨g12, 0, none⟩) h.2.2.2.1 (blk_ne h.2.2.2.1 h.1.r (by decide)) _, blk_far (p := ⟨g12, 0, none⟩) h.2.2.2.2 (blk_ne h.2.2.2.2 h.1.r (by decide)) _⟩
theorem put1 (h : CJ w wS g10 g12 v0 v1 r3 r4 L M B ds gi gq ci cq V) (M' : Int) : CJ w wS g10 g12 v0 v1 r3 r4 L M' B ds gi gq ci cq (V.setCell ⟨g12, 1, none⟩ (.int .i64 M')) :=
 ⟨h.1.put1 M', h.2.1.others (KeepsOthers.setCell _ _ _), Nat.le_trans h.2.2.1 (KeepsOthers.setCell V ⟨g12, 1, none⟩ (.int .i64 M')).size, blk_far (p := ⟨g12, 1, none⟩) h.2.2.2.1 (blk_ne h.2.2.2.1 h.1.r (by decide)) _, blk_far (p := ⟨g12, 1, none⟩) h.2.2.2.2 (blk_ne h.2.2.2.2 h.1.r (by decide)) _⟩
end CJ
theorem below_row {w W : World} {g : Nat} {cs : Array Value} (h : Below w.heap.size w W) (hg : w.heap.size ≤ g) : Below w.heap.size w (W.setRow g cs) :=
 ⟨h.os, h.tape, h.output, by rw [size_setRow]; exact h.size, fun i hi => by rw [setRow_other _ g i _ (by omega)]; exact h.block i hi⟩
set_option maxHeartbeats 6400000 in
set_option maxRecDepth 100000 in
theorem field_Charge.calls (W H : Int) (R : Bool) (A : Option Addr) (c : Nat) (C : List Int) (A1 : Option Addr) (c1 : Nat) (volts : List Int) (a2 : Int) (a3 : Int) (x1 : Int) (x2 : Int) (x3 : Int) (w : World) (hr : Kd.C (Kd.int .i64) w A C.length C) (hc : C.length ≤ c) (hr1 : Kd.C (Kd.int .i64) w A1 volts.length volts) (hc1 : volts.length ≤ c1)
  (h : field_Charge.f W H R C volts a2 a3 = some (x1, x2, x3)) :
  Calls Try.prog 30 #[.agg (planV W H R A C.length c), .slice A1 volts.length c1, .int .i64 a2, .int .i64 a3] w fun e w' => e = .returned (.tuple #[.agg #[.int .i64 x1, .int .i64 x2], .int .i64 x3]) ∧ Below w.heap.size w w' := by
 have HR := Aside0.mk hr
 have HC := Aside0.mk hc
 have HR1 := Aside0.mk hr1
 have HC1 := Aside0.mk hc1
 have HM := Aside0.mk (Mem.start w)
 have hu24 := Try.underlying24
 have hu22 := Try.underlying22
 have hu33 := Try.underlying33
 have hu42 := Try.underlying42
 have hlen : (C.length : Int) ≤ 9223372036854775807 := by have := (Kd.reads_of_C (enc := Value.int .i64) (d := (0 : Int)) (h1 := fun _ => rfl) hr).2.1; omega
 clear hr hc hr1 hc1
 unfold field_Charge.f at h
 have h0 := Option.bind_eq_some_iff.1 h
 clear h
 obtain ⟨⟨r1, r2, r3, r4, r5⟩, hs, h⟩ := h0
 have HS := Aside0.mk hs
 by_cases g0 : r5 ≠ 0
 ·rw [if_pos g0] at h
  simp only [Option.some.injEq, Prod.mk.injEq] at h
  obtain ⟨rfl, rfl, rfl⟩ := h
  have g1 : (r5 != 0) = true := bne_iff_ne.mpr g0
  clear g0 hs
  refine (callsIn_wide (n := 5)).1 (callsIn_of_wp_marks Try.func30 rfl trivial ?_)
  simp only [Try.ntmps30, List.size_toArray, List.length_cons, List.length_nil, Nat.reduceAdd, Nat.reduceSub, Array.replicate_succ, Array.replicate_zero, List.push_toArray, List.append_toArray, List.nil_append, List.cons_append]
  refine wpIn_wide.2 ?_
  go_wp2_with (first
   | ((with_reducible refine gate_dst (N := 4) rfl ?_); refine ev_box HM.out rfl 24 (.tmp 0) rfl (cs := planV W H R A C.length c) rfl ?_; intro gp w1 hm1 hq1; clear hq1; have HM1 := Aside0.mk hm1; clear hm1 HM)
   | ((with_reducible refine gate_dst (N := 5) rfl ?_); refine ev_box1 HM1.out rfl 22 (.tmp 1) rfl rfl rfl ?_; intro g5 w2 hm2 hq2; clear hq2; have HM2 := Aside0.mk hm2; clear hm2 HM1)
   | ((with_reducible refine gate_dst (N := 7) rfl ?_); refine ev_box1 HM2.out rfl 3 (.tmp 3) rfl rfl rfl ?_; intro g7 w3 hm3 hq3; clear hq3; have HM3 := Aside0.mk hm3; clear hm3 HM2)
   | ((with_reducible refine gate_dst (N := 8) rfl ?_); refine ev_new HM3.out rfl 42 rfl info42 ?_; intro g8 w4 hm4 hq4; clear hq4; have HM4 := Aside0.mk hm4; clear hm4 HM3; have q5 : w4.cell? ⟨g5, 0, none⟩ = some (.slice A1 volts.length c1) := (blk_cell HM4.out.third 0).trans rfl)
   | ((with_reducible refine gate_dst (N := 18) rfl ?_); refine ev_load HM4.out.drop.third rfl 24 (.tmp 4) rfl rfl _ Try.underlying24 rfl size24 rfl ?_)
   | (go_at_call 25; refine (field_Solve.calls W H R A c C A1 c1 volts _ r1 r2 r3 r4 _ _ (Kd.C_below HR.out HM4.out.below) HC.out (Kd.C_below HR1.out HM4.out.below) HC1.out HS.out).mono ?_; rintro e w5 ⟨v0, v1, rfl, hv0, hv1, hb5⟩; obtain ⟨A7, c7, rfl⟩ := Kd.R_slice hv0; obtain ⟨A8, c8, rfl⟩ := Kd.R_slice hv1; have HV0 := Aside0.mk (Kd.R_reads' hv0); have HV1 := Aside0.mk (Kd.R_reads' hv1); have HM5 := Aside0.mk (HM4.out.step hb5); clear hb5 HM4 hv0 hv1 q5)
   | ((with_reducible refine gate_dst (N := 10) rfl ?_); refine ev_new HM5.out rfl 33 rfl info33 ?_; intro g10 w6 hm6 hq6; have HBS0 := Aside0.mk hq6; clear hq6; have HM50 := Aside0.mk hm6; clear hm6)
   | ((with_reducible refine gate_store (t := 33) (p := 10) rfl ?_); refine ev_store HM50.out rfl 33 (.tmp 10) (.tmp 22) rfl rfl (cs := #[.slice A7 r1.length c7, .slice A8 r2.length c8, .int .i64 r3, .bool r4]) rfl size33 rfl rfl (by simp [Value.oneCell']) ?_; intro w7 hm7 hq7; clear hq7; have HM6 := Aside0.mk hm7; clear hm7 HM50; have q7 : w7.cell? ⟨g7, 0, none⟩ = some (.int .i64 a3) := (blk_cell HM6.out.third 0).trans rfl)
   | ((with_reducible refine gate_store (t := 42) (p := 8) rfl ?_); refine ev_storeB HM6.out.second rfl 42 (.tmp 8) (.tmp 26) rfl rfl rfl size42 rfl rfl (by simp [Value.oneCell']) ?_))
  exact ret_marks (by rw [size_setRow]; exact HM6.out.below.size) (Marks.nil _ _) (fun W' hq => ⟨_, results_row_tmp rfl _ _ g8 42 _ (0, 0) _ rfl (hq.cells _ _ (setRow_heap _ _ _ _ _ _ HM6.out.second) rfl) hu42 rfl (by rw [size42]; rfl), rfl, (below_row HM6.out.below HM6.out.drop.geh).trans hq.below⟩)
 obtain rfl : r5 = 0 := Classical.byContradiction g0
 replace h : (if (0 : Int) ≠ 0 then some (0, 0, 0) else if hasB C a3 = false then some (0, 0, 7) else some (chTo W.toNat H.toNat R C a3 (fn volts (a3.toNat - 1)) r2 C.length, chTo W.toNat H.toNat R C a3 (fn volts (a3.toNat - 1)) r1 C.length, 0)) = some (x1, x2, x3) := h
 obtain ⟨W', H', N, rfl, rfl, rfl, hN2, hW, hH, hN, hV, e1, e2, e3, e4⟩ := solve_good hs
 have HHAS := Aside0.mk (has_eq (W' : Int) (H' : Int) R C a3 (by omega) 0)
 rw [if_neg (by simp)] at h
 by_cases g1 : hasB C a3 = false
 ·rw [if_pos g1] at h
  simp only [Option.some.injEq, Prod.mk.injEq] at h
  obtain ⟨rfl, rfl, rfl⟩ := h
  rw [g1] at HHAS
  clear g0 hs g1 hN2 hW hH hN hV e1 e2 e3 e4
  refine (callsIn_wide (n := 5)).1 (callsIn_of_wp_marks Try.func30 rfl trivial ?_)
  simp only [Try.ntmps30, List.size_toArray, List.length_cons, List.length_nil, Nat.reduceAdd, Nat.reduceSub, Array.replicate_succ, Array.replicate_zero, List.push_toArray, List.append_toArray, List.nil_append, List.cons_append]
  refine wpIn_wide.2 ?_
  go_wp2_with (first
   | ((with_reducible refine gate_dst (N := 4) rfl ?_); refine ev_box HM.out rfl 24 (.tmp 0) rfl (cs := planV (W' : Int) (H' : Int) R A C.length c) rfl ?_; intro gp w1 hm1 hq1; clear hq1; have HM1 := Aside0.mk hm1; clear hm1 HM)
   | ((with_reducible refine gate_dst (N := 5) rfl ?_); refine ev_box1 HM1.out rfl 22 (.tmp 1) rfl rfl rfl ?_; intro g5 w2 hm2 hq2; clear hq2; have HM2 := Aside0.mk hm2; clear hm2 HM1)
   | ((with_reducible refine gate_dst (N := 7) rfl ?_); refine ev_box1 HM2.out rfl 3 (.tmp 3) rfl rfl rfl ?_; intro g7 w3 hm3 hq3; clear hq3; have HM3 := Aside0.mk hm3; clear hm3 HM2)
   | ((with_reducible refine gate_dst (N := 8) rfl ?_); refine ev_new HM3.out rfl 42 rfl info42 ?_; intro g8 w4 hm4 hq4; clear hq4; have HM4 := Aside0.mk hm4; clear hm4 HM3; have q5 : w4.cell? ⟨g5, 0, none⟩ = some (.slice A1 volts.length c1) := (blk_cell HM4.out.third 0).trans rfl)
   | ((with_reducible refine gate_dst (N := 18) rfl ?_); refine ev_load HM4.out.drop.third rfl 24 (.tmp 4) rfl rfl _ Try.underlying24 rfl size24 rfl ?_)
   | (go_at_call 25; refine (field_Solve.calls (W' : Int) (H' : Int) R A c C A1 c1 volts _ r1 r2 r3 r4 _ _ (Kd.C_below HR.out HM4.out.below) HC.out (Kd.C_below HR1.out HM4.out.below) HC1.out HS.out).mono ?_; rintro e w5 ⟨v0, v1, rfl, hv0, hv1, hb5⟩; obtain ⟨A7, c7, rfl⟩ := Kd.R_slice hv0; obtain ⟨A8, c8, rfl⟩ := Kd.R_slice hv1; have HV0 := Aside0.mk (Kd.R_reads' hv0); have HV1 := Aside0.mk (Kd.R_reads' hv1); have HM5 := Aside0.mk (HM4.out.step hb5); clear hb5 HM4 hv0 hv1 q5)
   | ((with_reducible refine gate_dst (N := 10) rfl ?_); refine ev_new HM5.out rfl 33 rfl info33 ?_; intro g10 w6 hm6 hq6; have HBS0 := Aside0.mk hq6; clear hq6; have HM50 := Aside0.mk hm6; clear hm6)
   | ((with_reducible refine gate_store (t := 33) (p := 10) rfl ?_); refine ev_store HM50.out rfl 33 (.tmp 10) (.tmp 22) rfl rfl (cs := #[.slice A7 r1.length c7, .slice A8 r2.length c8, .int .i64 r3, .bool r4]) rfl size33 rfl rfl (by simp [Value.oneCell']) ?_; intro w7 hm7 hq7; clear hq7; have HM6 := Aside0.mk hm7; clear hm7 HM50; have q7 : w7.cell? ⟨g7, 0, none⟩ = some (.int .i64 a3) := (blk_cell HM6.out.third 0).trans rfl)
   | ((with_reducible refine gate_dst (N := 28) rfl ?_); refine ev_load HM6.out.drop.drop.third rfl 24 (.tmp 4) rfl rfl _ Try.underlying24 rfl size24 rfl ?_)
   | (go_at_call 77; refine (field_has.calls _ (W' : Int) (H' : Int) R A c C _ _ _ (Kd.C_below HR.out HM6.out.below) HC.out HHAS.out).mono ?_; rintro e w8 ⟨rfl, hb8⟩; have HM7 := Aside0.mk (HM6.out.step hb8); clear hb8 HM6 q7)
   | ((with_reducible refine gate_store (t := 42) (p := 8) rfl ?_); refine ev_storeB HM7.out.second rfl 42 (.tmp 8) (.tmp 32) rfl rfl rfl size42 rfl rfl (by simp [Value.oneCell']) ?_))
  exact ret_marks (by rw [size_setRow]; exact HM7.out.below.size) (Marks.nil _ _) (fun W' hq => ⟨_, results_row_tmp rfl _ _ g8 42 _ (0, 0) _ rfl (hq.cells _ _ (setRow_heap _ _ _ _ _ _ HM7.out.second) rfl) hu42 rfl (by rw [size42]; rfl), rfl, (below_row HM7.out.below HM7.out.drop.geh).trans hq.below⟩)
 rw [if_neg g1] at h
 have g1' : hasB C a3 = true := by simpa using g1
 rw [g1'] at HHAS
 obtain ⟨n, rfl⟩ : ∃ n : Nat, a3 = (n : Int) + 1 := ⟨(a3 - 1).toNat, by
  unfold hasB at g1'
  rw [Bool.and_eq_true, decide_eq_true_eq] at g1'
  omega⟩
 have hel : (n : Int) + 1 ∈ C := by
  unfold hasB at g1'
  rw [Bool.and_eq_true, List.contains_iff_mem] at g1'
  exact g1'.2
 obtain ⟨i0, hi0, hce⟩ := mem_fn hel
 have hvl := hV.vlen i0 hi0
 rw [hce] at hvl
 have hub := volt_range hV hi0 (by rw [hce]; omega)
 have huv : volt C volts i0 = fn volts n := by unfold volt; rw [hce, show ((n : Int) + 1).toNat - 1 = n by omega]
 rw [huv] at hub
 have HUB := Aside0.mk hub
 obtain ⟨adv, ev, hcv⟩ := at_natM HR1.out n (by omega)
 rw [show volts.getD n 0 = fn volts n from rfl] at hcv
 have HNV : Aside0 (n < volts.length) := ⟨by omega⟩
 have HRNG : Aside0 (∀ j, j < W' * H' → (-1000000 ≤ fn r1 j ∧ fn r1 j ≤ 1000000) ∧ (-1000000 ≤ fn r2 j ∧ fn r2 j ≤ 1000000)) := ⟨fun j hj => by
  have hj' : j < C.length := by rw [hV.len]; exact hj
  have h5 := solve_range hV hN N hj'
  rw [← e1, ← e2, fn_take hj', fn_take hj']
  exact h5⟩
 have l1 : r1.length = C.length := by rw [← e1, List.length_take, (solve_pair hV hN N).low.1.len]; omega
 have l2 : r2.length = C.length := by rw [← e2, List.length_take, (solve_pair hV hN N).high.1.len]; omega
 have HEQ : Aside0 (chTo W' H' R C ((n : Int) + 1) (fn volts n) r2 C.length = x1 ∧ chTo W' H' R C ((n : Int) + 1) (fn volts n) r1 C.length = x2 ∧ (0 : Int) = x3) := ⟨by
  rw [Int.toNat_natCast, Int.toNat_natCast, show ((n : Int) + 1).toNat - 1 = n by omega] at h
  simpa only [Option.some.injEq, Prod.mk.injEq] using h⟩
 have HLEN : Aside0 (C.length = W' * H' ∧ W' ≤ 16 ∧ H' ≤ 16 ∧ C.length ≤ 256) := ⟨⟨hV.len, hW, hH, hN⟩⟩
 have HL12 : Aside0 (r1.length = C.length ∧ r2.length = C.length) := ⟨⟨l1, l2⟩⟩
 have b1 : (C.length : Int) ≤ 256 := by omega
 have k1 : (0 : Int) ≤ (n : Int) := by omega
 have k2 : (n : Int) < (volts.length : Int) := by omega
 have n1 : IntKind.i64.wrap ((n : Int) + 1 - 1) = (n : Int) := by rw [Int.add_sub_cancel]; exact IntWalk.i64_in _ (by have := (Kd.reads_of_C (enc := Value.int .i64) (d := (0 : Int)) (h1 := fun _ => rfl) HR1.out).2.1; omega)
 have n2 : IntKind.i64.wrap (n : Int) = (n : Int) := IntWalk.i64_in _ (by have := (Kd.reads_of_C (enc := Value.int .i64) (d := (0 : Int)) (h1 := fun _ => rfl) HR1.out).2.1; omega)
 obtain ⟨u, hu⟩ : ∃ u, fn volts n = u := ⟨_, rfl⟩
 rw [hu] at HUB HEQ hcv
 have HCV := Aside0.mk (And.intro ev hcv)
 clear hs g0 g1 g1' h hN2 hW hH hN hV e1 e2 e3 e4 hel hi0 hce hvl hub huv ev hcv hu l1 l2 i0
 refine (callsIn_wide (n := 5)).1 (callsIn_of_wp_marks Try.func30 rfl trivial ?_)
 simp only [Try.ntmps30, List.size_toArray, List.length_cons, List.length_nil, Nat.reduceAdd, Nat.reduceSub, Array.replicate_succ, Array.replicate_zero, List.push_toArray, List.append_toArray, List.nil_append, List.cons_append]
 refine wpIn_wide.2 ?_
 go_wp2_with (first
  | ((with_reducible refine gate_dst (N := 4) rfl ?_); refine ev_box HM.out rfl 24 (.tmp 0) rfl (cs := planV (W' : Int) (H' : Int) R A C.length c) rfl ?_; intro gp w1 hm1 hq1; clear hq1; have HM1 := Aside0.mk hm1; clear hm1 HM)
  | ((with_reducible refine gate_dst (N := 5) rfl ?_); refine ev_box1 HM1.out rfl 22 (.tmp 1) rfl rfl rfl ?_; intro g5 w2 hm2 hq2; clear hq2; have HM2 := Aside0.mk hm2; clear hm2 HM1)
  | ((with_reducible refine gate_dst (N := 7) rfl ?_); refine ev_box1 HM2.out rfl 3 (.tmp 3) rfl rfl rfl ?_; intro g7 w3 hm3 hq3; clear hq3; have HM3 := Aside0.mk hm3; clear hm3 HM2)
  | ((with_reducible refine gate_dst (N := 8) rfl ?_); refine ev_new HM3.out rfl 42 rfl info42 ?_; intro g8 w4 hm4 hq4; clear hq4; have HM4 := Aside0.mk hm4; clear hm4 HM3; have q5 : w4.cell? ⟨g5, 0, none⟩ = some (.slice A1 volts.length c1) := (blk_cell HM4.out.third 0).trans rfl)
  | ((with_reducible refine gate_dst (N := 18) rfl ?_); refine ev_load HM4.out.drop.third rfl 24 (.tmp 4) rfl rfl _ Try.underlying24 rfl size24 rfl ?_)
  | (go_at_call 25; refine (field_Solve.calls (W' : Int) (H' : Int) R A c C A1 c1 volts _ r1 r2 r3 r4 _ _ (Kd.C_below HR.out HM4.out.below) HC.out (Kd.C_below HR1.out HM4.out.below) HC1.out HS.out).mono ?_; rintro e w5 ⟨v0, v1, rfl, hv0, hv1, hb5⟩; obtain ⟨A7, c7, rfl⟩ := Kd.R_slice hv0; obtain ⟨A8, c8, rfl⟩ := Kd.R_slice hv1; have HV0 := Aside0.mk (Kd.R_reads' hv0); have HV1 := Aside0.mk (Kd.R_reads' hv1); have HM5 := Aside0.mk (HM4.out.step hb5); have HN5 := Aside0.mk (Mem.start w5); clear hb5 HM4 hv0 hv1 q5)
  | ((with_reducible refine gate_dst (N := 10) rfl ?_); refine ev_new HN5.out rfl 33 rfl info33 ?_; intro g10 w6 hm6 hq6; clear hq6; have HN50 := Aside0.mk hm6; clear hm6 HN5)
  | ((with_reducible refine gate_store (t := 33) (p := 10) rfl ?_); refine ev_store HN50.out rfl 33 (.tmp 10) (.tmp 22) rfl rfl (cs := #[.slice A7 r1.length c7, .slice A8 r2.length c8, .int .i64 r3, .bool r4]) rfl size33 rfl rfl (by simp [Value.oneCell']) ?_; intro w7 hm7 hq7; clear hq7; have HN6 := Aside0.mk hm7; clear hm7 HN50; have q7 : w7.cell? ⟨g7, 0, none⟩ = some (.int .i64 ((n : Int) + 1)) := (blk_cell (blk_below HM5.out.second HN6.out.below) 0).trans rfl)
  | ((with_reducible refine gate_dst (N := 28) rfl ?_); refine ev_load (blk_below HM5.out.drop.third HN6.out.below) rfl 24 (.tmp 4) rfl rfl _ Try.underlying24 rfl size24 rfl ?_)
  | (go_at_call 77; refine (field_has.calls _ (W' : Int) (H' : Int) R A c C _ _ _ (Kd.C_below HR.out (below_step HM5.out.below HN6.out.below)) HC.out HHAS.out).mono ?_; rintro e w8 ⟨rfl, hb8⟩; have HN7 := Aside0.mk (HN6.out.step hb8); clear hb8 HN6 q7)
  | ((with_reducible refine gate_dst (N := 12) rfl ?_); refine ev_new HN7.out rfl 42 rfl info42 ?_; intro g12 w9 hm9 hq9; clear hq9; have HN8 := Aside0.mk hm9; clear hm9 HN7; have q3 : w9.cell? ⟨gp, 3, none⟩ = some (.slice A C.length c) := (blk_cell (blk_below HM5.out.drop.third HN8.out.below) 3).trans rfl))
 rename_i Ka hKa
 have HKa := Aside0.mk hKa
 clear hKa
 have HCI0 : Aside0 (CI w5 w9 g10 g12 (.slice A7 r1.length c7) (.slice A8 r2.length c8) r3 r4 (chTo W' H' R C ((n : Int) + 1) u r2 0) (chTo W' H' R C ((n : Int) + 1) u r1 0)) := ⟨⟨HN8.out.below, HN8.out.second, HN8.out.head, HN8.out.geh⟩⟩
 have HG10 : Aside0 (w5.heap.size ≤ g10) := ⟨HN8.out.drop.geh⟩
 clear HN8 q3
 have HE5 : Aside0 (w5.heap[gp]? = some (.cells (planV (W' : Int) (H' : Int) R A C.length c) 24 (0, 0)) ∧ w5.heap[g5]? = some (.cells #[.slice A1 volts.length c1] 22 (0, 0)) ∧ w5.heap[g7]? = some (.cells #[.int .i64 ((n : Int) + 1)] 3 (0, 0)) ∧ w5.heap[g8]? = some (.cells #[.int .i64 0, .int .i64 0] 42 (0, 0)) ∧ w.heap.size ≤ g8 ∧ Below w.heap.size w w5) := ⟨⟨HM5.out.drop.third, HM5.out.third, HM5.out.second, HM5.out.head, HM5.out.geh, HM5.out.below⟩⟩
 clear HM5
 refine (wpIn_wide (n := 5)).1 ?_
 refine loop_ghost (fun k a' Wz => ∃ (i : Nat) (ds : List Deferred), a' = (fun (zs : Nat → Value) => ({ tmps := List.toArray (zs 0 :: zs 1 :: zs 2 :: zs 3 :: .pointer (some ⟨gp, 0, none⟩) :: .pointer (some ⟨g5, 0, none⟩) :: zs 6 :: .pointer (some ⟨g7, 0, none⟩) :: .pointer (some ⟨g8, 0, none⟩) :: zs 9 :: .pointer (some ⟨g10, 0, none⟩) :: zs 11 :: .pointer (some ⟨g12, 0, none⟩) :: zs 13 :: zs 14 :: zs 15 :: zs 16 :: zs 17 :: zs 18 :: zs 19 :: zs 20 :: zs 21 :: zs 22 :: zs 23 :: zs 24 :: zs 25 :: zs 26 :: zs 27 :: zs 28 :: zs 29 :: zs 30 :: zs 31 :: zs 32 :: zs 33 :: .slice A C.length c :: .int .i64 (C.length : Int) :: .int .i64 (i : Int) :: zs 37 :: zs 38 :: zs 39 :: zs 40 :: zs 41 :: zs 42 :: zs 43 :: zs 44 :: zs 45 :: zs 46 :: zs 47 :: zs 48 :: zs 49 :: zs 50 :: zs 51 :: zs 52 :: zs 53 :: zs 54 :: zs 55 :: zs 56 :: zs 57 :: zs 58 :: zs 59 :: zs 60 :: zs 61 :: zs 62 :: zs 63 :: zs 64 :: zs 65 :: zs 66 :: zs 67 :: zs 68 :: zs 69 :: zs 70 :: zs 71 :: zs 72 :: zs 73 :: zs 74 :: zs 75 :: zs 76 :: zs 77 :: zs 78 :: zs 79 :: zs 80 :: zs 81 :: zs 82 :: zs 83 :: zs 84 :: zs 85 :: zs 86 :: zs 87 :: zs 88 :: zs 89 :: zs 90 :: zs 91 :: []), defers := ds } : Act)) (fun q => a'.tmps.getD q undef) ∧ Aside0 (i + k = C.length) ∧ Aside0 (Marks w.heap.size Wz ds) ∧ Aside0 (CI w5 Wz g10 g12 (.slice A7 r1.length c7) (.slice A8 r2.length c8) r3 r4 (chTo W' H' R C ((n : Int) + 1) u r2 i) (chTo W' H' R C ((n : Int) + 1) u r1 i))) C.length ?_ ?_
 ·exact ⟨0, [], rfl, ⟨by omega⟩, ⟨Marks.nil _ _⟩, HCI0⟩
 clear HCI0
 rintro k a1 W1 ⟨i, ds, ha, HK, HMK, HCI⟩
 generalize (fun q => a1.tmps.getD q undef) = zs at ha
 replace ha : a1 = ({ tmps := List.toArray (zs 0 :: zs 1 :: zs 2 :: zs 3 :: .pointer (some ⟨gp, 0, none⟩) :: .pointer (some ⟨g5, 0, none⟩) :: zs 6 :: .pointer (some ⟨g7, 0, none⟩) :: .pointer (some ⟨g8, 0, none⟩) :: zs 9 :: .pointer (some ⟨g10, 0, none⟩) :: zs 11 :: .pointer (some ⟨g12, 0, none⟩) :: zs 13 :: zs 14 :: zs 15 :: zs 16 :: zs 17 :: zs 18 :: zs 19 :: zs 20 :: zs 21 :: zs 22 :: zs 23 :: zs 24 :: zs 25 :: zs 26 :: zs 27 :: zs 28 :: zs 29 :: zs 30 :: zs 31 :: zs 32 :: zs 33 :: .slice A C.length c :: .int .i64 (C.length : Int) :: .int .i64 (i : Int) :: zs 37 :: zs 38 :: zs 39 :: zs 40 :: zs 41 :: zs 42 :: zs 43 :: zs 44 :: zs 45 :: zs 46 :: zs 47 :: zs 48 :: zs 49 :: zs 50 :: zs 51 :: zs 52 :: zs 53 :: zs 54 :: zs 55 :: zs 56 :: zs 57 :: zs 58 :: zs 59 :: zs 60 :: zs 61 :: zs 62 :: zs 63 :: zs 64 :: zs 65 :: zs 66 :: zs 67 :: zs 68 :: zs 69 :: zs 70 :: zs 71 :: zs 72 :: zs 73 :: zs 74 :: zs 75 :: zs 76 :: zs 77 :: zs 78 :: zs 79 :: zs 80 :: zs 81 :: zs 82 :: zs 83 :: zs 84 :: zs 85 :: zs 86 :: zs 87 :: zs 88 :: zs 89 :: zs 90 :: zs 91 :: []), defers := ds } : Act) := ha
 subst ha
 by_cases hi : i < C.length
 rotate_left
 ·obtain rfl : i = C.length := by have := HK.out; omega
  clear hi
  refine wpIn_wide.2 ?_
  have hlt : decide ((C.length : Int) < (C.length : Int)) = false := decide_eq_false (by omega)
  rw [HEQ.out.1, HEQ.out.2.1] at HCI
  go_wp2_with fail
  refine HKa.out _ _ ?_
  go_wp2_with (first
   | ((with_reducible refine gate_dst (N := 91) rfl ?_); refine ev_load HCI.out.r rfl 42 (.tmp 12) rfl rfl _ Try.underlying42 rfl size42 rfl ?_)
   | ((with_reducible refine gate_store (t := 42) (p := 8) rfl ?_); refine ev_storeB (blk_below HE5.out.2.2.2.1 HCI.out.below) rfl 42 (.tmp 8) (.tmp 91) rfl rfl rfl size42 rfl rfl (by simp [Value.oneCell']) ?_))
  exact ret_marks (by rw [size_setRow]; exact Nat.le_trans HE5.out.2.2.2.2.2.size HCI.out.below.size) (HMK.out.keep (fun q o _ ho hcs => by rw [setRow_other _ _ _ _ (fun e => by rw [e, blk_below HE5.out.2.2.2.1 HCI.out.below] at ho; cases ho; cases hcs)]; exact ho)) (fun W' hq => ⟨_, results_row_tmp rfl _ _ g8 42 _ (0, 0) _ rfl (hq.cells _ _ (setRow_heap _ _ _ _ _ _ (blk_below HE5.out.2.2.2.1 HCI.out.below)) rfl) hu42 rfl (by rw [size42]; rfl), by rw [← HEQ.out.2.2]; rfl, (below_row (below_step HE5.out.2.2.2.2.2 HCI.out.below) HE5.out.2.2.2.2.1).trans hq.below⟩)
 have HI := Aside0.mk hi
 obtain ⟨ad, e0, hx⟩ := at_natM (Kd.C_below HR.out (below_step HE5.out.2.2.2.2.2 HCI.out.below)) i hi
 cases e0
 have i1 : (0 : Int) ≤ (i : Int) := by omega
 have i2 : (i : Int) < (C.length : Int) := by omega
 have i3 : (i : Int) < 256 := by omega
 have q7 : W1.cell? ⟨g7, 0, none⟩ = some (.int .i64 ((n : Int) + 1)) := (blk_cell (blk_below HE5.out.2.2.1 HCI.out.below) 0).trans rfl
 obtain ⟨X, hX⟩ : ∃ X, C.getD i 0 = X := ⟨_, rfl⟩
 rw [hX] at hx
 have HX2 : Aside0 (fn C i = X) := ⟨hX⟩
 clear hX hi
 by_cases q : X = (n : Int) + 1
 rotate_left
 ·have hg : (X != (n : Int) + 1) = true := bne_iff_ne.mpr q
  have HN : Aside0 (∀ b, chTo W' H' R C ((n : Int) + 1) u b (i + 1) = chTo W' H' R C ((n : Int) + 1) u b i) := ⟨fun b => by rw [chTo, HX2.out, if_neg q]; omega⟩
  clear q
  refine wpIn_wide.2 ?_
  go_wp2_with fail
  exact ⟨k - 1, by have := HK.out; have := HI.out; omega, i + 1, ds, rfl, ⟨by have := HK.out; have := HI.out; omega⟩, HMK, ⟨by rw [HN.out, HN.out]; exact HCI.out⟩⟩
 have hg : (X != (n : Int) + 1) = false := by rw [q]; simp
 have HNX : Aside0 (∀ b, chTo W' H' R C ((n : Int) + 1) u b (i + 1) = chTo W' H' R C ((n : Int) + 1) u b i + chSum C ((n : Int) + 1) u b (nbs W' H' R i)) := ⟨fun b => by rw [chTo, HX2.out, if_pos q]⟩
 have HCB : Aside0 (∀ b, (∀ j, j < W' * H' → -1000000 ≤ fn b j ∧ fn b j ≤ 1000000) → -256000000 * (i : Int) ≤ chTo W' H' R C ((n : Int) + 1) u b i ∧ chTo W' H' R C ((n : Int) + 1) u b i ≤ 256000000 * (i : Int)) := ⟨fun b hb => chTo_bound HUB.out HLEN.out.2.1 hb i (by have := HI.out; have := HLEN.out.1; omega)⟩
 have HBL := HCB.out r2 (fun j hj => (HRNG.out j hj).2)
 have HBM := HCB.out r1 (fun j hj => (HRNG.out j hj).1)
 have HN2' := HNX.out r2
 have HN1' := HNX.out r1
 have HEND : Aside0 (∀ L M, L = chTo W' H' R C ((n : Int) + 1) u r2 i + chSum C ((n : Int) + 1) u r2 (nbs W' H' R i) → M = chTo W' H' R C ((n : Int) + 1) u r1 i + chSum C ((n : Int) + 1) u r1 (nbs W' H' R i) → L = chTo W' H' R C ((n : Int) + 1) u r2 (i + 1) ∧ M = chTo W' H' R C ((n : Int) + 1) u r1 (i + 1)) := ⟨fun L M h1 h2 => ⟨h1.trans HN2'.symm, h2.trans HN1'.symm⟩⟩
 clear HN2' HN1' HNX HCB q
 generalize chTo W' H' R C ((n : Int) + 1) u r2 i = L at HCI HBL HEND
 generalize chTo W' H' R C ((n : Int) + 1) u r1 i = M at HCI HBM HEND
 have HBLM := Aside0.mk (And.intro HBL HBM)
 clear HBL HBM
 refine wpIn_wide.2 ?_
 go_wp2_with (first
  | ((with_reducible refine gate_dst (N := 44) rfl ?_); refine ev_load (blk_below HE5.out.1 HCI.out.below) rfl 24 (.tmp 4) rfl rfl _ Try.underlying24 rfl size24 rfl ?_)
  | (go_at_call 78; refine (near_calls _ _ _ _ _ _ _ _).mono ?_; rintro e w6 ⟨gp2, gi2, rfl, hM6, hz6, hgp2, hgi2⟩; have HS6 := Aside0.mk (HCI.out.step hM6.below); have HMK6 := Aside0.mk ((HMK.out.others (below_others hM6.below)).to); have HBX := Aside0.mk (And.intro hM6.head hM6.second); clear hM6 hz6 hgp2 hgi2 HCI HMK q7 hx))
 rename_i Kb hKb
 have HKb := Aside0.mk hKb
 clear hKb
 refine (wpIn_wide (n := 5)).1 ?_
 have HBase : Aside0 (w5.heap.size ≤ w6.heap.size ∧ w.heap.size ≤ w6.heap.size) := ⟨⟨HS6.out.below.size, Nat.le_trans HE5.out.2.2.2.2.2.size HS6.out.below.size⟩⟩
 have HGB : Aside0 (gi2 < w6.heap.size ∧ gp2 < w6.heap.size) := ⟨⟨blk_lt HBX.out.1, blk_lt HBX.out.2⟩⟩
 refine wpIn_rangeFunc_ownG rfl (by decide) (gf := 98) (lb := #[.pointer (some ⟨gi2, 0, none⟩), .pointer (some ⟨gp2, 0, none⟩)]) rfl trivial (enters_of Try.func98 (by kernel_rfl) rfl)
  (near1_stops 4 W' H' R (some ad) C.length c i gi2 gp2 (by rw [← HLEN.out.1]; exact HI.out) HLEN.out.2.1 HLEN.out.2.2.1 w6 HBX.out) (fun h k => ⟨k.1.trans h.1, k.2.trans h.2⟩) (fun V l o o' hl ho _ _ => ⟨World.putObj_heap_other (by have := HGB.out.1; omega), World.putObj_heap_other (by have := HGB.out.2; omega)⟩) (Below.refl _ _) (fun _ => rfl)
  (fun pre V => CJ w w5 g10 g12 (.slice A7 r1.length c7) (.slice A8 r2.length c8) r3 r4 (L + chSum C ((n : Int) + 1) u r2 (pre.map (·.1))) (M + chSum C ((n : Int) + 1) u r1 (pre.map (·.1))) w6.heap.size ds gi2 gp2 #[.int .i64 i] (planV W' H' R (some ad) C.length c) V)
  (fun _ _ _ => False) ?hI ?hIx ?h0 (fun x => { tmps := List.toArray (zs 0 :: zs 1 :: zs 2 :: zs 3 :: .pointer (some ⟨gp, 0, none⟩) :: .pointer (some ⟨g5, 0, none⟩) :: zs 6 :: .pointer (some ⟨g7, 0, none⟩) :: .pointer (some ⟨g8, 0, none⟩) :: zs 9 :: .pointer (some ⟨g10, 0, none⟩) :: zs 11 :: .pointer (some ⟨g12, 0, none⟩) :: .int .i64 (i : Int) :: .int .i64 X :: .int .i64 x.1.1 :: .int .i64 x.1.2 :: zs 17 :: zs 18 :: zs 19 :: zs 20 :: zs 21 :: zs 22 :: zs 23 :: zs 24 :: zs 25 :: zs 26 :: zs 27 :: zs 28 :: zs 29 :: zs 30 :: zs 31 :: zs 32 :: zs 33 :: .slice (some ad) C.length c :: .int .i64 (C.length : Int) :: .int .i64 (i : Int) :: .bool true :: .int .i64 (i : Int) :: .pointer (some (ad.add i)) :: .int .i64 X :: .int .i64 X :: .int .i64 ((n : Int) + 1) :: .bool false :: .agg (planV (W' : Int) (H' : Int) R (some ad) C.length c) :: .int .i64 (i : Int) :: .func (.func 98) #[] #[.pointer (some ⟨gi2, 0, none⟩), .pointer (some ⟨gp2, 0, none⟩)] :: .int .i64 x.1.1 :: .int .i64 x.1.2 :: zs 49 :: zs 50 :: zs 51 :: zs 52 :: zs 53 :: zs 54 :: zs 55 :: zs 56 :: zs 57 :: zs 58 :: zs 59 :: zs 60 :: zs 61 :: zs 62 :: zs 63 :: zs 64 :: zs 65 :: zs 66 :: zs 67 :: zs 68 :: zs 69 :: zs 70 :: zs 71 :: zs 72 :: zs 73 :: zs 74 :: zs 75 :: zs 76 :: zs 77 :: zs 78 :: zs 79 :: zs 80 :: zs 81 :: zs 82 :: zs 83 :: zs 84 :: zs 85 :: zs 86 :: zs 87 :: zs 88 :: zs 89 :: zs 90 :: zs 91 :: []), defers := [] }) ?assign ?body ?done ?stop
 case hI =>
  rintro pre V V' row ⟨h1, h4, h5, h6, h7⟩ hg hr
  have ht : Turn w6.heap.size V V' row := ⟨hg, hr⟩
  exact ⟨h1.turn ht HBase.out.1, h4.turn ht h5, Nat.le_trans h5 hg.size, ht.heap h6, ht.heap h7⟩
 case hIx =>
  intro _ _ _ _ _ h
  exact h.elim
 case h0 => exact ⟨by rw [List.map_nil]; show CI _ _ _ _ _ _ _ _ (L + 0) (M + 0); rw [Int.add_zero, Int.add_zero]; exact HS6.out, HMK6.out, Nat.le_refl _, HBX.out.1, HBX.out.2⟩
 case assign =>
  intro l x V K hK
  gi_wp2
  exact hK
 case body =>
  rintro l pre x V hcj hlt
  have hnb := nbs_lt (by rw [← HLEN.out.1]; exact HI.out) x.2
  have hw12 := hnb.2.2.2 HLEN.out.2.1
  have hpre : ∀ p, p ∈ pre.map (·.1) → p.1 < W' * H' ∧ 1 ≤ p.2 ∧ p.2 ≤ 32 := fun p hp => by
   obtain ⟨y, _, rfl⟩ := List.mem_map.1 hp
   have h8 := nbs_lt (by rw [← HLEN.out.1]; exact HI.out) y.2
   exact ⟨h8.1, h8.2.2.1, h8.2.2.2 HLEN.out.2.1⟩
  have hb2 := chSum_bound (C := C) (e := (n : Int) + 1) (b := r2) HUB.out (l := pre.map (·.1)) (fun p hp => ⟨(HRNG.out _ (hpre p hp).1).2, (hpre p hp).2⟩)
  have hb1 := chSum_bound (C := C) (e := (n : Int) + 1) (b := r1) HUB.out (l := pre.map (·.1)) (fun p hp => ⟨(HRNG.out _ (hpre p hp).1).1, (hpre p hp).2⟩)
  rw [List.length_map] at hb1 hb2
  have hr2 := (HRNG.out _ hnb.1).2
  have hr1 := (HRNG.out _ hnb.1).1
  have ho2 := chOne_bound (C := C) (e := (n : Int) + 1) (b := r2) (p := x.1) HUB.out hr2 ⟨hnb.2.2.1, hw12⟩
  have ho1 := chOne_bound (C := C) (e := (n : Int) + 1) (b := r1) (p := x.1) HUB.out hr1 ⟨hnb.2.2.1, hw12⟩
  have HUN : Aside0 (∀ b, chSum C ((n : Int) + 1) u b ((pre ++ [x]).map (·.1)) = chSum C ((n : Int) + 1) u b (pre.map (·.1)) + chOne C ((n : Int) + 1) u b x.1) := ⟨fun b => by rw [List.map_append, List.map_singleton, chSum_snoc]⟩
  have HU2 := HUN.out r2
  have HU1 := HUN.out r1
  have hkC : x.1.1 < C.length := by rw [HLEN.out.1]; exact hnb.1
  have hO2 : chOne C ((n : Int) + 1) u r2 x.1 = if fn C x.1.1 = (n : Int) + 1 then 0 else x.1.2 * (u - fn r2 x.1.1) := rfl
  have hO1 : chOne C ((n : Int) + 1) u r1 x.1 = if fn C x.1.1 = (n : Int) + 1 then 0 else x.1.2 * (u - fn r1 x.1.1) := rfl
  generalize chOne C ((n : Int) + 1) u r2 x.1 = O2 at HU2 hO2 ho2
  generalize chOne C ((n : Int) + 1) u r1 x.1 = O1 at HU1 hO1 ho1
  generalize chSum C ((n : Int) + 1) u r2 (pre.map (·.1)) = P2 at HU2 hb2 hcj
  generalize chSum C ((n : Int) + 1) u r1 (pre.map (·.1)) = P1 at HU1 hb1 hcj
  have HU12 := Aside0.mk (And.intro HU1 HU2)
  have hw11 := hnb.2.2.1
  clear HU1 HU2 HUN hpre hnb
  show Code.wpIn (Fence.wide.inRound l) (5 - 1 - 1) Try.prog _ (ownPostG w6.heap.size (Boxes gi2 gp2) _ _ (pre ++ [x]) V) _ _
  obtain ⟨kx, hkx⟩ : ∃ kx, x.1.1 = kx := ⟨_, rfl⟩
  obtain ⟨wx, hwx⟩ : ∃ wx, x.1.2 = wx := ⟨_, rfl⟩
  rw [hkx] at hkC hO1 hO2 hr1 hr2
  rw [hwx] at hO1 hO2 hw11 hw12
  rw [hkx, hwx]
  clear hkx hwx
  have hsz : -128000000000 ≤ L + P2 ∧ L + P2 ≤ 128000000000 ∧ -128000000000 ≤ M + P1 ∧ M + P1 ≤ 128000000000 := by
   have h1 := HBLM.out
   have h2 := HI.out
   have h3 := HLEN.out.2.2.2
   omega
  clear hb1 hb2 hlt
  obtain ⟨adk, ek, hck0⟩ := at_natM HR.out kx hkC
  cases ek
  obtain ⟨ad7, e7, hc70⟩ := at_natM HV0.out.2.2 kx (by rw [HL12.out.1]; exact hkC)
  cases e7
  obtain ⟨ad8, e8, hc80⟩ := at_natM HV1.out.2.2 kx (by rw [HL12.out.2]; exact hkC)
  cases e8
  rw [show r1.getD kx 0 = fn r1 kx from rfl] at hc70
  rw [show r2.getD kx 0 = fn r2 kx from rfl] at hc80
  obtain ⟨Y, hY⟩ : ∃ Y, C.getD kx 0 = Y := ⟨_, rfl⟩
  rw [hY] at hck0
  rw [show fn C kx = Y from hY] at hO1 hO2
  obtain ⟨hi1, hhi⟩ : ∃ z, fn r2 kx = z := ⟨_, rfl⟩
  obtain ⟨lo1, hlo⟩ : ∃ z, fn r1 kx = z := ⟨_, rfl⟩
  rw [hhi] at hc80 hr2 hO2
  rw [hlo] at hc70 hr1 hO1
  obtain ⟨evv, hcv0⟩ := HCV.out
  subst evv
  have HCELLS : Aside0 (∀ V' : World, Below w5.heap.size w5 V' → V'.cell? ⟨gp, 3, none⟩ = some (.slice (some ad) C.length c) ∧ V'.cell? (ad.add kx) = some (.int .i64 Y) ∧ V'.cell? ⟨g7, 0, none⟩ = some (.int .i64 ((n : Int) + 1)) ∧ V'.cell? ⟨g5, 0, none⟩ = some (.slice (some adv) volts.length c1) ∧ V'.cell? (adv.add n) = some (.int .i64 u) ∧ V'.cell? (ad7.add kx) = some (.int .i64 lo1) ∧ V'.cell? (ad8.add kx) = some (.int .i64 hi1)) := ⟨fun V' hb => ⟨(blk_cell (blk_below HE5.out.1 hb) 3).trans rfl, pw_cell_below (below_step HE5.out.2.2.2.2.2 hb) hck0, (blk_cell (blk_below HE5.out.2.2.1 hb) 0).trans rfl, (blk_cell (blk_below HE5.out.2.1 hb) 0).trans rfl, pw_cell_below (below_step HE5.out.2.2.2.2.2 hb) hcv0, pw_cell_below hb hc70, pw_cell_below hb hc80⟩⟩
  obtain ⟨t1, t2, t3, _⟩ := HCELLS.out V hcj.1.below
  have k3 : (0 : Int) ≤ (kx : Int) := by omega
  have k4 : (kx : Int) < (C.length : Int) := by omega
  have HKR : Aside0 ((kx : Int) < (r1.length : Int) ∧ (kx : Int) < (r2.length : Int)) := ⟨by have := HL12.out; omega⟩
  have HCJ := Aside0.mk hcj
  clear hck0 hc70 hc80 hcv0 hY hhi hlo hcj hkC
  by_cases qy : Y = (n : Int) + 1
  ·have q1 : (Y != (n : Int) + 1) = false := by rw [qy]; simp
   rw [if_pos qy] at hO1 hO2
   have HO := Aside0.mk (And.intro hO1 hO2)
   clear qy hO1 hO2 ho1 ho2 hr1 hr2 hw11 hw12 hsz
   refine wpIn_block (wpIn_seq_k (fun K hK => ?_))
   have HK1 := Aside0.mk hK
   clear hK
   have HBd := Aside0.mk (below_drew1 (Below.refl V.heap.size V))
   refine startIn_ (r := some l) (n := 5 - 1 - 1) (m := 7) (S := fun w' => w'.cell? ⟨gp, 3, none⟩ = some (.slice (some ad) C.length c) ∧ w'.cell? (ad.add kx) = some (.int .i64 Y) ∧ w'.cell? ⟨g7, 0, none⟩ = some (.int .i64 ((n : Int) + 1))) (ds := []) #[false, false, false, false, false, false, false] (by kernel_rfl) (by kernel_rfl) (then_out (block_out ownG_out)) rfl rfl ⟨t1, t2, t3⟩ (fun hHeld => ?_); refine with_tabW chargeF.tab14 chargeF.bits14 (fun HT_ HW_ => ?_)
   generalize V.drew = wd at HBd hHeld  ⊢
   refine pu_ 0 49 (bS 7 1) HT_ ?_
   refine pu_ 2 51 (bS 7 5) HT_ ?_
   refine ta_ 1 50 (bS 7 7) HT_ HW_ hHeld ?_
   refine pu_ 3 52 (bS 7 15) HT_ ?_
   refine ta_ 4 53 (bS 7 31) HT_ HW_ hHeld ?_
   refine ta_ 5 54 (bS 7 63) HT_ HW_ hHeld ?_
   refine pu_ 6 55 (bS 7 127) HT_ ?_
   refine done_ (done_of HT_.out (by kernel_rfl)) ?_
   clear hHeld HT_ HW_
   refine HK1.out _ _ (wpIn_cond_false rfl (wpIn_skip ?_))
   have HCJ2 := Aside0.mk (HCJ.out.step HBd.out)
   exact ⟨(below_others HBd.out).from _, ⟨HCJ2.out.2.2.2.1.trans HCJ.out.2.2.2.1.symm, HCJ2.out.2.2.2.2.trans HCJ.out.2.2.2.2.symm⟩, by show CJ w w5 g10 g12 (.slice (some ad7) r1.length c7) (.slice (some ad8) r2.length c8) r3 r4 (L + chSum C ((n : Int) + 1) u r2 ((pre ++ [x]).map (·.1))) (M + chSum C ((n : Int) + 1) u r1 ((pre ++ [x]).map (·.1))) w6.heap.size ds gi2 gp2 #[.int .i64 i] (planV W' H' R (some ad) C.length c) wd; rw [HU12.out.1, HU12.out.2, HO.out.1, HO.out.2, Int.add_zero, Int.add_zero]; exact HCJ2.out⟩
  ·have q1 : (Y != (n : Int) + 1) = true := bne_iff_ne.mpr qy
   rw [if_neg qy] at hO1 hO2
   clear qy
   obtain ⟨d2, hd2⟩ : ∃ d, u - hi1 = d := ⟨_, rfl⟩
   obtain ⟨d1, hd1⟩ : ∃ d, u - lo1 = d := ⟨_, rfl⟩
   rw [hd2] at hO2
   rw [hd1] at hO1
   have m2 : IntKind.i64.wrap (u - hi1) = d2 := by rw [hd2]; exact IntWalk.i64_in _ (by have := HUB.out; omega)
   have m1 : IntKind.i64.wrap (u - lo1) = d1 := by rw [hd1]; exact IntWalk.i64_in _ (by have := HUB.out; omega)
   have p2 : IntKind.i64.wrap (wx * d2) = O2 := by rw [← hO2]; exact IntWalk.i64_in _ (by omega)
   have p1 : IntKind.i64.wrap (wx * d1) = O1 := by rw [← hO1]; exact IntWalk.i64_in _ (by omega)
   obtain ⟨L2, hL2⟩ : ∃ z, L + P2 = z := ⟨_, rfl⟩
   obtain ⟨M2, hM2⟩ : ∃ z, M + P1 = z := ⟨_, rfl⟩
   rw [hL2, hM2] at HCJ hsz
   have s2 : IntKind.i64.wrap (L2 + O2) = L2 + O2 := IntWalk.i64_in _ (by omega)
   have s1 : IntKind.i64.wrap (M2 + O1) = M2 + O1 := IntWalk.i64_in _ (by omega)
   have HLM : Aside0 (L + (P2 + O2) = L2 + O2 ∧ M + (P1 + O1) = M2 + O1) := ⟨by omega⟩
   clear hd1 hd2 hO1 hO2 ho1 ho2 hr1 hr2 hw11 hw12 hL2 hM2 hsz
   refine wpIn_block (wpIn_seq_k (fun K hK => ?_))
   have HK1 := Aside0.mk hK
   clear hK
   have HBd := Aside0.mk (below_drew1 (Below.refl V.heap.size V))
   refine startIn_ (r := some l) (n := 5 - 1 - 1) (m := 7) (S := fun w' => w'.cell? ⟨gp, 3, none⟩ = some (.slice (some ad) C.length c) ∧ w'.cell? (ad.add kx) = some (.int .i64 Y) ∧ w'.cell? ⟨g7, 0, none⟩ = some (.int .i64 ((n : Int) + 1))) (ds := []) #[false, false, false, false, false, false, false] (by kernel_rfl) (by kernel_rfl) (then_out (block_out ownG_out)) rfl rfl ⟨t1, t2, t3⟩ (fun hHeld => ?_); refine with_tabW chargeF.tab14 chargeF.bits14 (fun HT_ HW_ => ?_)
   generalize V.drew = wd at HBd hHeld  ⊢
   refine pu_ 0 49 (bS 7 1) HT_ ?_
   refine pu_ 2 51 (bS 7 5) HT_ ?_
   refine ta_ 1 50 (bS 7 7) HT_ HW_ hHeld ?_
   refine pu_ 3 52 (bS 7 15) HT_ ?_
   refine ta_ 4 53 (bS 7 31) HT_ HW_ hHeld ?_
   refine ta_ 5 54 (bS 7 63) HT_ HW_ hHeld ?_
   refine pu_ 6 55 (bS 7 127) HT_ ?_
   refine done_ (done_of HT_.out (by kernel_rfl)) ?_
   clear hHeld HT_ HW_
   refine HK1.out _ _ (wpIn_cond_true rfl ?_)
   clear HK1
   have HCJ2 := Aside0.mk (HCJ.out.step HBd.out)
   have HKO := Aside0.mk (below_others HBd.out)
   refine wpIn_seq_k (fun K2 hK2 => ?_)
   have HK2 := Aside0.mk hK2
   clear hK2 t1 t2 t3 HBd
   obtain ⟨_, _, u1, u2, u3, u4, u5⟩ := HCELLS.out wd HCJ2.out.1.below
   have u6 : wd.cell? ⟨g12, 0, none⟩ = some (.int .i64 L2) := (blk_cell HCJ2.out.1.r 0).trans rfl
   have u7 : wd.cell? ⟨g10, 1, none⟩ = some (.slice (some ad8) r2.length c8) := (blk_cell HCJ2.out.1.s 1).trans rfl
   have k5 := HKR.out.2
   have HBwe := Aside0.mk (below_drew1 (Below.refl wd.heap.size wd))
   refine startIn_ (r := some l) (n := 5 - 1 - 1) (m := 18) (S := fun w' => w'.cell? ⟨g12, 0, none⟩ = some (.int .i64 L2) ∧ w'.cell? ⟨g5, 0, none⟩ = some (.slice (some adv) volts.length c1) ∧ w'.cell? ⟨g7, 0, none⟩ = some (.int .i64 ((n : Int) + 1)) ∧ w'.cell? (adv.add n) = some (.int .i64 u) ∧ w'.cell? ⟨g10, 1, none⟩ = some (.slice (some ad8) r2.length c8) ∧ w'.cell? (ad8.add kx) = some (.int .i64 hi1)) (ds := [17]) #[false, false, false, false, false, false, false, false, false, false, false, false, false, false, false, false, false, false] (by kernel_rfl) (by kernel_rfl) (then_out (block_out ownG_out)) rfl rfl ⟨u6, u2, u1, u3, u7, u5⟩ (fun hHeld => ?_); refine with_tabW chargeF.tab15 chargeF.bits15 (fun HT_ HW_ => ?_)
   generalize wd.drew = we at HBwe hHeld  ⊢
   refine pu_ 0 56 (bS 18 1) HT_ ?_
   refine pu_ 2 58 (bS 18 5) HT_ ?_
   refine pu_ 8 64 (bS 18 261) HT_ ?_
   refine pu_ 10 66 (bS 18 1285) HT_ ?_
   refine ta_ 1 57 (bS 18 1287) HT_ HW_ hHeld ?_
   refine ta_ 3 59 (bS 18 1295) HT_ HW_ hHeld ?_
   refine ta_ 4 60 (bS 18 1311) HT_ HW_ hHeld ?_
   refine pu_ 5 61 (bS 18 1343) HT_ ?_
   refine pu_ 6 62 (bS 18 1407) HT_ ?_
   refine ta_ 7 63 (bS 18 1535) HT_ HW_ hHeld ?_
   refine ta_ 9 65 (bS 18 2047) HT_ HW_ hHeld ?_
   refine pu_ 11 67 (bS 18 4095) HT_ ?_
   refine ta_ 12 68 (bS 18 8191) HT_ HW_ hHeld ?_
   refine pu_ 13 69 (bS 18 16383) HT_ ?_
   refine pu_ 14 70 (bS 18 32767) HT_ ?_
   refine pu_ 15 71 (bS 18 65535) HT_ ?_
   refine pu_ 16 72 (bS 18 131071) HT_ ?_
   have HCJ3 := Aside0.mk (HCJ2.out.step HBwe.out)
   have HKO2 := Aside0.mk (HKO.out.trans (below_others HBwe.out))
   have v6 : we.cell? ⟨g12, 0, none⟩ = some (.int .i64 L2) := (blk_cell HCJ3.out.1.r 0).trans rfl
   have w6' := blk_frozen HCJ3.out.1.r 0
   clear u1 u2 u3 u4 u5 u6 u7 k5 HBwe HCJ2 HKO hHeld
   refine last_ (i := 17) (N := none) (bS 18 262143) rfl rfl (by kernel_rfl) (by decide) (fun K hK => ?_)
   go_simp
   refine hK.out _ _ ?_
   refine done_ (by kernel_rfl) ?_
   clear hK K HT_ HW_ v6 w6'
   refine HK2.out _ _ ?_
   clear HK2
   have HCJ4 := Aside0.mk (HCJ3.out.put0 (L2 + O2))
   have HKO3 := Aside0.mk (HKO2.out.trans (KeepsOthers.setCell _ ⟨g12, 0, none⟩ (.int .i64 (L2 + O2))))
   clear HCJ3 HKO2
   generalize we.setCell ⟨g12, 0, none⟩ (.int .i64 (L2 + O2)) = W8 at HCJ4 HKO3 ⊢
   obtain ⟨_, _, u1, u2, u3, u4, u5⟩ := HCELLS.out W8 HCJ4.out.1.below
   have u6 : W8.cell? ⟨g12, 1, none⟩ = some (.int .i64 M2) := (blk_cell HCJ4.out.1.r 1).trans rfl
   have u7 : W8.cell? ⟨g10, 0, none⟩ = some (.slice (some ad7) r1.length c7) := (blk_cell HCJ4.out.1.s 0).trans rfl
   have k5 := HKR.out.1
   have HBwf := Aside0.mk (below_drew1 (Below.refl W8.heap.size W8))
   refine startIn_ (r := some l) (n := 5 - 1 - 1) (m := 18) (S := fun w' => w'.cell? ⟨g12, 1, none⟩ = some (.int .i64 M2) ∧ w'.cell? ⟨g5, 0, none⟩ = some (.slice (some adv) volts.length c1) ∧ w'.cell? ⟨g7, 0, none⟩ = some (.int .i64 ((n : Int) + 1)) ∧ w'.cell? (adv.add n) = some (.int .i64 u) ∧ w'.cell? ⟨g10, 0, none⟩ = some (.slice (some ad7) r1.length c7) ∧ w'.cell? (ad7.add kx) = some (.int .i64 lo1)) (ds := [17]) #[false, false, false, false, false, false, false, false, false, false, false, false, false, false, false, false, false, false] (by kernel_rfl) (by kernel_rfl) (block_out ownG_out) rfl rfl ⟨u6, u2, u1, u3, u7, u4⟩ (fun hHeld => ?_); refine with_tabW chargeF.tab16 chargeF.bits16 (fun HT_ HW_ => ?_)
   generalize W8.drew = wf at HBwf hHeld  ⊢
   refine pu_ 0 73 (bS 18 1) HT_ ?_
   refine pu_ 2 75 (bS 18 5) HT_ ?_
   refine pu_ 8 81 (bS 18 261) HT_ ?_
   refine pu_ 10 83 (bS 18 1285) HT_ ?_
   refine ta_ 1 74 (bS 18 1287) HT_ HW_ hHeld ?_
   refine ta_ 3 76 (bS 18 1295) HT_ HW_ hHeld ?_
   refine ta_ 4 77 (bS 18 1311) HT_ HW_ hHeld ?_
   refine pu_ 5 78 (bS 18 1343) HT_ ?_
   refine pu_ 6 79 (bS 18 1407) HT_ ?_
   refine ta_ 7 80 (bS 18 1535) HT_ HW_ hHeld ?_
   refine ta_ 9 82 (bS 18 2047) HT_ HW_ hHeld ?_
   refine pu_ 11 84 (bS 18 4095) HT_ ?_
   refine ta_ 12 85 (bS 18 8191) HT_ HW_ hHeld ?_
   refine pu_ 13 86 (bS 18 16383) HT_ ?_
   refine pu_ 14 87 (bS 18 32767) HT_ ?_
   refine pu_ 15 88 (bS 18 65535) HT_ ?_
   refine pu_ 16 89 (bS 18 131071) HT_ ?_
   have HCJ5 := Aside0.mk (HCJ4.out.step HBwf.out)
   have HKO4 := Aside0.mk (HKO3.out.trans (below_others HBwf.out))
   have v6 : wf.cell? ⟨g12, 1, none⟩ = some (.int .i64 M2) := (blk_cell HCJ5.out.1.r 1).trans rfl
   have w6' := blk_frozen HCJ5.out.1.r 1
   clear u1 u2 u3 u4 u5 u6 u7 k5 HBwf HCJ4 HKO3 hHeld
   refine last_ (i := 17) (N := none) (bS 18 262143) rfl rfl (by kernel_rfl) (by decide) (fun K hK => ?_)
   go_simp
   refine hK.out _ _ ?_
   refine done_ (by kernel_rfl) ?_
   clear hK K HT_ HW_ v6 w6'
   have HCJ6 := Aside0.mk (HCJ5.out.put1 (M2 + O1))
   have HKO5 := Aside0.mk (HKO4.out.trans (KeepsOthers.setCell _ ⟨g12, 1, none⟩ (.int .i64 (M2 + O1))))
   exact ⟨HKO5.out.from _, ⟨HCJ6.out.2.2.2.1.trans HCJ.out.2.2.2.1.symm, HCJ6.out.2.2.2.2.trans HCJ.out.2.2.2.2.symm⟩, by show CJ w w5 g10 g12 (.slice (some ad7) r1.length c7) (.slice (some ad8) r2.length c8) r3 r4 (L + chSum C ((n : Int) + 1) u r2 ((pre ++ [x]).map (·.1))) (M + chSum C ((n : Int) + 1) u r1 ((pre ++ [x]).map (·.1))) w6.heap.size ds gi2 gp2 #[.int .i64 i] (planV W' H' R (some ad) C.length c) _; rw [HU12.out.1, HU12.out.2, HLM.out.1, HLM.out.2]; exact HCJ6.out⟩
 case done =>
  rintro D xs V hD hxs ⟨h1, h4, h5, _⟩ hK
  have HMV := Aside0.mk (h4.push HBase.out.2 hD hK)
  rw [hxs] at h1
  obtain ⟨eL, eM⟩ := HEND.out _ _ rfl rfl
  rw [eL, eM] at h1
  have HV := Aside0.mk h1
  clear h1 h4 h5 hK hD hxs eL eM
  refine HKb.out _ _ ?_
  clear HKb
  go_wp2_with fail
  exact ⟨k - 1, by have := HK.out; have := HI.out; omega, i + 1, _, rfl, ⟨by have := HK.out; have := HI.out; omega⟩, HMV, HV⟩
 case stop =>
  rintro D cd pre V _ _ h _
  exact h.elim
end Go.Proofs.Ytndkkjpgnmahbaa.Print
end

section
namespace Go.Proofs.Ytndkkjpgnmahbaa.Print
open Go.RowKit Go.Proofs.YtndkkjpgnmahbaaW.PrintWords Go.Proofs.YtndkkjpgnmahbaaW.PrintLast Go.Proofs.YtndkkjpgnmahbaaW.PrintMore Go.Proofs.Ytndkkjpgnmahbaa.H Go.Proofs.Field
attribute [local go_sem] max2_int min2_int max_two min_two max_three min_three max_four min_four
set_option linter.unusedVariables false
set_option linter.unusedSimpArgs false
def planF.T9 : Bool × List (List Nat × List Nat) := (true, [([], []), ([0], [0]), ([], []), ([2], [2]), ([3], [3]), ([4], [4]), ([5], [5]), ([1, 0, 1, 2, 3, 4, 5, 6], [1]), ([7, 6, 0, 1, 2, 3, 4, 5, 6], [6, 7])])
def planF.B9 : List Nat := [0, 1, 0, 4, 12, 28, 60, 127, 255]
theorem planF.tab9 : rtab .any (opsOf Try.f22 9) = planF.T9 := by kernel_rfl
theorem planF.bits9 : waitsOk planF.T9.2 planF.B9 = true := by kernel_rfl
structure PS (w0 w W : World) (g : Nat) (s : Int) (g6 : Nat) : Prop where
 dice : IsS79 w0 W g s
 old : Below w0.heap.size w0 W
 kb : KeepBut w W g none
 z : W.heap[g6]? = some (.cells #[.int .i64 0, .int .i64 0, .bool false, .slice none 0 0] 24 (0, 0))
 g60 : w.heap.size ≤ g6
 gw : g < w.heap.size
 ww : w0.heap.size ≤ w.heap.size
theorem PS.call {w0 w W W1 : World} {g : Nat} {s s1 : Int} {g6 : Nat} (h : PS w0 w W g s g6) (h1 : IsS79 w0 W1 g s1) (h2 : Below w0.heap.size w0 W1) (h3 : KeepBut W W1 g none) : PS w0 w W1 g s1 g6 :=
 ⟨h1, h2, h.kb.trans h3 (.inl rfl), h3.blk h.z (by have := h.gw; have := h.g60; omega) (by simp), h.g60, h.gw, h.ww⟩
theorem PS.below {w0 w W W1 : World} {g : Nat} {s : Int} {g6 : Nat} (h : PS w0 w W g s g6) (hb : Below W.heap.size W W1) : PS w0 w W1 g s g6 :=
 ⟨h.dice.below hb, below_step h.old hb, h.kb.trans (KeepBut.of_below hb g none) (.inl rfl), blk_below h.z hb, h.g60, h.gw, h.ww⟩
structure PT (w0 w W : World) (g : Nat) (s : Int) (g6 g7 : Nat) (a b : Value) (r : Bool) (v : Value) (D : List Int) : Prop where
 ps : PS w0 w W g s g6
 pl : W.heap[g7]? = some (.cells #[a, b, .bool r, v] 24 (0, 0))
 r : Kd.R (Kd.int .i64) 3 W w.heap.size (fun _ => True) v D
 g70 : w.heap.size ≤ g7
 ne : g6 ≠ g7
namespace PT
variable {w0 w W W1 : World} {g : Nat} {s s1 : Int} {g6 g7 : Nat} {a b : Value} {r : Bool} {v : Value} {D : List Int}
theorem call (h : PT w0 w W g s g6 g7 a b r v D) (h1 : IsS79 w0 W1 g s1) (h2 : Below w0.heap.size w0 W1) (h3 : KeepBut W W1 g none) : PT w0 w W1 g s1 g6 g7 a b r v D := by
 have hgw := h.ps.gw
 refine ⟨h.ps.call h1 h2 h3, h3.blk h.pl (by have := h.g70; omega) (by simp), ?_, h.g70, h.ne⟩
 have hb := Kd.R_base h.r
 have h4 : Kd.R (Kd.int .i64) 3 W w.heap.size (fun k => True ∧ k ≠ g) v D := Kd.R_types h.r h.ps.dice.1 (by decide)
 exact Kd.R_mono (Kd.R_keep h4 h3 (fun k hk => hk.2)) (fun _ _ => trivial)
theorem below (h : PT w0 w W g s g6 g7 a b r v D) (hb : Below W.heap.size W W1) : PT w0 w W1 g s g6 g7 a b r v D :=
 ⟨h.ps.below hb, blk_below h.pl hb, Kd.R_below h.r hb, h.g70, h.ne⟩
theorem set0 {gv c : Nat} (h : PT w0 w W g s g6 g7 a b r (.slice (some ⟨gv, 0, none⟩) D.length c) D) (m : Int) : PT w0 w (W.setCell ⟨gv, 0, none⟩ (.int .i64 m)) g s g6 g7 a b r (.slice (some ⟨gv, 0, none⟩) D.length c) (D.set 0 m) := by
 obtain ⟨h1, h2⟩ := Kd.R_put h.r (0 : Int) m
 rw [show (0 : Int).toNat = 0 from rfl] at h1 h2
 have n1 := Kd.R_ne h.r h.ps.dice.1 (by decide)
 have n2 := Kd.R_ne h.r h.ps.z (by decide)
 have n3 := Kd.R_ne h.r h.pl (by decide)
 have hb := Kd.R_base h.r gv rfl
 have hww := h.ps.ww
 exact ⟨⟨h.ps.dice.grown h2 n1, h.ps.old.grown h2 h.ps.old.size (fun k e => by cases e; omega), h.ps.kb.trans (KeepBut.of_grown h2 g) (.inr ⟨gv, rfl, hb⟩), blk_grown h.ps.z h2 n2, h.ps.g60, h.ps.gw, hww⟩, blk_grown h.pl h2 n3, h1, h.g70, h.ne⟩
theorem put (h : PT w0 w W g s g6 g7 a b r v D) {v1 : Value} {D1 : List Int} (hg : W.grownBy W1 v.ownBlock) (hR : Kd.R (Kd.int .i64) 3 W1 w.heap.size (fun _ => True) v1 D1) : PT w0 w (W1.setCell ⟨g7, 3, none⟩ v1) g s g6 g7 a b r v1 D1 := by
 have n1 := Kd.R_ne h.r h.ps.dice.1 (by decide)
 have n2 := Kd.R_ne h.r h.ps.z (by decide)
 have n3 := Kd.R_ne h.r h.pl (by decide)
 have d1 := h.ps.dice.grown hg n1
 have z1 := blk_grown h.ps.z hg n2
 have p1 := blk_grown h.pl hg n3
 have hb := Kd.R_base h.r
 have o1 : Below w0.heap.size w0 W1 := h.ps.old.grown hg h.ps.old.size (fun k e => by have := hb k e; have := h.ps.ww; omega)
 have k1 : KeepBut w W1 g none := h.ps.kb.trans (KeepBut.of_grown hg g) (by
  cases e : v.ownBlock with
  | none => exact .inl rfl
  | some k => exact .inr ⟨k, rfl, hb k e⟩)
 have hgw := h.ps.gw
 have h7 := h.g70
 have hww := h.ps.ww
 exact ⟨⟨⟨blk_far (p := ⟨g7, 3, none⟩) d1.1 (show g ≠ g7 by omega) _, d1.2⟩, below_set o1 (by omega), keep_far k1 h7 _, blk_far (p := ⟨g7, 3, none⟩) z1 h.ne _, h.ps.g60, hgw, hww⟩, by rw [blk_set p1 3]; rfl, Kd.R_set hR p1 (by decide) 3 v1, h7, h.ne⟩
end PT
set_option maxHeartbeats 6400000 in
set_option maxRecDepth 100000 in
theorem thermionkit_PlanOf.calls (g : Nat) (s0_0 : Int) (a1 : Int) (a2 : Int) (r1 : Int) (r2 : Int) (r3 : Bool) (r4 : List Int) (r5 : Int) (w0 w : World) (hI : IsS79 w0 w g s0_0) (hB : Below w0.heap.size w0 w) (h : thermionkit_PlanOf.f s0_0 a1 a2 = some (r1, r2, r3, r4, r5)) :
  Calls Try.prog 22 #[.pointer (some ⟨g, 0, none⟩), .int .i64 a1, .int .i64 a2] w fun e w' => ∃ v3_ : Value, e = .returned (.agg #[.int .i64 r1, .int .i64 r2, .bool r3, v3_]) ∧ Kd.R (Kd.int .i64) 3 w' w.heap.size (fun _ => True) v3_ r4 ∧ IsS79 w0 w' g r5 ∧ Below w0.heap.size w0 w' ∧ KeepBut w w' g none := by
 unfold thermionkit_PlanOf.f at h
 by_cases q : 1 ≤ a1 ∧ a1 ≤ 16 ∧ 1 ≤ a2 ∧ a2 ≤ 16
 rotate_left
 ·rw [if_neg q] at h; exact absurd h (by simp)
 rw [if_pos q] at h
 simp only [Option.some.injEq, Prod.mk.injEq] at h
 obtain ⟨e1, e2, e3, e4, e5⟩ := h
 have hW := dBtw_eq s0_0 1 a1 q.1 (by omega) (by omega)
 have hH := dBtw_eq (dBtw s0_0 1 a1).2 1 a2 q.2.2.1 (by omega) (by omega)
 have hR := dOne_eq (dBtw (dBtw s0_0 1 a1).2 1 a2).2 2 (by omega) (by omega)
 rw [e1] at hW e4 e5
 rw [e2] at hH e4 e5
 rw [e3] at hR
 generalize (dBtw s0_0 1 a1).2 = s1 at *
 generalize (dBtw s1 1 a2).2 = s2 at *
 generalize (dOne s2 2).2 = s3 at *
 have HW := Aside0.mk hW
 have HH := Aside0.mk hH
 have HR := Aside0.mk hR
 obtain ⟨W', rfl⟩ : ∃ W' : Nat, r1 = W' := ⟨r1.toNat, by omega⟩
 obtain ⟨H', rfl⟩ : ∃ H' : Nat, r2 = H' := ⟨r2.toNat, by omega⟩
 rw [Int.toNat_natCast, Int.toNat_natCast] at e4 e5
 obtain ⟨N, hN⟩ : ∃ N, W' * H' = N := ⟨_, rfl⟩
 rw [hN] at e4 e5
 have HX : Aside0 (W' * H' = N ∧ 0 < W' ∧ 0 < N ∧ N ≤ 256) := ⟨hN, by omega, by rw [← hN]; exact Nat.mul_pos (by omega) (by omega), by have := Nat.mul_le_mul (show W' ≤ 16 by omega) (show H' ≤ 16 by omega); omega⟩
 have nm : IntKind.i64.wrap ((W' : Int) * (H' : Int)) = (N : Int) := by rw [← Int.natCast_mul, hN]; exact IntWalk.i64_in _ (by have := HX.out; omega)
 have HE := Aside0.mk (And.intro e4 e5)
 have HI := Aside0.mk hI
 have HB := Aside0.mk hB
 have HM := Aside0.mk (Mem.start w)
 have HGW := Aside0.mk (blk_lt hI.1)
 have hu24 := Try.underlying24
 have hu22 := Try.underlying22
 clear e1 e2 e3 e4 e5 hW hH hR hN hI hB q
 go_enter Try.func22, Try.ntmps22
 go_wp2_with (first
  | ((with_reducible refine gate_dst (N := 6) rfl ?_); refine ev_new HM.out rfl 24 rfl info24 ?_; intro g6 wa hm1 hq1; have HP := Aside0.mk (PS.mk (HI.out.below hq1) (below_step HB.out hq1) (KeepBut.of_below hq1 g none) hm1.head hm1.geh HGW.out HB.out.size); clear hm1 hq1 HM)
  | (go_at_call 32; refine (thermionkit_Dice_Between.calls g s0_0 1 a1 _ _ w0 _ HP.out.dice HP.out.old HW.out.1).mono ?_; rintro e wb ⟨rfl, hd, ho, hk⟩; have HP2 := Aside0.mk (HP.out.call hd ho hk); clear hd ho hk HP)
  | (go_at_call 32; refine (thermionkit_Dice_Between.calls g s1 1 a2 _ _ w0 _ HP2.out.dice HP2.out.old HH.out.1).mono ?_; rintro e wb2 ⟨rfl, hd, ho, hk⟩; have HP3 := Aside0.mk (HP2.out.call hd ho hk); clear hd ho hk HP2)
  | (go_at_call 66; refine (thermionkit_Dice_One.calls g s2 2 _ _ w0 _ HP3.out.dice HP3.out.old HR.out).mono ?_; rintro e wc ⟨rfl, hd, ho, hk⟩; have HP4 := Aside0.mk (HP3.out.call hd ho hk); have HM4 := Aside0.mk (Mem.start wc); clear hd ho hk HP3)
  | ((with_reducible refine gate_dst (N := 7) rfl ?_); refine ev_new HM4.out rfl 24 rfl info24 ?_; intro g7 wd hm1 hq1; have HM5 := Aside0.mk hm1; have HNE : Aside0 (g6 ≠ g7 ∧ w.heap.size ≤ g7) := ⟨by have h1 := blk_lt HP4.out.z; have h2 := hm1.geh; omega, Nat.le_trans HP4.out.kb.1 hm1.geh⟩; clear hm1 hq1 HM4)
  | ((with_reducible refine gate_store (t := 24) (p := 7) rfl ?_); refine ev_store HM5.out rfl 24 (.tmp 7) (.tmp 18) rfl rfl (cs := #[.int .i64 (W' : Int), .int .i64 (H' : Int), .bool r3, .slice none 0 0]) rfl size24 rfl rfl (by simp [Value.oneCell']) ?_; intro we hm2 hq2; clear hq2; have HT0 : Aside0 (PT w0 w we g s3 g6 g7 (.int .i64 (W' : Int)) (.int .i64 (H' : Int)) r3 (.slice none 0 0) []) := ⟨⟨HP4.out.below hm2.below, hm2.head, Kd.R_nil _ _ _ _ _, HNE.out.2, HNE.out.1⟩⟩; clear hm2 HM5 HP4))
 go_loopg [8] N (fun k v8 w' => ∃ (i : Nat) (v : Value), v8 = .int .i64 (i : Int) ∧ Aside0 (i + k = N) ∧ Aside0 (PT w0 w w' g (cellsTo s3 i).2 g6 g7 (.int .i64 (W' : Int)) (.int .i64 (H' : Int)) r3 v (cellsTo s3 i).1))
 case atStart => exact ⟨0, _, rfl, ⟨by omega⟩, HT0⟩
 case round =>
  clear HT0
  obtain ⟨i, v, rfl, HK, HT⟩ := hrel
  have c0 : wr.cell? ⟨g7, 0, none⟩ = some (.int .i64 (W' : Int)) := (blk_cell HT.out.pl 0).trans rfl
  have c1 : wr.cell? ⟨g7, 1, none⟩ = some (.int .i64 (H' : Int)) := (blk_cell HT.out.pl 1).trans rfl
  by_cases hi : i < N
  ·have hlt : decide (i < N) = true := decide_eq_true hi
   have HI2 := Aside0.mk hi
   have i2 : i < 256 := by have := HX.out; omega
   have HLD : Aside0 ((cellsTo s3 i).1.length = i) := ⟨cellsTo_length s3 i⟩
   have HST : Aside0 (cellsTo s3 (i + 1) = ((cellsTo s3 i).1 ++ [(cellStep (cellsTo s3 i).2).1], (cellStep (cellsTo s3 i).2).2)) := ⟨rfl⟩
   generalize (cellsTo s3 i).2 = s at HT HST
   generalize (cellsTo s3 i).1 = D at HT HST HLD
   have HO := Aside0.mk (dOne_eq s 3 (by omega) (by omega))
   have HCS : Aside0 (cellStep s = if (dOne s 3).1 = true then dBtw (dOne s 3).2 1 3 else (0, (dOne s 3).2)) := ⟨rfl⟩
   have HBW := Aside0.mk (dBtw_eq (dOne s 3).2 1 3 (by omega) (by omega) (by omega)).1
   generalize dOne s 3 = o at HO HCS HBW
   obtain ⟨ob, os⟩ := o
   generalize dBtw os 1 3 = p at HCS HBW
   obtain ⟨pn, ps⟩ := p
   clear hi
   cases ob
   ·have HST2 : Aside0 (cellsTo s3 (i + 1) = (D ++ [0], os)) := ⟨by rw [HST.out, HCS.out]; rfl⟩
    clear HST HCS HBW
    go_wp2_with (first
     | (go_at_call 66; refine (thermionkit_Dice_One.calls g s 3 _ _ w0 _ HT.out.ps.dice HT.out.ps.old HO.out).mono ?_; rintro e wb ⟨rfl, hd, ho, hk⟩; have HT2 := Aside0.mk (HT.out.call hd ho hk); clear hd ho hk HT c0 c1; have c3 : wb.cell? ⟨g7, 3, none⟩ = some v := (blk_cell HT2.out.pl 3).trans rfl; have f3 := blk_frozen HT2.out.pl 3)
     | ((with_reducible refine gate_dst (N := 36) rfl ?_); refine Kd.R_append (Kd.int .i64) (w0 := wb) w.heap.size rfl (.tmp 33) (.tmp 35) 22 3 (.int .i64 0) 8 rfl Try.underlying22 info3 rfl (by decide) (by omega) v D 0 [.int .i64 0] (fun _ => True) (fun _ => False) rfl rfl rfl (fun _ hk => hk.elim) (fun _ _ => trivial) HT2.out.r (Below.refl _ _) HT2.out.ps.kb.1 (by have := HLD.out; omega) ?_; intro v1 w5 hR5 hB5 hg5 hat5; have HT3 := Aside0.mk (HT2.out.put hg5 hR5); have c4 : w5.cell? ⟨g7, 3, none⟩ = some v := (blk_cell (blk_grown HT2.out.pl hg5 (Kd.R_ne HT2.out.r HT2.out.pl (by decide))) 3).trans rfl; have f4 : w5.frozen? ⟨g7, 3, none⟩ = false := blk_frozen (blk_grown HT2.out.pl hg5 (Kd.R_ne HT2.out.r HT2.out.pl (by decide))) 3; obtain ⟨A5, c5, e5⟩ := Kd.R_slice hR5; rw [List.length_append, List.length_singleton] at e5; subst e5; clear hR5 hB5 hg5 hat5 c3 f3 HT2))
    go_roundg (N - (i + 1))
    case measure => have := HK.out; have := HI2.out; omega
    case rel => exact ⟨i + 1, _, by go_num, ⟨by have := HI2.out; omega⟩, ⟨by rw [HST2.out]; exact HT3.out⟩⟩
   ·have HST2 : Aside0 (cellsTo s3 (i + 1) = (D ++ [pn], ps)) := ⟨by rw [HST.out, HCS.out]; rfl⟩
    clear HST HCS
    go_wp2_with (first
     | (go_at_call 66; refine (thermionkit_Dice_One.calls g s 3 _ _ w0 _ HT.out.ps.dice HT.out.ps.old HO.out).mono ?_; rintro e wb1 ⟨rfl, hd, ho, hk⟩; have HT1 := Aside0.mk (HT.out.call hd ho hk); clear hd ho hk HT c0 c1)
     | (go_at_call 32; refine (thermionkit_Dice_Between.calls g os 1 3 _ _ w0 _ HT1.out.ps.dice HT1.out.ps.old HBW.out).mono ?_; rintro e wb ⟨rfl, hd, ho, hk⟩; have HT2 := Aside0.mk (HT1.out.call hd ho hk); clear hd ho hk HT1; have c3 : wb.cell? ⟨g7, 3, none⟩ = some v := (blk_cell HT2.out.pl 3).trans rfl; have f3 := blk_frozen HT2.out.pl 3)
     | ((with_reducible refine gate_dst (N := 36) rfl ?_); refine Kd.R_append (Kd.int .i64) (w0 := wb) w.heap.size rfl (.tmp 33) (.tmp 35) 22 3 (.int .i64 0) 8 rfl Try.underlying22 info3 rfl (by decide) (by omega) v D pn [.int .i64 pn] (fun _ => True) (fun _ => False) rfl rfl rfl (fun _ hk => hk.elim) (fun _ _ => trivial) HT2.out.r (Below.refl _ _) HT2.out.ps.kb.1 (by have := HLD.out; omega) ?_; intro v1 w5 hR5 hB5 hg5 hat5; have HT3 := Aside0.mk (HT2.out.put hg5 hR5); have c4 : w5.cell? ⟨g7, 3, none⟩ = some v := (blk_cell (blk_grown HT2.out.pl hg5 (Kd.R_ne HT2.out.r HT2.out.pl (by decide))) 3).trans rfl; have f4 : w5.frozen? ⟨g7, 3, none⟩ = false := blk_frozen (blk_grown HT2.out.pl hg5 (Kd.R_ne HT2.out.r HT2.out.pl (by decide))) 3; obtain ⟨A5, c5, e5⟩ := Kd.R_slice hR5; rw [List.length_append, List.length_singleton] at e5; subst e5; clear hR5 hB5 hg5 hat5 c3 f3 HT2))
    go_roundg (N - (i + 1))
    case measure => have := HK.out; have := HI2.out; omega
    case rel => exact ⟨i + 1, _, by go_num, ⟨by have := HI2.out; omega⟩, ⟨by rw [HST2.out]; exact HT3.out⟩⟩
  ·obtain rfl : i = N := by have := HK.out; omega
   have hlt : decide (i < i) = false := decide_eq_false (Nat.lt_irrefl _)
   clear hi
   have hlD := cellsTo_length s3 i
   obtain ⟨gv, cv, ev, hgv, _, _⟩ := Kd.R_form HT.out.r (by rw [hlD]; exact HX.out.2.2.1)
   subst ev
   have HHE : Aside0 (opened W' (firstOne (cellsTo s3 i).1) = r4 ∧ (cellsTo s3 i).2 = r5) := HE
   generalize (cellsTo s3 i).1 = D at HT HHE hlD hgv
   generalize (cellsTo s3 i).2 = sz at HT HHE
   have HLD := Aside0.mk hlD
   have l1 : (0 : Int) < (D.length : Int) := by have := HX.out; omega
   have l2 : 0 < D.length := by have := HX.out; omega
   clear hlD HE
   have cX : wr.cell? ⟨gv, 0, none⟩ = some (.int .i64 (D.getD 0 0)) := by
    have h1 := (Kd.R_cell (0 : Int) HT.out.r 0 (by omega) l1).1
    rw [show (0 : Int).toNat = 0 from rfl] at h1
    rw [h1]
    rfl
   have HFO : Aside0 (firstOne D = D.set 0 (if 1 < D.getD 0 0 then D.getD 0 0 else 1)) := ⟨by
    unfold firstOne
    rw [show max 1 (D.getD 0 0) = if 1 < D.getD 0 0 then D.getD 0 0 else 1 by split <;> omega]⟩
   generalize D.getD 0 0 = X at cX HFO
   have c3 : wr.cell? ⟨g7, 3, none⟩ = some (.slice (some ⟨gv, 0, none⟩) D.length cv) := (blk_cell HT.out.pl 3).trans rfl
   go_upto_region 9 with (fail)
   clear c0 c1 nm hlt
   have HBd := Aside0.mk (below_drew1 (Below.refl wr.heap.size wr))
   refine start_ (n := 9) (S := fun w' => w'.cell? ⟨g7, 3, none⟩ = some (.slice (some ⟨gv, 0, none⟩) D.length cv) ∧ w'.cell? ⟨gv, 0, none⟩ = some (.int .i64 X)) (ds := [8]) #[false, false, false, false, false, false, false, false, false] (by kernel_rfl) rfl rfl ⟨c3, cX⟩ (fun hHeld => ?_); refine with_tabW planF.tab9 planF.bits9 (fun HT_ HW_ => ?_)
   generalize wr.drew = wd at HBd hHeld  ⊢
   refine pu_ 0 38 (bS 9 1) HT_ ?_
   refine pu_ 2 40 (bS 9 5) HT_ ?_
   refine ta_ 1 39 (bS 9 7) HT_ HW_ hHeld ?_
   refine ta_ 3 41 (bS 9 15) HT_ HW_ hHeld ?_
   refine pu_ 4 42 (bS 9 31) HT_ ?_
   refine ta_ 5 43 (bS 9 63) HT_ HW_ hHeld ?_
   refine pu_ 6 44 (bS 9 127) HT_ ?_
   refine pu_ 7 45 (bS 9 255) HT_ ?_
   obtain ⟨m, hm⟩ : ∃ m, (if 1 < X then X else (1 : Int)) = m := ⟨_, rfl⟩
   rw [hm] at HFO ⊢
   clear hm
   have HT2 := Aside0.mk (HT.out.below HBd.out)
   have cX2 : wd.cell? ⟨gv, 0, none⟩ = some (.int .i64 X) := hHeld.2
   have fX2 : wd.frozen? ⟨gv, 0, none⟩ = false := (Kd.R_cell (0 : Int) HT2.out.r 0 (by omega) l1).2
   clear HT HBd cX c3 hHeld
   refine last_ (i := 8) (N := none) (bS 9 511) rfl rfl (by kernel_rfl) (by decide) (fun K hK => ?_)
   go_simp
   refine hK.out _ _ ?_
   refine done_ (by kernel_rfl) ?_
   clear hK K HT_ HW_ cX2 fX2
   have HT3 := Aside0.mk (HT2.out.set0 m)
   rw [← HFO.out] at HT3
   clear HT2
   generalize wd.setCell ⟨gv, 0, none⟩ (.int .i64 m) = w8 at HT3 ⊢
   have HLF : Aside0 ((firstOne D).length = D.length) := ⟨by unfold firstOne; rw [List.length_set]⟩
   have HCALL : Aside0 (Calls Try.prog 67 #[.agg (planV (W' : Int) (H' : Int) r3 (some ⟨gv, 0, none⟩) D.length cv)] w8 fun e w' => e = .returned (.agg (planV (W' : Int) (H' : Int) r3 (some ⟨gv, 0, none⟩) D.length cv)) ∧ Kd.R (Kd.int .i64) 3 w' w.heap.size (fun _ => True) (.slice (some ⟨gv, 0, none⟩) D.length cv) r4 ∧ w8.grownBy w' (some gv)) := ⟨by
    have h1 := opened_calls W' H' r3 gv cv w.heap.size (fun _ => True) (firstOne D) w8 (by rw [HLF.out]; exact HT3.out.r) (by rw [HLF.out, HLD.out, HX.out.1]) (by have := HX.out; have := HLF.out; have := HLD.out; omega) (by rw [HLF.out]; exact l2) HX.out.2.1
    rw [HHE.out.1, show r4.length = (firstOne D).length by rw [← HHE.out.1]; exact openTo_length _ _ _, HLF.out] at h1
    exact h1⟩
   go_wp2_with (first
    | ((with_reducible refine gate_dst (N := 46) rfl ?_); refine ev_load HT3.out.pl rfl 24 (.tmp 7) rfl rfl _ Try.underlying24 rfl size24 rfl ?_)
    | (go_at_call 67; refine HCALL.out.mono ?_; rintro e w9 ⟨rfl, hR9, hg9⟩; have HR9 := Aside0.mk hR9; have HG9 := Aside0.mk hg9; have hz9 := blk_grown HT3.out.ps.z hg9 (fun e => by have h2 := Kd.R_ne HT3.out.r HT3.out.ps.z (by decide); exact h2 e); have HZ9 := Aside0.mk hz9; clear hR9 hg9 hz9 HCALL)
    | ((with_reducible refine gate_store (t := 24) (p := 6) rfl ?_); refine ev_storeB HZ9.out rfl 24 (.tmp 6) (.tmp 47) rfl rfl rfl size24 rfl rfl (by simp [Value.oneCell']) ?_))
   (try simp only [Exit.inBlock, Exit.then])
   have n1 := Kd.R_ne HT3.out.r HT3.out.ps.dice.1 (by decide)
   have d9 := HT3.out.ps.dice.grown HG9.out n1
   have o9 : Below w0.heap.size w0 w9 := HT3.out.ps.old.grown HG9.out HT3.out.ps.old.size (fun k e => by cases e; have := HT3.out.ps.ww; omega)
   have k9 : KeepBut w w9 g none := HT3.out.ps.kb.trans (KeepBut.of_grown HG9.out g) (.inr ⟨gv, rfl, hgv⟩)
   have h6 := HT3.out.ps.g60
   have hgw := HT3.out.ps.gw
   have hww := HT3.out.ps.ww
   refine bodyPost_ret (results_cell_row rfl _ _ g6 24 _ (0, 0) _ rfl (setRow_heap _ _ _ _ _ _ HZ9.out) hu24 rfl (by rw [size24]; rfl)) rfl ⟨_, rfl, Kd.R_mono (Kd.R_step (Kd.R_types HR9.out HZ9.out (by decide)) (fun k hk _ => setRow_other _ _ _ _ hk.2)) (fun _ _ => trivial), ?_, below_row o9 (by omega), ?_⟩
   ·rw [← HHE.out.2]
    exact ⟨(setRow_other _ _ _ _ (show g ≠ g6 by omega)).trans d9.1, d9.2⟩
   ·exact ⟨by rw [size_setRow]; exact k9.1, fun k hk hne hr => by rw [setRow_other _ _ _ _ (show k ≠ g6 by omega)]; exact k9.2 k hk hne hr⟩
end Go.Proofs.Ytndkkjpgnmahbaa.Print
end

section
namespace Go.Proofs.Ytndkkjpgnmahbaa.Print
open Go.RowKit Go.Proofs.YtndkkjpgnmahbaaW.PrintWords Go.Proofs.YtndkkjpgnmahbaaW.PrintLast Go.Proofs.YtndkkjpgnmahbaaW.PrintMore
attribute [local go_sem] max2_int min2_int max_two min_two max_three min_three max_four min_four
set_option linter.unusedVariables false
set_option linter.unusedSimpArgs false
def thermionkit_Greatest.l0 : Nat → Int → Int → Int → Int → Bool → List Int → Option (Int)
 | 0, _, _, _, _, _, _ => none
 | k + 1, x3, x4, x336000, x336001, x336002, x336003 => if x4 < (x336003.length : Int) then (if 0 ≤ x4 then (thermionkit_Greatest.l0 k (mx x3 (rd x336003 x4)) (wrap64 (x4 + 1)) x336000 x336001 x336002 x336003) else (none)) else (some x3)
def thermionkit_Greatest.f (k : Nat) (a0_0 : Int) (a0_1 : Int) (a0_2 : Bool) (l0_3 : List Int) : Option (Int) := thermionkit_Greatest.l0 k 0 0 a0_0 a0_1 a0_2 l0_3
def thermionkit_VoltsOf.l0 : Nat → List Int → Int → Int → Option (List Int × Int)
 | 0, _, _, _ => none
 | k + 1, x5, x6, x1000 => if x6 < (x5.length : Int) then ((thermionkit_Dice_Between.f x1000 (-100) 100).bind fun bt342 => ((thermionkit_Dice_Between.f bt342.2 (-1000000) 1000000).bind fun bt344 => ((some (([0, bt342.1, bt344.1, 1000000] : List Int) : List Int)).bind fun y346 => ((thermionkit_Dice_Upto.f bt344.2 4).bind fun bt349 => (if 0 ≤ bt349.1 then (if bt349.1 < (y346.length : Int) then (if 0 ≤ x6 then (thermionkit_VoltsOf.l0 k (x5.set (x6 : Int).toNat (rd y346 bt349.1)) (wrap64 (x6 + 1)) bt349.2) else (none)) else (none)) else (none)))))) else (some (x5, x1000))
def thermionkit_VoltsOf.f (k : Nat) (s0_0 : Int) (a1_0 : Int) (a1_1 : Int) (a1_2 : Bool) (l1_3 : List Int) : Option (List Int × Int) := (thermionkit_Greatest.f k a1_0 a1_1 a1_2 l1_3).bind fun t338 => (if 0 ≤ (mn 8 t338) then (if (mn 8 t338 : Int).toNat ≤ 35184372088832 then (thermionkit_VoltsOf.l0 k (List.replicate (mn 8 t338 : Int).toNat 0) 0 s0_0) else (none)) else (none))
def thermionkit_Mod.f (a0 : Int) (a1 : Int) : Option (Int) := if a1 < 1 then (some 0) else (if a1 = 0 then (none) else (if (Int.tmod a0 a1) < 0 then (some (wrap64 ((Int.tmod a0 a1) + a1))) else (some (Int.tmod a0 a1))))
set_option maxHeartbeats 8000000 in
set_option maxRecDepth 100000 in
theorem thermionkit_Mod.calls (a0 : Int) (a1 : Int) (r : Int) (w : World) (h : thermionkit_Mod.f a0 a1 = some r) :
  Calls Try.prog 28 #[.int .i64 a0, .int .i64 a1] w fun e w' => e = .returned (.int .i64 r) ∧ Drawn0 w w' := by
 have H : (if a1 < 1 then (some 0) else (if a1 = 0 then (none) else (if (Int.tmod a0 a1) < 0 then (some (wrap64 ((Int.tmod a0 a1) + a1))) else (some (Int.tmod a0 a1))))) = some r := h
 clear h
 by_cases c3 : a1 < 1
 ·rw [if_pos c3] at H
  have c3b0 := decide_eq_true c3
  clear c3
  obtain rfl := Option.some.inj H
  go_enter Try.func28, Try.ntmps28
  go_wp2
  go_ret
  exact ⟨by first | rfl | (simp; done) | (simp [*]; done), by repeat (first | exact Drawn0.refl _ | apply Drawn0.step)⟩
 ·rw [if_neg c3] at H
  have c3b0 := decide_eq_false c3
  clear c3
  by_cases c4 : a1 = 0
  ·rw [if_pos c4] at H
   exact absurd H (by simp)
  ·rw [if_neg c4] at H
   obtain ⟨c4b0, c4b1⟩ := aNe c4
   by_cases c5 : (Int.tmod a0 a1) < 0
   ·rw [if_pos c5] at H
    have c5b0 := decide_eq_true c5
    clear c5
    obtain rfl := Option.some.inj H
    go_enter Try.func28, Try.ntmps28
    go_wp2
    go_ret
    exact ⟨by first | rfl | (simp; done) | (simp [*]; done), by repeat (first | exact Drawn0.refl _ | apply Drawn0.step)⟩
   ·rw [if_neg c5] at H
    have c5b0 := decide_eq_false c5
    clear c5
    obtain rfl := Option.some.inj H
    go_enter Try.func28, Try.ntmps28
    go_wp2
    go_ret
    exact ⟨by first | rfl | (simp; done) | (simp [*]; done), by repeat (first | exact Drawn0.refl _ | apply Drawn0.step)⟩
def thermionkit_Same.l0 : Nat → List Int → List Int → Int → Option (Bool)
 | 0, _, _, _ => none
 | k + 1, x0, x1, x5 => if x5 < (x0.length : Int) then (if 0 ≤ x5 then (if x5 < (x1.length : Int) then (if (rd x0 x5) = (rd x1 x5) then (thermionkit_Same.l0 k x0 x1 (wrap64 (x5 + 1))) else (some false)) else (none)) else (none)) else (some true)
def thermionkit_Same.f (k : Nat) (l0 : List Int) (l1 : List Int) : Option (Bool) := if (l0.length : Int) = (l1.length : Int) then (thermionkit_Same.l0 k l0 l1 0) else (some false)
set_option maxHeartbeats 8000000 in
set_option maxRecDepth 100000 in
theorem thermionkit_Same.calls (k : Nat) (A0 : Option Addr) (c0 : Nat) (l0 : List Int) (A1 : Option Addr) (c1 : Nat) (l1 : List Int) (r : Bool) (w : World) (hr0 : Kd.C (Kd.int .i64) w A0 l0.length l0) (hc0 : l0.length ≤ c0) (hr1 : Kd.C (Kd.int .i64) w A1 l1.length l1) (hc1 : l1.length ≤ c1) (h : thermionkit_Same.f k l0 l1 = some r) :
  Calls Try.prog 43 #[.slice A0 l0.length c0, .slice A1 l1.length c1] w fun e w' => e = .returned (.bool r) ∧ Drawn0 w w' := by
 have HR0 := Aside0.mk hr0
 have HC0 := Aside0.mk hc0
 clear hr0 hc0
 have HR1 := Aside0.mk hr1
 have HC1 := Aside0.mk hc1
 clear hr1 hc1
 have H : (if (l0.length : Int) = (l1.length : Int) then (thermionkit_Same.l0 k l0 l1 0) else (some false)) = some r := h
 clear h
 by_cases c3 : (l0.length : Int) = (l1.length : Int)
 ·rw [if_pos c3] at H
  obtain ⟨c3b0, c3b1⟩ := aEq c3
  have c3b2 : (l0.length == l1.length) = true := by first | simpa using c3 | (simp at c3 ⊢; omega)
  clear c3
  have H' := Aside0.mk H
  clear H
  go_enter Try.func43, Try.ntmps43
  go_wp2
  repeat (go_quiet (fail); try go_wp2)
  go_loopg [5] k (fun kq v5 w' => ∃ (x5_1 : Int), v5 = .int .i64 x5_1 ∧ Aside0 (thermionkit_Same.l0 kq l0 l1 x5_1 = some r) ∧ Aside0 (kq ≤ k) ∧ Drawn0 w w')
  case atStart => exact ⟨(0), aR, H', ⟨Nat.le_refl _⟩, by repeat (first | exact Drawn0.refl _ | apply Drawn0.step)⟩
  case round =>
   clear H'
   try clear c1; try clear p2; try clear c3; try clear c3b0; try clear c3b1; try clear c3b2
   obtain ⟨x5_1, rfl, HA, HK1, ⟨m1, rfl⟩⟩ := hrel
   cases gk with
   | zero => exact absurd HA.out (by simp [thermionkit_Same.l0])
   | succ k1 =>
    have H := HA.out
    clear HA
    simp only [thermionkit_Same.l0] at H
    by_cases c4 : x5_1 < (l0.length : Int)
    ·rw [if_pos c4] at H
     have c4b0 := decide_eq_true c4
     clear c4
     by_cases c5 : 0 ≤ x5_1
     ·rw [if_pos c5] at H
      have c5b0 := decide_eq_true c5
      clear c5
      by_cases c6 : x5_1 < (l1.length : Int)
      ·rw [if_pos c6] at H
       have c6b0 := decide_eq_true c6
       clear c6
       by_cases c7 : (rd l0 x5_1) = (rd l1 x5_1)
       ·rw [if_pos c7] at H
        obtain ⟨c7b0, c7b1⟩ := aEq c7
        clear c7
        have H' := Aside0.mk H
        clear H
        have p117 : 0 ≤ (x5_1 : Int) := aD
        have q117 : x5_1 < (l0.length : Int) := aD
        obtain ⟨ad117, e117, hx117_0⟩ := Kd.at_int HR0.out x5_1 p117 q117
        cases e117
        replace p117 := eq_true p117
        replace q117 := eq_true q117
        have p118 : 0 ≤ (x5_1 : Int) := aD
        have q118 : x5_1 < (l1.length : Int) := aD
        obtain ⟨ad118, e118, hx118_0⟩ := Kd.at_int HR1.out x5_1 p118 q118
        cases e118
        replace p118 := eq_true p118
        replace q118 := eq_true q118
        go_wp2
        repeat (go_quiet (fail); try go_wp2)
        go_roundg k1
        case measure => have := HK1.out; omega
        case rel => exact ⟨(wrap64 (x5_1 + 1)), aR, H', ⟨by have := HK1.out; omega⟩, by repeat (first | exact Drawn0.refl _ | apply Drawn0.step)⟩
       ·rw [if_neg c7] at H
        obtain ⟨c7b0, c7b1⟩ := aNe c7
        obtain rfl := Option.some.inj H
        have p117 : 0 ≤ (x5_1 : Int) := aD
        have q117 : x5_1 < (l0.length : Int) := aD
        obtain ⟨ad117, e117, hx117_0⟩ := Kd.at_int HR0.out x5_1 p117 q117
        cases e117
        replace p117 := eq_true p117
        replace q117 := eq_true q117
        have p118 : 0 ≤ (x5_1 : Int) := aD
        have q118 : x5_1 < (l1.length : Int) := aD
        obtain ⟨ad118, e118, hx118_0⟩ := Kd.at_int HR1.out x5_1 p118 q118
        cases e118
        replace p118 := eq_true p118
        replace q118 := eq_true q118
        go_wp2
        repeat (go_quiet (fail); try go_wp2)
        go_ret
        exact ⟨by first | rfl | (simp; done) | (simp [*]; done), by repeat (first | exact Drawn0.refl _ | apply Drawn0.step)⟩
      ·rw [if_neg c6] at H
       exact absurd H (by simp)
     ·rw [if_neg c5] at H
      exact absurd H (by simp)
    ·rw [if_neg c4] at H
     have c4b0 := decide_eq_false c4
     clear c4
     obtain rfl := Option.some.inj H
     go_wp2
     repeat (go_quiet (fail); try go_wp2)
     go_ret
     exact ⟨by first | rfl | (simp; done) | (simp [*]; done), by repeat (first | exact Drawn0.refl _ | apply Drawn0.step)⟩
 ·rw [if_neg c3] at H
  obtain ⟨c3b0, c3b1⟩ := aNe c3
  have c3b2 : (l0.length == l1.length) = false := by first | simpa using c3 | (simp at c3 ⊢; omega)
  obtain rfl := Option.some.inj H
  go_enter Try.func43, Try.ntmps43
  go_wp2
  repeat (go_quiet (fail); try go_wp2)
  go_ret
  exact ⟨by first | rfl | (simp; done) | (simp [*]; done), by repeat (first | exact Drawn0.refl _ | apply Drawn0.step)⟩

end Go.Proofs.Ytndkkjpgnmahbaa.Print
end

section
namespace Go.Proofs.Ytndkkjpgnmahbaa.Print
open Go.RowKit Go.Proofs.YtndkkjpgnmahbaaW.PrintWords Go.Proofs.YtndkkjpgnmahbaaW.PrintLast Go.Proofs.YtndkkjpgnmahbaaW.PrintMore Go.Proofs.Field
set_option linter.unusedVariables false
theorem mx_max (x y : Int) : mx x y = max x y := by unfold mx; split <;> omega
theorem obind {α β : Type} {o : Option α} {a : α} {f : α → Option β} (h : o = some a) : o.bind f = f a := by rw [h]; rfl
end Go.Proofs.Ytndkkjpgnmahbaa.Print
end

section
namespace Go.Proofs.Ytndkkjpgnmahbaa.Print
open Go.RowKit Go.Proofs.YtndkkjpgnmahbaaW.PrintWords Go.Proofs.YtndkkjpgnmahbaaW.PrintLast Go.Proofs.YtndkkjpgnmahbaaW.PrintMore
attribute [local go_sem] max2_int min2_int max_two min_two max_three min_three max_four min_four
set_option linter.unusedVariables false
set_option linter.unusedSimpArgs false
theorem eqA42 (d : Nat) (w : World) (x0 y0 : Int) (x1 y1 : Int) :
  (Op.equalIn (d + 2) 42 (.agg #[.int .i64 x0, .int .i64 x1]) (.agg #[.int .i64 y0, .int .i64 y1])).run Try.prog w = .ok (x0 == y0 && (x1 == y1)) w := by
 refine eqA_of Try.underlying42 (by kernel_rfl) ?_
 refine eqf_cons (by rfl) (by go_simp; rfl) (by go_simp; rfl) (by go_simp) ?_
 exact eqf_last (by rfl) (by go_simp; rfl) (by go_simp; rfl) (by go_simp)
def thermionlaw01_line.f  : Option (Int × Int × Bool × List Int) := some (5, 1, false, (([1, 0, 0, 0, 2] : List Int)))
set_option maxHeartbeats 8000000 in
set_option maxRecDepth 100000 in
theorem thermionlaw01_line.calls  (r1 : Int) (r2 : Int) (r3 : Bool) (r4 : List Int) (w : World) (h : thermionlaw01_line.f  = some (r1, r2, r3, r4)) :
  Calls Try.prog 62 #[] w fun e w' => ∃ v3_ : Value, e = .returned (.agg #[.int .i64 r1, .int .i64 r2, .bool r3, v3_]) ∧ Kd.R (Kd.int .i64) 3 w' w.heap.size (fun _ => True) v3_ r4 ∧ Below w.heap.size w w' := by
 have hu24 := Try.underlying24
 have HB := Aside0.mk (Below.refl w.heap.size w)
 have H : (some (5, 1, false, (([1, 0, 0, 0, 2] : List Int)))) = some (r1, r2, r3, r4) := h
 clear h
 obtain ⟨y120, hy120⟩ : ∃ y_ : List Int, y_ = (([1, 0, 0, 0, 2] : List Int)) := ⟨_, rfl⟩
 replace H : (some (5, 1, false, y120)) = some (r1, r2, r3, r4) := by first | (rw [hy120]; with_reducible exact H) | (have H2_ := (Option.bind_some _ _).symm.trans H; rw [hy120]; with_reducible exact H2_) | (have H2_ := (Option.bind_some _ _).symm.trans H; with_reducible exact H2_) | with_reducible exact H | (rw [hy120]; exact H) | exact H
 have Ny120 := Aside0.mk hy120
 clear hy120
 simp only [Option.some.injEq, Prod.mk.injEq] at H
 obtain ⟨rfl, rfl, rfl, rfl⟩ := H
 go_enter Try.func62, Try.ntmps62
 go_wp2_with (first | ((with_reducible refine gate_dst (N := 0) rfl ?_); refine aBox 0 #[.int .i64 0, .int .i64 0, .bool false, .slice none 0 0] 24 ?_; intro gb119 hg w1 hbox hb; have BK119 := Aside0.mk (hbox); have GW119 := aGe hg HB; have GE119 := aGe hg HB; replace HB := aBs HB hb; clear hb hbox hg) | ((with_reducible refine gate_dst (N := 1) rfl ?_); refine Kd.R_lit (Kd.int .i64) _ 3 ?hg (N := 1) ?hd (xs := ([1, 0, 0, 0, 2] : List Int)) (inner := [.int .i64 1, .int .i64 0, .int .i64 0, .int .i64 0, .int .i64 2]) (ok := fun _ => True) (okp := fun _ => True) ?hr ?hp (fun _ hk => hk) trivial (Below.refl _ _) (Nat.le_refl _) (by simp) ?_; (case hd => rfl); (case hg => rfl); (case hr => first | (go_simp; done) | (go_simp; rfl)); (case hp => exact (Reps.one (show Kd.M (Kd.int .i64) _ _ _ 1 [.int .i64 1] from rfl) (Reps.one (show Kd.M (Kd.int .i64) _ _ _ 0 [.int .i64 0] from rfl) (Reps.one (show Kd.M (Kd.int .i64) _ _ _ 0 [.int .i64 0] from rfl) (Reps.one (show Kd.M (Kd.int .i64) _ _ _ 0 [.int .i64 0] from rfl) (Reps.one (show Kd.M (Kd.int .i64) _ _ _ 2 [.int .i64 2] from rfl) (Reps.none _ _))))))); intro v121 w2 ho3 hb hg_ hnew_; clear hg_ hnew_; (first | rw [← Ny120.out] at ho3 | (simp only [Int.reduceToNat] at ho3; rw [← Ny120.out] at ho3)); have HO122 := Aside0.mk (Kd.R_lower ho3 (below_size (aBl HB).out)); replace BK119 := aBb BK119 hb; replace HB := aBs HB hb; clear hb ho3; obtain ⟨Ao4, co4, eo4⟩ := Kd.R_slice HO122.out; subst eo4; obtain ⟨⟨hcz5_0, hcz5_1, hcz5_2, hcz5_3⟩, hfz5_0, hfz5_1, hfz5_2, hfz5_3⟩ := aC4 BK119))
 refine bodyPost_ret (results_cell_row rfl _ _ gb119 24 #[.int .i64 5, .int .i64 1, .bool false, .slice Ao4 y120.length co4] (0, 0) _ rfl (by (with_reducible repeat (first | refine blk_drewN ?_ _ | refine blk_drew ?_ | refine blk_alloc ?_ _)); refine blk_put (cs := #[.int .i64 5, .int .i64 1, .bool false, .slice none 0 0]) ?_ 3 _ rfl; (with_reducible repeat (first | refine blk_drewN ?_ _ | refine blk_drew ?_ | refine blk_alloc ?_ _)); refine blk_put (cs := #[.int .i64 5, .int .i64 1, .bool false, .slice none 0 0]) ?_ 2 _ rfl; (with_reducible repeat (first | refine blk_drewN ?_ _ | refine blk_drew ?_ | refine blk_alloc ?_ _)); refine blk_put (cs := #[.int .i64 5, .int .i64 0, .bool false, .slice none 0 0]) ?_ 1 _ rfl; (with_reducible repeat (first | refine blk_drewN ?_ _ | refine blk_drew ?_ | refine blk_alloc ?_ _)); refine blk_put (cs := #[.int .i64 0, .int .i64 0, .bool false, .slice none 0 0]) ?_ 0 _ rfl; (with_reducible repeat (first | refine blk_drewN ?_ _ | refine blk_drew ?_ | refine blk_alloc ?_ _)); exact BK119.out) Try.underlying24 rfl (by kernel_rfl)) rfl ?_
 exact ⟨_, by first | rfl | (simp [errW_none, errW_some] <;> rfl) | (simp [*, errW_none, errW_some] <;> rfl), by (with_reducible repeat (first | apply Kd.R_alloc | apply Kd.R_drewN | apply Kd.R_drew)); exact Kd.R_mono (Kd.R_far (p := ⟨gb119, 3, none⟩) (Kd.R_far (p := ⟨gb119, 2, none⟩) (Kd.R_far (p := ⟨gb119, 1, none⟩) (Kd.R_far (p := ⟨gb119, 0, none⟩) (Kd.R_types HO122.out BK119.out (by decide)) (fun _ hk => hk.2) (.int .i64 5)) (fun _ hk => hk.2) (.int .i64 1)) (fun _ hk => hk.2) (.bool false)) (fun _ hk => hk.2) (.slice Ao4 y120.length co4)) (fun _ hk => trivial), (aBl HB).out⟩
end Go.Proofs.Ytndkkjpgnmahbaa.Print
end

section
namespace Go.Proofs.Ytndkkjpgnmahbaa.Print
open Go.RowKit Go.Proofs.YtndkkjpgnmahbaaW.PrintWords Go.Proofs.YtndkkjpgnmahbaaW.PrintLast Go.Proofs.YtndkkjpgnmahbaaW.PrintMore Go.Proofs.Ytndkkjpgnmahbaa.H Go.Proofs.Field
attribute [local go_sem] max2_int min2_int max_two min_two max_three min_three max_four min_four
set_option linter.unusedVariables false
set_option linter.unusedSimpArgs false
def thermionlaw01_ring.f : Option (Int × Int × Bool × List Int) := (thermionlaw01_line.f).bind fun bt124 => (some (bt124.1, bt124.2.1, true, bt124.2.2.2))
set_option maxHeartbeats 1600000 in
set_option maxRecDepth 100000 in
theorem thermionlaw01_ring.calls (r1 : Int) (r2 : Int) (r3 : Bool) (r4 : List Int) (w : World) (h : thermionlaw01_ring.f = some (r1, r2, r3, r4)) :
 Calls Try.prog 64 #[] w fun e w' => ∃ v3_ : Value, e = .returned (.agg #[.int .i64 r1, .int .i64 r2, .bool r3, v3_]) ∧ Kd.R (Kd.int .i64) 3 w' w.heap.size (fun _ => True) v3_ r4 ∧ Below w.heap.size w w' := by
 have HM := Aside0.mk (Mem.start w)
 have hu24 := Try.underlying24
 obtain ⟨⟨t1, t2, t3, t4⟩, hl, hh⟩ := Option.bind_eq_some_iff.1 h
 simp only [Option.some.injEq, Prod.mk.injEq] at hh
 obtain ⟨rfl, rfl, rfl, rfl⟩ := hh
 have HL := Aside0.mk hl
 clear h hl
 have HCL : Aside0 (∀ V : World, Calls Try.prog 62 #[] V fun e w' => ∃ v3_ : Value, e = .returned (.agg #[.int .i64 t1, .int .i64 t2, .bool t3, v3_]) ∧ Kd.R (Kd.int .i64) 3 w' V.heap.size (fun _ => True) v3_ t4 ∧ Below V.heap.size V w') := ⟨fun V => thermionlaw01_line.calls t1 t2 t3 t4 V HL.out⟩
 clear HL
 go_enter Try.func64, Try.ntmps64
 go_upto_region 3 with (first
  | ((with_reducible refine gate_dst (N := 0) rfl ?_); refine ev_new HM.out rfl 24 rfl info24 ?_; intro g0 w1 hm1 hq1; clear hq1; have HM1 := Aside0.mk hm1; clear hm1 HM)
  | (go_at_call 62; refine (HCL.out _).mono ?_; rintro e w2 ⟨v3, rfl, hv, hb⟩; obtain ⟨A7, c7, rfl⟩ := Kd.R_slice hv; have HV := Aside0.mk (Kd.R_lower hv HM1.out.below.size); have HM2 := Aside0.mk (HM1.out.step hb); clear hv hb HM1)
  | ((with_reducible refine gate_dst (N := 1) rfl ?_); refine ev_new HM2.out rfl 24 rfl info24 ?_; intro g1 w3 hm3 hq3; have HV2 := Aside0.mk (Kd.R_below HV.out hq3); clear hq3 HV; have HM3 := Aside0.mk hm3; clear hm3 HM2)
  | ((with_reducible refine gate_store (t := 24) (p := 1) rfl ?_); refine ev_storeB HM3.out.head rfl 24 (.tmp 1) (.tmp 2) rfl rfl (cs := #[.int .i64 t1, .int .i64 t2, .bool t3, .slice A7 t4.length c7]) rfl size24 rfl rfl (by simp [Value.oneCell']) ?_; have HM4 := Aside0.mk (HM3.out.row #[.int .i64 t1, .int .i64 t2, .bool t3, .slice A7 t4.length c7]); have HV3 := Aside0.mk (Kd.R_mono (Kd.R_step (Kd.R_types HV2.out HM3.out.head (by decide)) (w1 := w3.setRow g1 #[.int .i64 t1, .int .i64 t2, .bool t3, .slice A7 t4.length c7]) (fun k hk _ => setRow_other _ _ _ _ hk.2)) (fun _ hk => hk.1)); clear HM3 HV2; generalize w3.setRow g1 _ = w4 at HM4 HV3 ⊢; have c2 : w4.cell? ⟨g1, 2, none⟩ = some (.bool t3) := (HM4.out.cell 2).trans rfl; have f2 := HM4.out.frozen 2))
 have HM5 := Aside0.mk (HM4.out.put 2 (.bool true) (cs' := #[.int .i64 t1, .int .i64 t2, .bool true, .slice A7 t4.length c7]) rfl)
 have HV4 := Aside0.mk (Kd.R_set HV3.out HM4.out.head (by decide) 2 (.bool true))
 clear HM4 HV3 c2 f2
 generalize w4.setCell ⟨g1, 2, none⟩ (.bool true) = w5 at HM5 HV4 ⊢
 go_wp2_with (first
  | ((with_reducible refine gate_dst (N := 4) rfl ?_); refine ev_load HM5.out.head rfl 24 (.tmp 1) rfl rfl _ Try.underlying24 rfl size24 rfl ?_)
  | ((with_reducible refine gate_store (t := 24) (p := 0) rfl ?_); refine ev_storeB HM5.out.second rfl 24 (.tmp 0) (.tmp 4) rfl rfl rfl size24 rfl rfl (by simp [Value.oneCell']) ?_))
 (try simp only [Exit.inBlock, Exit.then])
 refine bodyPost_ret (results_cell_row rfl _ _ g0 24 _ (0, 0) _ rfl (setRow_heap _ _ _ _ _ _ HM5.out.second) hu24 rfl (by rw [size24]; rfl)) rfl ⟨_, rfl, Kd.R_mono (Kd.R_step (Kd.R_types HV4.out HM5.out.second (by decide)) (fun k hk _ => setRow_other _ _ _ _ hk.2)) (fun _ _ => trivial), ?_⟩
 have hb := HM5.out.below
 exact ⟨hb.os, hb.tape, hb.output, by rw [size_setRow]; exact hb.size, fun i hi => by rw [setRow_other _ g0 i _ (by have := HM5.out.drop.geh; omega)]; exact hb.block i hi⟩
end Go.Proofs.Ytndkkjpgnmahbaa.Print
end

section
namespace Go.Proofs.Ytndkkjpgnmahbaa.H
open Go.RowKit Go.Proofs.YtndkkjpgnmahbaaW.PrintWords Go.Proofs.YtndkkjpgnmahbaaW.PrintLast Go.Proofs.YtndkkjpgnmahbaaW.PrintMore Go.Proofs.Ytndkkjpgnmahbaa.Print
namespace Mem
variable {w W W1 : World} {l : List (Nat × Array Value × TypeId)} {g g1 g2 : Nat} {cs c1 c2 : Array Value} {t t1 t2 : TypeId}
theorem add (h : Mem w W l) (hb : Below W.heap.size W W1) (hg : W1.heap[g]? = some (.cells cs t (0, 0))) (hge : W.heap.size ≤ g) : Mem w W1 ((g, cs, t) :: l) := by
 have h1 := h.step hb
 refine ⟨h1.below, fun p hp => ?_, fun p hp => ?_, .cons (fun p hp => ?_) h.apart⟩
 ·rcases List.mem_cons.1 hp with rfl | hp
  ·exact hg
  ·exact h1.blk p hp
 ·rcases List.mem_cons.1 hp with rfl | hp
  ·exact Nat.le_trans h.below.size hge
  ·exact h.ge p hp
 ·have := blk_lt (h.blk p hp)
  show g ≠ p.1
  omega
theorem add2 (h : Mem w W l) (hb : Below W.heap.size W W1) (hg1 : W1.heap[g1]? = some (.cells c1 t1 (0, 0))) (hge1 : W.heap.size ≤ g1) (hg2 : W1.heap[g2]? = some (.cells c2 t2 (0, 0))) (hge2 : W.heap.size ≤ g2) (hne : g2 ≠ g1) : Mem w W1 ((g2, c2, t2) :: (g1, c1, t1) :: l) := by
 have h1 := h.add hb hg1 hge1
 refine ⟨h1.below, fun p hp => ?_, fun p hp => ?_, .cons (fun p hp => ?_) h1.apart⟩
 ·rcases List.mem_cons.1 hp with rfl | hp
  ·exact hg2
  ·exact h1.blk p hp
 ·rcases List.mem_cons.1 hp with rfl | hp
  ·exact Nat.le_trans h.below.size hge2
  ·exact h1.ge p hp
 ·rcases List.mem_cons.1 hp with rfl | hp
  ·exact hne
  ·have := blk_lt (h.blk p hp)
   show g2 ≠ p.1
   omega
theorem bring {p : Nat × Array Value × TypeId} {l' : List (Nat × Array Value × TypeId)} (h : Mem w W l) (hp : l.Perm (p :: l')) : Mem w W (p :: l') :=
 ⟨h.below, fun q hq => h.blk q (hp.mem_iff.2 hq), fun q hq => h.ge q (hp.mem_iff.2 hq), h.apart.perm hp (fun a => Ne.symm a)⟩
theorem third3 {q r s : Nat × Array Value × TypeId} (h : Mem w W (q :: r :: s :: l)) : Mem w W (s :: q :: r :: l) := h.bring (by
 refine (List.Perm.cons q (List.Perm.swap s r l)).trans ?_
 exact List.Perm.swap s q (r :: l))
theorem blk4 {p1 p2 p3 : Nat × Array Value × TypeId} (h : Mem w W (p1 :: p2 :: p3 :: (g, cs, t) :: l)) : W.heap[g]? = some (.cells cs t (0, 0)) := h.blk (g, cs, t) (by simp)
theorem blk5 {p1 p2 p3 p4 : Nat × Array Value × TypeId} (h : Mem w W (p1 :: p2 :: p3 :: p4 :: (g, cs, t) :: l)) : W.heap[g]? = some (.cells cs t (0, 0)) := h.blk (g, cs, t) (by simp)
theorem blk7 {p1 p2 p3 p4 p5 p6 : Nat × Array Value × TypeId} (h : Mem w W (p1 :: p2 :: p3 :: p4 :: p5 :: p6 :: (g, cs, t) :: l)) : W.heap[g]? = some (.cells cs t (0, 0)) := h.blk (g, cs, t) (by simp)
end Mem
end Go.Proofs.Ytndkkjpgnmahbaa.H
namespace Go.Proofs.Ytndkkjpgnmahbaa.Print
open Go.RowKit Go.Proofs.YtndkkjpgnmahbaaW.PrintWords Go.Proofs.YtndkkjpgnmahbaaW.PrintLast Go.Proofs.YtndkkjpgnmahbaaW.PrintMore Go.Proofs.Ytndkkjpgnmahbaa.H Go.Proofs.Field
set_option linter.unusedVariables false
def IsNums (cur : Array Value) (l : List Int) : Prop := l.length ≤ 9223372036854775807 ∧ ∀ i, i < l.length → cur[i]? = some (.int .i64 (fn l i))
theorem R_mem {W : World} {base : Nat} {ok : Nat → Prop} {v : Value} {l : List Int} (h : Kd.R (Kd.int .i64) 3 W base ok v l) (hp : 0 < l.length) :
  ∃ g c cur, v = .slice (some ⟨g, 0, none⟩) l.length c ∧ l.length ≤ c ∧ W.heap[g]? = some (.cells cur 3 (0, 0)) ∧ base ≤ g ∧ ok g ∧ IsNums cur l := by
 obtain ⟨h0, inner, ⟨hl, ho⟩, hr⟩ := h
 rcases ho with ⟨rfl, hn⟩ | ⟨g, c, cur, rfl, hg, hh, hc, hm, hs, ht⟩
 ·omega
 ·refine ⟨g, c, cur, rfl, hc, hh, hg, h0 g rfl, by unfold maxLen at hm; omega, fun i hi => ?_⟩
  have h1 := hr.2 i (fn l i) (by
   unfold fn
   rw [List.getD_eq_getElem?_getD, List.getElem?_eq_getElem hi]
   rfl)
  have h2 : (inner.drop (i * 1)).take 1 = [Value.int .i64 (fn l i)] := h1
  have h3 : inner[i]? = some (Value.int .i64 (fn l i)) := by
   have h4 : ((inner.drop (i * 1)).take 1)[0]? = some (Value.int .i64 (fn l i)) := by rw [h2]; rfl
   rw [List.getElem?_take_of_lt (by omega), List.getElem?_drop] at h4
   simpa using h4
  rw [← ht, List.getElem?_take_of_lt (by show i < l.length * 1; omega), Array.getElem?_toList] at h3
  exact h3
theorem C_mem {W : World} {g : Nat} {cur : Array Value} {l : List Int} {t : TypeId} (hb : W.heap[g]? = some (.cells cur t (0, 0))) (hn : IsNums cur l) : Kd.C (Kd.int .i64) W (some ⟨g, 0, none⟩) l.length l := by
 refine Kd.C_of_reads (d := (0 : Int)) (h1 := fun _ => rfl) ⟨rfl, hn.1, fun _ => ⟨_, rfl, fun j hj => ?_⟩⟩
 have h1 := (blk_cell hb j).trans (hn.2 j hj)
 rw [show (⟨g, 0, none⟩ : Addr).add j = ⟨g, j, none⟩ by unfold Addr.add; split <;> simp_all]
 rw [h1]
 rfl
theorem IsNums.set {cur : Array Value} {l : List Int} (h : IsNums cur l) (i : Nat) (x : Int) : IsNums (cur.setIfInBounds i (.int .i64 x)) (l.set i x) := by
 refine ⟨by rw [List.length_set]; exact h.1, fun j hj => ?_⟩
 rw [List.length_set] at hj
 have h1 := h.2 j hj
 have hs : j < cur.size := (Array.getElem?_eq_some_iff.1 h1).1
 by_cases q : i = j
 ·subst q
  rw [Array.getElem?_setIfInBounds_self_of_lt hs, fn_set hj, if_pos rfl]
 ·rw [Array.getElem?_setIfInBounds_ne q, h1]
  congr 2
  unfold fn
  rw [List.getD_eq_getElem?_getD, List.getD_eq_getElem?_getD, List.getElem?_set_ne q]
theorem two_mem {W W1 : World} {w : World} {l : List (Nat × Array Value × TypeId)} {v0 v1 : Value} {r1 r2 : List Int} (hm : H.Mem w W l) (hb : Below W.heap.size W W1)
  (h1 : Kd.R (Kd.int .i64) 3 W1 W.heap.size (fun k => some k ≠ v1.ownBlock) v0 r1) (h2 : Kd.R (Kd.int .i64) 3 W1 W.heap.size (fun k => some k ≠ v0.ownBlock) v1 r2) (hp1 : 0 < r1.length) (hp2 : 0 < r2.length) :
  ∃ g1 c1 cur1 g2 c2 cur2, v0 = .slice (some ⟨g1, 0, none⟩) r1.length c1 ∧ v1 = .slice (some ⟨g2, 0, none⟩) r2.length c2 ∧ r1.length ≤ c1 ∧ r2.length ≤ c2 ∧ IsNums cur1 r1 ∧ IsNums cur2 r2 ∧ H.Mem w W1 ((g2, cur2, 3) :: (g1, cur1, 3) :: l) := by
 obtain ⟨g1, c1, cur1, rfl, a1, a2, a3, a4, a5⟩ := R_mem h1 hp1
 obtain ⟨g2, c2, cur2, rfl, b1, b2, b3, b4, b5⟩ := R_mem h2 hp2
 exact ⟨g1, c1, cur1, g2, c2, cur2, rfl, rfl, a1, b1, a5, b5, hm.add2 hb a2 a3 b2 b3 (fun e => b4 (by subst e; rfl))⟩
theorem one_mem {W W1 : World} {w : World} {l : List (Nat × Array Value × TypeId)} {v : Value} {ok : Nat → Prop} {r : List Int} (hm : H.Mem w W l) (hb : Below W.heap.size W W1) (h : Kd.R (Kd.int .i64) 3 W1 W.heap.size ok v r) (hp : 0 < r.length) :
  ∃ g c cur, v = .slice (some ⟨g, 0, none⟩) r.length c ∧ r.length ≤ c ∧ IsNums cur r ∧ H.Mem w W1 ((g, cur, 3) :: l) := by
 obtain ⟨g, c, cur, rfl, a1, a2, a3, a4, a5⟩ := R_mem h hp
 exact ⟨g, c, cur, rfl, a1, a5, hm.add hb a2 a3⟩
section
variable {P : Program} {ops : Array Oper} {rest : List Oper} {o : Oper} {a : Act} {Q : Exit → Act → World → Prop} {w W : World} {l : List (Nat × Array Value × TypeId)}
theorem ev_lit (hm : Mem w W l) (hgd : o.guard = none) (inner : List Value) (n : Nat) (e : TypeId)
  (hrun : (execOp a.eval o).run P W = .ok (.value (.slice (some ⟨W.heap.size, 0, none⟩) n n)) (W.alloc (.cells inner.toArray e)))
  (h : ∀ g W1, Mem w W1 ((g, inner.toArray, e) :: l) → Below W.heap.size W W1 → wpList P ops Q rest (a.put o.dst (.slice (some ⟨g, 0, none⟩) n n)) W1) : wpList P ops Q (o :: rest) a W :=
 Kd.event_run hgd hrun (h _ _ (hm.new rfl (blk_new W _) (below_alloc (Below.refl _ _) _)) (below_alloc (Below.refl _ _) _))
end
theorem isnums_map (l : List Int) (h : l.length ≤ 9223372036854775807) : IsNums (l.map (Value.int .i64)).toArray l := by
 refine ⟨h, fun i hi => ?_⟩
 rw [List.getElem?_toArray, List.getElem?_map, List.getElem?_eq_getElem hi]
 unfold fn
 rw [List.getD_eq_getElem?_getD, List.getElem?_eq_getElem hi]
 rfl
end Go.Proofs.Ytndkkjpgnmahbaa.Print
end

section
namespace Go.Proofs.Ytndkkjpgnmahbaa.Print
open Go.RowKit Go.Proofs.YtndkkjpgnmahbaaW.PrintWords Go.Proofs.YtndkkjpgnmahbaaW.PrintLast Go.Proofs.YtndkkjpgnmahbaaW.PrintMore Go.Proofs.Ytndkkjpgnmahbaa.H Go.Proofs.Field
attribute [local go_sem] max2_int min2_int max_two min_two max_three min_three max_four min_four
set_option linter.unusedVariables false
set_option linter.unusedSimpArgs false
attribute [local go_sem high] eqA42
def thermionlaw01_awake.f (k : Nat) : Option (Bool) := some true
theorem awake_solve : field_Solve.f 5 1 false ([1, 0, 0, 0, 2] : List Int) ([0, 100] : List Int) 1 = some (([0, 0, 0, 50, 100] : List Int), ([0, 50, 75, 88, 100] : List Int), 1, false, 0) := by kernel_rfl
theorem awake_charge : field_Charge.f 5 1 false ([1, 0, 0, 0, 2] : List Int) ([0, 100] : List Int) 1 2 = some (12, 50, 0) := by kernel_rfl
theorem awake_weight : field_Weight.f 5 1 true ([1, 0, 0, 0, 2] : List Int) 3 4 = some 8 := by kernel_rfl
theorem awake_same1 : thermionkit_Same.f 10 ([0, 0, 0, 50, 100] : List Int) ([0, 0, 0, 50, 100] : List Int) = some true := by kernel_rfl
theorem awake_same2 : thermionkit_Same.f 10 ([0, 50, 75, 88, 100] : List Int) ([0, 50, 75, 88, 100] : List Int) = some true := by kernel_rfl
set_option maxHeartbeats 3200000 in
set_option maxRecDepth 100000 in
theorem thermionlaw01_awake.calls (k : Nat)  (r : Bool) (w : World) (h : thermionlaw01_awake.f k  = some r) :
 Calls Try.prog 20 #[] w fun e w' => e = .returned (.bool r) ∧ Below w.heap.size w w' := by
 obtain rfl : true = r := Option.some.inj h
 have HM := Aside0.mk (Mem.start w)
 have hu24 := Try.underlying24
 have hu22 := Try.underlying22
 have hu33 := Try.underlying33
 have hu42 := Try.underlying42
 clear h
 go_enter Try.func20, Try.ntmps20
 go_wp2_with (first
  | (go_at_call 62; refine (thermionlaw01_line.calls 5 1 false ([1, 0, 0, 0, 2] : List Int) _ rfl).mono ?_; rintro e1 w1 ⟨v0, rfl, hR, hb⟩; obtain ⟨ga, cga, cuga, rfl, hc1, hn1, hm1⟩ := one_mem HM.out hb hR (by decide); have HNga := Aside0.mk (And.intro hn1 hc1); have HM1 := Aside0.mk hm1; clear hR hb hc1 hn1 hm1 HM)
  | ((with_reducible refine gate_dst (N := 7) rfl ?_); refine ev_lit HM1.out rfl [.int .i64 0, .int .i64 100] 2 3 ?hrl ?_; (case hrl => first | (go_simp; done) | (go_simp; rfl)); intro gb w2 hm1 hq1; have HM2 := Aside0.mk hm1; clear hm1 hq1 HM1)
  | (go_at_call 25; refine (field_Solve.calls 5 1 false (some ⟨ga, 0, none⟩) cga ([1, 0, 0, 0, 2] : List Int) (some ⟨gb, 0, none⟩) 2 ([0, 100] : List Int) 1 ([0, 0, 0, 50, 100] : List Int) ([0, 50, 75, 88, 100] : List Int) 1 false 0 _ (C_mem (HM2.out.second) HNga.out.1) HNga.out.2 (C_mem (HM2.out.head) (isnums_map [0, 100] (by decide))) (by decide) awake_solve).mono ?_; rintro e1 w3 ⟨v0, v1, rfl, hR1, hR2, hb⟩; obtain ⟨g1, c1, cu1, g2, c2, cu2, rfl, rfl, hc1, hc2, hn1, hn2, hm1⟩ := two_mem HM2.out hb hR1 hR2 (by decide) (by decide); have HNS := Aside0.mk (And.intro (And.intro hn1 hc1) (And.intro hn2 hc2)); have HM3 := Aside0.mk hm1; clear hR1 hR2 hb hc1 hc2 hn1 hn2 hm1 HNga HM2)
  | ((with_reducible refine gate_dst (N := 1) rfl ?_); refine ev_new HM3.out rfl 33 rfl info33 ?_; intro gf w4 hm1 hq1; have HM4 := Aside0.mk hm1; clear hm1 hq1 HM3)
  | ((with_reducible refine gate_store (t := 33) (p := 1) rfl ?_); refine ev_store HM4.out rfl 33 (.tmp 1) (.tmp 9) rfl rfl (cs := #[.slice (some ⟨g1, 0, none⟩) 5 c1, .slice (some ⟨g2, 0, none⟩) 5 c2, .int .i64 1, .bool false]) rfl size33 rfl rfl (by simp [Value.oneCell']) ?_; intro w5 hm1 hq1; have HM5 := Aside0.mk hm1; clear hm1 hq1 HM4)
  | (go_at_call 62; refine (thermionlaw01_line.calls 5 1 false ([1, 0, 0, 0, 2] : List Int) _ rfl).mono ?_; rintro e1 w6 ⟨v0, rfl, hR, hb⟩; obtain ⟨gc, cgc, cugc, rfl, hc1, hn1, hm1⟩ := one_mem HM5.out hb hR (by decide); have HNgc := Aside0.mk (And.intro hn1 hc1); have HM6 := Aside0.mk hm1; clear hR hb hc1 hn1 hm1 HM5)
  | ((with_reducible refine gate_dst (N := 13) rfl ?_); refine ev_lit HM6.out rfl [.int .i64 0, .int .i64 100] 2 3 ?hrl ?_; (case hrl => first | (go_simp; done) | (go_simp; rfl)); intro gd w7 hm1 hq1; have HM7 := Aside0.mk hm1; clear hm1 hq1 HM6)
  | (go_at_call 30; refine (field_Charge.calls 5 1 false (some ⟨gc, 0, none⟩) cgc ([1, 0, 0, 0, 2] : List Int) (some ⟨gd, 0, none⟩) 2 ([0, 100] : List Int) 1 2 12 50 0 _ (C_mem (HM7.out.second) HNgc.out.1) HNgc.out.2 (C_mem (HM7.out.head) (isnums_map [0, 100] (by decide))) (by decide) awake_charge).mono ?_; rintro e8 w8 ⟨rfl, hb⟩; have HM8 := Aside0.mk (HM7.out.step hb); clear hb HM7 HNgc)
  | ((with_reducible refine gate_dst (N := 3) rfl ?_); refine ev_new HM8.out rfl 42 rfl info42 ?_; intro gr w9 hm1 hq1; have HM9 := Aside0.mk hm1; clear hm1 hq1 HM8)
  | ((with_reducible refine gate_store (t := 42) (p := 3) rfl ?_); refine ev_store HM9.out rfl 42 (.tmp 3) (.tmp 15) rfl rfl (cs := #[.int .i64 12, .int .i64 50]) rfl size42 rfl rfl (by simp [Value.oneCell']) ?_; intro w10 hm1 hq1; have HM10 := Aside0.mk hm1; clear hm1 hq1 HM9; have q0 := (blk_cell HM10.out.blk4 0).trans rfl; have q1 := (blk_cell HM10.out.blk4 1).trans rfl)
  | ((with_reducible refine gate_dst (N := 26) rfl ?_); (try (refine gate_guard (by rfl) ?_; dsimp only)); refine ev_lit HM10.out rfl [.int .i64 0, .int .i64 0, .int .i64 0, .int .i64 50, .int .i64 100] 5 3 ?hrl ?_; (case hrl => first | (go_simp; done) | (go_simp; rfl)); intro ge w11 hm1 hq1; have HM11 := Aside0.mk hm1; clear hm1 hq1 HM10 q0 q1)
  | (go_at_call 43; refine (thermionkit_Same.calls 10 (some ⟨g1, 0, none⟩) c1 ([0, 0, 0, 50, 100] : List Int) (some ⟨ge, 0, none⟩) 5 ([0, 0, 0, 50, 100] : List Int) true _ (C_mem (HM11.out.blk7) HNS.out.1.1) HNS.out.1.2 (C_mem (HM11.out.head) (isnums_map ([0, 0, 0, 50, 100] : List Int) (by decide))) (by decide) awake_same1).mono ?_; rintro e12 w12 ⟨rfl, hb⟩; have HM12 := Aside0.mk (HM11.out.step hb.below); clear hb HM11 ; have HNT := Aside0.mk HNS.out.2; clear HNS; have q1 := (blk_cell HM12.out.blk5 1).trans rfl)
  | ((with_reducible refine gate_dst (N := 32) rfl ?_); (try (refine gate_guard (by rfl) ?_; dsimp only)); refine ev_lit HM12.out rfl [.int .i64 0, .int .i64 50, .int .i64 75, .int .i64 88, .int .i64 100] 5 3 ?hrl ?_; (case hrl => first | (go_simp; done) | (go_simp; rfl)); intro gg w13 hm1 hq1; have HM13 := Aside0.mk hm1; clear hm1 hq1 HM12 q1)
  | (go_at_call 43; refine (thermionkit_Same.calls 10 (some ⟨g2, 0, none⟩) c2 ([0, 50, 75, 88, 100] : List Int) (some ⟨gg, 0, none⟩) 5 ([0, 50, 75, 88, 100] : List Int) true _ (C_mem (HM13.out.blk7) HNT.out.1) HNT.out.2 (C_mem (HM13.out.head) (isnums_map ([0, 50, 75, 88, 100] : List Int) (by decide))) (by decide) awake_same2).mono ?_; rintro e14 w14 ⟨rfl, hb⟩; have HM14 := Aside0.mk (HM13.out.step hb.below); clear hb HM13 ; clear HNT; have q0 := (blk_cell HM14.out.third 0).trans rfl; have q1 := (blk_cell HM14.out.third 1).trans rfl)
  | (go_at_call 64; refine (thermionlaw01_ring.calls 5 1 true ([1, 0, 0, 0, 2] : List Int) _ rfl).mono ?_; rintro e1 w15 ⟨v0, rfl, hR, hb⟩; obtain ⟨gh, ch, ch2, rfl, hc1, hn1, hm1⟩ := one_mem HM14.out hb hR (by decide); have HNh := Aside0.mk (And.intro hn1 hc1); have HM15 := Aside0.mk hm1; clear hR hb hc1 hn1 hm1 q0 q1 HM14)
  | (go_at_call 63; refine (field_Weight.calls 5 1 true (some ⟨gh, 0, none⟩) ch ([1, 0, 0, 0, 2] : List Int) 3 4 8 _ (C_mem (HM15.out.head) HNh.out.1) HNh.out.2 awake_weight).mono ?_; rintro e16 w16 ⟨rfl, hb⟩; have HM16 := Aside0.mk (HM15.out.step hb); clear hb HM15 ))
 go_ret
 exact ⟨rfl, HM16.out.below⟩
end Go.Proofs.Ytndkkjpgnmahbaa.Print
end

section
namespace Go.Proofs.Ytndkkjpgnmahbaa.Print
open Go.RowKit Go.Proofs.YtndkkjpgnmahbaaW.PrintWords Go.Proofs.YtndkkjpgnmahbaaW.PrintLast Go.Proofs.YtndkkjpgnmahbaaW.PrintMore Go.Proofs.Field
set_option maxRecDepth 100000 in
theorem awake_true : thermionlaw01_awake.f 10 = some true := by kernel_rfl
end Go.Proofs.Ytndkkjpgnmahbaa.Print
end

section
namespace Go.Proofs.Ytndkkjpgnmahbaa.Print
open Go.RowKit Go.Proofs.YtndkkjpgnmahbaaW.PrintWords Go.Proofs.YtndkkjpgnmahbaaW.PrintLast Go.Proofs.YtndkkjpgnmahbaaW.PrintMore Go.Proofs.Field
set_option linter.unusedVariables false
theorem mod_eq (a m : Int) (h1 : 1 ≤ m) (h2 : m ≤ 4611686018427387904) : ∃ r : Nat, thermionkit_Mod.f a m = some (r : Int) ∧ (r : Int) < m := by
 have hb : Int.tmod a m < m := Int.tmod_lt_of_pos a (by omega)
 have hl : -m < Int.tmod a m := by
  rcases Int.le_total 0 a with q | q
  ·have := Int.tmod_nonneg m q; omega
  ·have e : Int.tmod a m = - Int.tmod (-a) m := by rw [Int.neg_tmod]; omega
   have := Int.tmod_lt_of_pos (-a) (show 0 < m by omega)
   omega
 unfold thermionkit_Mod.f
 rw [if_neg (by omega), if_neg (by omega)]
 obtain ⟨t, ht⟩ : ∃ t, Int.tmod a m = t := ⟨_, rfl⟩
 rw [ht] at hb hl ⊢
 by_cases q : t < 0
 ·rw [if_pos q, IntWalk.wrap64_in _ (by omega)]
  exact ⟨(t + m).toNat, by rw [show ((t + m).toNat : Int) = t + m by omega], by omega⟩
 ·rw [if_neg q]
  exact ⟨t.toNat, by rw [show (t.toNat : Int) = t by omega], by omega⟩
theorem dealt_plan (s a1 a2 : Int) (h1 : 1 ≤ a1 ∧ a1 ≤ 16) (h2 : 1 ≤ a2 ∧ a2 ≤ 16) : ∃ (W H : Nat) (R : Bool) (C : List Int) (s1 : Int), thermionkit_PlanOf.f s a1 a2 = some ((W : Int), (H : Int), R, C, s1) ∧ 1 ≤ W ∧ (W : Int) ≤ a1 ∧ 1 ≤ H ∧ (H : Int) ≤ a2 ∧ C.length = W * H ∧ C.length ≤ 256 ∧ (∀ e, e ∈ C → 0 ≤ e ∧ e ≤ 3) ∧ checkErr W H R C = 0 := by
 have h : ∃ W H R C r, thermionkit_PlanOf.f s a1 a2 = some (W, H, R, C, r) := by
  unfold thermionkit_PlanOf.f
  rw [if_pos ⟨h1.1, h1.2, h2.1, h2.2⟩]
  exact ⟨_, _, _, _, _, rfl⟩
 obtain ⟨W, H, R, C, r, h⟩ := h
 obtain ⟨a, b, c, d, e, f, g, i, j⟩ := planOf_fine h
 obtain ⟨W', rfl⟩ : ∃ W' : Nat, W = W' := ⟨W.toNat, by omega⟩
 obtain ⟨H', rfl⟩ : ∃ H' : Nat, H = H' := ⟨H.toNat, by omega⟩
 have hl : C.length = W' * H' := by rw [← Int.natCast_mul] at g; omega
 have h256 : C.length ≤ 256 := by have := Nat.mul_le_mul (show W' ≤ 16 by omega) (show H' ≤ 16 by omega); omega
 exact ⟨W', H', R, C, r, h, by omega, by omega, by omega, by omega, hl, h256, i, j⟩
structure Dealt (s a1 a2 : Int) (W H : Nat) (R : Bool) (C v : List Int) (s1 s2 : Int) : Prop where
 plan : thermionkit_PlanOf.f s a1 a2 = some ((W : Int), (H : Int), R, C, s1)
 volts : ∃ K, ∀ k, K ≤ k → thermionkit_VoltsOf.f k s1 (W : Int) (H : Int) R C = some (v, s2)
 W1 : 1 ≤ W
 W2 : (W : Int) ≤ a1
 H1 : 1 ≤ H
 H2 : (H : Int) ≤ a2
 W16 : W ≤ 16
 H16 : H ≤ 16
 len : C.length = W * H
 small : C.length ≤ 256
 cells : ∀ e, e ∈ C → 0 ≤ e ∧ e ≤ 3
 check : checkErr W H R C = 0
 verr : voltErr W H R C v = 0
 volted : Volted W H R C v
 vlen : v.length ≤ 3
theorem solve_eq {W H : Nat} {R : Bool} {C v : List Int} {n : Nat} (hv : voltErr W H R C v = 0) (hn : n ≤ 200) :
  field_Solve.f W H R C v n = some ((solveN W H R C v 256 n).1.take C.length, (solveN W H R C v 256 n).2.1.take C.length, ((solveN W H R C v 256 n).2.2.1 : Int), (solveN W H R C v 256 n).2.2.2, 0) := by
 unfold field_Solve.f
 rw [if_neg (by rw [hv]; simp), if_neg (by omega), Int.toNat_natCast, Int.toNat_natCast, Int.toNat_natCast]
theorem bounds_len {W H : Nat} {R : Bool} {C v : List Int} (hV : Volted W H R C v) (h : C.length ≤ 256) (n : Nat) : ((solveN W H R C v 256 n).1.take C.length).length = C.length ∧ ((solveN W H R C v 256 n).2.1.take C.length).length = C.length := by
 have hp := solve_pair hV h n
 have h1 := hp.low.1.len
 have h2 := hp.high.1.len
 rw [List.length_take, List.length_take]
 omega
theorem rd_fn (b : List Int) (i : Nat) (h : i < b.length) : rd b (i : Int) = fn b i := by
 rw [rd_natc b i h]
 unfold fn
 rw [List.getD_eq_getElem?_getD, List.getElem?_eq_getElem h]
 rfl
end Go.Proofs.Ytndkkjpgnmahbaa.Print
end

section
namespace Go.Proofs.Ytndkkjpgnmahbaa.Print
open Go.RowKit Go.Proofs.YtndkkjpgnmahbaaW.PrintWords Go.Proofs.YtndkkjpgnmahbaaW.PrintLast Go.Proofs.YtndkkjpgnmahbaaW.PrintMore Go.Proofs.Ytndkkjpgnmahbaa.H Go.Proofs.Field
set_option linter.unusedVariables false
structure PW (w W : World) (g : Nat) (s : Int) (A : Option Addr) (c : Nat) (C : List Int) : Prop where
 old : Below w.heap.size w W
 dice : IsS79 w W g s
 row : Kd.R (Kd.int .i64) 3 W w.heap.size (fun k => k ≠ g) (.slice A C.length c) C
theorem PW.make {w W : World} {g base : Nat} {s : Int} {A : Option Addr} {c : Nat} {C : List Int} (hI : IsS79 w W g s) (hB : Below w.heap.size w W) (hR : Kd.R (Kd.int .i64) 3 W base (fun _ => True) (.slice A C.length c) C) (hb : w.heap.size ≤ base) : PW w W g s A c C :=
 ⟨hB, hI, Kd.R_mono (Kd.R_types (Kd.R_lower hR hb) hI.1 (by decide)) (fun k hk => hk.2)⟩
namespace PW
variable {w W W1 : World} {g : Nat} {s s1 : Int} {A : Option Addr} {c : Nat} {C : List Int}
theorem below (h : PW w W g s A c C) (hb : Below W.heap.size W W1) : PW w W1 g s A c C := ⟨below_step h.old hb, h.dice.below hb, Kd.R_below h.row hb⟩
theorem reads (h : PW w W g s A c C) : Kd.C (Kd.int .i64) W A C.length C := (Kd.R_reads' h.row).2.2
theorem cap (h : PW w W g s A c C) : C.length ≤ c := (Kd.R_reads' h.row).2.1
theorem far (h : PW w W g s A c C) : ∀ ad, A = some ad → 0 < C.length → ad.block ≠ g := fun ad e hp => by
 subst e
 obtain ⟨b, rfl⟩ := Kd.R_head h.row
 exact h.row.1 b rfl
end PW
structure LB (w W : World) (g6 : Nat) (Wd Hd : Int) (R : Bool) (A : Option Addr) (c : Nat) (C : List Int) (B : Option Addr) (d : Nat) (v : List Int) : Prop where
 old : Below w.heap.size w W
 plan : W.heap[g6]? = some (.cells (planV Wd Hd R A C.length c) 24 (0, 0))
 rc : Kd.C (Kd.int .i64) W A C.length C
 hc : C.length ≤ c
 rv : Kd.C (Kd.int .i64) W B v.length v
 hv : v.length ≤ d
theorem LB.make {w w2 W3 W : World} {g g6 base : Nat} {s : Int} {Wd Hd : Int} {R : Bool} {A : Option Addr} {c : Nat} {C : List Int} {B : Option Addr} {d : Nat} {v : List Int} (hp : PW w W3 g s A c C) (hm : Mem w2 W3 [(g6, planV Wd Hd R A C.length c, 24)])
  (hR : Kd.R (Kd.int .i64) 3 W base (fun _ => True) (.slice B v.length d) v) (hB : Below w.heap.size w W) (hK : KeepBut W3 W g none) : LB w W g6 Wd Hd R A c C B d v := by
 have h1 := Kd.R_reads' (Kd.R_keep hp.row hK (fun k hk => hk))
 have h2 := Kd.R_reads' hR
 exact ⟨hB, hK.blk hm.head (blk_ne hm.head hp.dice.1 (by decide)) (by simp), h1.2.2, h1.2.1, h2.2.2, h2.2.1⟩
namespace LB
variable {w W W1 : World} {g6 : Nat} {Wd Hd : Int} {R : Bool} {A : Option Addr} {c : Nat} {C : List Int} {B : Option Addr} {d : Nat} {v : List Int}
end LB
end Go.Proofs.Ytndkkjpgnmahbaa.Print
end

section
namespace Go.Proofs.Ytndkkjpgnmahbaa.Print
open Go.RowKit Go.Proofs.YtndkkjpgnmahbaaW.PrintWords Go.Proofs.YtndkkjpgnmahbaaW.PrintLast Go.Proofs.YtndkkjpgnmahbaaW.PrintMore Go.Proofs.Ytndkkjpgnmahbaa.H Go.Proofs.Field
set_option linter.unusedVariables false
theorem C_of_cells {V : World} {g : Nat} {b : List Int} {t : TypeId} (hV : V.heap[g]? = some (.cells (numsA b) t (0, 0))) (hb : b.length ≤ 1000000) : Kd.C (Kd.int .i64) V (some ⟨g, 0, none⟩) b.length b := by
 refine Kd.C_of_reads (d := (0 : Int)) (h1 := fun _ => rfl) ⟨rfl, by omega, fun _ => ⟨_, rfl, fun j hj => ?_⟩⟩
 have h1 := (blk_cell hV j).trans (numsA_get hj)
 rw [show (⟨g, 0, none⟩ : Addr).add j = ⟨g, j, none⟩ by unfold Addr.add; split <;> simp_all]
 rw [h1]
 rfl
structure Rows (W : World) (rs : List (Option Addr × List Int)) : Prop where
 all : ∀ p, p ∈ rs → Kd.C (Kd.int .i64) W p.1 p.2.length p.2
namespace Rows
variable {W W1 : World} {rs : List (Option Addr × List Int)}
theorem nil (W : World) : Rows W [] := ⟨fun p hp => by simp at hp⟩
theorem below (h : Rows W rs) (hb : Below W.heap.size W W1) : Rows W1 rs := ⟨fun p hp => Kd.C_below (h.all p hp) hb⟩
theorem cons (h : Rows W rs) {A : Option Addr} {l : List Int} (hC : Kd.C (Kd.int .i64) W A l.length l) : Rows W ((A, l) :: rs) := ⟨fun p hp => by
 rcases List.mem_cons.1 hp with rfl | hp
 ·exact hC
 ·exact h.all p hp⟩
end Rows
theorem mem_join {w W W1 : World} {l l2 : List (Nat × Array Value × TypeId)} (h : Mem w W l) (h2 : Mem W W1 l2) : Mem w W1 (l2 ++ l) := by
 have h1 := h.step h2.below
 refine ⟨h1.below, fun p hp => ?_, fun p hp => ?_, List.pairwise_append.2 ⟨h2.apart, h.apart, fun p hp q hq => ?_⟩⟩
 ·rcases List.mem_append.1 hp with hp | hp
  ·exact h2.blk p hp
  ·exact h1.blk p hp
 ·rcases List.mem_append.1 hp with hp | hp
  ·exact Nat.le_trans h.below.size (h2.ge p hp)
  ·exact h.ge p hp
 ·have a1 := h2.ge p hp
  have a2 := blk_lt (h.blk q hq)
  omega
end Go.Proofs.Ytndkkjpgnmahbaa.Print
end

section
namespace Go.Proofs.Ytndkkjpgnmahbaa.Print
open Go.RowKit Go.Proofs.YtndkkjpgnmahbaaW.PrintWords Go.Proofs.YtndkkjpgnmahbaaW.PrintLast Go.Proofs.YtndkkjpgnmahbaaW.PrintMore
attribute [local go_sem] max2_int min2_int max_two min_two max_three min_three max_four min_four
set_option linter.unusedVariables false
set_option linter.unusedSimpArgs false
def thermionref01_has.l0 : Nat → Int → Int → Int → Int → Bool → List Int → Option (Bool)
 | 0, _, _, _, _, _, _ => none
 | k + 1, x1, x5, x291000, x291001, x291002, x291003 => if x5 < (x291003.length : Int) then (if x1 > 0 then (if 0 ≤ x5 then (if (rd x291003 x5) = x1 then (some true) else (thermionref01_has.l0 k x1 (wrap64 (x5 + 1)) x291000 x291001 x291002 x291003)) else (none)) else (thermionref01_has.l0 k x1 (wrap64 (x5 + 1)) x291000 x291001 x291002 x291003)) else (some false)
def thermionref01_has.f (k : Nat) (a0_0 : Int) (a0_1 : Int) (a0_2 : Bool) (l0_3 : List Int) (a1 : Int) : Option (Bool) := thermionref01_has.l0 k a1 0 a0_0 a0_1 a0_2 l0_3
def thermionref01_beyond.f (a0 : Int) (a1 : Int) (a2 : Int) : Option (Bool) := if a0 < a1 then (some true) else (some (decide (a0 > a2)))
mutual
def thermionref01_weight.j0 : Nat → Int → Int → Bool → Int → Int → Bool → List Int → Option (Int)
 | 0, _, _, _, _, _, _, _ => none
 | k + 1, x1, x2, x23, x245000, x245001, x245002, x245003 => if x23 = true then (some 0) else (if x245000 = 0 then (none) else (if (mx x1 x2) = (wrap64 ((mn x1 x2) + 1)) then (thermionref01_weight.j1 k (mn x1 x2) (mx x1 x2) (Int.tmod (mn x1 x2) x245000) (decide ((Int.tmod (mx x1 x2) x245000) > 0)) x245000 x245001 x245002 x245003) else (thermionref01_weight.j1 k (mn x1 x2) (mx x1 x2) (Int.tmod (mn x1 x2) x245000) false x245000 x245001 x245002 x245003)))
def thermionref01_weight.j1 : Nat → Int → Int → Int → Bool → Int → Int → Bool → List Int → Option (Int)
 | 0, _, _, _, _, _, _, _, _ => none
 | k + 1, x1, x2, x8, x34, x245000, x245001, x245002, x245003 => if x34 = true then (if x245002 = true then (some (wrap64 (2 * (wrap64 (x8 + 1))))) else (some 1)) else (if x2 = (wrap64 (x1 + x245000)) then (if x245002 = true then (some (wrap64 ((wrap64 (2 * x8)) + 1))) else (some 1)) else (some 0))
end
def thermionref01_weight.f (k : Nat) (a0_0 : Int) (a0_1 : Int) (a0_2 : Bool) (l0_3 : List Int) (a1 : Int) (a2 : Int) : Option (Int) := (thermionref01_beyond.f a1 0 (wrap64 ((wrap64 (a0_0 * a0_1)) - 1))).bind fun t245 => (if t245 = true then (thermionref01_weight.j0 k a1 a2 true a0_0 a0_1 a0_2 l0_3) else ((thermionref01_beyond.f a2 0 (wrap64 ((wrap64 (a0_0 * a0_1)) - 1))).bind fun t246 => (thermionref01_weight.j0 k a1 a2 t246 a0_0 a0_1 a0_2 l0_3)))
mutual
def thermionref01_around.j0 : Nat → Int → List Int → Int → Int → Bool → List Int → Option (List Int)
 | 0, _, _, _, _, _, _ => none
 | k + 1, x1, x5, x248000, x248001, x248002, x248003 => thermionref01_around.l0 k x1 x5 ([] : List Int) 0 x248000 x248001 x248002 x248003
def thermionref01_around.l0 : Nat → Int → List Int → List Int → Int → Int → Int → Bool → List Int → Option (List Int)
 | 0, _, _, _, _, _, _, _, _ => none
 | k + 1, x1, x5, x6, x7, x248000, x248001, x248002, x248003 => if x7 < (x5.length : Int) then (if 0 ≤ x7 then ((thermionref01_weight.f k x248000 x248001 x248002 x248003 x1 (rd x5 x7)).bind fun t255 => (if t255 > 0 then (if x6.length < 17592186044416 then (thermionref01_around.l0 k x1 x5 (x6 ++ [rd x5 x7]) (wrap64 (x7 + 1)) x248000 x248001 x248002 x248003) else (none)) else (thermionref01_around.l0 k x1 x5 x6 (wrap64 (x7 + 1)) x248000 x248001 x248002 x248003))) else (none)) else (some x6)
end
def thermionref01_around.f (k : Nat) (a0_0 : Int) (a0_1 : Int) (a0_2 : Bool) (l0_3 : List Int) (a1 : Int) : Option (List Int) := if a0_0 = 1 then (thermionref01_around.j0 k a1 (([wrap64 (a1 - 1), wrap64 (a1 + 1)] : List Int)) a0_0 a0_1 a0_2 l0_3) else (thermionref01_around.j0 k a1 (([wrap64 (a1 - a0_0), wrap64 (a1 - 1), wrap64 (a1 + 1), wrap64 (a1 + a0_0)] : List Int)) a0_0 a0_1 a0_2 l0_3)
def thermionref01_around.T8 : Bool × List (List Nat × List Nat) := (true, [([], []), ([], []), ([], []), ([], []), ([2, 3], [2, 3]), ([4], [4]), ([0, 1, 5], [0, 1, 5]), ([6], [6])])
def thermionref01_around.B8 : List Nat := [0, 0, 0, 0, 12, 28, 63, 127]
theorem thermionref01_around.tab8 : rtab .any (opsOf Try.f100 8) = thermionref01_around.T8 := by kernel_rfl
theorem thermionref01_around.bits8 : waitsOk thermionref01_around.T8.2 thermionref01_around.B8 = true := by kernel_rfl
mutual
def thermionref01_charge.l0 : Nat → List Int → Int → Int → Int → Int → Bool → List Int → List Int → List Int → Int → Bool → Int → Int → Option (Int × Int)
 | 0, _, _, _, _, _, _, _, _, _, _, _, _, _ => none
 | k + 1, x1, x3, x10, x440000, x440001, x440002, x440003, x441000, x441001, x441002, x441003, x443000, x443001 => if x10 < (x440003.length : Int) then (if 0 ≤ x10 then (if (rd x440003 x10) = x3 then ((thermionref01_around.f k x440000 x440001 x440002 x440003 x10).bind fun t444 => (thermionref01_charge.l1 k x1 x3 x10 t444 0 x440000 x440001 x440002 x440003 x441000 x441001 x441002 x441003 x443000 x443001)) else (thermionref01_charge.l0 k x1 x3 (wrap64 (x10 + 1)) x440000 x440001 x440002 x440003 x441000 x441001 x441002 x441003 x443000 x443001)) else (none)) else (some (x443000, x443001))
def thermionref01_charge.l1 : Nat → List Int → Int → Int → List Int → Int → Int → Int → Bool → List Int → List Int → List Int → Int → Bool → Int → Int → Option (Int × Int)
 | 0, _, _, _, _, _, _, _, _, _, _, _, _, _, _, _ => none
 | k + 1, x1, x3, x10, x11, x12, x440000, x440001, x440002, x440003, x441000, x441001, x441002, x441003, x443000, x443001 => if x12 < (x11.length : Int) then (if 0 ≤ x12 then (if 0 ≤ (rd x11 x12) then (if (rd x11 x12) < (x440003.length : Int) then (if (rd x440003 (rd x11 x12)) = x3 then (thermionref01_charge.l1 k x1 x3 x10 x11 (wrap64 (x12 + 1)) x440000 x440001 x440002 x440003 x441000 x441001 x441002 x441003 x443000 x443001) else ((thermionref01_weight.f k x440000 x440001 x440002 x440003 x10 (rd x11 x12)).bind fun t449 => (if 0 ≤ (wrap64 (x3 - 1)) then (if (wrap64 (x3 - 1)) < (x1.length : Int) then (if (rd x11 x12) < (x441001.length : Int) then ((thermionref01_weight.f k x440000 x440001 x440002 x440003 x10 (rd x11 x12)).bind fun t452 => (if (rd x11 x12) < (x441000.length : Int) then (thermionref01_charge.l1 k x1 x3 x10 x11 (wrap64 (x12 + 1)) x440000 x440001 x440002 x440003 x441000 x441001 x441002 x441003 (wrap64 (x443000 + (wrap64 (t449 * (wrap64 ((rd x1 (wrap64 (x3 - 1))) - (rd x441001 (rd x11 x12)))))))) (wrap64 (x443001 + (wrap64 (t452 * (wrap64 ((rd x1 (wrap64 (x3 - 1))) - (rd x441000 (rd x11 x12))))))))) else (none))) else (none)) else (none)) else (none)))) else (none)) else (none)) else (none)) else (thermionref01_charge.l0 k x1 x3 (wrap64 (x10 + 1)) x440000 x440001 x440002 x440003 x441000 x441001 x441002 x441003 x443000 x443001)
end
def thermionref01_charge.f (k : Nat) (a0_0 : Int) (a0_1 : Int) (a0_2 : Bool) (l0_3 : List Int) (l1 : List Int) (l2_0 : List Int) (l2_1 : List Int) (a2_2 : Int) (a2_3 : Bool) (a3 : Int) : Option (Int × Int) := thermionref01_charge.l0 k l1 a3 0 a0_0 a0_1 a0_2 l0_3 l2_0 l2_1 a2_2 a2_3 0 0
def thermionref01_charge.T12 : Bool × List (List Nat × List Nat) := (true, [([], []), ([0], [0]), ([], []), ([], []), ([], []), ([2, 3, 4], [2, 3, 4]), ([], []), ([], []), ([7], [7]), ([6, 8], [6, 8]), ([9], [9]), ([], []), ([11], [11]), ([], []), ([12, 13], [12, 13]), ([14], [14]), ([10, 15], [10, 15]), ([5, 16], [5, 16]), ([1, 17], [1, 17]), ([0, 1, 2, 3, 4, 5, 6, 7, 8, 9, 10, 11, 12, 13, 14, 15, 16, 17, 18], []), ([19, 18, 5, 0, 1, 2, 3, 4, 5, 6, 7, 8, 9, 10, 11, 12, 13, 14, 15, 16, 17, 18], [18, 19])])
def thermionref01_charge.B12 : List Nat := [0, 1, 0, 0, 0, 28, 0, 0, 128, 448, 960, 0, 2048, 0, 14336, 30720, 65472, 131068, 262143, 524287, 1048575]
theorem thermionref01_charge.tab12 : rtab .any (opsOf Try.f80 12) = thermionref01_charge.T12 := by kernel_rfl
theorem thermionref01_charge.bits12 : waitsOk thermionref01_charge.T12.2 thermionref01_charge.B12 = true := by kernel_rfl
def thermionref01_charge.T13 : Bool × List (List Nat × List Nat) := (true, [([], []), ([0], [0]), ([], []), ([], []), ([], []), ([2, 3, 4], [2, 3, 4]), ([], []), ([], []), ([7], [7]), ([6, 8], [6, 8]), ([9], [9]), ([], []), ([11], [11]), ([], []), ([12, 13], [12, 13]), ([14], [14]), ([10, 15], [10, 15]), ([5, 16], [5, 16]), ([1, 17], [1, 17]), ([0, 1, 2, 3, 4, 5, 6, 7, 8, 9, 10, 11, 12, 13, 14, 15, 16, 17, 18], []), ([19, 18, 5, 0, 1, 2, 3, 4, 5, 6, 7, 8, 9, 10, 11, 12, 13, 14, 15, 16, 17, 18], [18, 19])])
def thermionref01_charge.B13 : List Nat := [0, 1, 0, 0, 0, 28, 0, 0, 128, 448, 960, 0, 2048, 0, 14336, 30720, 65472, 131068, 262143, 524287, 1048575]
theorem thermionref01_charge.tab13 : rtab .any (opsOf Try.f80 13) = thermionref01_charge.T13 := by kernel_rfl
theorem thermionref01_charge.bits13 : waitsOk thermionref01_charge.T13.2 thermionref01_charge.B13 = true := by kernel_rfl
def thermionref01_sums.T6 : Bool × List (List Nat × List Nat) := (true, [([], []), ([], []), ([], []), ([], []), ([2, 3], [2, 3]), ([4], [4]), ([0, 1, 5], [0, 1, 5]), ([6, 6, 0, 1, 2, 3, 4, 5, 6], [6])])
def thermionref01_sums.B6 : List Nat := [0, 0, 0, 0, 12, 28, 63, 127]
theorem thermionref01_sums.tab6 : rtab .any (opsOf Try.f90 6) = thermionref01_sums.T6 := by kernel_rfl
theorem thermionref01_sums.bits6 : waitsOk thermionref01_sums.T6.2 thermionref01_sums.B6 = true := by kernel_rfl
def thermionref01_sums.T7 : Bool × List (List Nat × List Nat) := (true, [([], []), ([], []), ([0, 1], [0, 1]), ([], []), ([], []), ([], []), ([], []), ([], []), ([6, 7], [6, 7]), ([8], [8]), ([5, 9], [5, 9]), ([10], [10]), ([4, 11], [4, 11]), ([3, 12], [3, 12]), ([2, 0, 1, 2], [0, 2]), ([13, 14, 0, 1, 2, 3, 4, 5, 6, 7, 8, 9, 10, 11, 12, 13, 14], [3, 13])])
def thermionref01_sums.B7 : List Nat := [0, 0, 3, 0, 0, 0, 0, 0, 192, 448, 992, 2016, 4080, 8184, 7, 32767]
theorem thermionref01_sums.tab7 : rtab .any (opsOf Try.f90 7) = thermionref01_sums.T7 := by kernel_rfl
theorem thermionref01_sums.bits7 : waitsOk thermionref01_sums.T7.2 thermionref01_sums.B7 = true := by kernel_rfl
end Go.Proofs.Ytndkkjpgnmahbaa.Print
end

section
namespace Go.Proofs.Ytndkkjpgnmahbaa.Print
open Go.RowKit Go.Proofs.YtndkkjpgnmahbaaW.PrintWords Go.Proofs.YtndkkjpgnmahbaaW.PrintLast Go.Proofs.YtndkkjpgnmahbaaW.PrintMore Go.Proofs.Field
set_option linter.unusedVariables false
theorem obnd {α β : Type} {o : Option α} {a : α} (h : o = some a) (f : α → Option β) : o.bind f = f a := by rw [h]; rfl
def wtR (W H : Nat) (R : Bool) (i : Nat) (c : Int) : Int := if 0 ≤ c ∧ c < ((W * H : Nat) : Int) then netM W H R i c.toNat else 0
theorem wtR_nonneg (W H : Nat) (R : Bool) (i : Nat) (c : Int) : 0 ≤ wtR W H R i c := by
 unfold wtR
 split
 ·exact netM_nonneg W H R i _
 ·omega
theorem wt_of (W H : Nat) (R : Bool) (C : List Int) (k : Nat) (m M : Int) (hW : 1 ≤ W ∧ W ≤ 16) (h0 : 0 ≤ m) (h1 : m ≤ 100000) (hM0 : 0 ≤ M) (b : Bool) :
  thermionref01_weight.j1 (k + 1) m M (Int.tmod m W) b (W : Int) (H : Int) R C = some (if b = true then wgt R (m.toNat % W) false else if M = m + W then wgt R (m.toNat % W) true else 0) := by
 have e : Int.tmod m W = ((m.toNat % W : Nat) : Int) := by
  rw [Int.tmod_eq_emod_of_nonneg h0, Int.natCast_emod, Int.toNat_of_nonneg h0]
 have hl : m.toNat % W < W := Nat.mod_lt _ (by omega)
 have w1 : wrap64 (m + (W : Int)) = m + W := IntWalk.wrap64_in _ (by omega)
 have w2 : wrap64 (((m.toNat % W : Nat) : Int) + 1) = ((m.toNat % W : Nat) : Int) + 1 := IntWalk.wrap64_in _ (by omega)
 have w3 : wrap64 (2 * (((m.toNat % W : Nat) : Int) + 1)) = 2 * (((m.toNat % W : Nat) : Int) + 1) := IntWalk.wrap64_in _ (by omega)
 have w4 : wrap64 (2 * ((m.toNat % W : Nat) : Int)) = 2 * ((m.toNat % W : Nat) : Int) := IntWalk.wrap64_in _ (by omega)
 have w5 : wrap64 (2 * ((m.toNat % W : Nat) : Int) + 1) = 2 * ((m.toNat % W : Nat) : Int) + 1 := IntWalk.wrap64_in _ (by omega)
 rw [thermionref01_weight.j1, e, w1, w2, w3, w4, w5]
 unfold wgt
 cases b <;> cases R <;> simp only [if_true, if_false, Bool.false_eq_true] <;> (try split) <;> rfl
theorem weight_eq {W H : Nat} (hW : 1 ≤ W ∧ W ≤ 16) (hH : 1 ≤ H ∧ H ≤ 16) (R : Bool) (C : List Int) {i : Nat} (hi : i < W * H) (c : Int) (k : Nat) :
  thermionref01_weight.f (k + 2) (W : Int) (H : Int) R C (i : Int) c = some (wtR W H R i c) := by
 have hWH : W * H ≤ 256 := Nat.mul_le_mul hW.2 hH.2
 have hWH1 : 1 ≤ W * H := Nat.mul_pos hW.1 hH.1
 have w0 : wrap64 ((W : Int) * (H : Int)) = ((W * H : Nat) : Int) := by
  rw [← Int.natCast_mul]; exact IntWalk.wrap64_in _ (by omega)
 have w1 : wrap64 (((W * H : Nat) : Int) - 1) = ((W * H : Nat) : Int) - 1 := IntWalk.wrap64_in _ (by omega)
 generalize hn : W * H = n at w0 w1 hi hWH hWH1
 unfold thermionref01_weight.f wtR
 rw [w0, w1]
 have b1 : thermionref01_beyond.f (i : Int) 0 ((n : Int) - 1) = some false := by
  unfold thermionref01_beyond.f
  rw [if_neg (by omega), decide_eq_false (by omega)]
 rw [obnd b1, if_neg (by simp), hn]
 by_cases hc : 0 ≤ c ∧ c < (n : Int)
 ·have b2 : thermionref01_beyond.f c 0 ((n : Int) - 1) = some false := by
   unfold thermionref01_beyond.f
   rw [if_neg (by omega), decide_eq_false (by omega)]
  rw [obnd b2, if_pos hc]
  obtain ⟨j, rfl⟩ : ∃ j : Nat, c = (j : Int) := ⟨c.toNat, by omega⟩
  rw [Int.toNat_natCast, thermionref01_weight.j0, if_neg (by simp), if_neg (by omega)]
  have hj : j < n := by omega
  have key : ∀ (m M : Nat), m < n → M < n → m ≤ M → (if (M : Int) = wrap64 ((m : Int) + 1) then thermionref01_weight.j1 (k + 1) (m : Int) (M : Int) (Int.tmod (m : Int) W) (decide (Int.tmod (M : Int) W > 0)) (W : Int) (H : Int) R C else thermionref01_weight.j1 (k + 1) (m : Int) (M : Int) (Int.tmod (m : Int) W) false (W : Int) (H : Int) R C) = some (netM W H R m M) := by
   clear w0 w1 b1 b2 hc hi hj
   intro m M hm hM hle
   have g0 : (0 : Int) ≤ (m : Int) := by omega
   have g1 : (m : Int) ≤ 100000 := by omega
   have g2 : (0 : Int) ≤ (M : Int) := by omega
   have v1 : wrap64 ((m : Int) + 1) = (m : Int) + 1 := IntWalk.wrap64_in _ (by omega)
   have e : Int.tmod (M : Int) W = ((M % W : Nat) : Int) := by
    rw [Int.tmod_eq_emod_of_nonneg (by omega), Int.natCast_emod]
   rw [v1, e]
   obtain ⟨bb, hbb⟩ : ∃ bb, decide (((M % W : Nat) : Int) > 0) = bb := ⟨_, rfl⟩
   rw [hbb, wt_of W H R C k m M hW g0 g1 g2 bb, wt_of W H R C k m M hW g0 g1 g2 false, Int.toNat_natCast]
   unfold netM
   rw [hn, if_pos (show m < n ∧ M < n from ⟨hm, hM⟩)]
   by_cases a : M = m + 1
   ·rw [if_pos (show (M : Int) = (m : Int) + 1 by omega)]
    by_cases d : 0 < M % W
    ·rw [if_pos (by rw [← hbb]; exact decide_eq_true (by omega)), if_pos (show M = m + 1 ∧ 0 < M % W from ⟨a, d⟩)]
    ·rw [if_neg (by rw [← hbb, decide_eq_false (by omega)]; simp), if_neg (show ¬ (M = m + 1 ∧ 0 < M % W) from fun q => d q.2), if_neg (show ¬ (m = M + 1 ∧ 0 < m % W) by omega)]
     by_cases f : M = m + W
     ·rw [if_pos (show (M : Int) = (m : Int) + (W : Int) by omega), if_pos f]
     ·rw [if_neg (show ¬ (M : Int) = (m : Int) + (W : Int) by omega), if_neg f, if_neg (show ¬ m = M + W by omega)]
   ·rw [if_neg (show ¬ (M : Int) = (m : Int) + 1 by omega), if_neg (by simp), if_neg (show ¬ (M = m + 1 ∧ 0 < M % W) from fun q => a q.1), if_neg (show ¬ (m = M + 1 ∧ 0 < m % W) by omega)]
    by_cases f : M = m + W
    ·rw [if_pos (show (M : Int) = (m : Int) + (W : Int) by omega), if_pos f]
    ·rw [if_neg (show ¬ (M : Int) = (m : Int) + (W : Int) by omega), if_neg f, if_neg (show ¬ m = M + W by omega)]
  by_cases q : i ≤ j
  ·have e1 : mn (i : Int) (j : Int) = (i : Int) := by unfold mn; rw [if_neg (by omega)]
   have e2 : mx (i : Int) (j : Int) = (j : Int) := by unfold mx; split <;> omega
   rw [e1, e2]
   exact key i j hi hj q
  ·have e1 : mn (i : Int) (j : Int) = (j : Int) := by unfold mn; rw [if_pos (by omega)]
   have e2 : mx (i : Int) (j : Int) = (i : Int) := by unfold mx; rw [if_neg (by omega)]
   rw [e1, e2, netM_symm]
   exact key j i hj hi (by omega)
 ·have b2 : thermionref01_beyond.f c 0 ((n : Int) - 1) = some true := by
   unfold thermionref01_beyond.f
   by_cases q : c < 0
   ·rw [if_pos q]
   ·rw [if_neg q, decide_eq_true (by omega)]
  rw [obnd b2, if_neg hc, thermionref01_weight.j0, if_pos rfl]
section
variable {W H : Nat} {R : Bool} {C : List Int} {i : Nat}
def cand (W i : Nat) : List Int := if W = 1 then [(i : Int) - 1, (i : Int) + 1] else [(i : Int) - W, (i : Int) - 1, (i : Int) + 1, (i : Int) + W]
def aroundL (W H : Nat) (R : Bool) (i : Nat) : List Int := (cand W i).filter (fun c => decide (0 < wtR W H R i c))
theorem rd_at (l : List Int) (j : Nat) (h : j < l.length) : rd l (j : Int) = l[j] := by
 unfold rd
 rw [Int.toNat_natCast, List.getD_eq_getElem?_getD, List.getElem?_eq_getElem h]
 rfl
theorem around_go (hW : 1 ≤ W ∧ W ≤ 16) (hH : 1 ≤ H ∧ H ≤ 16) (hi : i < W * H) (l : List Int) (hl : l.length ≤ 100) : ∀ (d j : Nat) (acc : List Int) (k : Nat), j + d = l.length → acc.length ≤ j →
  thermionref01_around.l0 (k + d + 3) (i : Int) l acc (j : Int) (W : Int) (H : Int) R C = some (acc ++ (l.drop j).filter (fun c => decide (0 < wtR W H R i c)))
 | 0, j, acc, k, h, ha => by
  rw [show k + 0 + 3 = (k + 2) + 1 by omega, thermionref01_around.l0, if_neg (by omega), List.drop_eq_nil_of_le (by omega)]
  simp
 | d + 1, j, acc, k, h, ha => by
  have hj : j < l.length := by omega
  have hw : wrap64 ((j : Int) + 1) = ((j + 1 : Nat) : Int) := by rw [IntWalk.wrap64_in _ (by omega)]; omega
  rw [show k + (d + 1) + 3 = (k + d + 3) + 1 by omega, thermionref01_around.l0, if_pos (by omega), if_pos (by omega), rd_at l j hj, obnd (weight_eq hW hH R C hi l[j] (k + d + 1)), hw, List.drop_eq_getElem_cons hj, List.filter_cons]
  by_cases q : 0 < wtR W H R i l[j]
  ·rw [if_pos q, if_pos (by omega), around_go hW hH hi l hl d (j + 1) _ k (by omega) (by simp; omega), if_pos (by simpa using q)]
   simp
  ·rw [if_neg q, around_go hW hH hi l hl d (j + 1) _ k (by omega) (by omega), if_neg (by simpa using q)]
theorem around_eq (hW : 1 ≤ W ∧ W ≤ 16) (hH : 1 ≤ H ∧ H ≤ 16) (hi : i < W * H) (k : Nat) : thermionref01_around.f (k + 8) (W : Int) (H : Int) R C (i : Int) = some (aroundL W H R i) := by
 have hWH : W * H ≤ 256 := Nat.mul_le_mul hW.2 hH.2
 have v1 : wrap64 ((i : Int) - 1) = (i : Int) - 1 := IntWalk.wrap64_in _ (by omega)
 have v2 : wrap64 ((i : Int) + 1) = (i : Int) + 1 := IntWalk.wrap64_in _ (by omega)
 have v3 : wrap64 ((i : Int) - (W : Int)) = (i : Int) - W := IntWalk.wrap64_in _ (by omega)
 have v4 : wrap64 ((i : Int) + (W : Int)) = (i : Int) + W := IntWalk.wrap64_in _ (by omega)
 unfold thermionref01_around.f aroundL cand
 rw [v1, v2, v3, v4]
 by_cases q : W = 1
 ·rw [if_pos (show (W : Int) = 1 by omega), if_pos q, show k + 8 = (k + 7) + 1 by omega, thermionref01_around.j0]
  have := around_go (C := C) (R := R) hW hH hi [(i : Int) - 1, (i : Int) + 1] (by simp) 2 0 [] (k + 2) (by simp) (by simp)
  rw [show k + 2 + 2 + 3 = k + 7 by omega] at this
  exact this
 ·rw [if_neg (show ¬ (W : Int) = 1 by omega), if_neg q, show k + 8 = (k + 7) + 1 by omega, thermionref01_around.j0]
  have := around_go (C := C) (R := R) hW hH hi [(i : Int) - W, (i : Int) - 1, (i : Int) + 1, (i : Int) + W] (by simp) 4 0 [] k (by simp) (by simp)
  rw [show k + 4 + 3 = k + 7 by omega] at this
  exact this
theorem wt_up (hi : i < W * H) : wtR W H R i ((i : Int) - W) = if 0 < i / W then wgt R (i % W) true else 0 := by
 obtain ⟨hW, he, hx, hy⟩ := cell_at hi
 have hu := up_ge (W := W) (i := i) hW
 unfold wtR
 generalize hn : W * H = n at hi ⊢
 by_cases q : W ≤ i
 ·rw [if_pos (hu.2 q), if_pos (show 0 ≤ (i : Int) - W ∧ (i : Int) - W < (n : Int) by omega), show ((i : Int) - W).toNat = i - W by omega]
  unfold netM
  have hm : (i - W) % W = i % W := (Nat.mod_eq_sub_mod q).symm
  have h2 : ¬ (i = i - W + 1 ∧ 0 < i % W) := fun ⟨a, b⟩ => by
   have h1 : W = 1 := by omega
   subst h1
   rw [Nat.mod_one] at b
   omega
  rw [hn, if_pos (show i < n ∧ i - W < n by omega), if_neg (show ¬ (i - W = i + 1 ∧ 0 < (i - W) % W) by omega), if_neg h2, if_neg (show ¬ i - W = i + W by omega), if_pos (show i = i - W + W by omega), hm]
 ·rw [if_neg (fun h => q (hu.1 h)), if_neg (by omega)]
theorem wt_down (hi : i < W * H) : wtR W H R i ((i : Int) + W) = if i / W + 1 < H then wgt R (i % W) true else 0 := by
 obtain ⟨hW, he, hx, hy⟩ := cell_at hi
 have hd := down_lt hi
 unfold wtR
 generalize hn : W * H = n at hi hd ⊢
 by_cases q : i + W < n
 ·rw [if_pos (hd.2 q), if_pos (show 0 ≤ (i : Int) + W ∧ (i : Int) + W < (n : Int) by omega), show ((i : Int) + W).toNat = i + W by omega]
  unfold netM
  have h1 : ¬ (i + W = i + 1 ∧ 0 < (i + W) % W) := fun ⟨a, b⟩ => by
   have h1 : W = 1 := by omega
   subst h1
   rw [Nat.mod_one] at b
   omega
  rw [hn, if_pos (show i < n ∧ i + W < n by omega), if_neg h1, if_neg (show ¬ (i = i + W + 1 ∧ 0 < i % W) by omega), if_pos rfl]
 ·rw [if_neg (fun h => q (hd.1 h)), if_neg (by omega)]
theorem wt_left (hi : i < W * H) (h1 : 1 < W) : wtR W H R i ((i : Int) - 1) = if 0 < i % W then wgt R (i % W - 1) false else 0 := by
 obtain ⟨hW, he, hx, hy⟩ := cell_at hi
 unfold wtR
 generalize hn : W * H = n at hi ⊢
 by_cases q : 0 < i
 ·rw [if_pos (show 0 ≤ (i : Int) - 1 ∧ (i : Int) - 1 < (n : Int) by omega), show ((i : Int) - 1).toNat = i - 1 by omega]
  unfold netM
  rw [hn, if_pos (show i < n ∧ i - 1 < n by omega), if_neg (show ¬ (i - 1 = i + 1 ∧ 0 < (i - 1) % W) by omega)]
  by_cases r : 0 < i % W
  ·rw [if_pos (show i = i - 1 + 1 ∧ 0 < i % W from ⟨by omega, r⟩), if_pos r, (left_col r).1]
  ·rw [if_neg (show ¬ (i = i - 1 + 1 ∧ 0 < i % W) from fun h => r h.2), if_neg r, if_neg (show ¬ i - 1 = i + W by omega), if_neg (show ¬ i = i - 1 + W by omega)]
 ·obtain rfl : i = 0 := by omega
  rw [if_neg (by omega), Nat.zero_mod, if_neg (by omega)]
theorem wt_right (hi : i < W * H) (h1 : 1 < W) : wtR W H R i ((i : Int) + 1) = if i % W + 1 < W then wgt R (i % W) false else 0 := by
 obtain ⟨hW, he, hx, hy⟩ := cell_at hi
 have hr := right_mod (W := W) (i := i) hW
 have hl := fun h => right_lt (W := W) (H := H) (i := i) hi h
 unfold wtR
 generalize hn : W * H = n at hi hl ⊢
 by_cases q : i + 1 < n
 ·rw [if_pos (show 0 ≤ (i : Int) + 1 ∧ (i : Int) + 1 < (n : Int) by omega), show ((i : Int) + 1).toNat = i + 1 by omega]
  unfold netM
  rw [hn, if_pos (show i < n ∧ i + 1 < n by omega)]
  by_cases r : i % W + 1 < W
  ·rw [if_pos (show i + 1 = i + 1 ∧ 0 < (i + 1) % W from ⟨rfl, hr.2 r⟩), if_pos r]
  ·rw [if_neg (show ¬ (i + 1 = i + 1 ∧ 0 < (i + 1) % W) from fun h => r (hr.1 h.2)), if_neg (show ¬ (i = i + 1 + 1 ∧ 0 < i % W) by omega), if_neg (show ¬ i + 1 = i + W by omega), if_neg (show ¬ i = i + 1 + W by omega), if_neg r]
 ·rw [if_neg (show ¬ (0 ≤ (i : Int) + 1 ∧ (i : Int) + 1 < (n : Int)) by omega), if_neg (fun h => q (hl h))]
theorem under_if (g : Nat → Int) (p : Prop) [Decidable p] (j : Nat) (w : Int) : under g (if p then [(j, w)] else []) = (if p then w else 0) * g j := by
 split
 ·exact under_one g _
 ·rw [Int.zero_mul]; rfl
theorem cand_under (hi : i < W * H) (g : Nat → Int) : ((cand W i).map (fun c => wtR W H R i c * g c.toNat)).sum = under g (nbs W H R i) := by
 obtain ⟨hW, he, hx, hy⟩ := cell_at hi
 unfold cand nbs
 rw [under_append, under_append, under_append, under_if, under_if, under_if, under_if]
 have e1 : ((i : Int) - W).toNat = i - W := by omega
 have e2 : ((i : Int) - 1).toNat = i - 1 := by omega
 have e3 : ((i : Int) + 1).toNat = i + 1 := by omega
 have e4 : ((i : Int) + W).toNat = i + W := by omega
 by_cases q : W = 1
 ·rw [if_pos q]
  have u := wt_up (R := R) hi
  have d := wt_down (R := R) hi
  subst q
  have n1 : ¬ 0 < i % 1 := by omega
  have n2 : ¬ i % 1 + 1 < 1 := by omega
  rw [if_neg n1, if_neg n2]
  simp only [List.map_cons, List.map_nil, List.sum_cons, List.sum_nil]
  rw [show (i : Int) - 1 = (i : Int) - ((1 : Nat) : Int) from rfl, show (i : Int) + 1 = (i : Int) + ((1 : Nat) : Int) from rfl, u, d, e1, e4]
  omega
 ·have h1 : 1 < W := by omega
  rw [if_neg q]
  simp only [List.map_cons, List.map_nil, List.sum_cons, List.sum_nil]
  rw [wt_up hi, wt_down hi, wt_left hi h1, wt_right hi h1, e1, e2, e3, e4]
  omega
theorem sum_filter {l : List Int} {p : Int → Bool} {f : Int → Int} (h : ∀ c, c ∈ l → p c = false → f c = 0) : ((l.filter p).map f).sum = (l.map f).sum := by
 induction l with
 | nil => rfl
 | cons c l ih =>
  have ih := ih (fun x hx => h x (List.mem_cons_of_mem _ hx))
  rw [List.filter_cons]
  cases q : p c with
  | true => simp only [if_true, List.map_cons, List.sum_cons]; rw [ih]
  | false => simp only [Bool.false_eq_true, if_false, List.map_cons, List.sum_cons]; rw [ih, h c List.mem_cons_self q, Int.zero_add]
theorem around_under (hi : i < W * H) (g : Nat → Int) : ((aroundL W H R i).map (fun c => wtR W H R i c * g c.toNat)).sum = under g (nbs W H R i) := by
 rw [← cand_under hi g]
 refine sum_filter (fun c hc q => ?_)
 have h1 := wtR_nonneg W H R i c
 have h2 : ¬ 0 < wtR W H R i c := by simpa using q
 rw [show wtR W H R i c = 0 by omega, Int.zero_mul]
theorem netM_le (hW : W ≤ 16) (j : Nat) : netM W H R i j ≤ 32 := by
 unfold netM
 split
 ·rename_i h
  obtain ⟨hW0, _, hx, _⟩ := cell_at h.1
  obtain ⟨_, _, hy, _⟩ := cell_at h.2
  have a1 := wgt_le R (i % W) false (by omega)
  have a2 := wgt_le R (j % W) false (by omega)
  have a3 := wgt_le R (i % W) true (by omega)
  have a4 := wgt_le R (j % W) true (by omega)
  repeat' split
  all_goals omega
 ·omega
theorem around_mem {c : Int} (h : c ∈ aroundL W H R i) : 0 < wtR W H R i c ∧ 0 ≤ c ∧ c < ((W * H : Nat) : Int) := by
 have h1 := (List.mem_filter.1 h).2
 have h2 : 0 < wtR W H R i c := by simpa using h1
 refine ⟨h2, ?_⟩
 unfold wtR at h2
 split at h2
 ·assumption
 ·omega
theorem around_len : (aroundL W H R i).length ≤ 4 := by
 refine Nat.le_trans (List.length_filter_le _ _) ?_
 unfold cand
 split <;> simp
end
section
variable {W H : Nat} {R : Bool} {C : List Int} {i : Nat}
theorem wtR_le (hW : W ≤ 16) (c : Int) : wtR W H R i c ≤ 32 := by
 unfold wtR
 split
 ·exact netM_le hW _
 ·omega
end
end Go.Proofs.Ytndkkjpgnmahbaa.Print
end

section
namespace Go.Proofs.Ytndkkjpgnmahbaa.Print
open Go.RowKit Go.Proofs.YtndkkjpgnmahbaaW.PrintWords Go.Proofs.YtndkkjpgnmahbaaW.PrintLast Go.Proofs.YtndkkjpgnmahbaaW.PrintMore
attribute [local go_sem] max2_int min2_int max_two min_two max_three min_three max_four min_four
set_option linter.unusedVariables false
set_option linter.unusedSimpArgs false
def thermionref01_Down.f (a0 : Int) (a1 : Int) : Option (Int) := if a1 = 0 then (none) else (if (Int.tmod a0 a1) < 0 then (some (wrap64 ((wrap64 (Int.tdiv a0 a1)) - 1))) else (some (wrap64 (Int.tdiv a0 a1))))
def thermionref01_Up.f (a0 : Int) (a1 : Int) : Option (Int) := (thermionref01_Down.f (wrap64 (-a0)) a1).bind fun t398 => (some (wrap64 (-t398)))
end Go.Proofs.Ytndkkjpgnmahbaa.Print
end

section
namespace Go.Proofs.Ytndkkjpgnmahbaa.Print
open Go.RowKit Go.Proofs.YtndkkjpgnmahbaaW.PrintWords Go.Proofs.YtndkkjpgnmahbaaW.PrintLast Go.Proofs.YtndkkjpgnmahbaaW.PrintMore Go.Proofs.Ytndkkjpgnmahbaa.H Go.Proofs.Field
set_option linter.unusedVariables false
def Row4 (W : World) (base g c n : Nat) (l : List Int) : Prop := l.length = n ∧ Kd.R (Kd.int .i64) 3 W base (fun k => k = g) (.slice (some ⟨g, 0, none⟩) n c) l
namespace Row4
variable {W W1 : World} {base g c n : Nat} {l : List Int}
theorem below (h : Row4 W base g c n l) (hb : Below W.heap.size W W1) : Row4 W1 base g c n l := ⟨h.1, Kd.R_below h.2 hb⟩
theorem keep {g2 : Nat} (h : Row4 W base g c n l) (hk : KeepBut W W1 g2 none) (hne : g ≠ g2) : Row4 W1 base g c n l := ⟨h.1, Kd.R_keep h.2 hk (fun k e => by subst e; exact hne)⟩
theorem far (h : Row4 W base g c n l) {p : Addr} (hne : g ≠ p.block) (u : Value) : Row4 (W.setCell p u) base g c n l := ⟨h.1, Kd.R_far h.2 (fun k e => by subst e; exact hne) u⟩
theorem reads (h : Row4 W base g c n l) : Kd.C (Kd.int .i64) W (some ⟨g, 0, none⟩) l.length l ∧ n ≤ c := ⟨(Kd.R_reads' h.2).2.2, (Kd.R_reads' h.2).2.1⟩
theorem put (h : Row4 W base g c n l) (i : Nat) (x : Int) : Row4 (W.setCell ⟨g, i, none⟩ (.int .i64 x)) base g c n (l.set i x) := by
 obtain ⟨e, h⟩ := h
 refine ⟨by rw [List.length_set]; exact e, ?_⟩
 exact Kd.R_putn (enc := Value.int .i64) (h1 := fun _ => rfl) h (i : Int) x
theorem cell (h : Row4 W base g c n l) {i : Nat} (hi : i < n) : W.cell? ⟨g, i, none⟩ = some (.int .i64 (fn l i)) ∧ W.frozen? ⟨g, i, none⟩ = false := by
 exact Kd.R_celln (enc := Value.int .i64) (h1 := fun _ => rfl) (0 : Int) h.2 (i : Int) (by omega) (by omega)
theorem ge (h : Row4 W base g c n l) : base ≤ g := Kd.R_base h.2 g rfl
theorem lt (h : Row4 W base g c n l) : g < W.heap.size := Kd.R_lt h.2 g rfl
end Row4
end Go.Proofs.Ytndkkjpgnmahbaa.Print
end

section
namespace Go.Proofs.Field
structure SwOk (up : Bool) (W H : Nat) (R : Bool) (C : List Int) (b : List Int) : Prop where
 len : b.length = C.length
 range : ∀ i, i ≤ C.length → ∀ j, j < C.length → -1000000 ≤ fn (sweepTo up W H R C b i).1 j ∧ fn (sweepTo up W H R C b i).1 j ≤ 1000000
end Go.Proofs.Field
namespace Go.Proofs.Ytndkkjpgnmahbaa.Print
open Go.RowKit Go.Proofs.YtndkkjpgnmahbaaW.PrintWords Go.Proofs.YtndkkjpgnmahbaaW.PrintLast Go.Proofs.YtndkkjpgnmahbaaW.PrintMore Go.Proofs.Ytndkkjpgnmahbaa.H Go.Proofs.Field
set_option linter.unusedVariables false
structure RW (w0 w W : World) (gp gf : Nat) (pv fv : Array Value) (g1 c1 g2 c2 n : Nat) (lo hi : List Int) : Prop where
 old : Below w0.heap.size w0 W
 keep : KeepBut w W g1 (some g2)
 p : W.heap[gp]? = some (.cells pv 24 (0, 0))
 f : W.heap[gf]? = some (.cells fv 33 (0, 0))
 r1 : Row4 W w0.heap.size g1 c1 n lo
 r2 : Row4 W w0.heap.size g2 c2 n hi
 ne : g1 ≠ g2
 np : gp ≠ g1 ∧ gp ≠ g2 ∧ gf ≠ g1 ∧ gf ≠ g2
namespace RW
variable {w0 w W W1 : World} {gp gf : Nat} {pv fv : Array Value} {g1 c1 g2 c2 n : Nat} {lo hi : List Int}
theorem step (h : RW w0 w W gp gf pv fv g1 c1 g2 c2 n lo hi) (hb : Below W.heap.size W W1) : RW w0 w W1 gp gf pv fv g1 c1 g2 c2 n lo hi :=
 ⟨below_step h.old hb, h.keep.trans (KeepBut.of_below hb g1 (some g2)) (.inl rfl), blk_below h.p hb, blk_below h.f hb, h.r1.below hb, h.r2.below hb, h.ne, h.np⟩
theorem put1 (h : RW w0 w W gp gf pv fv g1 c1 g2 c2 n lo hi) (i : Nat) (x : Int) : RW w0 w (W.setCell ⟨g1, i, none⟩ (.int .i64 x)) gp gf pv fv g1 c1 g2 c2 n (lo.set i x) hi :=
 ⟨below_set h.old h.r1.ge, h.keep.set_ i _, blk_far (p := ⟨g1, i, none⟩) h.p h.np.1 _, blk_far (p := ⟨g1, i, none⟩) h.f h.np.2.2.1 _, h.r1.put i x, h.r2.far (p := ⟨g1, i, none⟩) h.ne.symm _, h.ne, h.np⟩
end RW
end Go.Proofs.Ytndkkjpgnmahbaa.Print
end

section
namespace Go.Proofs.Ytndkkjpgnmahbaa.Print
open Go.RowKit Go.Proofs.YtndkkjpgnmahbaaW.PrintWords Go.Proofs.YtndkkjpgnmahbaaW.PrintLast Go.Proofs.YtndkkjpgnmahbaaW.PrintMore Go.Proofs.Ytndkkjpgnmahbaa.H Go.Proofs.Field
attribute [local go_sem] max2_int min2_int max_two min_two max_three min_three max_four min_four
set_option linter.unusedVariables false
set_option linter.unusedSimpArgs false
end Go.Proofs.Ytndkkjpgnmahbaa.Print
end

section
namespace Go.Proofs.Field
section
variable {W H : Nat} {R : Bool} {C v : List Int}
end
end Go.Proofs.Field
namespace Go.Proofs.Ytndkkjpgnmahbaa.Print
open Go.RowKit Go.Proofs.YtndkkjpgnmahbaaW.PrintWords Go.Proofs.YtndkkjpgnmahbaaW.PrintLast Go.Proofs.YtndkkjpgnmahbaaW.PrintMore Go.Proofs.Field
set_option linter.unusedVariables false
end Go.Proofs.Ytndkkjpgnmahbaa.Print
end

section
namespace Go.Proofs.Ytndkkjpgnmahbaa.Print
open Go.RowKit Go.Proofs.YtndkkjpgnmahbaaW.PrintWords Go.Proofs.YtndkkjpgnmahbaaW.PrintLast Go.Proofs.YtndkkjpgnmahbaaW.PrintMore Go.Proofs.Ytndkkjpgnmahbaa.H Go.Proofs.Field
set_option linter.unusedVariables false
structure Two (W : World) (base : Nat) (vL vH : Value) (lo hi : List Int) : Prop where
 l : Kd.R (Kd.int .i64) 3 W base (fun k => some k ≠ vH.ownBlock) vL lo
 h : Kd.R (Kd.int .i64) 3 W base (fun k => some k ≠ vL.ownBlock) vH hi
theorem R_turn {W w1 : World} {base : Nat} {u v v1 : Value} {xs : List Int} (h : Kd.R (Kd.int .i64) 3 W base (fun k => some k ≠ v.ownBlock) u xs) (hg : W.grownBy w1 v.ownBlock) (hat : v1.ownBlock = v.ownBlock ∨ ∃ b, v1.ownBlock = some b ∧ W.heap.size ≤ b) : Kd.R (Kd.int .i64) 3 w1 base (fun k => some k ≠ v1.ownBlock) u xs :=
 Kd.R_mono (Kd.R_after (ok := fun _ => True) (Kd.R_mono h (fun k hk => ⟨trivial, hk⟩)) hg hat) (fun k hk => hk.2)
structure BS (w W : World) (g2 g4 g8 : Nat) (pv z4 fv : Array Value) (vL vH : Value) (lo hi : List Int) : Prop where
 below : Below w.heap.size w W
 p : W.heap[g2]? = some (.cells pv 24 (0, 0))
 o : W.heap[g4]? = some (.cells z4 33 (0, 0))
 f : W.heap[g8]? = some (.cells fv 33 (0, 0))
 t : Two W w.heap.size vL vH lo hi
 ne : g4 ≠ g8
 ge : w.heap.size ≤ g8 ∧ w.heap.size ≤ g4
namespace BS
variable {w W W1 : World} {g2 g4 g8 : Nat} {pv z4 fv : Array Value} {vL vH v1 : Value} {lo hi l2 : List Int}
theorem step (h : BS w W g2 g4 g8 pv z4 fv vL vH lo hi) (hb : Below W.heap.size W W1) : BS w W1 g2 g4 g8 pv z4 fv vL vH lo hi :=
 ⟨below_step h.below hb, blk_below h.p hb, blk_below h.o hb, blk_below h.f hb, ⟨Kd.R_below h.t.l hb, Kd.R_below h.t.h hb⟩, h.ne, h.ge⟩
theorem blkL (h : BS w W g2 g4 g8 pv z4 fv vL vH lo hi) (hg : W.grownBy W1 vL.ownBlock) {g : Nat} {cs : Array Value} {t : Nat} (hk : W.heap[g]? = some (.cells cs t (0, 0))) (ht : (3 : Nat) ≠ t) : W1.heap[g]? = some (.cells cs t (0, 0)) :=
 (hg.block g (blk_lt hk) (Kd.R_ne h.t.l hk ht)).trans hk
theorem growL (h : BS w W g2 g4 g8 pv z4 fv vL vH lo hi) (hR : Kd.R (Kd.int .i64) 3 W1 w.heap.size (fun k => some k ≠ vH.ownBlock) v1 l2) (hB : Below w.heap.size w W1) (hg : W.grownBy W1 vL.ownBlock) (hat : v1.ownBlock = vL.ownBlock ∨ ∃ b, v1.ownBlock = some b ∧ W.heap.size ≤ b) : BS w W1 g2 g4 g8 pv z4 fv v1 vH l2 hi :=
 ⟨hB, h.blkL hg h.p (by decide), h.blkL hg h.o (by decide), h.blkL hg h.f (by decide), ⟨hR, R_turn h.t.h hg hat⟩, h.ne, h.ge⟩
theorem put (h : BS w W g2 g4 g8 pv z4 fv vL vH lo hi) (i : Nat) (u : Value) {fv' : Array Value} (e : fv.setIfInBounds i u = fv') : BS w (W.setCell ⟨g8, i, none⟩ u) g2 g4 g8 pv z4 fv' vL vH lo hi := by
 subst e
 refine ⟨below_set h.below h.ge.1, blk_far (p := ⟨g8, i, none⟩) h.p (blk_ne h.p h.f (by decide)) _, blk_far (p := ⟨g8, i, none⟩) h.o h.ne _, ?_, ⟨?_, ?_⟩, h.ne, h.ge⟩
 ·rw [blk_set h.f i]
 ·exact Kd.R_mono (Kd.R_far (p := ⟨g8, i, none⟩) (Kd.R_types h.t.l h.f (by decide)) (fun k hk => hk.2) u) (fun k hk => hk.1)
 ·exact Kd.R_mono (Kd.R_far (p := ⟨g8, i, none⟩) (Kd.R_types h.t.h h.f (by decide)) (fun k hk => hk.2) u) (fun k hk => hk.1)
end BS
structure Lit1 (W : World) (g : Nat) (x : Int) (vL vH : Value) : Prop where
 b : W.heap[g]? = some (.cells #[.int .i64 x] 3 (0, 0))
 l : some g ≠ vL.ownBlock
 h : some g ≠ vH.ownBlock
theorem Lit1.reads {W : World} {g : Nat} {x : Int} {vL vH : Value} (h : Lit1 W g x vL vH) : Kd.C (Kd.int .i64) W (some ⟨g, 0, none⟩) 1 [x] := C_of_cells (b := [x]) h.b (by simp)
theorem Lit1.step {W W1 : World} {g : Nat} {x : Int} {vL vH : Value} (h : Lit1 W g x vL vH) (hb : Below W.heap.size W W1) : Lit1 W1 g x vL vH := ⟨blk_below h.b hb, h.l, h.h⟩
theorem Lit1.growL {W W1 : World} {g : Nat} {x : Int} {vL vH v1 : Value} (h : Lit1 W g x vL vH) (hg : W.grownBy W1 vL.ownBlock) (hat : v1.ownBlock = vL.ownBlock ∨ ∃ b, v1.ownBlock = some b ∧ W.heap.size ≤ b) : Lit1 W1 g x v1 vH :=
 ⟨(hg.block g (blk_lt h.b) h.l).trans h.b, by
  rcases hat with e | ⟨b, e, hb⟩
  ·rw [e]; exact h.l
  ·rw [e]; intro q; have := Option.some.inj q; have := blk_lt h.b; omega, h.h⟩
theorem Lit1.make {w W : World} {g2 g4 g8 : Nat} {pv z4 fv : Array Value} {vL vH : Value} {lo hi : List Int} (h : BS w W g2 g4 g8 pv z4 fv vL vH lo hi) (x : Int) : Lit1 (W.alloc (.cells #[.int .i64 x] 3)) W.heap.size x vL vH :=
 ⟨blk_new _ _, Kd.fresh' (Kd.R_lt h.t.l) _ (Nat.le_refl _), Kd.fresh' (Kd.R_lt h.t.h) _ (Nat.le_refl _)⟩
end Go.Proofs.Ytndkkjpgnmahbaa.Print
end

section
namespace Go.Proofs.Ytndkkjpgnmahbaa.Print
open Go.RowKit Go.Proofs.YtndkkjpgnmahbaaW.PrintWords Go.Proofs.YtndkkjpgnmahbaaW.PrintLast Go.Proofs.YtndkkjpgnmahbaaW.PrintMore Go.Proofs.Ytndkkjpgnmahbaa.H Go.Proofs.Field
attribute [local go_sem] max2_int min2_int max_two min_two max_three min_three max_four min_four
set_option linter.unusedVariables false
set_option linter.unusedSimpArgs false
def rbF.T6 : Bool × List (List Nat × List Nat) := (true, [([], []), ([], []), ([], []), ([2], [2]), ([], []), ([3, 4], [3, 4]), ([5], [5]), ([6], [6]), ([1, 7], [1, 7]), ([8], [8]), ([0, 9], [0, 9]), ([], []), ([], []), ([], []), ([13], [13]), ([], []), ([14, 15], [14, 15]), ([16], [16]), ([17], [17]), ([12, 18], [12, 18]), ([19], [19]), ([11, 20], [11, 20]), ([10, 0, 1, 2, 3, 4, 5, 6, 7, 8, 9, 10], [0, 10]), ([21, 22, 0, 1, 2, 3, 4, 5, 6, 7, 8, 9, 10, 11, 12, 13, 14, 15, 16, 17, 18, 19, 20, 21, 22], [11, 21])])
def rbF.B6 : List Nat := [0, 0, 0, 4, 0, 28, 60, 124, 254, 510, 1023, 0, 0, 0, 8192, 0, 57344, 122880, 253952, 520192, 1044480, 2095104, 2047, 8388607]
theorem rbF.tab6 : rtab .any (opsOf Try.f74 6) = rbF.T6 := by kernel_rfl
theorem rbF.bits6 : waitsOk rbF.T6.2 rbF.B6 = true := by kernel_rfl
def rbF.T13 : Bool × List (List Nat × List Nat) := (true, [([], []), ([], []), ([1], [1]), ([], []), ([2, 3], [2, 3]), ([4], [4]), ([5], [5]), ([0, 6], [0, 6]), ([7], [7]), ([], []), ([], []), ([10], [10]), ([], []), ([11, 12], [11, 12]), ([13], [13]), ([14], [14]), ([9, 15], [9, 15]), ([16], [16]), ([8, 0, 1, 2, 3, 4, 5, 6, 7, 8], [8]), ([17, 18, 0, 1, 2, 3, 4, 5, 6, 7, 8, 9, 10, 11, 12, 13, 14, 15, 16, 17, 18], [17])])
def rbF.B13 : List Nat := [0, 0, 2, 0, 14, 30, 62, 127, 255, 0, 0, 1024, 0, 7168, 15360, 31744, 65024, 130560, 511, 524287]
theorem rbF.tab13 : rtab .any (opsOf Try.f74 13) = rbF.T13 := by kernel_rfl
theorem rbF.bits13 : waitsOk rbF.T13.2 rbF.B13 = true := by kernel_rfl
def rbF.T14 : Bool × List (List Nat × List Nat) := (true, [([], []), ([0], [0]), ([], []), ([2], [2]), ([1, 3], [1, 3]), ([], []), ([5], [5]), ([], []), ([7], [7]), ([6, 8, 4], [6, 8]), ([0, 1, 2, 3, 4, 5, 6], []), ([10, 4, 9, 0, 1, 2, 3, 4, 5, 6], [4, 10]), ([0, 1, 2, 3, 4, 5, 6, 7, 8, 9, 10, 11], []), ([12, 9, 11, 0, 1, 2, 3, 4, 5, 6, 7, 8, 9, 10, 11], [9, 12])])
def rbF.B14 : List Nat := [0, 1, 0, 4, 15, 0, 32, 0, 128, 511, 127, 2047, 4095, 8191]
theorem rbF.tab14 : rtab .any (opsOf Try.f74 14) = rbF.T14 := by kernel_rfl
theorem rbF.bits14 : waitsOk rbF.T14.2 rbF.B14 = true := by kernel_rfl
theorem BS.row {w W : World} {g2 g4 g8 : Nat} {pv z4 fv : Array Value} {vL vH : Value} {lo hi : List Int} (h : BS w W g2 g4 g8 pv z4 fv vL vH lo hi) (cs : Array Value) : Two (W.setRow g4 cs) w.heap.size vL vH lo hi ∧ Below w.heap.size w (W.setRow g4 cs) := by
 refine ⟨⟨?_, ?_⟩, ?_⟩
 ·exact Kd.R_mono (Kd.R_step (Kd.R_types h.t.l h.o (by decide)) (fun k hk _ => setRow_other _ _ _ _ hk.2)) (fun k hk => hk.1)
 ·exact Kd.R_mono (Kd.R_step (Kd.R_types h.t.h h.o (by decide)) (fun k hk _ => setRow_other _ _ _ _ hk.2)) (fun k hk => hk.1)
 ·exact ⟨h.below.os, h.below.tape, h.below.output, by rw [size_setRow]; exact h.below.size, fun i hi => by rw [setRow_other _ g4 i _ (by have := h.ge.2; omega)]; exact h.below.block i hi⟩
end Go.Proofs.Ytndkkjpgnmahbaa.Print
end

section
namespace Go.Proofs.Ytndkkjpgnmahbaa.Print
open Go.RowKit Go.Proofs.YtndkkjpgnmahbaaW.PrintWords Go.Proofs.YtndkkjpgnmahbaaW.PrintLast Go.Proofs.YtndkkjpgnmahbaaW.PrintMore
attribute [local go_sem] max2_int min2_int max_two min_two max_three min_three max_four min_four
set_option linter.unusedVariables false
set_option linter.unusedSimpArgs false
mutual
def thermionref01_held.l0 : Nat → List Bool → Int → Int → Int → Bool → List Int → Option (List Bool)
 | 0, _, _, _, _, _, _ => none
 | k + 1, x3, x4, x261000, x261001, x261002, x261003 => if x4 < (x261003.length : Int) then (if 0 ≤ x4 then (if x4 < (x3.length : Int) then (thermionref01_held.l0 k (x3.set (x4 : Int).toNat (decide ((rd x261003 x4) > 0))) (wrap64 (x4 + 1)) x261000 x261001 x261002 x261003) else (none)) else (none)) else (thermionref01_held.l1 k x3 true x261000 x261001 x261002 x261003)
def thermionref01_held.l1 : Nat → List Bool → Bool → Int → Int → Bool → List Int → Option (List Bool)
 | 0, _, _, _, _, _, _ => none
 | k + 1, x3, x5, x261000, x261001, x261002, x261003 => if x5 = true then (thermionref01_held.l2 k x3 false 0 x261000 x261001 x261002 x261003) else (some x3)
def thermionref01_held.l2 : Nat → List Bool → Bool → Int → Int → Int → Bool → List Int → Option (List Bool)
 | 0, _, _, _, _, _, _, _ => none
 | k + 1, x3, x5, x6, x261000, x261001, x261002, x261003 => if x6 < (x261003.length : Int) then ((thermionref01_around.f k x261000 x261001 x261002 x261003 x6).bind fun t266 => (thermionref01_held.l3 k x3 x5 x6 t266 0 x261000 x261001 x261002 x261003)) else (thermionref01_held.l1 k x3 x5 x261000 x261001 x261002 x261003)
def thermionref01_held.l3 : Nat → List Bool → Bool → Int → List Int → Int → Int → Int → Bool → List Int → Option (List Bool)
 | 0, _, _, _, _, _, _, _, _, _ => none
 | k + 1, x3, x5, x6, x7, x8, x261000, x261001, x261002, x261003 => if x8 < (x7.length : Int) then (if 0 ≤ x8 then (if 0 ≤ (rd x7 x8) then (if (rd x7 x8) < (x3.length : Int) then (if rdOf false x3 (rd x7 x8) = true then (if 0 ≤ x6 then (if x6 < (x3.length : Int) then (if rdOf false x3 x6 = true then (thermionref01_held.l3 k x3 x5 x6 x7 (wrap64 (x8 + 1)) x261000 x261001 x261002 x261003) else (thermionref01_held.l3 k (x3.set (x6 : Int).toNat true) true x6 x7 (wrap64 (x8 + 1)) x261000 x261001 x261002 x261003)) else (none)) else (none)) else (thermionref01_held.l3 k x3 x5 x6 x7 (wrap64 (x8 + 1)) x261000 x261001 x261002 x261003)) else (none)) else (none)) else (none)) else (thermionref01_held.l2 k x3 x5 (wrap64 (x6 + 1)) x261000 x261001 x261002 x261003)
end
def thermionref01_held.f (k : Nat) (a0_0 : Int) (a0_1 : Int) (a0_2 : Bool) (l0_3 : List Int) : Option (List Bool) := if 0 ≤ (l0_3.length : Int) then (if ((l0_3.length : Int) : Int).toNat ≤ 281474976710656 then (thermionref01_held.l0 k (List.replicate ((l0_3.length : Int) : Int).toNat false) 0 a0_0 a0_1 a0_2 l0_3) else (none)) else (none)
mutual
def thermionref01_Check.j0 : Nat → Bool → Int → Int → Bool → List Int → Option (Int)
 | 0, _, _, _, _, _ => none
 | k + 1, x14, x274000, x274001, x274002, x274003 => if x14 = true then (some 2) else (if (x274003.length : Int) = (wrap64 (x274000 * x274001)) then (thermionref01_Check.l0 k false 0 x274000 x274001 x274002 x274003) else (some 3))
def thermionref01_Check.l0 : Nat → Bool → Int → Int → Int → Bool → List Int → Option (Int)
 | 0, _, _, _, _, _, _ => none
 | k + 1, x3, x4, x274000, x274001, x274002, x274003 => if x4 < (x274003.length : Int) then (if 0 ≤ x4 then ((thermionref01_beyond.f (rd x274003 x4) 0 6).bind fun t277 => (if t277 = true then (some 2) else (if x3 = true then (thermionref01_Check.l0 k true (wrap64 (x4 + 1)) x274000 x274001 x274002 x274003) else (thermionref01_Check.l0 k (decide ((rd x274003 x4) > 0)) (wrap64 (x4 + 1)) x274000 x274001 x274002 x274003)))) else (none)) else (if x3 = true then ((thermionref01_held.f k x274000 x274001 x274002 x274003).bind fun t279 => (thermionref01_Check.l1 k t279 0)) else (some 7))
def thermionref01_Check.l1 : Nat → List Bool → Int → Option (Int)
 | 0, _, _ => none
 | k + 1, x5, x6 => if x6 < (x5.length : Int) then (if 0 ≤ x6 then (if rdOf false x5 x6 = true then (thermionref01_Check.l1 k x5 (wrap64 (x6 + 1))) else (some 13)) else (none)) else (some 0)
end
def thermionref01_Check.f (k : Nat) (a0_0 : Int) (a0_1 : Int) (a0_2 : Bool) (l0_3 : List Int) : Option (Int) := (thermionref01_beyond.f a0_0 1 16).bind fun t274 => (if t274 = true then (thermionref01_Check.j0 k true a0_0 a0_1 a0_2 l0_3) else ((thermionref01_beyond.f a0_1 1 16).bind fun t275 => (thermionref01_Check.j0 k t275 a0_0 a0_1 a0_2 l0_3)))
def thermionref01_greatest.l0 : Nat → Int → Int → Int → Int → Bool → List Int → Option (Int)
 | 0, _, _, _, _, _, _ => none
 | k + 1, x3, x4, x284000, x284001, x284002, x284003 => if x4 < (x284003.length : Int) then (if 0 ≤ x4 then (thermionref01_greatest.l0 k (mx x3 (rd x284003 x4)) (wrap64 (x4 + 1)) x284000 x284001 x284002 x284003) else (none)) else (some x3)
def thermionref01_greatest.f (k : Nat) (a0_0 : Int) (a0_1 : Int) (a0_2 : Bool) (l0_3 : List Int) : Option (Int) := thermionref01_greatest.l0 k 0 0 a0_0 a0_1 a0_2 l0_3

end Go.Proofs.Ytndkkjpgnmahbaa.Print
end

section
namespace Go.Proofs.Ytndkkjpgnmahbaa.Print
open Go.RowKit Go.Proofs.YtndkkjpgnmahbaaW.PrintWords Go.Proofs.YtndkkjpgnmahbaaW.PrintLast Go.Proofs.YtndkkjpgnmahbaaW.PrintMore Go.Proofs.Field
set_option linter.unusedVariables false
def Ev {α : Type} (f : Nat → Option α) (r : α) : Prop := ∃ K, ∀ k, K ≤ k → f k = some r
theorem Ev.step {α : Type} {f g : Nat → Option α} {r : α} (hg : Ev g r) (K0 : Nat) (h : ∀ k, K0 ≤ k → f (k + 1) = g k) : Ev f r := by
 obtain ⟨K, hK⟩ := hg
 refine ⟨K + K0 + 1, fun k hk => ?_⟩
 obtain ⟨k, rfl⟩ : ∃ k', k = k' + 1 := ⟨k - 1, by omega⟩
 rw [h k (by omega)]
 exact hK k (by omega)
theorem Ev.now {α : Type} {f : Nat → Option α} {r : α} (h : ∀ k, f (k + 1) = some r) : Ev f r := ⟨1, fun k hk => by
 obtain ⟨k, rfl⟩ : ∃ k', k = k' + 1 := ⟨k - 1, by omega⟩
 exact h k⟩
section
variable {W H : Nat} {R : Bool} {C : List Int}
def unmarked (b : List Bool) (n : Nat) : Nat := unseen b n
theorem unmarked_set {b : List Bool} {i : Nat} (h : b.getD i false = false) (hi : i < b.length) : ∀ n, unmarked (b.set i true) n + (if i < n then 1 else 0) = unmarked b n
 | 0 => by rw [if_neg (by omega)]; rfl
 | n + 1 => by
  have ih := unmarked_set h hi n
  unfold unmarked at ih ⊢
  rw [unseen, unseen, getD_set hi]
  by_cases q : n = i
  ·subst q
   rw [if_neg (Nat.lt_irrefl n)] at ih
   rw [if_pos (show n = n from rfl), if_pos (show true = true from rfl), if_pos (show n < n + 1 by omega), h, if_neg (show ¬ false = true by simp)]
   omega
  ·rw [if_neg (show ¬ n = i from q)]
   by_cases r : i < n
   ·rw [if_pos (show i < n from r)] at ih; rw [if_pos (show i < n + 1 by omega)]; omega
   ·rw [if_neg (show ¬ i < n from r)] at ih; rw [if_neg (show ¬ i < n + 1 by omega)]; omega
def hput (i : Nat) (s : List Bool × Bool) (c : Int) : List Bool × Bool := if s.1.getD c.toNat false = true then (if s.1.getD i false = true then s else (s.1.set i true, true)) else s
structure Grow (W H : Nat) (R : Bool) (C : List Int) (s t : List Bool × Bool) : Prop where
 len : t.1.length = s.1.length
 mono : ∀ j, s.1.getD j false = true → t.1.getD j false = true
 sound : (∀ j, j < W * H → s.1.getD j false = true → (net W H R C).Reach j) → ∀ j, j < W * H → t.1.getD j false = true → (net W H R C).Reach j
 flag : t = s ∨ (t.2 = true ∧ unmarked t.1 (W * H) < unmarked s.1 (W * H))
namespace Grow
variable {s t u : List Bool × Bool}
theorem refl (s : List Bool × Bool) : Grow W H R C s s := ⟨rfl, fun _ h => h, fun h => h, .inl rfl⟩
theorem trans (h : Grow W H R C s t) (k : Grow W H R C t u) : Grow W H R C s u := by
 refine ⟨k.len.trans h.len, fun j hj => k.mono j (h.mono j hj), fun hs => k.sound (h.sound hs), ?_⟩
 rcases h.flag with rfl | ⟨a, b⟩
 ·exact k.flag
 ·rcases k.flag with rfl | ⟨c, d⟩
  ·exact .inr ⟨a, b⟩
  ·exact .inr ⟨c, by omega⟩
end Grow
theorem hput_grow {i : Nat} (hi : i < W * H) {s : List Bool × Bool} (hl : s.1.length = W * H) {c : Int} (hc : c ∈ aroundL W H R i) : Grow W H R C s (hput i s c) := by
 unfold hput
 split
 ·rename_i q
  split
  ·exact Grow.refl s
  ·rename_i r
   have r' : s.1.getD i false = false := by simpa using r
   have hil : i < s.1.length := by omega
   refine ⟨by simp, fun j hj => ?_, fun hs j hj hm => ?_, .inr ⟨rfl, ?_⟩⟩
   ·show (s.1.set i true).getD j false = true
    rw [getD_set hil]; split
    ·rfl
    ·exact hj
   ·have hm : (s.1.set i true).getD j false = true := hm
    rw [getD_set hil] at hm
    by_cases e : j = i
    ·subst e
     obtain ⟨h1, h2, h3⟩ := around_mem hc
     have h4 : wtR W H R j c = netM W H R j c.toNat := by unfold wtR; rw [if_pos ⟨h2, h3⟩]
     exact .step hj (by rw [h4] at h1; exact h1) (hs c.toNat (by omega) q)
    ·rw [if_neg e] at hm
     exact hs j hj hm
   ·have := unmarked_set r' hil (W * H)
    rw [if_pos hi] at this
    show unmarked (s.1.set i true) (W * H) < _
    omega
 ·exact Grow.refl s
theorem hputs_grow {i : Nat} (hi : i < W * H) : ∀ (l : List Int) (s : List Bool × Bool), s.1.length = W * H → (∀ c, c ∈ l → c ∈ aroundL W H R i) → Grow W H R C s (l.foldl (hput i) s)
 | [], s, _, _ => Grow.refl s
 | c :: l, s, hl, hc => by
  have h1 := hput_grow (C := C) hi hl (hc c List.mem_cons_self)
  exact h1.trans (hputs_grow hi l _ (by rw [h1.len]; exact hl) (fun x hx => hc x (List.mem_cons_of_mem _ hx)))
theorem hputs_done {i : Nat} : ∀ (l : List Int) (s : List Bool × Bool), (l.foldl (hput i) s = s) → s.2 = false → ∀ c, c ∈ l → s.1.getD c.toNat false = true → s.1.getD i false = true
 | [], s, _, _, c, hc, _ => by cases hc
 | a :: l, s, h, hf, c, hc, hm => by
  have keep : ∀ (l : List Int) (s : List Bool × Bool), s.2 = true → (l.foldl (hput i) s).2 = true := by
   intro l
   induction l with
   | nil => exact fun s h => h
   | cons a l ih =>
    intro s h
    refine ih _ ?_
    unfold hput
    split
    ·split
     ·exact h
     ·rfl
    ·exact h
  have ha : hput i s a = s := by
   unfold hput
   split
   ·rename_i q
    split
    ·rfl
    ·rename_i r
     exfalso
     have e : hput i s a = (s.1.set i true, true) := by unfold hput; rw [if_pos q, if_neg r]
     have := keep l (hput i s a) (by rw [e])
     rw [List.foldl_cons] at h
     rw [h, hf] at this
     cases this
   ·rfl
  rw [List.foldl_cons, ha] at h
  rcases List.mem_cons.1 hc with rfl | hc
  ·unfold hput at ha
   rw [if_pos hm] at ha
   by_cases r : s.1.getD i false = true
   ·exact r
   ·rw [if_neg r] at ha
    have := congrArg (·.2) ha
    simp [hf] at this
  ·exact hputs_done l s h hf c hc hm
def hcell (W H : Nat) (R : Bool) (s : List Bool × Bool) (i : Nat) : List Bool × Bool := (aroundL W H R i).foldl (hput i) s
def hround (W H : Nat) (R : Bool) (s : List Bool × Bool) : Nat → List Bool × Bool
 | 0 => s
 | n + 1 => hcell W H R (hround W H R s n) n
theorem hround_grow {s : List Bool × Bool} (hl : s.1.length = W * H) : ∀ n, n ≤ W * H → Grow W H R C s (hround W H R s n)
 | 0, _ => Grow.refl s
 | n + 1, hn => by
  have h1 : Grow W H R C s (hround W H R s n) := hround_grow hl n (by omega)
  exact h1.trans (hputs_grow (by omega) _ _ (by rw [h1.len]; exact hl) (fun c hc => hc))
theorem hround_still {s : List Bool × Bool} (hl : s.1.length = W * H) (hf : s.2 = false) : ∀ n, n ≤ W * H → (hround W H R s n).2 = false → hround W H R s n = s ∧ ∀ i, i < n → ∀ c, c ∈ aroundL W H R i → s.1.getD c.toNat false = true → s.1.getD i false = true
 | 0, _, _ => ⟨rfl, fun i hi => absurd hi (Nat.not_lt_zero i)⟩
 | n + 1, hn, h => by
  have g := hround_grow (R := R) (C := []) hl n (by omega)
  have h1 : Grow W H R [] (hround W H R s n) (hround W H R s (n + 1)) := hputs_grow (by omega) _ _ (by rw [g.len]; exact hl) (fun c hc => hc)
  have e : hround W H R s (n + 1) = hround W H R s n := by
   rcases h1.flag with e | ⟨a, _⟩
   ·exact e
   ·rw [h] at a; cases a
  obtain ⟨e2, h2⟩ := hround_still hl hf n (by omega) (by rw [← e]; exact h)
  refine ⟨e.trans e2, fun i hi c hc hm => ?_⟩
  by_cases q : i = n
  ·subst q
   have e3 : (aroundL W H R i).foldl (hput i) s = s := by
    have : hround W H R s (i + 1) = s := e.trans e2
    rw [hround, hcell, e2] at this
    exact this
   exact hputs_done _ s e3 hf c hc hm
  ·exact h2 i (by omega) c hc hm
end
end Go.Proofs.Ytndkkjpgnmahbaa.Print
end

section
namespace Go.Proofs.Ytndkkjpgnmahbaa.Print
open Go.RowKit Go.Proofs.YtndkkjpgnmahbaaW.PrintWords Go.Proofs.YtndkkjpgnmahbaaW.PrintLast Go.Proofs.YtndkkjpgnmahbaaW.PrintMore Go.Proofs.Field
set_option linter.unusedVariables false
section
variable {W H : Nat} {R : Bool} {C : List Int}
theorem held_l3 {i : Nat} (hi : i < W * H) (hWH : W * H ≤ 256) {l : List Int} (hl : l.length ≤ 100) (hm : ∀ c, c ∈ l → 0 ≤ c ∧ c < ((W * H : Nat) : Int)) {r : List Bool} :
  ∀ (d j : Nat) (s : List Bool × Bool), j + d = l.length → s.1.length = W * H → Ev (fun k => thermionref01_held.l2 k ((l.drop j).foldl (hput i) s).1 ((l.drop j).foldl (hput i) s).2 (wrap64 ((i : Int) + 1)) (W : Int) (H : Int) R C) r →
  Ev (fun k => thermionref01_held.l3 k s.1 s.2 (i : Int) l (j : Int) (W : Int) (H : Int) R C) r
 | 0, j, s, h, hs, he => by
  rw [List.drop_eq_nil_of_le (by omega)] at he
  refine he.step 0 (fun k _ => ?_)
  show thermionref01_held.l3 (k + 1) _ _ _ _ _ _ _ _ _ = _
  rw [thermionref01_held.l3, if_neg (by omega)]
  rfl
 | d + 1, j, s, h, hs, he => by
  have hj : j < l.length := by omega
  have hw : wrap64 ((j : Int) + 1) = ((j + 1 : Nat) : Int) := by rw [IntWalk.wrap64_in _ (by omega)]; omega
  obtain ⟨c0, c1⟩ := hm l[j] (List.getElem_mem hj)
  rw [List.drop_eq_getElem_cons hj, List.foldl_cons] at he
  have hs2 : (hput i s l[j]).1.length = W * H := by
   unfold hput
   split
   ·split
    ·exact hs
    ·simpa using hs
   ·exact hs
  refine (held_l3 hi hWH hl hm d (j + 1) (hput i s l[j]) (by omega) hs2 he).step 0 (fun k _ => ?_)
  show thermionref01_held.l3 (k + 1) _ _ _ _ _ _ _ _ _ = _
  rw [thermionref01_held.l3, if_pos (by omega), if_pos (by omega), rd_at l j hj, if_pos c0, if_pos (by omega), hw]
  show (if s.1.getD l[j].toNat false = true then _ else _) = _
  unfold hput
  by_cases q : s.1.getD l[j].toNat false = true
  ·rw [if_pos q, if_pos q, if_pos (by omega), if_pos (by omega)]
   show (if s.1.getD (i : Int).toNat false = true then _ else _) = _
   rw [Int.toNat_natCast]
   by_cases p : s.1.getD i false = true
   ·rw [if_pos p, if_pos p]
   ·rw [if_neg p, if_neg p]
  ·rw [if_neg q, if_neg q]
theorem held_l2 (hW : 1 ≤ W ∧ W ≤ 16) (hH : 1 ≤ H ∧ H ≤ 16) (hC : C.length = W * H) {r : List Bool} {s : List Bool × Bool} (hs : s.1.length = W * H)
  (he : Ev (fun k => thermionref01_held.l1 k (hround W H R s (W * H)).1 (hround W H R s (W * H)).2 (W : Int) (H : Int) R C) r) : ∀ d n, n + d = W * H → Ev (fun k => thermionref01_held.l2 k (hround W H R s n).1 (hround W H R s n).2 (n : Int) (W : Int) (H : Int) R C) r
 | 0, n, h => by
  obtain rfl : n = W * H := by omega
  refine he.step 0 (fun k _ => ?_)
  show thermionref01_held.l2 (k + 1) _ _ _ _ _ _ _ = _
  rw [thermionref01_held.l2, if_neg (by omega)]
 | d + 1, n, h => by
  have hWH : W * H ≤ 256 := Nat.mul_le_mul hW.2 hH.2
  have hw : wrap64 ((n : Int) + 1) = ((n + 1 : Nat) : Int) := by rw [IntWalk.wrap64_in _ (by omega)]; omega
  have ih := held_l2 hW hH hC hs he d (n + 1) (by omega)
  have hlen := around_len (W := W) (H := H) (R := R) (i := n)
  have g := hround_grow (R := R) (C := C) hs n (by omega)
  have h3 := held_l3 (R := R) (C := C) (i := n) (l := aroundL W H R n) (r := r) (by omega) hWH (by omega) (fun c hc => (around_mem hc).2) (aroundL W H R n).length 0 (hround W H R s n) (by omega) (by rw [g.len]; exact hs) (by rw [List.drop_zero, hw]; exact ih)
  refine h3.step 8 (fun k hk => ?_)
  obtain ⟨k, rfl⟩ : ∃ k', k = k' + 8 := ⟨k - 8, by omega⟩
  show thermionref01_held.l2 (k + 8 + 1) _ _ _ _ _ _ _ = _
  rw [thermionref01_held.l2, if_pos (by omega), obnd (around_eq hW hH (by omega) k)]
  rfl
theorem held_l1 (hW : 1 ≤ W ∧ W ≤ 16) (hH : 1 ≤ H ∧ H ≤ 16) (hC : C.length = W * H) : ∀ (m : Nat) (b : List Bool), b.length = W * H → unmarked b (W * H) ≤ m → (∀ j, j < W * H → b.getD j false = true → (net W H R C).Reach j) →
  ∃ r, Ev (fun k => thermionref01_held.l1 k b true (W : Int) (H : Int) R C) r ∧ r.length = W * H ∧ (∀ j, j < W * H → r.getD j false = true → (net W H R C).Reach j) ∧ (∀ j, b.getD j false = true → r.getD j false = true) ∧ ∀ i, i < W * H → ∀ c, c ∈ aroundL W H R i → r.getD c.toNat false = true → r.getD i false = true := fun m => by
 induction m with
 | zero =>
  intro b hb hu hs
  have g := hround_grow (R := R) (C := C) (s := (b, false)) hb (W * H) (Nat.le_refl _)
  have e : (hround W H R (b, false) (W * H)).2 = false := by
   rcases g.flag with e | ⟨_, e⟩
   ·rw [e]
   ·have e : unmarked _ _ < unmarked b (W * H) := e
    omega
  obtain ⟨e2, h2⟩ := hround_still (R := R) (s := (b, false)) hb rfl (W * H) (Nat.le_refl _) e
  refine ⟨b, ?_, hb, hs, fun j h => h, h2⟩
  refine Ev.step (held_l2 (C := C) (R := R) hW hH hC (s := (b, false)) hb ?_ (W * H) 0 (by omega)) 0 (fun k _ => ?_)
  ·rw [e2]
   refine Ev.now (fun k => ?_)
   rw [thermionref01_held.l1, if_neg (by simp)]
  ·show thermionref01_held.l1 (k + 1) _ _ _ _ _ _ = _
   rw [thermionref01_held.l1, if_pos rfl]
   rfl
 | succ m ih =>
  intro b hb hu hs
  have g := hround_grow (R := R) (C := C) (s := (b, false)) hb (W * H) (Nat.le_refl _)
  have start : ∀ r, Ev (fun k => thermionref01_held.l1 k (hround W H R (b, false) (W * H)).1 (hround W H R (b, false) (W * H)).2 (W : Int) (H : Int) R C) r → Ev (fun k => thermionref01_held.l1 k b true (W : Int) (H : Int) R C) r := fun r he => by
   refine Ev.step (held_l2 (C := C) (R := R) hW hH hC (s := (b, false)) hb he (W * H) 0 (by omega)) 0 (fun k _ => ?_)
   show thermionref01_held.l1 (k + 1) _ _ _ _ _ _ = _
   rw [thermionref01_held.l1, if_pos rfl]
   rfl
  cases e : (hround W H R (b, false) (W * H)).2 with
  | false =>
   obtain ⟨e2, h2⟩ := hround_still (R := R) (s := (b, false)) hb rfl (W * H) (Nat.le_refl _) e
   refine ⟨b, start b ?_, hb, hs, fun j h => h, h2⟩
   rw [e2]
   refine Ev.now (fun k => ?_)
   rw [thermionref01_held.l1, if_neg (by simp)]
  | true =>
   have hlt : unmarked (hround W H R (b, false) (W * H)).1 (W * H) < unmarked b (W * H) := by
    rcases g.flag with q | ⟨_, q⟩
    ·rw [q] at e; cases e
    ·exact q
   obtain ⟨r, h1, h2, h3, h4, h5⟩ := ih (hround W H R (b, false) (W * H)).1 (by rw [g.len]; exact hb) (by omega) (g.sound hs)
   exact ⟨r, start r (by rw [e]; exact h1), h2, h3, fun j hj => h4 j (g.mono j hj), h5⟩
def seedB (C : List Int) (n : Nat) : List Bool := (List.range C.length).map (fun j => decide (j < n ∧ 0 < fn C j))
theorem seedB_len (C : List Int) (n : Nat) : (seedB C n).length = C.length := by simp [seedB]
theorem seedB_get {C : List Int} {n j : Nat} (h : j < C.length) : (seedB C n).getD j false = decide (j < n ∧ 0 < fn C j) := by
 unfold seedB
 rw [List.getD_eq_getElem?_getD, List.getElem?_map, List.getElem?_range h]
 rfl
theorem seedB_zero (C : List Int) : List.replicate C.length false = seedB C 0 := by
 refine List.ext_getElem (by rw [seedB_len, List.length_replicate]) (fun k h1 h2 => ?_)
 simp [seedB]
theorem seedB_succ {C : List Int} {n : Nat} (hn : n < C.length) : (seedB C n).set n (decide (rd C (n : Int) > 0)) = seedB C (n + 1) := by
 refine List.ext_getElem (by rw [List.length_set, seedB_len, seedB_len]) (fun k h1 h2 => ?_)
 rw [List.getElem_set]
 show (if n = k then decide (fn C n > 0) else _) = _
 by_cases q : n = k
 ·subst q
  rw [if_pos rfl]
  simp [seedB]
 ·rw [if_neg q]
  simp only [seedB, List.getElem_map, List.getElem_range]
  congr 1
  exact propext ⟨fun h => ⟨by omega, h.2⟩, fun h => ⟨by omega, h.2⟩⟩
theorem held_l0 (hC : C.length ≤ 256) {r : List Bool} (he : Ev (fun k => thermionref01_held.l1 k (seedB C C.length) true (W : Int) (H : Int) R C) r) : ∀ d n, n + d = C.length → Ev (fun k => thermionref01_held.l0 k (seedB C n) (n : Int) (W : Int) (H : Int) R C) r
 | 0, n, h => by
  obtain rfl : n = C.length := by omega
  refine he.step 0 (fun k _ => ?_)
  show thermionref01_held.l0 (k + 1) _ _ _ _ _ _ = _
  rw [thermionref01_held.l0, if_neg (by omega)]
 | d + 1, n, h => by
  have hw : wrap64 ((n : Int) + 1) = ((n + 1 : Nat) : Int) := by rw [IntWalk.wrap64_in _ (by omega)]; omega
  refine (held_l0 hC he d (n + 1) (by omega)).step 0 (fun k _ => ?_)
  show thermionref01_held.l0 (k + 1) _ _ _ _ _ _ = _
  rw [thermionref01_held.l0, if_pos (by omega), if_pos (by omega), if_pos (by rw [seedB_len]; omega), hw, Int.toNat_natCast, seedB_succ (by omega)]
theorem around_of_M {i j : Nat} (hi : i < W * H) (hj : j < W * H) (h : 0 < netM W H R i j) : (j : Int) ∈ aroundL W H R i := by
 refine List.mem_filter.2 ⟨?_, ?_⟩
 ·obtain ⟨hW, he, hx, hy⟩ := cell_at hi
  obtain ⟨p, hp, e⟩ := List.mem_map.1 (nb_of_M hi hj h)
  have hu := up_ge (W := W) (i := i) hW
  have hcol := fun h => left_col (W := W) (i := i) h
  unfold nbs at hp
  simp only [List.mem_append] at hp
  unfold cand
  by_cases q : W = 1
  ·rw [if_pos q]
   rcases hp with hp | hp | hp | hp <;> split at hp <;> simp at hp
   ·have h1 := (hcol (by assumption)).2; subst hp; simp at e; subst e; simp; omega
   ·subst hp; simp at e; subst e; simp
   ·have h1 := hu.1 (by assumption); subst hp; simp at e; subst e; simp; omega
   ·subst hp; simp at e; subst e; simp; omega
  ·rw [if_neg q]
   rcases hp with hp | hp | hp | hp <;> split at hp <;> simp at hp
   ·have h1 := (hcol (by assumption)).2; subst hp; simp at e; subst e; simp; omega
   ·subst hp; simp at e; subst e; simp
   ·have h1 := hu.1 (by assumption); subst hp; simp at e; subst e; simp; omega
   ·subst hp; simp at e; subst e; simp
 ·unfold wtR
  rw [if_pos (by omega), Int.toNat_natCast]
  exact decide_eq_true h
theorem held_eq (hW : 1 ≤ W ∧ W ≤ 16) (hH : 1 ≤ H ∧ H ≤ 16) (hC : C.length = W * H) : ∃ r, Ev (fun k => thermionref01_held.f k (W : Int) (H : Int) R C) r ∧ r.length = C.length ∧ ∀ j, j < C.length → (r.getD j false = true ↔ (net W H R C).Reach j) := by
 have hWH : W * H ≤ 256 := Nat.mul_le_mul hW.2 hH.2
 obtain ⟨r, h1, h2, h3, h4, h5⟩ := held_l1 (R := R) hW hH hC (unmarked (seedB C C.length) (W * H)) (seedB C C.length) (by rw [seedB_len]; exact hC) (Nat.le_refl _) (fun j hj hm => by
  rw [seedB_get (by omega)] at hm
  exact .el hj (by simpa [net] using (of_decide_eq_true hm).2))
 refine ⟨r, ?_, by omega, fun j hj => ⟨h3 j (by omega), fun h => ?_⟩⟩
 ·obtain ⟨K, hK⟩ := held_l0 (W := W) (H := H) (R := R) (by omega) h1 C.length 0 (by omega)
  refine ⟨K, fun k hk => ?_⟩
  show thermionref01_held.f k _ _ _ _ = _
  unfold thermionref01_held.f
  rw [if_pos (by omega), Int.toNat_natCast, if_pos (by omega), seedB_zero]
  exact hK k hk
 ·induction h with
  | @el i hi he =>
   refine h4 i ?_
   rw [seedB_get (by omega)]
   exact decide_eq_true ⟨by omega, by simpa [net] using he⟩
  | @step i k hi hM hk ih =>
   have hkl : k < W * H := hk.lt
   refine h5 i hi (k : Int) (around_of_M hi hkl hM) ?_
   rw [Int.toNat_natCast]
   exact ih (by omega)
end
theorem beyond_eq (n a b : Int) : thermionref01_beyond.f n a b = some (decide (n < a ∨ b < n)) := by
 unfold thermionref01_beyond.f
 by_cases q : n < a
 ·rw [if_pos q, decide_eq_true (Or.inl q)]
 ·rw [if_neg q]
  congr 1
  exact decide_eq_decide.2 ⟨fun h => .inr h, fun h => h.resolve_left q⟩
theorem rdOf_at (r : List Bool) (j : Nat) : rdOf false r (j : Int) = r.getD j false := by
 unfold rdOf
 rw [Int.toNat_natCast]
section
variable {W H : Nat} {R : Bool} {C : List Int}
theorem check_l1_ok {r : List Bool} (hr : r.length ≤ 256) (h : ∀ i, i < r.length → r.getD i false = true) : ∀ d j, j + d = r.length → Ev (fun k => thermionref01_Check.l1 k r (j : Int)) 0
 | 0, j, hj => Ev.now (fun k => by rw [thermionref01_Check.l1, if_neg (by omega)])
 | d + 1, j, hj => by
  have hw : wrap64 ((j : Int) + 1) = ((j + 1 : Nat) : Int) := by rw [IntWalk.wrap64_in _ (by omega)]; omega
  refine (check_l1_ok hr h d (j + 1) (by omega)).step 0 (fun k _ => ?_)
  show thermionref01_Check.l1 (k + 1) _ _ = _
  rw [thermionref01_Check.l1, if_pos (by omega), if_pos (by omega), rdOf_at, if_pos (h j (by omega)), hw]
theorem check_l1_bad {r : List Bool} (hr : r.length ≤ 256) {i : Nat} (hi : i < r.length) (h : r.getD i false = false) : ∀ d j, j + d = i → Ev (fun k => thermionref01_Check.l1 k r (j : Int)) 13
 | 0, j, hj => Ev.now (fun k => by
  obtain rfl : j = i := by omega
  rw [thermionref01_Check.l1, if_pos (by omega), if_pos (by omega), rdOf_at, h, if_neg (by simp)])
 | d + 1, j, hj => by
  have hw : wrap64 ((j : Int) + 1) = ((j + 1 : Nat) : Int) := by rw [IntWalk.wrap64_in _ (by omega)]; omega
  by_cases q : r.getD j false = true
  ·refine (check_l1_bad hr hi h d (j + 1) (by omega)).step 0 (fun k _ => ?_)
   show thermionref01_Check.l1 (k + 1) _ _ = _
   rw [thermionref01_Check.l1, if_pos (by omega), if_pos (by omega), rdOf_at, if_pos q, hw]
  ·exact Ev.now (fun k => by rw [thermionref01_Check.l1, if_pos (by omega), if_pos (by omega), rdOf_at, if_neg q])
def endErr (W H : Nat) (R : Bool) (C : List Int) : Int := if ∃ e, e ∈ C ∧ (e < 0 ∨ 6 < e) then 2 else if ∀ e, e ∈ C → e = 0 then 7 else if looseB W H R C = true then 13 else 0
theorem Ev.bind {α β : Type} {f : Nat → Option α} {a : α} {g : Nat → α → Option β} {r : β} (h : Ev f a) (hg : Ev (fun k => g k a) r) : Ev (fun k => (f k).bind (g k)) r := by
 obtain ⟨K1, h1⟩ := h
 obtain ⟨K2, h2⟩ := hg
 refine ⟨K1 + K2, fun k hk => ?_⟩
 show (f k).bind (g k) = _
 rw [obnd (h1 k (by omega))]
 exact h2 k (by omega)
theorem check_l0 (hW : 1 ≤ W ∧ W ≤ 16) (hH : 1 ≤ H ∧ H ≤ 16) (hC : C.length = W * H) : ∀ (d n : Nat), n + d = C.length → (∀ j, j < n → 0 ≤ fn C j ∧ fn C j ≤ 6) → ∀ b : Bool, (b = true ↔ ∃ j, j < n ∧ 0 < fn C j) →
  Ev (fun k => thermionref01_Check.l0 k b (n : Int) (W : Int) (H : Int) R C) (endErr W H R C)
 | 0, n, h, hr, b, hb => by
  have hWH : W * H ≤ 256 := Nat.mul_le_mul hW.2 hH.2
  obtain rfl : n = C.length := by omega
  have h1 : ¬ ∃ e, e ∈ C ∧ (e < 0 ∨ 6 < e) := fun ⟨e, he, hb⟩ => by
   obtain ⟨j, hj, rfl⟩ := mem_fn he
   have := hr j hj
   omega
  unfold endErr
  rw [if_neg h1]
  cases b with
  | false =>
   rw [if_pos]
   ·refine Ev.now (fun k => ?_)
    rw [thermionref01_Check.l0, if_neg (by omega), if_neg (by simp)]
   ·intro e he
    obtain ⟨j, hj, rfl⟩ := mem_fn he
    have := hr j hj
    by_cases q : 0 < fn C j
    ·exact absurd (hb.2 ⟨j, hj, q⟩) (by simp)
    ·omega
  | true =>
   obtain ⟨j, hj, hp⟩ := hb.1 rfl
   rw [if_neg (fun h => by have := h _ (fn_mem hj); omega)]
   obtain ⟨r, e1, e2, e3⟩ := held_eq (R := R) hW hH hC
   have hend : Ev (fun k => thermionref01_Check.l1 k r 0) (if looseB W H R C = true then 13 else 0) := by
    cases q : looseB W H R C with
    | false =>
     have hl := (loose_iff hC (by omega)).1 q
     rw [if_neg (by simp)]
     exact check_l1_ok (by omega) (fun i hi => (e3 i (by omega)).2 (hl i (by omega))) r.length 0 (by omega)
    | true =>
     rw [if_pos rfl]
     have hn : ¬ ∀ i, i < r.length → r.getD i false = true := fun h => by
      have := (loose_iff (R := R) hC (by omega)).2 (fun i hi => (e3 i hi).1 (h i (by omega)))
      rw [q] at this; cases this
     obtain ⟨i, hi⟩ := Classical.not_forall.1 hn
     have hi2 : i < r.length := Classical.byContradiction fun q => hi (fun w => absurd w q)
     have hf : r.getD i false = false := by
      cases z : r.getD i false with
      | false => rfl
      | true => exact absurd (fun _ => z) hi
     exact check_l1_bad (by omega) hi2 hf i 0 (by omega)
   refine (Ev.bind (g := fun k t286 => thermionref01_Check.l1 k t286 0) e1 hend).step 0 (fun k _ => ?_)
   show thermionref01_Check.l0 (k + 1) _ _ _ _ _ _ = _
   rw [thermionref01_Check.l0, if_neg (by omega), if_pos rfl]
 | d + 1, n, h, hr, b, hb => by
  have hWH : W * H ≤ 256 := Nat.mul_le_mul hW.2 hH.2
  have hw : wrap64 ((n : Int) + 1) = ((n + 1 : Nat) : Int) := by rw [IntWalk.wrap64_in _ (by omega)]; omega
  have e : rd C (n : Int) = fn C n := rfl
  by_cases q : fn C n < 0 ∨ 6 < fn C n
  ·unfold endErr
   rw [if_pos ⟨_, fn_mem (show n < C.length by omega), q⟩]
   refine Ev.now (fun k => ?_)
   rw [thermionref01_Check.l0, if_pos (by omega), if_pos (by omega), e, obnd (beyond_eq _ _ _), decide_eq_true q, if_pos rfl]
  ·have hq : 0 ≤ fn C n ∧ fn C n ≤ 6 := by omega
   have ih := check_l0 hW hH hC d (n + 1) (by omega) (fun j hj => by
    by_cases z : j = n
    ·subst z; exact hq
    ·exact hr j (by omega)) (b || decide (fn C n > 0)) (by
     rw [Bool.or_eq_true, hb, decide_eq_true_iff]
     constructor
     ·rintro (⟨j, hj, hp⟩ | hp)
      ·exact ⟨j, by omega, hp⟩
      ·exact ⟨n, by omega, hp⟩
     ·rintro ⟨j, hj, hp⟩
      by_cases z : j = n
      ·subst z; exact .inr hp
      ·exact .inl ⟨j, by omega, hp⟩)
   refine ih.step 0 (fun k _ => ?_)
   show thermionref01_Check.l0 (k + 1) _ _ _ _ _ _ = _
   rw [thermionref01_Check.l0, if_pos (by omega), if_pos (by omega), e, obnd (beyond_eq _ _ _), decide_eq_false q, if_neg (by simp), hw]
   cases b <;> rfl
end
theorem refcheck_eq (W H : Int) (R : Bool) (C : List Int) : Ev (fun k => thermionref01_Check.f k W H R C) (checkErr W H R C) := by
 unfold checkErr
 by_cases q1 : W < 1 ∨ 16 < W
 ·rw [if_pos (by omega)]
  refine Ev.now (fun k => ?_)
  unfold thermionref01_Check.f
  rw [obnd (beyond_eq _ _ _), decide_eq_true q1, if_pos rfl, thermionref01_Check.j0, if_pos rfl]
 ·by_cases q2 : H < 1 ∨ 16 < H
  ·rw [if_pos (by omega)]
   refine Ev.now (fun k => ?_)
   unfold thermionref01_Check.f
   rw [obnd (beyond_eq _ _ _), decide_eq_false q1, if_neg (by simp), obnd (beyond_eq _ _ _), decide_eq_true q2, thermionref01_Check.j0, if_pos rfl]
  ·obtain ⟨W', rfl⟩ : ∃ W' : Nat, W = W' := ⟨W.toNat, by omega⟩
   obtain ⟨H', rfl⟩ : ∃ H' : Nat, H = H' := ⟨H.toNat, by omega⟩
   have hW : 1 ≤ W' ∧ W' ≤ 16 := by omega
   have hH : 1 ≤ H' ∧ H' ≤ 16 := by omega
   have hWH : W' * H' ≤ 256 := Nat.mul_le_mul hW.2 hH.2
   have w0 : wrap64 ((W' : Int) * (H' : Int)) = ((W' * H' : Nat) : Int) := by
    rw [← Int.natCast_mul]; exact IntWalk.wrap64_in _ (by omega)
   rw [if_neg (by omega), ← Int.natCast_mul, Int.toNat_natCast, Int.toNat_natCast]
   by_cases q3 : C.length = W' * H'
   ·rw [if_neg (by rw [q3]; simp)]
    have h0 := check_l0 (R := R) hW hH q3 C.length 0 (by omega) (fun j hj => absurd hj (Nat.not_lt_zero j)) false ⟨fun h => by simp at h, fun ⟨j, hj, _⟩ => absurd hj (Nat.not_lt_zero j)⟩
    refine h0.step 0 (fun k _ => ?_)
    show thermionref01_Check.f (k + 1) _ _ _ _ = _
    unfold thermionref01_Check.f
    rw [obnd (beyond_eq _ _ _), decide_eq_false q1, if_neg (by simp), obnd (beyond_eq _ _ _), decide_eq_false q2, thermionref01_Check.j0, if_neg (by simp), w0, if_pos (by rw [q3])]
    rfl
   ·rw [if_pos (by intro h; exact q3 (by exact Int.ofNat.inj h))]
    refine Ev.now (fun k => ?_)
    unfold thermionref01_Check.f
    rw [obnd (beyond_eq _ _ _), decide_eq_false q1, if_neg (by simp), obnd (beyond_eq _ _ _), decide_eq_false q2, thermionref01_Check.j0, if_neg (by simp), w0, if_neg (by intro h; exact q3 (by exact Int.ofNat.inj h))]
theorem refgreatest_go (W H : Int) (R : Bool) (C : List Int) (hl : C.length ≤ 1000000) : ∀ (d i : Nat) (x : Int), i + d = C.length → Ev (fun k => thermionref01_greatest.l0 k x (i : Int) W H R C) ((C.drop i).foldl max x)
 | 0, i, x, hi => by
  rw [List.drop_eq_nil_of_le (by omega)]
  exact Ev.now (fun k => by rw [thermionref01_greatest.l0, if_neg (by omega)]; rfl)
 | d + 1, i, x, hi => by
  have hil : i < C.length := by omega
  have hw : wrap64 ((i : Int) + 1) = ((i + 1 : Nat) : Int) := by rw [IntWalk.wrap64_in _ (by omega)]; omega
  rw [List.drop_eq_getElem_cons hil, List.foldl_cons]
  refine (refgreatest_go W H R C hl d (i + 1) (max x C[i]) (by omega)).step 0 (fun k _ => ?_)
  show thermionref01_greatest.l0 (k + 1) _ _ _ _ _ _ = _
  rw [thermionref01_greatest.l0, if_pos (by omega), if_pos (by omega), hw, mx_max, rd_at C i hil]
end Go.Proofs.Ytndkkjpgnmahbaa.Print
end

section
namespace Go.Proofs.Field
section
variable {up : Bool} {W H : Nat} {R : Bool} {C v : List Int}
end
end Go.Proofs.Field
end

section
namespace Go.Proofs.Ytndkkjpgnmahbaa.Print
open Go.RowKit Go.Proofs.YtndkkjpgnmahbaaW.PrintWords Go.Proofs.YtndkkjpgnmahbaaW.PrintLast Go.Proofs.YtndkkjpgnmahbaaW.PrintMore Go.Proofs.Ytndkkjpgnmahbaa.H Go.Proofs.Field
attribute [local go_sem] max2_int min2_int max_two min_two max_three min_three max_four min_four
set_option linter.unusedVariables false
set_option linter.unusedSimpArgs false
structure SR (w W : World) (gp g6 g9 : Nat) (pv : Array Value) (g1 c1 g2 c2 n : Nat) (lo hi : List Int) (k : Nat) (still : Bool) : Prop where
 old : Below w.heap.size w W
 p : W.heap[gp]? = some (.cells pv 24 (0, 0))
 r : W.heap[g6]? = some (.cells #[.slice none 0 0, .slice none 0 0, .int .i64 0, .bool false] 33 (0, 0))
 f : W.heap[g9]? = some (.cells #[.slice (some ⟨g1, 0, none⟩) n c1, .slice (some ⟨g2, 0, none⟩) n c2, .int .i64 (k : Int), .bool still] 33 (0, 0))
 r1 : Row4 W w.heap.size g1 c1 n lo
 r2 : Row4 W w.heap.size g2 c2 n hi
 ne : g1 ≠ g2
 n6 : g6 ≠ g9
 ge : w.heap.size ≤ g9 ∧ w.heap.size ≤ g6
namespace SR
variable {w W W1 : World} {gp g6 g9 : Nat} {pv : Array Value} {g1 c1 g2 c2 n : Nat} {lo hi l1 l2 : List Int} {k : Nat} {still : Bool}
theorem step (h : SR w W gp g6 g9 pv g1 c1 g2 c2 n lo hi k still) (hb : Below W.heap.size W W1) : SR w W1 gp g6 g9 pv g1 c1 g2 c2 n lo hi k still :=
 ⟨below_step h.old hb, blk_below h.p hb, blk_below h.r hb, blk_below h.f hb, h.r1.below hb, h.r2.below hb, h.ne, h.n6, h.ge⟩
theorem away1 (h : SR w W gp g6 g9 pv g1 c1 g2 c2 n lo hi k still) {g t : Nat} {cs : Array Value} (hg : W.heap[g]? = some (.cells cs t (0, 0))) (ht : (3 : Nat) ≠ t) : g ≠ g1 := fun e => Kd.R_ne h.r1.2 hg ht (by rw [e]; rfl)
theorem away2 (h : SR w W gp g6 g9 pv g1 c1 g2 c2 n lo hi k still) {g t : Nat} {cs : Array Value} (hg : W.heap[g]? = some (.cells cs t (0, 0))) (ht : (3 : Nat) ≠ t) : g ≠ g2 := fun e => Kd.R_ne h.r2.2 hg ht (by rw [e]; rfl)
theorem puts (h : SR w W gp g6 g9 pv g1 c1 g2 c2 n lo hi k still) (b : Bool) : SR w (W.setCell ⟨g9, 3, none⟩ (.bool b)) gp g6 g9 pv g1 c1 g2 c2 n lo hi k b :=
 ⟨below_set h.old h.ge.1, blk_far (p := ⟨g9, 3, none⟩) h.p (blk_ne h.p h.f (by decide)) _, blk_far (p := ⟨g9, 3, none⟩) h.r h.n6 _, by rw [blk_set h.f 3]; rfl, h.r1.far (p := ⟨g9, 3, none⟩) (h.away1 h.f (by decide)).symm _, h.r2.far (p := ⟨g9, 3, none⟩) (h.away2 h.f (by decide)).symm _, h.ne, h.n6, h.ge⟩
theorem putk (h : SR w W gp g6 g9 pv g1 c1 g2 c2 n lo hi k still) : SR w (W.setCell ⟨g9, 2, none⟩ (.int .i64 ((k : Int) + 1))) gp g6 g9 pv g1 c1 g2 c2 n lo hi (k + 1) still :=
 ⟨below_set h.old h.ge.1, blk_far (p := ⟨g9, 2, none⟩) h.p (blk_ne h.p h.f (by decide)) _, blk_far (p := ⟨g9, 2, none⟩) h.r h.n6 _, by rw [blk_set h.f 2, show (k : Int) + 1 = ((k + 1 : Nat) : Int) by omega]; rfl, h.r1.far (p := ⟨g9, 2, none⟩) (h.away1 h.f (by decide)).symm _, h.r2.far (p := ⟨g9, 2, none⟩) (h.away2 h.f (by decide)).symm _, h.ne, h.n6, h.ge⟩
theorem row (h : SR w W gp g6 g9 pv g1 c1 g2 c2 n lo hi k still) (cs : Array Value) : Kd.R (Kd.int .i64) 3 (W.setRow g6 cs) w.heap.size (fun k_ => some k_ ≠ (Value.slice (some ⟨g2, 0, none⟩) n c2).ownBlock) (.slice (some ⟨g1, 0, none⟩) n c1) lo ∧ Kd.R (Kd.int .i64) 3 (W.setRow g6 cs) w.heap.size (fun k_ => some k_ ≠ (Value.slice (some ⟨g1, 0, none⟩) n c1).ownBlock) (.slice (some ⟨g2, 0, none⟩) n c2) hi ∧ Below w.heap.size w (W.setRow g6 cs) := by
 refine ⟨?_, ?_, ?_⟩
 ·exact Kd.R_mono (Kd.R_step (Kd.R_types h.r1.2 h.r (by decide)) (fun k hk _ => setRow_other _ _ _ _ hk.2)) (fun k hk e => h.ne (by rw [← hk.1]; exact Option.some.inj e))
 ·exact Kd.R_mono (Kd.R_step (Kd.R_types h.r2.2 h.r (by decide)) (fun k hk _ => setRow_other _ _ _ _ hk.2)) (fun k hk e => h.ne (by rw [← hk.1]; exact (Option.some.inj e).symm))
 ·exact ⟨h.old.os, h.old.tape, h.old.output, by rw [size_setRow]; exact h.old.size, fun i hi => by rw [setRow_other _ g6 i _ (by have := h.ge.2; omega)]; exact h.old.block i hi⟩
end SR
def thermionref01_Solve.f := field_Solve.f
end Go.Proofs.Ytndkkjpgnmahbaa.Print
end

section
namespace Go.Proofs.Ytndkkjpgnmahbaa.Print
open Go.RowKit Go.Proofs.YtndkkjpgnmahbaaW.PrintWords Go.Proofs.YtndkkjpgnmahbaaW.PrintLast Go.Proofs.YtndkkjpgnmahbaaW.PrintMore Go.Proofs.Ytndkkjpgnmahbaa.H
attribute [local go_sem] max2_int min2_int max_two min_two max_three min_three max_four min_four
set_option linter.unusedVariables false
set_option linter.unusedSimpArgs false
end Go.Proofs.Ytndkkjpgnmahbaa.Print
end

section
namespace Go.Proofs.Field
section
variable {W H : Nat} {R : Bool} {C v : List Int}
theorem chSum_under (e u : Int) (b : List Int) (l : List (Nat × Int)) : chSum C e u b l = under (fun k => if fn C k = e then 0 else u - fn b k) l := by
 unfold chSum under
 congr 1
 refine List.map_congr_left (fun p _ => ?_)
 show chOne C e u b p = p.2 * (if fn C p.1 = e then 0 else u - fn b p.1)
 unfold chOne
 split
 ·rw [Int.mul_zero]
 ·rfl
theorem chTo_sum (e u : Int) (b : List Int) : ∀ n, chTo W H R C e u b n = sumTo (fun i => if fn C i = e then chSum C e u b (nbs W H R i) else 0) n
 | 0 => rfl
 | n + 1 => by rw [chTo, sumTo, chTo_sum e u b n]
def flow (W H : Nat) (R : Bool) (C : List Int) (b : List Int) (i : Nat) : Int := (net W H R C).T i * fn b i - (net W H R C).S (fn b) i
theorem chTo_flow {e u : Int} {b : List Int} (hu : ∀ i, i < W * H → fn C i = e → fn b i = u) : chTo W H R C e u b (W * H) = sumTo (fun i => if fn C i = e then flow W H R C b i else 0) (W * H) := by
 rw [chTo_sum]
 refine sumTo_congr (fun i hi => ?_)
 by_cases q : fn C i = e
 ·rw [if_pos q, if_pos q, chSum_under, ← net_Sf (C := C) _ hi]
  unfold flow
  rw [hu i hi q, ← Net.S_const, ← Net.S_sub]
  refine Net.S_congr i (fun j hj => ?_)
  by_cases r : fn C j = e
  ·rw [if_pos r, hu j hj r]; omega
  ·rw [if_neg r]
 ·rw [if_neg q, if_neg q]
def inflow (W H : Nat) (R : Bool) (C : List Int) (k : Int) (b : List Int) : Int := sumTo (fun i => if fn C i = k then (net W H R C).S (fn b) i else 0) (W * H)
theorem chTo_inflow {k : Int} {b : List Int} (hu : ∀ i, i < W * H → fn C i = k → fn b i = 0) : chTo W H R C k 0 b (W * H) = - inflow W H R C k b := by
 rw [chTo_flow hu]
 unfold inflow
 rw [← Int.neg_one_mul, ← sumTo_mul]
 refine sumTo_congr (fun i hi => ?_)
 by_cases q : fn C i = k
 ·rw [if_pos q, if_pos q]
  unfold flow
  rw [hu i hi q]; omega
 ·rw [if_neg q, if_neg q]; omega
theorem inflow_le {k : Int} {b d : List Int} (h : ∀ i, i < W * H → fn b i ≤ fn d i) : inflow W H R C k b ≤ inflow W H R C k d := by
 unfold inflow
 refine sumTo_le (fun i hi => ?_)
 split
 ·exact Net.S_le (fun a b => netM_nonneg W H R a b) i h
 ·exact Int.le_refl _
theorem inflow_nonneg {k : Int} {b : List Int} (h : ∀ i, i < W * H → 0 ≤ fn b i) : 0 ≤ inflow W H R C k b := by
 unfold inflow
 refine sumTo_nonneg (fun i hi => ?_)
 split
 ·have := Net.S_le (N := net W H R C) (fun a b => netM_nonneg W H R a b) (a := fun _ => 0) (b := fn b) i (fun j hj => h j hj)
  rw [Net.S_const, Int.mul_zero] at this
  exact this
 ·exact Int.le_refl _
def unitV (m : Nat) (a : Int) (x : Int) : List Int := (List.replicate m 0).set (a.toNat - 1) x
theorem fn_unitV {m : Nat} {a x : Int} (ha : 1 ≤ a ∧ a ≤ (m : Int)) (i : Nat) : fn (unitV m a x) i = if i = a.toNat - 1 then x else 0 := by
 unfold unitV
 rw [fn_set (by rw [List.length_replicate]; omega)]
 split
 ·rfl
 ·unfold fn
  rw [List.getD_eq_getElem?_getD, List.getElem?_replicate]
  split <;> rfl
theorem volt_unitV {m : Nat} {a x : Int} (ha : 1 ≤ a ∧ a ≤ (m : Int)) {i : Nat} (hp : 0 < fn C i) : volt C (unitV m a x) i = if fn C i = a then x else 0 := by
 unfold volt
 rw [fn_unitV ha]
 by_cases q : fn C i = a
 ·rw [if_pos q, if_pos (by rw [q])]
 ·rw [if_neg q, if_neg (by omega)]
theorem there_back {m : Nat} {a k x : Int} (hx : 0 < x) (ha : 1 ≤ a ∧ a ≤ (m : Int)) (hk : 1 ≤ k ∧ k ≤ (m : Int)) (hV : Volted W H R C (unitV m a x)) {N : Nat} {lo hi : List Int}
  (hl : Low W H R C (volt C (unitV m a x)) N lo) (hh : High W H R C (volt C (unitV m k x)) N hi) (l0 : ∀ i, i < W * H → 0 ≤ fn lo i) (h0 : ∀ i, i < W * H → 0 ≤ fn hi i) :
  inflow W H R C k lo ≤ inflow W H R C a hi := by
 have g := Net.green (N := net W H R C) hV.fine.symm hl.2 hh.2 l0 h0
 have e1 : sumTo (fun i => if (net W H R C).el i = true then fn hi i * (net W H R C).S (fn lo) i else 0) (net W H R C).n = x * inflow W H R C k lo := by
  unfold inflow
  rw [← sumTo_mul]
  refine sumTo_congr (fun i hi => ?_)
  have hi' : i < C.length := by rw [hV.len]; exact hi
  by_cases q : 0 < fn C i
  ·rw [if_pos (by simpa [net] using q), hh.1.el i hi' q, volt_unitV hk q]
   by_cases r : fn C i = k
   ·rw [if_pos r, if_pos r]
   ·rw [if_neg r, if_neg r, Int.zero_mul, Int.mul_zero]
  ·rw [if_neg (by simpa [net] using q), if_neg (by omega), Int.mul_zero]
 have e2 : sumTo (fun i => if (net W H R C).el i = true then fn lo i * (net W H R C).S (fn hi) i else 0) (net W H R C).n = x * inflow W H R C a hi := by
  unfold inflow
  rw [← sumTo_mul]
  refine sumTo_congr (fun i hi => ?_)
  have hi' : i < C.length := by rw [hV.len]; exact hi
  by_cases q : 0 < fn C i
  ·rw [if_pos (by simpa [net] using q), hl.1.el i hi' q, volt_unitV ha q]
   by_cases r : fn C i = a
   ·rw [if_pos r, if_pos r]
   ·rw [if_neg r, if_neg r, Int.zero_mul, Int.mul_zero]
  ·rw [if_neg (by simpa [net] using q), if_neg (by omega), Int.mul_zero]
 rw [e1, e2] at g
 exact Int.le_of_mul_le_mul_left g hx
theorem solve_nonneg (hV : Volted W H R C v) (hv : ∀ i, i < C.length → 0 < fn C i → 0 ≤ volt C v i) {N : Nat} (hN : C.length ≤ N) (n : Nat) {i : Nat} (hi : i < W * H) : 0 ≤ fn (solveN W H R C v N n).1 i ∧ 0 ≤ fn (solveN W H R C v N n).2.1 i := by
 have hi' : i < C.length := by rw [hV.len]; exact hi
 obtain ⟨hp, h1, _, _, _⟩ := sweeps_pair hV.fine hV.len n 0 _ _ false ⟨laid_low hV hN, laid_high hV hN⟩
 have h3 := h1 i hi'
 have h4 := pair_between hV hp hi'
 have h5 : 0 ≤ fn (laid C v N (minOf (onOf C v))) i := by
  rw [fn_laid hN hi']
  split
  ·rename_i q; exact hv i hi' q
  ·obtain ⟨j, hj, hq, e⟩ := on_volt (minOf_mem (on_ne hV))
   rw [← e]; exact hv j hj hq
 exact ⟨Int.le_trans h5 h3, Int.le_trans (Int.le_trans h5 h3) h4⟩
end
end Go.Proofs.Field
end

section
namespace Go.Proofs.Ytndkkjpgnmahbaa.Print
open Go.RowKit Go.Proofs.YtndkkjpgnmahbaaW.PrintWords Go.Proofs.YtndkkjpgnmahbaaW.PrintLast Go.Proofs.YtndkkjpgnmahbaaW.PrintMore Go.Proofs.Field
set_option linter.unusedVariables false
theorem refhas_go (W H : Int) (R : Bool) (C : List Int) (e : Int) (hl : C.length ≤ 1000000) : ∀ (d i : Nat), i + d = C.length → Ev (fun k => thermionref01_has.l0 k e (i : Int) W H R C) (decide (0 < e) && (C.drop i).contains e)
 | 0, i, h => by
  rw [List.drop_eq_nil_of_le (by omega)]
  exact Ev.now (fun k => by rw [thermionref01_has.l0, if_neg (by omega)]; simp)
 | d + 1, i, h => by
  have hi : i < C.length := by omega
  have hw : wrap64 ((i : Int) + 1) = ((i + 1 : Nat) : Int) := by rw [IntWalk.wrap64_in _ (by omega)]; omega
  rw [List.drop_eq_getElem_cons hi, List.contains_cons]
  by_cases q : e > 0
  ·by_cases z : C[i] = e
   ·rw [show (e == C[i]) = true by simp [z], Bool.true_or, Bool.and_true, decide_eq_true q]
    exact Ev.now (fun k => by rw [thermionref01_has.l0, if_pos (by omega), if_pos q, if_pos (by omega), rd_at C i hi, if_pos z])
   ·rw [show (e == C[i]) = false by simp [Ne.symm z], Bool.false_or]
    refine (refhas_go W H R C e hl d (i + 1) (by omega)).step 0 (fun k _ => ?_)
    show thermionref01_has.l0 (k + 1) _ _ _ _ _ _ = _
    rw [thermionref01_has.l0, if_pos (by omega), if_pos q, if_pos (by omega), rd_at C i hi, if_neg z, hw]
  ·have ih := refhas_go W H R C e hl d (i + 1) (by omega)
   rw [show decide (0 < e) = false from decide_eq_false q, Bool.false_and] at ih ⊢
   refine ih.step 0 (fun k _ => ?_)
   show thermionref01_has.l0 (k + 1) _ _ _ _ _ _ = _
   rw [thermionref01_has.l0, if_pos (by omega), if_neg q, hw]
section
variable {W H : Nat} {R : Bool} {C v lo hi : List Int} {e u : Int} {i : Nat}
def chG (C : List Int) (e u : Int) (b : List Int) (k : Nat) : Int := if fn C k = e then 0 else u - fn b k
theorem chG_bound {b : List Int} {k : Nat} (hu : -1000000 ≤ u ∧ u ≤ 1000000) (hb : -1000000 ≤ fn b k ∧ fn b k ≤ 1000000) : -2000000 ≤ chG C e u b k ∧ chG C e u b k ≤ 2000000 := by
 unfold chG
 split <;> omega
theorem mul_64 {x y : Int} (h1 : 0 ≤ x) (h2 : x ≤ 32) (h3 : -2000000 ≤ y) (h4 : y ≤ 2000000) : -64000000 ≤ x * y ∧ x * y ≤ 64000000 := by
 have a1 := Int.mul_le_mul_of_nonneg_left h4 h1
 have a2 := Int.mul_le_mul_of_nonneg_left h3 h1
 omega
theorem charge_l1 (hW : 1 ≤ W ∧ W ≤ 16) (hH : 1 ≤ H ∧ H ≤ 16) (hC : C.length = W * H) (hi' : i < W * H) (hlo : lo.length = C.length) (hhi : hi.length = C.length) (he : 1 ≤ e ∧ e ≤ (v.length : Int) ∧ e ≤ 6) (hu : fn v (e.toNat - 1) = u) (hub : -1000000 ≤ u ∧ u ≤ 1000000)
  (hr : ∀ j, j < W * H → (-1000000 ≤ fn lo j ∧ fn lo j ≤ 1000000) ∧ (-1000000 ≤ fn hi j ∧ fn hi j ≤ 1000000)) {l : List Int} (hl : l.length ≤ 4) (hm : ∀ c, c ∈ l → 0 ≤ c ∧ c < ((W * H : Nat) : Int)) (z1 : Int) (z2 : Bool) {r : Int × Int} :
  ∀ (d j : Nat) (x y : Int), j + d = l.length → (-1000000000000 - 64000000 * (j : Int) ≤ x ∧ x ≤ 1000000000000 + 64000000 * (j : Int)) → (-1000000000000 - 64000000 * (j : Int) ≤ y ∧ y ≤ 1000000000000 + 64000000 * (j : Int)) →
  Ev (fun k => thermionref01_charge.l0 k v e (wrap64 ((i : Int) + 1)) W H R C lo hi z1 z2 (x + ((l.drop j).map (fun c => wtR W H R i c * chG C e u hi c.toNat)).sum) (y + ((l.drop j).map (fun c => wtR W H R i c * chG C e u lo c.toNat)).sum)) r →
  Ev (fun k => thermionref01_charge.l1 k v e (i : Int) l (j : Int) W H R C lo hi z1 z2 x y) r
 | 0, j, x, y, h, hx, hy, hE => by
  rw [List.drop_eq_nil_of_le (by omega)] at hE
  simp only [List.map_nil, List.sum_nil, Int.add_zero] at hE
  refine hE.step 0 (fun k _ => ?_)
  show thermionref01_charge.l1 (k + 1) _ _ _ _ _ _ _ _ _ _ _ _ _ _ _ = _
  rw [thermionref01_charge.l1, if_neg (by omega)]
 | d + 1, j, x, y, h, hx, hy, hE => by
  have hj : j < l.length := by omega
  have hj4 : j ≤ 4 := by omega
  have cj1 : (j : Int) < (l.length : Int) := by omega
  have cj2 : (0 : Int) ≤ (j : Int) := by omega
  have hw : wrap64 ((j : Int) + 1) = ((j + 1 : Nat) : Int) := by rw [IntWalk.wrap64_in _ (by clear hx hy hE; omega)]; clear hx hy hE; omega
  obtain ⟨c0, c1⟩ := hm l[j] (List.getElem_mem hj)
  have cC : l[j] < (C.length : Int) := by rw [hC]; exact c1
  have cl : l[j] < (lo.length : Int) := by rw [hlo]; exact cC
  have ch : l[j] < (hi.length : Int) := by rw [hhi]; exact cC
  have hrr := hr l[j].toNat (by clear hx hy hE; omega)
  have ce1 : 0 ≤ e - 1 := by have := he.1; clear hx hy hE hrr; omega
  have ce2 : e - 1 < (v.length : Int) := by have := he.2.1; clear hx hy hE hrr; omega
  have hwe : wrap64 (e - 1) = e - 1 := IntWalk.wrap64_in _ (by have := he.2.2; have := he.1; clear hx hy hE hrr; omega)
  have e4 : rd v (e - 1) = u := by rw [← hu]; unfold rd fn; congr 1; clear hx hy hE hrr; omega
  have g1 := chG_bound (C := C) (e := e) hub hrr.1
  have g2 := chG_bound (C := C) (e := e) hub hrr.2
  have w0 := wtR_nonneg W H R i l[j]
  have w1 := wtR_le (H := H) (R := R) (i := i) hW.2 l[j]
  have m1 := mul_64 w0 w1 g1.1 g1.2
  have m2 := mul_64 w0 w1 g2.1 g2.2
  rw [List.drop_eq_getElem_cons hj, List.map_cons, List.map_cons, List.sum_cons, List.sum_cons, ← Int.add_assoc, ← Int.add_assoc] at hE
  obtain ⟨P1, hP1⟩ : ∃ P, wtR W H R i l[j] * chG C e u hi l[j].toNat = P := ⟨_, rfl⟩
  obtain ⟨P2, hP2⟩ : ∃ P, wtR W H R i l[j] * chG C e u lo l[j].toNat = P := ⟨_, rfl⟩
  rw [hP1] at m2 hE
  rw [hP2] at m1 hE
  have hh : (j + 1) + d = l.length := by omega
  obtain ⟨x', hx'⟩ : ∃ z, x + P1 = z := ⟨_, rfl⟩
  obtain ⟨y', hy'⟩ : ∃ z, y + P2 = z := ⟨_, rfl⟩
  rw [hx', hy'] at hE
  have bx : -1000000000000 - 64000000 * ((j + 1 : Nat) : Int) ≤ x' ∧ x' ≤ 1000000000000 + 64000000 * ((j + 1 : Nat) : Int) := by clear hE hrr g1 g2 w0 w1 hP1 hP2 hw hwe e4 hy' hy; omega
  have by' : -1000000000000 - 64000000 * ((j + 1 : Nat) : Int) ≤ y' ∧ y' ≤ 1000000000000 + 64000000 * ((j + 1 : Nat) : Int) := by clear hE hrr g1 g2 w0 w1 hP1 hP2 hw hwe e4 hx' hx bx; omega
  have ih := charge_l1 hW hH hC hi' hlo hhi he hu hub hr hl hm z1 z2 d (j + 1) x' y' hh bx by' hE
  have vx : wrap64 (x + P1) = x' := by rw [hx']; exact IntWalk.wrap64_in _ (by clear hE ih hrr g1 g2 w0 w1 hP1 hP2 hw hwe e4 hy' hy hx' hx by'; omega)
  have vy : wrap64 (y + P2) = y' := by rw [hy']; exact IntWalk.wrap64_in _ (by clear hE ih hrr g1 g2 w0 w1 hP1 hP2 hw hwe e4 hy' hy hx' hx bx vx; omega)
  have p1 : wrap64 P1 = P1 := IntWalk.wrap64_in _ (by clear hE ih hrr g1 g2 w0 w1 hP1 hP2 hw hwe e4 hy' hy hx' hx bx by' vx vy; omega)
  have p2 : wrap64 P2 = P2 := IntWalk.wrap64_in _ (by clear hE ih hrr g1 g2 w0 w1 hP1 hP2 hw hwe e4 hy' hy hx' hx bx by' vx vy p1; omega)
  have q12 : wrap64 (u - fn hi l[j].toNat) = u - fn hi l[j].toNat ∧ wrap64 (u - fn lo l[j].toNat) = u - fn lo l[j].toNat := by
   clear hE ih g1 g2 w0 w1 hP1 hP2 hw hwe e4 hy' hy hx' hx bx by' vx vy p1 p2 m1 m2
   generalize fn hi l[j].toNat = a at hrr ⊢
   generalize fn lo l[j].toNat = b at hrr ⊢
   exact ⟨IntWalk.wrap64_in _ (by omega), IntWalk.wrap64_in _ (by omega)⟩
  clear bx by' m1 m2 g1 g2 w0 w1 hE hx hy hrr
  refine ih.step 2 (fun k hk => ?_)
  obtain ⟨k, rfl⟩ : ∃ k', k = k' + 2 := ⟨k - 2, (Nat.sub_add_cancel hk).symm⟩
  show thermionref01_charge.l1 (k + 2 + 1) _ _ _ _ _ _ _ _ _ _ _ _ _ _ _ = _
  have e1 : rd C l[j] = fn C l[j].toNat := rfl
  have e2 : rd hi l[j] = fn hi l[j].toNat := rfl
  have e3 : rd lo l[j] = fn lo l[j].toNat := rfl
  rw [thermionref01_charge.l1, if_pos cj1, if_pos cj2, rd_at l j hj, if_pos c0, if_pos cC, e1, hw]
  by_cases q : fn C l[j].toNat = e
  ·have q1 : P1 = 0 := by rw [← hP1]; unfold chG; rw [if_pos q, Int.mul_zero]
   have q2 : P2 = 0 := by rw [← hP2]; unfold chG; rw [if_pos q, Int.mul_zero]
   rw [if_pos q, ← hx', ← hy', q1, q2, Int.add_zero, Int.add_zero]
  ·have q1 : wtR W H R i l[j] * (u - fn hi l[j].toNat) = P1 := by rw [← hP1]; unfold chG; rw [if_neg q]
   have q2 : wtR W H R i l[j] * (u - fn lo l[j].toNat) = P2 := by rw [← hP2]; unfold chG; rw [if_neg q]
   rw [if_neg q, obnd (weight_eq hW hH R C hi' l[j] k), hwe, if_pos ce1, if_pos ce2, if_pos ch, obnd (weight_eq hW hH R C hi' l[j] k), if_pos cl, e2, e3, e4, q12.1, q12.2, q1, q2, p1, p2, vx, vy]
theorem charge_l0 (hW : 1 ≤ W ∧ W ≤ 16) (hH : 1 ≤ H ∧ H ≤ 16) (hC : C.length = W * H) (hlo : lo.length = C.length) (hhi : hi.length = C.length) (he : 1 ≤ e ∧ e ≤ (v.length : Int) ∧ e ≤ 6) (hu : fn v (e.toNat - 1) = u) (hub : -1000000 ≤ u ∧ u ≤ 1000000)
  (hr : ∀ j, j < W * H → (-1000000 ≤ fn lo j ∧ fn lo j ≤ 1000000) ∧ (-1000000 ≤ fn hi j ∧ fn hi j ≤ 1000000)) (z1 : Int) (z2 : Bool) :
  ∀ (d i : Nat), i + d = C.length → Ev (fun k => thermionref01_charge.l0 k v e (i : Int) W H R C lo hi z1 z2 (chTo W H R C e u hi i) (chTo W H R C e u lo i)) (chTo W H R C e u hi C.length, chTo W H R C e u lo C.length)
 | 0, i, h => by
  obtain rfl : i = C.length := by omega
  exact Ev.now (fun k => by rw [thermionref01_charge.l0, if_neg (Int.lt_irrefl _)])
 | d + 1, i, h => by
  have hWH : W * H ≤ 256 := Nat.mul_le_mul hW.2 hH.2
  have hil : i < W * H := by clear hr hu; omega
  have ci1 : (i : Int) < (C.length : Int) := by clear hr hu; omega
  have ci2 : (0 : Int) ≤ (i : Int) := by clear hr hu; omega
  have hiw : i ≤ W * H := by clear hr hu; omega
  have hi256 : i ≤ 256 := by clear hr hu; omega
  have hd : (i + 1) + d = C.length := by clear hr hu; omega
  have hw : wrap64 ((i : Int) + 1) = ((i + 1 : Nat) : Int) := by rw [IntWalk.wrap64_in _ (by omega)]; omega
  have e1 : rd C (i : Int) = fn C i := rfl
  have ih := charge_l0 hW hH hC hlo hhi he hu hub hr z1 z2 d (i + 1) hd
  have b1 := chTo_bound (R := R) (C := C) (e := e) (u := u) (b := hi) hub hW.2 (fun j hj => (hr j hj).2) i hiw
  have b2 := chTo_bound (R := R) (C := C) (e := e) (u := u) (b := lo) hub hW.2 (fun j hj => (hr j hj).1) i hiw
  by_cases q : fn C i = e
  ·have s1 : chTo W H R C e u hi (i + 1) = chTo W H R C e u hi i + ((aroundL W H R i).map (fun c => wtR W H R i c * chG C e u hi c.toNat)).sum := by
    rw [chTo, if_pos q, chSum_under, around_under hil]; rfl
   have s2 : chTo W H R C e u lo (i + 1) = chTo W H R C e u lo i + ((aroundL W H R i).map (fun c => wtR W H R i c * chG C e u lo c.toNat)).sum := by
    rw [chTo, if_pos q, chSum_under, around_under hil]; rfl
   have hlen := around_len (W := W) (H := H) (R := R) (i := i)
   have h1 := charge_l1 (R := R) hW hH hC hil hlo hhi he hu hub hr hlen (fun c hc => (around_mem hc).2) z1 z2 (aroundL W H R i).length 0 (chTo W H R C e u hi i) (chTo W H R C e u lo i) (Nat.zero_add _) (by generalize chTo W H R C e u hi i = a at b1 ⊢; clear b2 ih s1 s2 hw e1 hu hr; omega) (by generalize chTo W H R C e u lo i = a at b2 ⊢; clear b1 ih s1 s2 hw e1 hu hr; omega) (by rw [List.drop_zero, ← s1, ← s2, hw]; exact ih)
   refine h1.step 8 (fun k hk => ?_)
   obtain ⟨k, rfl⟩ : ∃ k', k = k' + 8 := ⟨k - 8, (Nat.sub_add_cancel hk).symm⟩
   show thermionref01_charge.l0 (k + 8 + 1) _ _ _ _ _ _ _ _ _ _ _ _ _ = _
   rw [thermionref01_charge.l0, if_pos ci1, if_pos ci2, e1, if_pos q, obnd (around_eq hW hH hil k)]
   rfl
  ·have s1 : chTo W H R C e u hi (i + 1) = chTo W H R C e u hi i := by rw [chTo, if_neg q, Int.add_zero]
   have s2 : chTo W H R C e u lo (i + 1) = chTo W H R C e u lo i := by rw [chTo, if_neg q, Int.add_zero]
   rw [s1, s2] at ih
   refine ih.step 0 (fun k _ => ?_)
   show thermionref01_charge.l0 (k + 1) _ _ _ _ _ _ _ _ _ _ _ _ _ = _
   rw [thermionref01_charge.l0, if_pos ci1, if_pos ci2, e1, if_neg q, hw]
end

end Go.Proofs.Ytndkkjpgnmahbaa.Print
end

section
namespace Go.Proofs.Ytndkkjpgnmahbaa.Print
open Go.RowKit Go.Proofs.YtndkkjpgnmahbaaW.PrintWords Go.Proofs.YtndkkjpgnmahbaaW.PrintLast Go.Proofs.YtndkkjpgnmahbaaW.PrintMore
attribute [local go_sem] max2_int min2_int max_two min_two max_three min_three max_four min_four
set_option linter.unusedVariables false
set_option linter.unusedSimpArgs false
end Go.Proofs.Ytndkkjpgnmahbaa.Print
end

section
namespace Go.Proofs.Ytndkkjpgnmahbaa.Print
open Go.RowKit Go.Proofs.YtndkkjpgnmahbaaW.PrintWords Go.Proofs.YtndkkjpgnmahbaaW.PrintLast Go.Proofs.YtndkkjpgnmahbaaW.PrintMore Go.Proofs.Ytndkkjpgnmahbaa.H Go.Proofs.Field
set_option linter.unusedVariables false
end Go.Proofs.Ytndkkjpgnmahbaa.Print
end

section
namespace Go.Proofs.Ytndkkjpgnmahbaa.H
open Go.RowKit Go.Proofs.YtndkkjpgnmahbaaW.PrintWords Go.Proofs.YtndkkjpgnmahbaaW.PrintLast Go.Proofs.YtndkkjpgnmahbaaW.PrintMore Go.Proofs.Ytndkkjpgnmahbaa.Print
namespace Mem
variable {w W W1 : World} {l : List (Nat × Array Value × TypeId)} {g : Nat} {old new : Array Value} {t : TypeId}
theorem keepd (h : Mem w W ((g, old, t) :: l)) (hK : KeepBut W W1 g none) (hB : Below w.heap.size w W1) (hg : W1.heap[g]? = some (.cells new t (0, 0))) : Mem w W1 ((g, new, t) :: l) := by
 refine ⟨hB, fun p hp => ?_, fun p hp => ?_, ?_⟩
 ·rcases List.mem_cons.1 hp with rfl | hp
  ·exact hg
  ·have h1 := h.blk p (List.mem_cons_of_mem _ hp)
   rw [hK.2 p.1 (blk_lt h1) (Ne.symm (h.ne p hp)) (by simp)]
   exact h1
 ·rcases List.mem_cons.1 hp with rfl | hp
  ·exact h.geh
  ·exact h.ge p (List.mem_cons_of_mem _ hp)
 ·have a := h.apart
  simp only [List.pairwise_cons] at a ⊢
  exact a
end Mem
end Go.Proofs.Ytndkkjpgnmahbaa.H
namespace Go.Proofs.Ytndkkjpgnmahbaa.Print
open Go.RowKit Go.Proofs.YtndkkjpgnmahbaaW.PrintWords Go.Proofs.YtndkkjpgnmahbaaW.PrintLast Go.Proofs.YtndkkjpgnmahbaaW.PrintMore Go.Proofs.Ytndkkjpgnmahbaa.H Go.Proofs.Field
set_option linter.unusedVariables false
section
variable {P : Program} {ops : Array Oper} {o : Oper} {a : Act} {Q : Exit → Act → World → Prop} {K : Act → World → Prop} {w W : World} {l : List (Nat × Array Value × TypeId)}
end
theorem dice_is {w0 W : World} {g : Nat} {s : Int} {l : List (Nat × Array Value × TypeId)} (h : Mem w0 W ((g, #[.int .u64 s], 79) :: l)) : IsS79 w0 W g s := ⟨h.head, h.geh⟩
theorem dice_row {w0 W W1 : World} {g : Nat} {s s' : Int} {l : List (Nat × Array Value × TypeId)} {v : Value} {ok : Nat → Prop} {r : List Int} (h : Mem w0 W ((g, #[.int .u64 s], 79) :: l)) (hK : KeepBut W W1 g none) (hB : Below w0.heap.size w0 W1) (hI : IsS79 w0 W1 g s')
  (hR : Kd.R (Kd.int .i64) 3 W1 W.heap.size ok v r) (hp : 0 < r.length) : ∃ g2 c cur, v = .slice (some ⟨g2, 0, none⟩) r.length c ∧ r.length ≤ c ∧ IsNums cur r ∧ Mem w0 W1 ((g2, cur, 3) :: (g, #[.int .u64 s'], 79) :: l) := by
 obtain ⟨g2, c, cur, rfl, a1, a2, a3, _, a5⟩ := R_mem hR hp
 have h1 := h.keepd hK hB hI.1
 refine ⟨g2, c, cur, rfl, a1, a5, h1.below, fun p hp => ?_, fun p hp => ?_, .cons (fun p hp => ?_) h1.apart⟩
 ·rcases List.mem_cons.1 hp with rfl | hp
  ·exact a2
  ·exact h1.blk p hp
 ·rcases List.mem_cons.1 hp with rfl | hp
  ·exact Nat.le_trans h.below.size a3
  ·exact h1.ge p hp
 ·have h3 : p.1 < W.heap.size := by
   rcases List.mem_cons.1 hp with rfl | hp
   ·exact blk_lt h.head
   ·exact blk_lt (h.blk p (List.mem_cons_of_mem _ hp))
  show g2 ≠ p.1
  omega
theorem plan_cells {W : World} {g : Nat} {Wd Hd : Int} {R : Bool} {A : Option Addr} {n c : Nat} (h : W.heap[g]? = some (.cells (planV Wd Hd R A n c) 24 (0, 0))) : W.cell? ⟨g, 0, none⟩ = some (.int .i64 Wd) ∧ W.cell? ⟨g, 1, none⟩ = some (.int .i64 Hd) ∧ W.cell? ⟨g, 2, none⟩ = some (.bool R) ∧ W.cell? ⟨g, 3, none⟩ = some (.slice A n c) :=
 ⟨(blk_cell h 0).trans rfl, (blk_cell h 1).trans rfl, (blk_cell h 2).trans rfl, (blk_cell h 3).trans rfl⟩
theorem pair_cells {W : World} {g : Nat} {cs : Array Value} {t : TypeId} {a b : Value} (h : W.heap[g]? = some (.cells cs t (0, 0))) (h0 : cs[0]? = some a) (h1 : cs[1]? = some b) : W.cell? ⟨g, 0, none⟩ = some a ∧ W.cell? ⟨g, 1, none⟩ = some b :=
 ⟨(blk_cell h 0).trans h0, (blk_cell h 1).trans h1⟩
end Go.Proofs.Ytndkkjpgnmahbaa.Print
end

section
namespace Go.Proofs.YtndkkjpgnmahbaaW.PrintLast
open Go Go.RowKit Go.Proofs.YtndkkjpgnmahbaaW.PrintWords Go.Proofs.YtndkkjpgnmahbaaW.PrintMore
set_option linter.unusedVariables false
section
variable {P : Program} {ops : Array Oper} {md : Region.Mode} {Q : Exit → Act → World → Prop} {S : World → Prop} {ds : List Nat} {fuel : Nat} {l : Array Bool} {a a' : Act} {w : World}
theorem nm_ (h : wpAnyLast P md ops Q S ds fuel l a' w) (ha : a = a' := by show Act.put _ (some _) _ = _; simp only [Act.put, sT, sZ, sS, i64_w, i32_w]; rfl) : wpAnyLast P md ops Q S ds fuel l a w := norm_ ha h
theorem nm0_ (h : wpAnyLast P md ops Q S ds fuel l a' w) (ha : a = a' := by show Act.put _ none _ = _; simp only [Act.put, sT, sZ, sS, i64_w, i32_w]; rfl) : wpAnyLast P md ops Q S ds fuel l a w := norm_ ha h
end
end Go.Proofs.YtndkkjpgnmahbaaW.PrintLast
end

section
namespace Go.Proofs.Ytndkkjpgnmahbaa.Print
open Go.RowKit Go.Proofs.YtndkkjpgnmahbaaW.PrintWords Go.Proofs.YtndkkjpgnmahbaaW.PrintLast Go.Proofs.YtndkkjpgnmahbaaW.PrintMore
attribute [local go_sem] max2_int min2_int max_two min_two max_three min_three max_four min_four
set_option linter.unusedVariables false
set_option linter.unusedSimpArgs false
def field_Copy.f (a0_0 : Int) (a0_1 : Int) (a0_2 : Bool) (l0_3 : List Int) : Option (Int × Int × Bool × List Int) := (slices_Clone_int_int.f l0_3).bind fun t300 => (some (a0_0, a0_1, a0_2, t300))
set_option maxHeartbeats 8000000 in
set_option maxRecDepth 100000 in
theorem field_Copy.calls (a0_0 : Int) (a0_1 : Int) (a0_2 : Bool) (A0_3 : Option Addr) (c0_3 : Nat) (l0_3 : List Int) (r1 : Int) (r2 : Int) (r3 : Bool) (r4 : List Int) (w : World) (hr0_3 : Kd.C (Kd.int .i64) w A0_3 l0_3.length l0_3) (hc0_3 : l0_3.length ≤ c0_3) (h : field_Copy.f a0_0 a0_1 a0_2 l0_3 = some (r1, r2, r3, r4)) :
  Calls Try.prog 46 #[.agg #[.int .i64 a0_0, .int .i64 a0_1, .bool a0_2, .slice A0_3 l0_3.length c0_3]] w fun e w' => ∃ v3_ : Value, e = .returned (.agg #[.int .i64 r1, .int .i64 r2, .bool r3, v3_]) ∧ Kd.R (Kd.int .i64) 3 w' w.heap.size (fun _ => True) v3_ r4 ∧ Below w.heap.size w w' := by
 have hu24 := Try.underlying24
 have HR0_3 := Aside0.mk hr0_3
 have HC0_3 := Aside0.mk hc0_3
 clear hr0_3 hc0_3
 have HB := Aside0.mk (Below.refl w.heap.size w)
 have H : ((slices_Clone_int_int.f l0_3).bind fun t300 => (some (a0_0, a0_1, a0_2, t300))) = some (r1, r2, r3, r4) := h
 clear h
 obtain ⟨t300, A20, H⟩ := Option.bind_eq_some_iff.mp H
 have A2 := Aside0.mk A20
 clear A20
 simp only [Option.some.injEq, Prod.mk.injEq] at H
 obtain ⟨rfl, rfl, rfl, rfl⟩ := H
 go_enter Try.func46, Try.ntmps46
 go_wp2_with (first | ((with_reducible refine gate_dst (N := 1) rfl ?_); refine aBox 1 #[.int .i64 a0_0, .int .i64 a0_1, .bool a0_2, .slice A0_3 l0_3.length c0_3] 24 ?_; intro gb298 hg w3 hbox hb; have BK298 := Aside0.mk (hbox); have GW298 := aGe hg HB; have GE298 := aGe hg HB; replace HB := aBs HB hb; clear hb hbox hg) | ((with_reducible refine gate_dst (N := 2) rfl ?_); refine aBox 2 #[.int .i64 0, .int .i64 0, .bool false, .slice none 0 0] 24 ?_; intro gb299 hg w4 hbox hb; have BK299 := Aside0.mk (hbox); have GW299 := aGe hg HB; have GE299 := aGe hg HB; replace HB := aBs HB hb; have NB298_299 := aNl hg BK298; have NB299_298 := aNg hg BK298; replace BK298 := aBb BK298 hb; clear hb hbox hg; have hnb5 := NB298_299.out; have hnc5 := NB299_298.out; obtain ⟨⟨hcz6_0, hcz6_1, hcz6_2, hcz6_3⟩, hfz6_0, hfz6_1, hfz6_2, hfz6_3⟩ := aC4 BK298) | ((with_reducible refine gate_callee (f := 72) rfl ?_); refine goesL_ (some 5) rfl rfl Try.func72 (by kernel_rfl) rfl #[.slice A0_3 l0_3.length c0_3] rfl aA ?_; (with_reducible refine (slices_Clone_int_int.calls _ _ l0_3 t300 _ ?side1 ?side2 A2.out).mono ?_); (case side1 => exact aC HR0_3 HB); (case side2 => exact HC0_3.out); rintro e w7 ⟨v301, rfl, ho0, hb⟩; refine ⟨_, rfl, ?_⟩; have HO302 := Aside0.mk (Kd.R_lower ho0 (below_size (aBl HB).out)); replace BK298 := aBb BK298 hb; replace BK299 := aBb BK299 hb; replace HB := aBs HB hb; (try clear hb); (try clear hb2); (try clear hk); (try clear hi); (try clear ho0); obtain ⟨Ao8, co8, eo8⟩ := Kd.R_slice HO302.out; subst eo8; obtain ⟨⟨hcz9_0, hcz9_1, hcz9_2, hcz9_3⟩, hfz9_0, hfz9_1, hfz9_2, hfz9_3⟩ := aC4 BK298; obtain ⟨⟨hcz10_0, hcz10_1, hcz10_2, hcz10_3⟩, hfz10_0, hfz10_1, hfz10_2, hfz10_3⟩ := aC4 BK299))
 refine bodyPost_ret (results_cell_row rfl _ _ gb299 24 #[.int .i64 a0_0, .int .i64 a0_1, .bool a0_2, .slice Ao8 t300.length co8] (0, 0) _ rfl (by (with_reducible repeat (first | refine blk_drewN ?_ _ | refine blk_drew ?_ | refine blk_alloc ?_ _)); refine blk_put (cs := #[.int .i64 a0_0, .int .i64 a0_1, .bool a0_2, .slice none 0 0]) ?_ 3 _ rfl; (with_reducible repeat (first | refine blk_drewN ?_ _ | refine blk_drew ?_ | refine blk_alloc ?_ _)); refine blk_put (cs := #[.int .i64 a0_0, .int .i64 a0_1, .bool false, .slice none 0 0]) ?_ 2 _ rfl; (with_reducible repeat (first | refine blk_drewN ?_ _ | refine blk_drew ?_ | refine blk_alloc ?_ _)); refine blk_put (cs := #[.int .i64 a0_0, .int .i64 0, .bool false, .slice none 0 0]) ?_ 1 _ rfl; (with_reducible repeat (first | refine blk_drewN ?_ _ | refine blk_drew ?_ | refine blk_alloc ?_ _)); refine blk_put (cs := #[.int .i64 0, .int .i64 0, .bool false, .slice none 0 0]) ?_ 0 _ rfl; (with_reducible repeat (first | refine blk_drewN ?_ _ | refine blk_drew ?_ | refine blk_alloc ?_ _)); refine blk_far ?_ NB299_298.out _; (with_reducible repeat (first | refine blk_drewN ?_ _ | refine blk_drew ?_ | refine blk_alloc ?_ _)); exact BK299.out) Try.underlying24 rfl (by kernel_rfl)) rfl ?_
 exact ⟨_, by first | rfl | (simp [errW_none, errW_some] <;> rfl) | (simp [*, errW_none, errW_some] <;> rfl), by (with_reducible repeat (first | apply Kd.R_alloc | apply Kd.R_drewN | apply Kd.R_drew)); exact Kd.R_mono (Kd.R_far (p := ⟨gb299, 3, none⟩) (Kd.R_far (p := ⟨gb299, 2, none⟩) (Kd.R_far (p := ⟨gb299, 1, none⟩) (Kd.R_far (p := ⟨gb299, 0, none⟩) (Kd.R_far (p := ⟨gb298, 3, none⟩) (Kd.R_types (Kd.R_types HO302.out BK298.out (by decide)) BK299.out (by decide)) (fun _ hk => hk.1.2) (.slice Ao8 t300.length co8)) (fun _ hk => hk.2) (.int .i64 a0_0)) (fun _ hk => hk.2) (.int .i64 a0_1)) (fun _ hk => hk.2) (.bool a0_2)) (fun _ hk => hk.2) (.slice Ao8 t300.length co8)) (fun _ hk => trivial), (aBl HB).out⟩

mutual
def field_apart.j0 : Nat → List Int → Bool → Int → Int → Bool → List Int → Option (Int)
 | 0, _, _, _, _, _, _ => none
 | k + 1, x2, x22, x472000, x472001, x472002, x472003 => if x22 = true then (some 2) else (field_apart.l0 k x2 x2 (x2.length : Int) 0 x472000 x472001 x472002 x472003)
def field_apart.l0 : Nat → List Int → List Int → Int → Int → Int → Int → Bool → List Int → Option (Int)
 | 0, _, _, _, _, _, _, _, _ => none
 | k + 1, x2, x23, x24, x25, x472000, x472001, x472002, x472003 => if x25 < x24 then (if 0 ≤ x25 then (if x25 < (x23.length : Int) then ((field_has.f k x472000 x472001 x472002 x472003 (rd x23 x25)).bind fun t474 => (if t474 = true then (field_apart.l0 k x2 x23 x24 (wrap64 (x25 + 1)) x472000 x472001 x472002 x472003) else (some 7))) else (none)) else (none)) else (field_apart.l1 k x2 x2 (x2.length : Int) 0)
def field_apart.l1 : Nat → List Int → List Int → Int → Int → Option (Int)
 | 0, _, _, _, _ => none
 | k + 1, x2, x34, x35, x36 => if x36 < x35 then (if 0 ≤ x36 then (if x36 < (x34.length : Int) then (if x36 ≤ (x2.length : Int) then ((slices_Contains_int_int.f k (x2.take (x36 : Int).toNat) (rd x34 x36)).bind fun t477 => (if t477 = true then (some 9) else (field_apart.l1 k x2 x34 x35 (wrap64 (x36 + 1))))) else (none)) else (none)) else (none)) else (some 0)
end
def field_apart.f (k : Nat) (a0_0 : Int) (a0_1 : Int) (a0_2 : Bool) (l0_3 : List Int) (a1 : Int) (l2 : List Int) : Option (Int) := (field_Check.f a0_0 a0_1 a0_2 l0_3).bind fun t472 => (if t472 = 0 then (if a1 < 0 then (field_apart.j0 k l2 true a0_0 a0_1 a0_2 l0_3) else (field_apart.j0 k l2 (decide (a1 > 200)) a0_0 a0_1 a0_2 l0_3)) else (some t472))
set_option maxHeartbeats 8000000 in
set_option maxRecDepth 100000 in
theorem field_apart.calls (k : Nat) (a0_0 : Int) (a0_1 : Int) (a0_2 : Bool) (A0_3 : Option Addr) (c0_3 : Nat) (l0_3 : List Int) (a1 : Int) (A2 : Option Addr) (c2 : Nat) (l2 : List Int) (r : Int) (w : World) (hr0_3 : Kd.C (Kd.int .i64) w A0_3 l0_3.length l0_3) (hc0_3 : l0_3.length ≤ c0_3) (hr2 : Kd.C (Kd.int .i64) w A2 l2.length l2) (hc2 : l2.length ≤ c2) (h : field_apart.f k a0_0 a0_1 a0_2 l0_3 a1 l2 = some r) :
  Calls Try.prog 91 #[.agg #[.int .i64 a0_0, .int .i64 a0_1, .bool a0_2, .slice A0_3 l0_3.length c0_3], .int .i64 a1, .slice A2 l2.length c2] w fun e w' => e = .returned (.int .i64 r) ∧ Below w.heap.size w w' := by
 have hu24 := Try.underlying24
 have HR0_3 := Aside0.mk hr0_3
 have HC0_3 := Aside0.mk hc0_3
 clear hr0_3 hc0_3
 have HR2 := Aside0.mk hr2
 have HC2 := Aside0.mk hc2
 clear hr2 hc2
 have HB := Aside0.mk (Below.refl w.heap.size w)
 have H : ((field_Check.f a0_0 a0_1 a0_2 l0_3).bind fun t472 => (if t472 = 0 then (if a1 < 0 then (field_apart.j0 k l2 true a0_0 a0_1 a0_2 l0_3) else (field_apart.j0 k l2 (decide (a1 > 200)) a0_0 a0_1 a0_2 l0_3)) else (some t472))) = some r := h
 clear h
 obtain ⟨t472, A40, H⟩ := Option.bind_eq_some_iff.mp H
 have A4 := Aside0.mk A40
 clear A40
 by_cases c5 : t472 = 0
 ·rw [if_pos c5] at H
  obtain ⟨c5b0, c5b1⟩ := aEq c5
  clear c5
  have HC6 := Aside0.mk H
  clear H
  go_enter Try.func91, Try.ntmps91
  go_upto_region 4 with (first | ((with_reducible refine gate_dst (N := 3) rfl ?_); refine aBox 3 #[.int .i64 a0_0, .int .i64 a0_1, .bool a0_2, .slice A0_3 l0_3.length c0_3] 24 ?_; intro gb471 hg w7 hbox hb; have BK471 := Aside0.mk (hbox); have GW471 := aGe hg HB; have GE471 := aGe hg HB; replace HB := aBs HB hb; clear hb hbox hg; obtain ⟨⟨hcz8_0, hcz8_1, hcz8_2, hcz8_3⟩, hfz8_0, hfz8_1, hfz8_2, hfz8_3⟩ := aC4 BK471) | ((with_reducible refine gate_callee (f := 39) rfl ?_); refine goesL_ (some 13) rfl rfl Try.func39 (by kernel_rfl) rfl #[.agg #[.int .i64 a0_0, .int .i64 a0_1, .bool a0_2, .slice A0_3 l0_3.length c0_3]] rfl aA ?_; (with_reducible refine (field_Check.calls a0_0 a0_1 a0_2 _ _ l0_3 t472 _ ?side1 ?side2 A4.out).mono ?_); (case side1 => exact aC HR0_3 HB); (case side2 => exact HC0_3.out); rintro e w9 ⟨rfl, hb⟩; refine ⟨_, rfl, ?_⟩; replace BK471 := aBb BK471 hb; replace HB := aBs HB hb; (try clear hb); (try clear hb2); (try clear hk); (try clear hi)))
  (try simp only [Act.put, List.setIfInBounds_toArray, List.set_cons_zero, List.set_cons_succ])
  go_cut [22] (fun v22 wc => ∃ (kq : Nat) (x22_5 : Bool), v22 = .bool x22_5 ∧ Aside0 (field_apart.j0 kq l2 x22_5 a0_0 a0_1 a0_2 l0_3 = some r) ∧ Aside0 (kq ≤ k) ∧ Aside0 (wc.heap[gb471]? = some (.cells #[.int .i64 a0_0, .int .i64 a0_1, .bool a0_2, (.slice A0_3 l0_3.length c0_3)] 24 (0, 0))) ∧ Aside0 (Below w.heap.size w wc))
  case first =>
   have H := HC6.out
   clear HC6
   by_cases c10 : a1 < 0
   ·rw [if_pos c10] at H
    have c10b0 := decide_eq_true c10
    clear c10
    (first | rw [c10b0] | (simp only [i64_w, i32_w]; rw [c10b0]) | skip)
    have H' := Aside0.mk H
    clear H
    go_wp2
    go_meet
    case rel => exact ⟨_, (true), aR, H', ⟨by first | omega | exact Nat.le_refl _⟩, aBk BK471, aBl HB⟩
   ·rw [if_neg c10] at H
    have c10b0 := decide_eq_false c10
    clear c10
    (first | rw [c10b0] | (simp only [i64_w, i32_w]; rw [c10b0]) | skip)
    have H' := Aside0.mk H
    clear H
    go_wp2
    go_meet
    case rel => exact ⟨_, (decide (a1 > 200)), aR, H', ⟨by first | omega | exact Nat.le_refl _⟩, aBk BK471, aBl HB⟩
  case rest =>
   clear HC6
   try clear c1; try clear c2; try clear p2; try clear c3; try clear c5; try clear c5b0; try clear c5b1; try clear c9; try clear c10; try clear c10b0; try clear hcz8_0; try clear hcz8_1; try clear hcz8_2; try clear hcz8_3; try clear hfz8_0; try clear hfz8_1; try clear hfz8_2; try clear hfz8_3
   obtain ⟨kq, x22_5, rfl, HA, HJ5, BK471, HB⟩ := hcut
   cases kq with
   | zero => exact absurd HA.out (by simp [field_apart.j0])
   | succ kj5 =>
    have H := HA.out
    clear HA
    simp only [field_apart.j0] at H
    by_cases c11 : x22_5 = true
    ·subst c11
     have H1 : (some 2) = some r := by rw [if_pos rfl] at H; exact H
     clear H
     have H := H1
     clear H1
     obtain rfl := Option.some.inj H
     go_wp2
     go_ret
     exact ⟨by first | rfl | (simp [errW_none, errW_some] <;> rfl) | (simp [*, errW_none, errW_some] <;> rfl), (aBl HB).out⟩
    ·replace c11 := Bool.eq_false_iff.mpr c11
     subst c11
     have H1 : (field_apart.l0 kj5 l2 l2 (l2.length : Int) 0 a0_0 a0_1 a0_2 l0_3) = some r := by rw [if_neg (show ¬ (false = true) by decide)] at H; exact H
     clear H
     have H := H1
     clear H1
     have H' := Aside0.mk H
     clear H
     go_wp2
     go_loopg [25] kj5 (fun kq v25 w' => ∃ (x25_2 : Int), v25 = .int .i64 x25_2 ∧ Aside0 (field_apart.l0 kq l2 l2 (l2.length : Int) x25_2 a0_0 a0_1 a0_2 l0_3 = some r) ∧ Aside0 (kq ≤ kj5) ∧ Aside0 (w'.heap[gb471]? = some (.cells #[.int .i64 a0_0, .int .i64 a0_1, .bool a0_2, (.slice A0_3 l0_3.length c0_3)] 24 (0, 0))) ∧ Aside0 (Below w.heap.size w w'))
     case atStart => exact ⟨(0), aR, H', ⟨Nat.le_refl _⟩, aBk BK471, aBl HB⟩
     case round =>
      clear H'
      try clear c1; try clear c2; try clear p2; try clear c3; try clear c5; try clear c5b0; try clear c5b1; try clear c9; try clear c10; try clear c10b0; try clear c11; try clear hcz8_0; try clear hcz8_1; try clear hcz8_2; try clear hcz8_3; try clear hfz8_0; try clear hfz8_1; try clear hfz8_2; try clear hfz8_3; try clear p2
      obtain ⟨x25_2, rfl, HA, HK2, BK471, HB⟩ := hrel
      cases gk with
      | zero => exact absurd HA.out (by simp [field_apart.l0])
      | succ k2 =>
       have H := HA.out
       clear HA
       simp only [field_apart.l0] at H
       by_cases c12 : x25_2 < (l2.length : Int)
       ·rw [if_pos c12] at H
        have c12b0 := decide_eq_true c12
        clear c12
        by_cases c13 : 0 ≤ x25_2
        ·rw [if_pos c13] at H
         have c13b0 := decide_eq_true c13
         clear c13
         by_cases c14 : x25_2 < (l2.length : Int)
         ·rw [if_pos c14] at H
          have c14b0 := decide_eq_true c14
          clear c14
          obtain ⟨t474, A150, H⟩ := Option.bind_eq_some_iff.mp H
          have A15 := Aside0.mk A150
          clear A150
          by_cases c16 : t474 = true
          ·subst c16
           have H1 : (field_apart.l0 k2 l2 l2 (l2.length : Int) (wrap64 (x25_2 + 1)) a0_0 a0_1 a0_2 l0_3) = some r := by rw [if_pos rfl] at H; exact H
           clear H
           have H := H1
           clear H1
           have H' := Aside0.mk H
           clear H
           have p473 : 0 ≤ (x25_2 : Int) := aD
           have q473 : x25_2 < (l2.length : Int) := aD
           obtain ⟨ad473, e473, hx473_0⟩ := Kd.at_int HR2.out x25_2 p473 q473
           cases e473
           replace hx473_0 := (HB.out.cell (World.block_lt_of_cell? w _ hx473_0)).trans hx473_0
           replace p473 := eq_true p473
           replace q473 := eq_true q473
           obtain ⟨⟨hcz17_0, hcz17_1, hcz17_2, hcz17_3⟩, hfz17_0, hfz17_1, hfz17_2, hfz17_3⟩ := aC4 BK471
           go_wp2_with (first | ((with_reducible refine gate_callee (f := 77) rfl ?_); refine goesL_ (some 31) rfl rfl Try.func77 (by kernel_rfl) rfl #[.agg #[.int .i64 a0_0, .int .i64 a0_1, .bool a0_2, .slice A0_3 l0_3.length c0_3], .int .i64 (rd l2 x25_2)] rfl aA ?_; (with_reducible refine (field_has.calls k2 a0_0 a0_1 a0_2 _ _ l0_3 (rd l2 x25_2) true _ ?side1 ?side2 A15.out).mono ?_); (case side1 => exact aC HR0_3 HB); (case side2 => exact HC0_3.out); rintro e w18 ⟨rfl, hb⟩; refine ⟨_, rfl, ?_⟩; replace BK471 := aBb BK471 hb; replace HB := aBs HB hb; (try clear hb); (try clear hb2); (try clear hk); (try clear hi)))
           go_roundg k2
           case measure => have := HJ5.out; have := HK2.out; omega
           case rel => exact ⟨(wrap64 (x25_2 + 1)), aR, H', ⟨by have := HJ5.out; have := HK2.out; omega⟩, aBk BK471, aBl HB⟩
          ·replace c16 := Bool.eq_false_iff.mpr c16
           subst c16
           have H1 : (some 7) = some r := by rw [if_neg (show ¬ (false = true) by decide)] at H; exact H
           clear H
           have H := H1
           clear H1
           obtain rfl := Option.some.inj H
           have p473 : 0 ≤ (x25_2 : Int) := aD
           have q473 : x25_2 < (l2.length : Int) := aD
           obtain ⟨ad473, e473, hx473_0⟩ := Kd.at_int HR2.out x25_2 p473 q473
           cases e473
           replace hx473_0 := (HB.out.cell (World.block_lt_of_cell? w _ hx473_0)).trans hx473_0
           replace p473 := eq_true p473
           replace q473 := eq_true q473
           obtain ⟨⟨hcz19_0, hcz19_1, hcz19_2, hcz19_3⟩, hfz19_0, hfz19_1, hfz19_2, hfz19_3⟩ := aC4 BK471
           go_wp2_with (first | ((with_reducible refine gate_callee (f := 77) rfl ?_); refine goesL_ (some 31) rfl rfl Try.func77 (by kernel_rfl) rfl #[.agg #[.int .i64 a0_0, .int .i64 a0_1, .bool a0_2, .slice A0_3 l0_3.length c0_3], .int .i64 (rd l2 x25_2)] rfl aA ?_; (with_reducible refine (field_has.calls k2 a0_0 a0_1 a0_2 _ _ l0_3 (rd l2 x25_2) false _ ?side1 ?side2 A15.out).mono ?_); (case side1 => exact aC HR0_3 HB); (case side2 => exact HC0_3.out); rintro e w20 ⟨rfl, hb⟩; refine ⟨_, rfl, ?_⟩; replace BK471 := aBb BK471 hb; replace HB := aBs HB hb; (try clear hb); (try clear hb2); (try clear hk); (try clear hi)))
           go_ret
           exact ⟨by first | rfl | (simp [errW_none, errW_some] <;> rfl) | (simp [*, errW_none, errW_some] <;> rfl), (aBl HB).out⟩
         ·rw [if_neg c14] at H
          exact absurd H (by simp)
        ·rw [if_neg c13] at H
         exact absurd H (by simp)
       ·rw [if_neg c12] at H
        have c12b0 := decide_eq_false c12
        clear c12
        have H' := Aside0.mk H
        clear H
        go_wp2
        go_loopg [36] k2 (fun kq v36 w' => ∃ (x36_3 : Int), v36 = .int .i64 x36_3 ∧ Aside0 (field_apart.l1 kq l2 l2 (l2.length : Int) x36_3 = some r) ∧ Aside0 (kq ≤ k2) ∧ Aside0 (w'.heap[gb471]? = some (.cells #[.int .i64 a0_0, .int .i64 a0_1, .bool a0_2, (.slice A0_3 l0_3.length c0_3)] 24 (0, 0))) ∧ Aside0 (Below w.heap.size w w'))
        case atStart => exact ⟨(0), aR, H', ⟨Nat.le_refl _⟩, aBk BK471, aBl HB⟩
        case round =>
         clear H'
         try clear c1; try clear c2; try clear p2; try clear c3; try clear p4; try clear q4; try clear hx4; try clear c5; try clear c5b0; try clear c5b1; try clear p6; try clear c7; try clear c9; try clear c10; try clear c10b0; try clear c11; try clear c12; try clear c12b0; try clear c13; try clear c13b0; try clear c14; try clear c14b0; try clear c16; try clear hcz17_0; try clear hcz17_1; try clear hcz17_2; try clear hcz17_3; try clear hcz19_0; try clear hcz19_1; try clear hcz19_2; try clear hcz19_3; try clear hcz8_0; try clear hcz8_1; try clear hcz8_2; try clear hcz8_3; try clear hfz17_0; try clear hfz17_1; try clear hfz17_2; try clear hfz17_3; try clear hfz19_0; try clear hfz19_1; try clear hfz19_2; try clear hfz19_3; try clear hfz8_0; try clear hfz8_1; try clear hfz8_2; try clear hfz8_3; try clear hx473_0; try clear p2; try clear p473; try clear q473
         obtain ⟨x36_3, rfl, HA, HK3, BK471, HB⟩ := hrel
         cases gk with
         | zero => exact absurd HA.out (by simp [field_apart.l1])
         | succ k3 =>
          have H := HA.out
          clear HA
          simp only [field_apart.l1] at H
          by_cases c21 : x36_3 < (l2.length : Int)
          ·rw [if_pos c21] at H
           have c21b0 := decide_eq_true c21
           clear c21
           by_cases c22 : 0 ≤ x36_3
           ·rw [if_pos c22] at H
            have c22b0 := decide_eq_true c22
            clear c22
            by_cases c23 : x36_3 < (l2.length : Int)
            ·rw [if_pos c23] at H
             have c23b0 := decide_eq_true c23
             clear c23
             have c24b0 := eq_true (aD : 0 ≤ x36_3)
             by_cases c25 : x36_3 ≤ (l2.length : Int)
             ·rw [if_pos c25] at H
              have c25b0 := eq_true c25
              have c25b1 := decide_eq_true c25
              clear c25
              obtain ⟨t477, A260, H⟩ := Option.bind_eq_some_iff.mp H
              have A26 := Aside0.mk A260
              clear A260
              by_cases c27 : t477 = true
              ·subst c27
               have H1 : (some 9) = some r := by rw [if_pos rfl] at H; exact H
               clear H
               have H := H1
               clear H1
               obtain rfl := Option.some.inj H
               have p475 : 0 ≤ (x36_3 : Int) := aD
               have q475 : x36_3 < (l2.length : Int) := aD
               obtain ⟨ad475, e475, hx475_0⟩ := Kd.at_int HR2.out x36_3 p475 q475
               cases e475
               replace hx475_0 := (HB.out.cell (World.block_lt_of_cell? w _ hx475_0)).trans hx475_0
               replace p475 := eq_true p475
               replace q475 := eq_true q475
               obtain ⟨i028, hi028, _, hsz28, _⟩ := info_parts info3
               obtain ⟨hcut28, hA28, hC28⟩ := print_take_of (P := Try.prog) (Value.int .i64) 0 22 3 .i64 Try.underlying22 hi028 hsz28 (some ad475) c2 l2 x36_3 (aD) (aD) HC2.out
               have HR476 := Aside0.mk (Kd.C_of_reads (h1 := fun _ => rfl) (hA28 _ (Kd.reads_of_C HR2.out)))
               have HC476 := Aside0.mk hC28
               clear hA28 hC28 hi028 hsz28
               go_wp2_with (first | ((with_reducible refine gate_callee (f := 88) rfl ?_); refine goesL_ (some 45) rfl rfl Try.func88 (by kernel_rfl) rfl #[.slice (some ad475) (l2.take (x36_3 : Int).toNat).length c2, .int .i64 (rd l2 x36_3)] rfl (by (try simp only [List.map_toArray, List.map_cons, List.map_nil]); first | done | (rw [show (l2.take (x36_3 : Int).toNat).length = x36_3.toNat from (by rw [List.length_take]; have h_ : (x36_3 : Int) ≤ (l2.length : Int) := aD; omega)] <;> rfl) | rfl | (simp only [List.length_drop, List.length_take]; rfl)) ?_; (with_reducible refine (slices_Contains_int_int.calls k3 _ _ (l2.take (x36_3 : Int).toNat) (rd l2 x36_3) true _ ?side1 ?side2 A26.out).mono ?_); (case side1 => exact aC HR476 HB); (case side2 => exact HC476.out); rintro e w' ⟨rfl, ⟨nd, rfl⟩⟩; refine ⟨_, rfl, ?_⟩))
               go_ret
               exact ⟨by first | rfl | (simp [errW_none, errW_some] <;> rfl) | (simp [*, errW_none, errW_some] <;> rfl), (aBl HB).out⟩
              ·replace c27 := Bool.eq_false_iff.mpr c27
               subst c27
               have H1 : (field_apart.l1 k3 l2 l2 (l2.length : Int) (wrap64 (x36_3 + 1))) = some r := by rw [if_neg (show ¬ (false = true) by decide)] at H; exact H
               clear H
               have H := H1
               clear H1
               have H' := Aside0.mk H
               clear H
               have p475 : 0 ≤ (x36_3 : Int) := aD
               have q475 : x36_3 < (l2.length : Int) := aD
               obtain ⟨ad475, e475, hx475_0⟩ := Kd.at_int HR2.out x36_3 p475 q475
               cases e475
               replace hx475_0 := (HB.out.cell (World.block_lt_of_cell? w _ hx475_0)).trans hx475_0
               replace p475 := eq_true p475
               replace q475 := eq_true q475
               obtain ⟨i029, hi029, _, hsz29, _⟩ := info_parts info3
               obtain ⟨hcut29, hA29, hC29⟩ := print_take_of (P := Try.prog) (Value.int .i64) 0 22 3 .i64 Try.underlying22 hi029 hsz29 (some ad475) c2 l2 x36_3 (aD) (aD) HC2.out
               have HR476 := Aside0.mk (Kd.C_of_reads (h1 := fun _ => rfl) (hA29 _ (Kd.reads_of_C HR2.out)))
               have HC476 := Aside0.mk hC29
               clear hA29 hC29 hi029 hsz29
               go_wp2_with (first | ((with_reducible refine gate_callee (f := 88) rfl ?_); refine goesL_ (some 45) rfl rfl Try.func88 (by kernel_rfl) rfl #[.slice (some ad475) (l2.take (x36_3 : Int).toNat).length c2, .int .i64 (rd l2 x36_3)] rfl (by (try simp only [List.map_toArray, List.map_cons, List.map_nil]); first | done | (rw [show (l2.take (x36_3 : Int).toNat).length = x36_3.toNat from (by rw [List.length_take]; have h_ : (x36_3 : Int) ≤ (l2.length : Int) := aD; omega)] <;> rfl) | rfl | (simp only [List.length_drop, List.length_take]; rfl)) ?_; (with_reducible refine (slices_Contains_int_int.calls k3 _ _ (l2.take (x36_3 : Int).toNat) (rd l2 x36_3) false _ ?side1 ?side2 A26.out).mono ?_); (case side1 => exact aC HR476 HB); (case side2 => exact HC476.out); rintro e w' ⟨rfl, ⟨nd, rfl⟩⟩; refine ⟨_, rfl, ?_⟩))
               go_roundg k3
               case measure => have := HJ5.out; have := HK2.out; have := HK3.out; omega
               case rel => exact ⟨(wrap64 (x36_3 + 1)), aR, H', ⟨by have := HJ5.out; have := HK2.out; have := HK3.out; omega⟩, aBk BK471, aBl HB⟩
             ·rw [if_neg c25] at H
              exact absurd H (by simp)
            ·rw [if_neg c23] at H
             exact absurd H (by simp)
           ·rw [if_neg c22] at H
            exact absurd H (by simp)
          ·rw [if_neg c21] at H
           have c21b0 := decide_eq_false c21
           clear c21
           obtain rfl := Option.some.inj H
           go_wp2
           go_ret
           exact ⟨by first | rfl | (simp [errW_none, errW_some] <;> rfl) | (simp [*, errW_none, errW_some] <;> rfl), (aBl HB).out⟩
 ·rw [if_neg c5] at H
  obtain ⟨c5b0, c5b1⟩ := aNe c5
  obtain rfl := Option.some.inj H
  go_enter Try.func91, Try.ntmps91
  go_wp2_with (first | ((with_reducible refine gate_dst (N := 3) rfl ?_); refine aBox 3 #[.int .i64 a0_0, .int .i64 a0_1, .bool a0_2, .slice A0_3 l0_3.length c0_3] 24 ?_; intro gb471 hg w30 hbox hb; have BK471 := Aside0.mk (hbox); have GW471 := aGe hg HB; have GE471 := aGe hg HB; replace HB := aBs HB hb; clear hb hbox hg; obtain ⟨⟨hcz31_0, hcz31_1, hcz31_2, hcz31_3⟩, hfz31_0, hfz31_1, hfz31_2, hfz31_3⟩ := aC4 BK471) | ((with_reducible refine gate_callee (f := 39) rfl ?_); refine goesL_ (some 13) rfl rfl Try.func39 (by kernel_rfl) rfl #[.agg #[.int .i64 a0_0, .int .i64 a0_1, .bool a0_2, .slice A0_3 l0_3.length c0_3]] rfl aA ?_; (with_reducible refine (field_Check.calls a0_0 a0_1 a0_2 _ _ l0_3 t472 _ ?side1 ?side2 A4.out).mono ?_); (case side1 => exact aC HR0_3 HB); (case side2 => exact HC0_3.out); rintro e w32 ⟨rfl, hb⟩; refine ⟨_, rfl, ?_⟩; replace BK471 := aBb BK471 hb; replace HB := aBs HB hb; (try clear hb); (try clear hb2); (try clear hk); (try clear hi)))
  go_ret
  exact ⟨by first | rfl | (simp [errW_none, errW_some] <;> rfl) | (simp [*, errW_none, errW_some] <;> rfl), (aBl HB).out⟩
end Go.Proofs.Ytndkkjpgnmahbaa.Print
end
