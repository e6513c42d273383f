/- Part 6 of the texts of a claim about Ytndkkjpgnmahbaa, put together by a program of this work: what the Go functions do, and that their calls do so. -/
import Derived.Test.YtndkkjpgnmahbaaFD5
import Derived.Test.YtndkkjpgnmahbaaFD3
import Derived.Test.YtndkkjpgnmahbaaFD4
import Derived.Test.YtndkkjpgnmahbaaFD2
import Derived.SizedLaws
import Derived.ChangeSlices
import Derived.WalkKit
import Derived.ProofKit
import Derived.OpenShut
import Derived.ChangeOld
section
namespace Go.Proofs.Field
section
variable {up : Bool} {W H : Nat} {R : Bool} {C v : List Int}
theorem take_set_ {b : List Int} {n i : Nat} {x : Int} : (b.set i x).take n = (b.take n).set i x := by
 apply List.ext_getElem
 ·simp
 ·intro j h1 h2
  simp [List.getElem_set]
theorem sweepTo_take (hC : C.length = W * H) {b : List Int} (hb : C.length ≤ b.length) : ∀ i, i ≤ C.length → (sweepTo up W H R C (b.take C.length) i) = ((sweepTo up W H R C b i).1.take C.length, (sweepTo up W H R C b i).2)
 | 0, _ => rfl
 | i + 1, hi => by
  rw [sweepTo, sweepTo, sweepTo_take hC hb i (by omega)]
  have hil : i < C.length := by omega
  have hr : relax up W H R ((sweepTo up W H R C b i).1.take C.length) i = relax up W H R (sweepTo up W H R C b i).1 i := by
   unfold relax
   congr 1
   refine under_congr (fun p hp => ?_)
   rw [fn_take (by rw [hC]; exact (nbs_lt (by rw [← hC]; exact hil) hp).1)]
  unfold swStep
  by_cases q : 0 < fn C i
  ·rw [if_pos q, if_pos q]
  ·rw [if_neg q, if_neg q]
   simp only [hr, fn_take hil]
   by_cases z : relax up W H R (sweepTo up W H R C b i).1 i ≠ fn (sweepTo up W H R C b i).1 i
   ·rw [if_pos z, if_pos z, take_set_]
   ·rw [if_neg z, if_neg z]
theorem leastTo_mem : ∀ m, leastTo C v m = 1000000 ∨ ∃ i, i < m ∧ 0 < fn C i ∧ volt C v i = leastTo C v m
 | 0 => .inl rfl
 | m + 1 => by
  rw [leastTo]
  by_cases q : 0 < fn C m
  ·rw [if_pos q]
   by_cases z : volt C v m ≤ leastTo C v m
   ·exact .inr ⟨m, by omega, q, by omega⟩
   ·rw [show min (leastTo C v m) (volt C v m) = leastTo C v m by omega]
    rcases leastTo_mem m with h | ⟨i, a, b, c⟩
    ·exact .inl h
    ·exact .inr ⟨i, by omega, b, c⟩
  ·rw [if_neg q]
   rcases leastTo_mem m with h | ⟨i, a, b, c⟩
   ·exact .inl h
   ·exact .inr ⟨i, by omega, b, c⟩
theorem mostTo_mem : ∀ m, mostTo C v m = -1000000 ∨ ∃ i, i < m ∧ 0 < fn C i ∧ volt C v i = mostTo C v m
 | 0 => .inl rfl
 | m + 1 => by
  rw [mostTo]
  by_cases q : 0 < fn C m
  ·rw [if_pos q]
   by_cases z : mostTo C v m ≤ volt C v m
   ·exact .inr ⟨m, by omega, q, by omega⟩
   ·rw [show max (mostTo C v m) (volt C v m) = mostTo C v m by omega]
    rcases mostTo_mem m with h | ⟨i, a, b, c⟩
    ·exact .inl h
    ·exact .inr ⟨i, by omega, b, c⟩
  ·rw [if_neg q]
   rcases mostTo_mem m with h | ⟨i, a, b, c⟩
   ·exact .inl h
   ·exact .inr ⟨i, by omega, b, c⟩
theorem volt_bounds2 (hV : Volted W H R C v) {i : Nat} (hi : i < C.length) (hp : 0 < fn C i) : -1000000 ≤ volt C v i ∧ volt C v i ≤ 1000000 := by
 have h1 := hV.vlen i hi
 have h2 := hV.vr ((fn C i).toNat - 1) (by omega)
 exact h2
theorem volt_minmax (hV : Volted W H R C v) {i : Nat} (hi : i < C.length) (hp : 0 < fn C i) : minOf (onOf C v) ≤ volt C v i ∧ volt C v i ≤ maxOf (onOf C v) := by
 have hm : volt C v i ∈ onOf C v := List.mem_map.2 ⟨fn C i, mem_elec.2 ⟨by omega, (hV.elr i hi).2, fn_mem hi⟩, rfl⟩
 exact ⟨minOf_le hm, le_maxOf hm⟩
theorem least_eq (hV : Volted W H R C v) : leastTo C v C.length = minOf (onOf C v) := by
 have h1 := lowest hV
 obtain ⟨j, hj, hp, e⟩ := on_volt (minOf_mem (on_ne hV))
 have h2 := volt_bounds2 hV hj hp
 rcases leastTo_mem (C := C) (v := v) C.length with h | ⟨i, a, b, c⟩
 ·omega
 ·have := (volt_minmax hV a b).1
  omega
theorem most_eq (hV : Volted W H R C v) : mostTo C v C.length = maxOf (onOf C v) := by
 have h1 := highest hV
 obtain ⟨j, hj, hp, e⟩ := on_volt (maxOf_mem (on_ne hV))
 have h2 := volt_bounds2 hV hj hp
 rcases mostTo_mem (C := C) (v := v) C.length with h | ⟨i, a, b, c⟩
 ·omega
 ·have := (volt_minmax hV a b).2
  omega
theorem laid_take (h : C.length ≤ 256) (x : Int) : (laid C v 256 x).take C.length = Go.Proofs.Ytndkkjpgnmahbaa.Print.firstTo C v x C.length := by
 apply List.ext_getElem
 ·simp [laid, Go.Proofs.Ytndkkjpgnmahbaa.Print.firstTo]; omega
 ·intro i h1 h2
  have hi : i < C.length := by simpa [Go.Proofs.Ytndkkjpgnmahbaa.Print.firstTo] using h2
  simp [laid, Go.Proofs.Ytndkkjpgnmahbaa.Print.firstTo, hi]
end
end Go.Proofs.Field
end

section
namespace Go.Proofs.Ytndkkjpgnmahbaa.Print
open Go.RowKit Go.Proofs.YtndkkjpgnmahbaaW.PrintWords Go.Proofs.YtndkkjpgnmahbaaW.PrintLast Go.Proofs.YtndkkjpgnmahbaaW.PrintMore Go.Proofs.Ytndkkjpgnmahbaa.H Go.Proofs.Field
attribute [local go_sem] max2_int min2_int max_two min_two max_three min_three max_four min_four
set_option linter.unusedVariables false
set_option linter.unusedSimpArgs false
structure SR (w W : World) (gp g6 g9 : Nat) (pv : Array Value) (g1 c1 g2 c2 n : Nat) (lo hi : List Int) (k : Nat) (still : Bool) : Prop where
 old : Below w.heap.size w W
 p : W.heap[gp]? = some (.cells pv 24 (0, 0))
 r : W.heap[g6]? = some (.cells #[.slice none 0 0, .slice none 0 0, .int .i64 0, .bool false] 33 (0, 0))
 f : W.heap[g9]? = some (.cells #[.slice (some ⟨g1, 0, none⟩) n c1, .slice (some ⟨g2, 0, none⟩) n c2, .int .i64 (k : Int), .bool still] 33 (0, 0))
 r1 : Row4 W w.heap.size g1 c1 n lo
 r2 : Row4 W w.heap.size g2 c2 n hi
 ne : g1 ≠ g2
 n6 : g6 ≠ g9
 ge : w.heap.size ≤ g9 ∧ w.heap.size ≤ g6
namespace SR
variable {w W W1 : World} {gp g6 g9 : Nat} {pv : Array Value} {g1 c1 g2 c2 n : Nat} {lo hi l1 l2 : List Int} {k : Nat} {still : Bool}
theorem step (h : SR w W gp g6 g9 pv g1 c1 g2 c2 n lo hi k still) (hb : Below W.heap.size W W1) : SR w W1 gp g6 g9 pv g1 c1 g2 c2 n lo hi k still :=
 ⟨below_step h.old hb, blk_below h.p hb, blk_below h.r hb, blk_below h.f hb, h.r1.below hb, h.r2.below hb, h.ne, h.n6, h.ge⟩
theorem away1 (h : SR w W gp g6 g9 pv g1 c1 g2 c2 n lo hi k still) {g t : Nat} {cs : Array Value} (hg : W.heap[g]? = some (.cells cs t (0, 0))) (ht : (3 : Nat) ≠ t) : g ≠ g1 := fun e => Kd.R_ne h.r1.2 hg ht (by rw [e]; rfl)
theorem away2 (h : SR w W gp g6 g9 pv g1 c1 g2 c2 n lo hi k still) {g t : Nat} {cs : Array Value} (hg : W.heap[g]? = some (.cells cs t (0, 0))) (ht : (3 : Nat) ≠ t) : g ≠ g2 := fun e => Kd.R_ne h.r2.2 hg ht (by rw [e]; rfl)
theorem swept (h : SR w W gp g6 g9 pv g1 c1 g2 c2 n lo hi k still) (hb : Below w.heap.size w W1) (hk : KeepBut W W1 g1 (some g2)) (a1 : Row4 W1 w.heap.size g1 c1 n l1) (a2 : Row4 W1 w.heap.size g2 c2 n l2) : SR w W1 gp g6 g9 pv g1 c1 g2 c2 n l1 l2 k still :=
 ⟨hb, hk.blk h.p (h.away1 h.p (by decide)) (fun e => h.away2 h.p (by decide) (Option.some.inj e)), hk.blk h.r (h.away1 h.r (by decide)) (fun e => h.away2 h.r (by decide) (Option.some.inj e)), hk.blk h.f (h.away1 h.f (by decide)) (fun e => h.away2 h.f (by decide) (Option.some.inj e)), a1, a2, h.ne, h.n6, h.ge⟩
theorem puts (h : SR w W gp g6 g9 pv g1 c1 g2 c2 n lo hi k still) (b : Bool) : SR w (W.setCell ⟨g9, 3, none⟩ (.bool b)) gp g6 g9 pv g1 c1 g2 c2 n lo hi k b :=
 ⟨below_set h.old h.ge.1, blk_far (p := ⟨g9, 3, none⟩) h.p (blk_ne h.p h.f (by decide)) _, blk_far (p := ⟨g9, 3, none⟩) h.r h.n6 _, by rw [blk_set h.f 3]; rfl, h.r1.far (p := ⟨g9, 3, none⟩) (h.away1 h.f (by decide)).symm _, h.r2.far (p := ⟨g9, 3, none⟩) (h.away2 h.f (by decide)).symm _, h.ne, h.n6, h.ge⟩
theorem putk (h : SR w W gp g6 g9 pv g1 c1 g2 c2 n lo hi k still) : SR w (W.setCell ⟨g9, 2, none⟩ (.int .i64 ((k : Int) + 1))) gp g6 g9 pv g1 c1 g2 c2 n lo hi (k + 1) still :=
 ⟨below_set h.old h.ge.1, blk_far (p := ⟨g9, 2, none⟩) h.p (blk_ne h.p h.f (by decide)) _, blk_far (p := ⟨g9, 2, none⟩) h.r h.n6 _, by rw [blk_set h.f 2, show (k : Int) + 1 = ((k + 1 : Nat) : Int) by omega]; rfl, h.r1.far (p := ⟨g9, 2, none⟩) (h.away1 h.f (by decide)).symm _, h.r2.far (p := ⟨g9, 2, none⟩) (h.away2 h.f (by decide)).symm _, h.ne, h.n6, h.ge⟩
theorem row (h : SR w W gp g6 g9 pv g1 c1 g2 c2 n lo hi k still) (cs : Array Value) : Kd.R (Kd.int .i64) 3 (W.setRow g6 cs) w.heap.size (fun k_ => some k_ ≠ (Value.slice (some ⟨g2, 0, none⟩) n c2).ownBlock) (.slice (some ⟨g1, 0, none⟩) n c1) lo ∧ Kd.R (Kd.int .i64) 3 (W.setRow g6 cs) w.heap.size (fun k_ => some k_ ≠ (Value.slice (some ⟨g1, 0, none⟩) n c1).ownBlock) (.slice (some ⟨g2, 0, none⟩) n c2) hi ∧ Below w.heap.size w (W.setRow g6 cs) := by
 refine ⟨?_, ?_, ?_⟩
 ·exact Kd.R_mono (Kd.R_step (Kd.R_types h.r1.2 h.r (by decide)) (fun k hk _ => setRow_other _ _ _ _ hk.2)) (fun k hk e => h.ne (by rw [← hk.1]; exact Option.some.inj e))
 ·exact Kd.R_mono (Kd.R_step (Kd.R_types h.r2.2 h.r (by decide)) (fun k hk _ => setRow_other _ _ _ _ hk.2)) (fun k hk e => h.ne (by rw [← hk.1]; exact (Option.some.inj e).symm))
 ·exact ⟨h.old.os, h.old.tape, h.old.output, by rw [size_setRow]; exact h.old.size, fun i hi => by rw [setRow_other _ g6 i _ (by have := h.ge.2; omega)]; exact h.old.block i hi⟩
end SR
theorem sw_ok {up : Bool} {W H : Nat} {R : Bool} {C b : List Int} (h : Sweepable up W H R C b) (h256 : C.length ≤ 256) : SwOk up W H R C (b.take C.length) := by
 refine ⟨by rw [List.length_take, h.len]; omega, fun i hi j hj => ?_⟩
 rw [sweepTo_take h.cells (by rw [h.len]; exact h256) i hi, fn_take hj]
 exact h.range i hi j hj
def thermionref01_Solve.f := field_Solve.f
set_option maxHeartbeats 6400000 in
set_option maxRecDepth 100000 in
theorem thermionref01_Solve.calls (W : Int) (H : Int) (R : Bool) (A : Option Addr) (c : Nat) (C : List Int) (A1 : Option Addr) (c1 : Nat) (volts : List Int) (a2 : Int) (r1 : List Int) (r2 : List Int) (r3 : Int) (r4 : Bool) (r5 : Int) (w : World) (hr : Kd.C (Kd.int .i64) w A C.length C) (hc : C.length ≤ c) (hr1 : Kd.C (Kd.int .i64) w A1 volts.length volts) (hc1 : volts.length ≤ c1) (h : thermionref01_Solve.f W H R C volts a2 = some (r1, r2, r3, r4, r5)) :
  Calls Try.prog 26 #[.agg #[.int .i64 W, .int .i64 H, .bool R, .slice A C.length c], .slice A1 volts.length c1, .int .i64 a2] w fun e w' => ∃ v0_ v1_ : Value, e = .returned (.tuple #[.agg #[v0_, v1_, .int .i64 r3, .bool r4], .int .i64 r5]) ∧ Kd.R (Kd.int .i64) 3 w' w.heap.size (fun k_ => some k_ ≠ (v1_ : Value).ownBlock) v0_ r1 ∧ Kd.R (Kd.int .i64) 3 w' w.heap.size (fun k_ => some k_ ≠ (v0_ : Value).ownBlock) v1_ r2 ∧ Below w.heap.size w w' := by
 have HR := Aside0.mk hr
 have HC := Aside0.mk hc
 have HR1 := Aside0.mk hr1
 have HC1 := Aside0.mk hc1
 have HM := Aside0.mk (Mem.start w)
 have hu24 := Try.underlying24
 have hu22 := Try.underlying22
 have hu33 := Try.underlying33
 clear hr hc hr1 hc1
 obtain ⟨KV, hKV⟩ := refvolts_eq W H R C volts
 have HE := Aside0.mk (hKV KV (Nat.le_refl _))
 clear hKV
 unfold thermionref01_Solve.f field_Solve.f at h
 by_cases g0 : voltErr W H R C volts ≠ 0
 ·rw [if_pos g0] at h
  simp only [Option.some.injEq, Prod.mk.injEq] at h
  obtain ⟨rfl, rfl, rfl, rfl, h5⟩ := h
  rw [h5] at g0 HE
  have g1 : (r5 != 0) = true := bne_iff_ne.mpr g0
  clear g0 h5
  go_enter Try.func26, Try.ntmps26
  go_wp2_with (first
  | ((with_reducible refine gate_dst (N := 3) rfl ?_); refine ev_box HM.out rfl 24 (.tmp 0) rfl (cs := planV W H R A C.length c) rfl ?_; intro gp w1 hm1 hq1; clear hq1; have HM1 := Aside0.mk hm1; clear hm1 HM)
  | ((with_reducible refine gate_dst (N := 6) rfl ?_); refine ev_new HM1.out rfl 33 rfl info33 ?_; intro g6 w2 hm2 hq2; clear hq2; have HM2 := Aside0.mk hm2; clear hm2 HM1)
  | ((with_reducible refine gate_dst (N := 10) rfl ?_); refine ev_load HM2.out.second rfl 24 (.tmp 3) rfl rfl _ Try.underlying24 rfl size24 rfl ?_)
  | (go_at_call 42; refine (thermionref01_CheckVolts.calls KV W H R A c C A1 c1 volts _ _ (Kd.C_below HR.out HM2.out.below) HC.out (Kd.C_below HR1.out HM2.out.below) HC1.out HE.out).mono ?_; rintro e w3 ⟨rfl, hb3⟩; have HM3 := Aside0.mk (HM2.out.step hb3); clear hb3 HM2)
  | ((with_reducible refine gate_store (t := 33) (p := 6) rfl ?_); refine ev_store HM3.out rfl 33 (.tmp 6) (.tmp 15) rfl rfl (cs := #[.slice none 0 0, .slice none 0 0, .int .i64 0, .bool false]) rfl size33 rfl rfl (by simp [Value.oneCell']) ?_; intro w4 hm4 hq4; clear hq4; have HM9 := Aside0.mk hm4; clear hm4 HM3))
  (try simp only [Exit.inBlock, Exit.then])
  exact bodyPost_ret (results_row_tmp rfl _ _ g6 33 _ (0, 0) _ rfl HM9.out.head hu33 rfl (by rw [size33]; rfl)) rfl ⟨.slice none 0 0, .slice none 0 0, rfl, Kd.R_nil _ _ _ _ _, Kd.R_nil _ _ _ _ _, HM9.out.below⟩
 rw [if_neg g0] at h
 have g0' : voltErr W H R C volts = 0 := Classical.byContradiction fun q => g0 q
 rw [g0'] at HE
 by_cases g2 : a2 < 0 ∨ 200 < a2
 ·rw [if_pos g2] at h
  simp only [Option.some.injEq, Prod.mk.injEq] at h
  obtain ⟨rfl, rfl, rfl, rfl, rfl⟩ := h
  have b1 := decide_eq_true g2
  clear g0 g0' g2
  go_enter Try.func26, Try.ntmps26
  go_wp2_with (first
  | ((with_reducible refine gate_dst (N := 3) rfl ?_); refine ev_box HM.out rfl 24 (.tmp 0) rfl (cs := planV W H R A C.length c) rfl ?_; intro gp w1 hm1 hq1; clear hq1; have HM1 := Aside0.mk hm1; clear hm1 HM)
  | ((with_reducible refine gate_dst (N := 6) rfl ?_); refine ev_new HM1.out rfl 33 rfl info33 ?_; intro g6 w2 hm2 hq2; clear hq2; have HM2 := Aside0.mk hm2; clear hm2 HM1)
  | ((with_reducible refine gate_dst (N := 10) rfl ?_); refine ev_load HM2.out.second rfl 24 (.tmp 3) rfl rfl _ Try.underlying24 rfl size24 rfl ?_)
  | (go_at_call 42; refine (thermionref01_CheckVolts.calls KV W H R A c C A1 c1 volts _ _ (Kd.C_below HR.out HM2.out.below) HC.out (Kd.C_below HR1.out HM2.out.below) HC1.out HE.out).mono ?_; rintro e w3 ⟨rfl, hb3⟩; have HM3 := Aside0.mk (HM2.out.step hb3); clear hb3 HM2)
  | (go_at_call 73; refine (thermionref01_beyond.calls _ _ _ _ _ (beyond_eq _ _ _)).mono ?_; rintro e w3b ⟨rfl, hb3⟩; have HM4 := Aside0.mk (HM3.out.step (by first | exact hb3 | exact hb3.below)); clear hb3 HM3)
  | ((with_reducible refine gate_store (t := 33) (p := 6) rfl ?_); refine ev_store HM4.out rfl 33 (.tmp 6) (.tmp 19) rfl rfl (cs := #[.slice none 0 0, .slice none 0 0, .int .i64 0, .bool false]) rfl size33 rfl rfl (by simp [Value.oneCell']) ?_; intro w4 hm4 hq4; clear hq4; have HM9 := Aside0.mk hm4; clear hm4 HM4))
  (try simp only [Exit.inBlock, Exit.then])
  exact bodyPost_ret (results_row_tmp rfl _ _ g6 33 _ (0, 0) _ rfl HM9.out.head hu33 rfl (by rw [size33]; rfl)) rfl ⟨.slice none 0 0, .slice none 0 0, rfl, Kd.R_nil _ _ _ _ _, Kd.R_nil _ _ _ _ _, HM9.out.below⟩
 rw [if_neg g2] at h
 have b1 := decide_eq_false g2
 obtain ⟨W', H', rfl, rfl, hW, hH, hN, hCE, hV⟩ := volted_of g0'
 obtain ⟨N, rfl⟩ : ∃ N : Nat, a2 = N := ⟨a2.toNat, by omega⟩
 rw [Int.toNat_natCast, Int.toNat_natCast, Int.toNat_natCast] at h
 have HF : Aside0 ((solveN W' H' R C volts 256 N).1.take C.length = r1 ∧ (solveN W' H' R C volts 256 N).2.1.take C.length = r2 ∧ ((solveN W' H' R C volts 256 N).2.2.1 : Int) = r3 ∧ (solveN W' H' R C volts 256 N).2.2.2 = r4 ∧ (0 : Int) = r5) := ⟨by simpa only [Option.some.injEq, Prod.mk.injEq] using h⟩
 have HV := Aside0.mk hV
 obtain ⟨p1, p2, p3, p4, _⟩ := check_parts hCE
 have HWH : Aside0 ((1 ≤ W' ∧ W' ≤ 16) ∧ (1 ≤ H' ∧ H' ≤ 16) ∧ C.length ≤ 256) := ⟨⟨by omega, by omega, hN⟩⟩
 have HN2 : Aside0 (N ≤ 200) := ⟨by omega⟩
 have HL0 := Aside0.mk (lowR_laid hV hN)
 have HH0 := Aside0.mk (highR_laid hV hN)
 have HSS : Aside0 (solveN W' H' R C volts 256 N = sweeps W' H' R C N (laid C volts 256 (minOf (onOf C volts))) (laid C volts 256 (maxOf (onOf C volts))) 0 false) := ⟨rfl⟩
 have HLT : Aside0 (firstTo C volts (leastTo C volts C.length) C.length = (laid C volts 256 (minOf (onOf C volts))).take C.length ∧ firstTo C volts (mostTo C volts C.length) C.length = (laid C volts 256 (maxOf (onOf C volts))).take C.length) := ⟨by rw [least_eq hV, most_eq hV, laid_take hN, laid_take hN]; exact ⟨rfl, rfl⟩⟩
 have HBG : Aside0 (∀ (V : World), Below w.heap.size w V → Calls Try.prog 74 #[.agg (planV (W' : Int) (H' : Int) R A C.length c), .slice A1 volts.length c1] V fun e w' => ∃ vL vH : Value, e = .returned (.agg #[vL, vH, .int .i64 0, .bool false]) ∧ Two w' V.heap.size vL vH (firstTo C volts (leastTo C volts C.length) C.length) (firstTo C volts (mostTo C volts C.length) C.length) ∧ Below V.heap.size V w') := ⟨fun V hb => refbegin_calls (W' : Int) (H' : Int) R A c C A1 c1 volts V (Kd.C_below HR.out hb) (Kd.C_below HR1.out hb) hN (fun i hi => ⟨(HV.out.elr i hi).1, (HV.out.elr i hi).2, HV.out.vlen i hi⟩)⟩
 rw [HLT.out.1, HLT.out.2] at HBG
 have HLL : Aside0 (((laid C volts 256 (minOf (onOf C volts))).take C.length).length = C.length ∧ ((laid C volts 256 (maxOf (onOf C volts))).take C.length).length = C.length) := ⟨by rw [List.length_take, List.length_take, laid_length, laid_length]; omega⟩
 generalize laid C volts 256 (minOf (onOf C volts)) = lo0 at HL0 HSS HBG HLL
 generalize laid C volts 256 (maxOf (onOf C volts)) = hi0 at HH0 HSS HBG HLL
 clear hW hH hN hCE hV g0 g0' g2 h HLT p1 p2 p3 p4
 go_enter Try.func26, Try.ntmps26
 go_wp2_with (first
  | ((with_reducible refine gate_dst (N := 3) rfl ?_); refine ev_box HM.out rfl 24 (.tmp 0) rfl (cs := planV (W' : Int) (H' : Int) R A C.length c) rfl ?_; intro gp w1 hm1 hq1; clear hq1; have HM1 := Aside0.mk hm1; clear hm1 HM)
  | ((with_reducible refine gate_dst (N := 6) rfl ?_); refine ev_new HM1.out rfl 33 rfl info33 ?_; intro g6 w2 hm2 hq2; clear hq2; have HM2 := Aside0.mk hm2; clear hm2 HM1)
  | ((with_reducible refine gate_dst (N := 10) rfl ?_); refine ev_load HM2.out.second rfl 24 (.tmp 3) rfl rfl _ Try.underlying24 rfl size24 rfl ?_)
  | (go_at_call 42; refine (thermionref01_CheckVolts.calls KV (W' : Int) (H' : Int) R A c C A1 c1 volts _ _ (Kd.C_below HR.out HM2.out.below) HC.out (Kd.C_below HR1.out HM2.out.below) HC1.out HE.out).mono ?_; rintro e w3 ⟨rfl, hb3⟩; have HM3 := Aside0.mk (HM2.out.step hb3); clear hb3 HM2)
  | (go_at_call 73; refine (thermionref01_beyond.calls _ _ _ _ _ (beyond_eq _ _ _)).mono ?_; rintro e w3b ⟨rfl, hb3⟩; have HM4 := Aside0.mk (HM3.out.step (by first | exact hb3 | exact hb3.below)); clear hb3 HM3)
  | ((with_reducible refine gate_dst (N := 20) rfl ?_); refine ev_load HM4.out.second rfl 24 (.tmp 3) rfl rfl _ Try.underlying24 rfl size24 rfl ?_)
  | (go_at_call 74; refine (HBG.out _ HM4.out.below).mono ?_; rintro e w5 ⟨vL, vH, rfl, hT, hb⟩; obtain ⟨g1, d1, ee, hr1, _, _⟩ := row4_of hT.l (by rw [HLL.out.1]; exact HV.out.pos); rw [HLL.out.1] at ee hr1; obtain ⟨g2, d2, ee2, hr2, _, _⟩ := row4_of hT.h (by rw [HLL.out.2]; exact HV.out.pos); rw [HLL.out.2] at ee2 hr2; subst ee ee2; have HNE : Aside0 (g1 ≠ g2) := ⟨fun e => hT.l.1 g1 rfl (by rw [e]; rfl)⟩; have HT1 : Aside0 (Row4 w5 w.heap.size g1 d1 C.length (lo0.take C.length)) := ⟨⟨hr1.1, Kd.R_lower hr1.2 HM4.out.below.size⟩⟩; have HT2 : Aside0 (Row4 w5 w.heap.size g2 d2 C.length (hi0.take C.length)) := ⟨⟨hr2.1, Kd.R_lower hr2.2 HM4.out.below.size⟩⟩; have HM5 := Aside0.mk (HM4.out.step hb); clear hb hT hr1 hr2 HM4 HBG)
  | ((with_reducible refine gate_dst (N := 9) rfl ?_); refine ev_new (Mem.start w5) rfl 33 rfl info33 ?_; intro g9 w6 hm hq; have HX6 := Aside0.mk hm; clear hm hq)
  | ((with_reducible refine gate_store (t := 33) (p := 9) rfl ?_); refine ev_store HX6.out rfl 33 (.tmp 9) (.tmp 22) rfl rfl (cs := #[.slice (some ⟨g1, 0, none⟩) C.length d1, .slice (some ⟨g2, 0, none⟩) C.length d2, .int .i64 0, .bool false]) rfl size33 rfl rfl (by simp [Value.oneCell']) ?_; intro w7 hm hq; have HM7 := Aside0.mk (mem_join HM5.out hm); have HT1b := Aside0.mk (HT1.out.below hm.below); have HT2b := Aside0.mk (HT2.out.below hm.below); clear hm hq HX6 HM5 HT1 HT2))
 have HS0 : Aside0 (SR w w7 gp g6 g9 (planV (W' : Int) (H' : Int) R A C.length c) g1 d1 g2 d2 C.length (lo0.take C.length) (hi0.take C.length) 0 false) := ⟨⟨HM7.out.below, HM7.out.third, HM7.out.second, HM7.out.head, HT1b.out, HT2b.out, HNE.out, (HM7.out.ne _ List.mem_cons_self).symm, ⟨HM7.out.geh, HM7.out.drop.geh⟩⟩⟩
 clear HM7 HT1b HT2b HNE
 try simp only [Act.put, List.setIfInBounds_toArray, List.set_cons_zero, List.set_cons_succ]
 go_loopg [] N (fun kk w' => ∃ (k : Nat) (lo hi : List Int) (still : Bool), Aside0 (SR w w' gp g6 g9 (planV (W' : Int) (H' : Int) R A C.length c) g1 d1 g2 d2 C.length (lo.take C.length) (hi.take C.length) k still) ∧ Aside0 (k + kk = N) ∧ Aside0 (sweeps W' H' R C (N - k) lo hi k still = solveN W' H' R C volts 256 N) ∧ Aside0 (LowR W' H' R C volts lo ∧ HighR W' H' R C volts hi))
 case atStart => exact ⟨0, lo0, hi0, false, HS0, ⟨by omega⟩, ⟨HSS.out.symm⟩, ⟨HL0.out, HH0.out⟩⟩
 case round =>
  clear HS0 HSS HL0 HH0 HE b1 HR1 HC1 HLL
  obtain ⟨k, lo, hi, still, HS, HK, HSW, HLH⟩ := hrel
  have c2 : wr.cell? ⟨g9, 2, none⟩ = some (.int .i64 (k : Int)) := (blk_cell HS.out.f 2).trans rfl
  have c3 : wr.cell? ⟨g9, 3, none⟩ = some (.bool still) := (blk_cell HS.out.f 3).trans rfl
  have HEND : still = true ∨ ¬ k < N → Aside0 ((lo.take C.length, hi.take C.length, k, still) = (r1, r2, (solveN W' H' R C volts 256 N).2.2.1, r4)) := fun hq => ⟨by
   have h2 := HSW.out
   have h3 : sweeps W' H' R C (N - k) lo hi k still = (lo, hi, k, still) := by
    rcases hq with hq | hq
    ·subst hq
     cases N - k with
     | zero => rfl
     | succ m => rw [sweeps, if_pos rfl]
    ·rw [show N - k = 0 by omega]; rfl
   rw [h3] at h2
   obtain ⟨e1, e2, e3, e4, e5⟩ := HF.out
   rw [← h2] at e1 e2 e4 ⊢
   rw [← e1, ← e2, ← e4]⟩
  by_cases hk : k < N
  ·have h1 : decide (k < N) = true := decide_eq_true hk
   have h1b : decide ((k : Int) < (N : Int)) = true := decide_eq_true (by omega)
   cases still
   ·clear HEND
    have HN1 : Aside0 (sweeps W' H' R C (N - (k + 1)) (sweep false W' H' R C lo).1 (sweep true W' H' R C hi).1 (k + 1) (!(sweep false W' H' R C lo).2 && !(sweep true W' H' R C hi).2) = solveN W' H' R C volts 256 N) := ⟨by
     have h2 := HSW.out
     rw [show N - k = (N - (k + 1)) + 1 by omega, sweeps, if_neg (by simp)] at h2
     exact h2⟩
    obtain ⟨sl, hl2⟩ := sweepable_low HV.out HWH.out.1.2 HWH.out.2.1.2 HLH.out.1
    obtain ⟨sh, hh2⟩ := sweepable_high HV.out HWH.out.1.2 HWH.out.2.1.2 HLH.out.2
    have HLH2 := Aside0.mk (And.intro hl2 hh2)
    have HKN : Aside0 (k < N) := ⟨hk⟩
    have n1 : IntKind.i64.wrap ((k : Int) + 1) = (k : Int) + 1 := IntWalk.i64_in _ (by have := HN2.out; omega)
    have el : sweep false W' H' R C (lo.take C.length) = ((sweep false W' H' R C lo).1.take C.length, (sweep false W' H' R C lo).2) := sweepTo_take HV.out.len (by rw [sl.len]; exact HWH.out.2.2) C.length (Nat.le_refl _)
    have eh : sweep true W' H' R C (hi.take C.length) = ((sweep true W' H' R C hi).1.take C.length, (sweep true W' H' R C hi).2) := sweepTo_take HV.out.len (by rw [sh.len]; exact HWH.out.2.2) C.length (Nat.le_refl _)
    have hsw := fun V (hv : SR w V gp g6 g9 (planV (W' : Int) (H' : Int) R A C.length c) g1 d1 g2 d2 C.length (lo.take C.length) (hi.take C.length) k false) => refsweep_calls W' H' HWH.out.1 HWH.out.2.1 R A c C g1 d1 g2 d2 (lo.take C.length) (hi.take C.length) (k : Int) false w V hv.old HR.out HC.out HV.out.len hv.r1 hv.r2 hv.ne (fun i hi hv => sl.all i hi hv) (sw_ok sl HWH.out.2.2) (sw_ok sh HWH.out.2.2)
    rw [el, eh] at hsw
    have HSC := Aside0.mk hsw
    clear sl sh hl2 hh2 hk HSW HLH el eh hsw
    obtain ⟨lo1, hlo⟩ : ∃ x, (sweep false W' H' R C lo).1 = x := ⟨_, rfl⟩
    obtain ⟨s1, hs1⟩ : ∃ x, (sweep false W' H' R C lo).2 = x := ⟨_, rfl⟩
    obtain ⟨hi1, hhi⟩ : ∃ x, (sweep true W' H' R C hi).1 = x := ⟨_, rfl⟩
    obtain ⟨s2, hs2⟩ : ∃ x, (sweep true W' H' R C hi).2 = x := ⟨_, rfl⟩
    rw [hlo, hs1, hhi, hs2] at HN1 HSC
    rw [hlo, hhi] at HLH2
    clear hlo hs1 hhi hs2
    have HST2 : Aside0 ((!s1 && !s2) = !(s1 || s2)) := ⟨by cases s1 <;> cases s2 <;> rfl⟩
    go_wp2_with (first
     | ((with_reducible refine gate_dst (N := 32) rfl ?_); refine ev_load HS.out.p rfl 24 (.tmp 3) rfl rfl _ Try.underlying24 rfl size24 rfl ?_)
     | ((with_reducible refine gate_dst (N := 33) rfl ?_); refine ev_load HS.out.f rfl 33 (.tmp 9) rfl rfl _ Try.underlying33 rfl size33 rfl ?_)
     | (go_at_call 75; (with_reducible refine (HSC.out _ HS.out).mono ?_); rintro e w8 ⟨rfl, hb, hkb, ha1, ha2⟩; have HS5 := Aside0.mk (HS.out.swept hb hkb ha1 ha2); clear hb hkb ha1 ha2 HSC HS c2 c3; have c4 : w8.cell? ⟨g9, 2, none⟩ = some (.int .i64 (k : Int)) := (blk_cell HS5.out.f 2).trans rfl; have c5 : w8.cell? ⟨g9, 3, none⟩ = some (.bool false) := (blk_cell HS5.out.f 3).trans rfl; have f5 : w8.frozen? ⟨g9, 3, none⟩ = false := blk_frozen HS5.out.f 3; have f4 : w8.frozen? ⟨g9, 2, none⟩ = false := blk_frozen HS5.out.f 2))
    have HS6 := Aside0.mk ((HS5.out.puts (!s1 && !s2)).putk)
    go_roundg (N - (k + 1))
    case measure => have := HKN.out; have := HK.out; omega
    case rel => exact ⟨k + 1, lo1, hi1, _, HS6, ⟨by have := HKN.out; omega⟩, HN1, HLH2⟩
   ·have HEN := HEND (.inl rfl)
    clear HEND
    go_wp2_with (first
     | ((with_reducible refine gate_dst (N := 41) rfl ?_); refine ev_load HS.out.f rfl 33 (.tmp 9) rfl rfl _ Try.underlying33 rfl size33 rfl ?_)
     | ((with_reducible refine gate_store (t := 33) (p := 6) rfl ?_); refine ev_storeB HS.out.r rfl 33 (.tmp 6) (.tmp 41) rfl rfl rfl size33 rfl rfl (by simp [Value.oneCell']) ?_))
    (try simp only [Exit.inBlock, Exit.then])
    have hen := HEN.out
    simp only [Prod.mk.injEq] at hen
    obtain ⟨e1, e2, e3, e4⟩ := hen
    obtain ⟨_, _, f3, _, f5⟩ := HF.out
    subst e1 e2 e4 f5
    rw [← e3] at f3
    subst f3
    exact bodyPost_ret (results_row_tmp rfl _ _ g6 33 _ (0, 0) _ rfl (setRow_heap _ _ _ _ _ _ HS.out.r) hu33 rfl (by rw [size33]; rfl)) rfl ⟨_, _, rfl, (HS.out.row _).1, (HS.out.row _).2.1, (HS.out.row _).2.2⟩
  ·have h1 : decide (k < N) = false := decide_eq_false hk
   have h1b : decide ((k : Int) < (N : Int)) = false := decide_eq_false (by omega)
   have HEN := HEND (.inr hk)
   clear HEND
   go_wp2_with (first
    | ((with_reducible refine gate_dst (N := 41) rfl ?_); refine ev_load HS.out.f rfl 33 (.tmp 9) rfl rfl _ Try.underlying33 rfl size33 rfl ?_)
    | ((with_reducible refine gate_store (t := 33) (p := 6) rfl ?_); refine ev_storeB HS.out.r rfl 33 (.tmp 6) (.tmp 41) rfl rfl rfl size33 rfl rfl (by simp [Value.oneCell']) ?_))
   (try simp only [Exit.inBlock, Exit.then])
   have hen := HEN.out
   simp only [Prod.mk.injEq] at hen
   obtain ⟨e1, e2, e3, e4⟩ := hen
   obtain ⟨_, _, f3, _, f5⟩ := HF.out
   subst e1 e2 e4 f5
   rw [← e3] at f3
   subst f3
   exact bodyPost_ret (results_row_tmp rfl _ _ g6 33 _ (0, 0) _ rfl (setRow_heap _ _ _ _ _ _ HS.out.r) hu33 rfl (by rw [size33]; rfl)) rfl ⟨_, _, rfl, (HS.out.row _).1, (HS.out.row _).2.1, (HS.out.row _).2.2⟩
end Go.Proofs.Ytndkkjpgnmahbaa.Print
end

section
namespace Go.Proofs.Ytndkkjpgnmahbaa.Print
open Go.RowKit Go.Proofs.YtndkkjpgnmahbaaW.PrintWords Go.Proofs.YtndkkjpgnmahbaaW.PrintLast Go.Proofs.YtndkkjpgnmahbaaW.PrintMore Go.Proofs.Ytndkkjpgnmahbaa.H
attribute [local go_sem] max2_int min2_int max_two min_two max_three min_three max_four min_four
set_option linter.unusedVariables false
set_option linter.unusedSimpArgs false
end Go.Proofs.Ytndkkjpgnmahbaa.Print
end

section
namespace Go.Proofs.Field
section
variable {W H : Nat} {R : Bool} {C v : List Int}
end
end Go.Proofs.Field
end

section
namespace Go.Proofs.Ytndkkjpgnmahbaa.Print
open Go.RowKit Go.Proofs.YtndkkjpgnmahbaaW.PrintWords Go.Proofs.YtndkkjpgnmahbaaW.PrintLast Go.Proofs.YtndkkjpgnmahbaaW.PrintMore Go.Proofs.Field
set_option linter.unusedVariables false
section
variable {W H : Nat} {R : Bool} {C v lo hi : List Int} {e u : Int} {i : Nat}
end

end Go.Proofs.Ytndkkjpgnmahbaa.Print
end

section
namespace Go.Proofs.Ytndkkjpgnmahbaa.Print
open Go.RowKit Go.Proofs.YtndkkjpgnmahbaaW.PrintWords Go.Proofs.YtndkkjpgnmahbaaW.PrintLast Go.Proofs.YtndkkjpgnmahbaaW.PrintMore
attribute [local go_sem] max2_int min2_int max_two min_two max_three min_three max_four min_four
set_option linter.unusedVariables false
set_option linter.unusedSimpArgs false
def thermionlaw01_big.l0 : Nat → List (List Int) → Int → Int → Int → Bool → List Int → Option (Bool)
 | 0, _, _, _, _, _, _ => none
 | k + 1, x1, x5, x102000, x102001, x102002, x102003 => if x5 < (x1.length : Int) then (if 0 ≤ x5 then (if ((rd_L1 x1 x5).length : Int) > 300 then (some true) else (thermionlaw01_big.l0 k x1 (wrap64 (x5 + 1)) x102000 x102001 x102002 x102003)) else (none)) else (some (decide ((x102003.length : Int) > 300)))
def thermionlaw01_big.f (k : Nat) (a0_0 : Int) (a0_1 : Int) (a0_2 : Bool) (l0_3 : List Int) (l1 : List (List Int)) : Option (Bool) := thermionlaw01_big.l0 k l1 0 a0_0 a0_1 a0_2 l0_3
set_option maxHeartbeats 8000000 in
set_option maxRecDepth 100000 in
theorem thermionlaw01_big.calls (k : Nat) (a0_0 : Int) (a0_1 : Int) (a0_2 : Bool) (A0_3 : Option Addr) (c0_3 : Nat) (l0_3 : List Int) (A1 : Option Addr) (c1 : Nat) (l1 : List (List Int)) (r : Bool) (w : World) (hr0_3 : Kd.C (Kd.int .i64) w A0_3 l0_3.length l0_3) (hc0_3 : l0_3.length ≤ c0_3) (hr1 : Kd.C (Kd.slice 3 (Kd.int .i64)) w A1 l1.length l1) (hc1 : l1.length ≤ c1) (h : thermionlaw01_big.f k a0_0 a0_1 a0_2 l0_3 l1 = some r) :
  Calls Try.prog 19 #[.agg #[.int .i64 a0_0, .int .i64 a0_1, .bool a0_2, .slice A0_3 l0_3.length c0_3], .slice A1 l1.length c1] w fun e w' => e = .returned (.bool r) ∧ Below w.heap.size w w' := by
 have hu24 := Try.underlying24
 have HR0_3 := Aside0.mk hr0_3
 have HC0_3 := Aside0.mk hc0_3
 clear hr0_3 hc0_3
 have HR1 := Aside0.mk hr1
 have HC1 := Aside0.mk hc1
 clear hr1 hc1
 have HB := Aside0.mk (Below.refl w.heap.size w)
 have H : (thermionlaw01_big.l0 k l1 0 a0_0 a0_1 a0_2 l0_3) = some r := h
 clear h
 have H' := Aside0.mk H
 clear H
 go_enter Try.func19, Try.ntmps19
 go_wp2_with (first | ((with_reducible refine gate_dst (N := 2) rfl ?_); refine box_event ?hg (N := 2) ?hd (cs := #[.int .i64 a0_0, .int .i64 a0_1, .bool a0_2, .slice A0_3 l0_3.length c0_3]) (t := 24) ?hr ?_; (case hd => rfl); (case hg => rfl); (case hr => first | (go_simp; done) | (go_simp; rfl)); intro gb101 hg w3 hbox hb; have n0_ := Aside0.mk (below_step (by repeat (first | (with_reducible first | exact HB.out | apply below_alloc | apply pw_below_drewN | apply below_drew1) | exact HB.out)) hb); have n1_ := Aside0.mk (hbox); have n2_ := Aside0.mk ((by rw [hg]; exact (below_size (by repeat (first | (with_reducible first | exact HB.out | apply below_alloc | apply pw_below_drewN | apply below_drew1) | exact HB.out))) : w.heap.size ≤ gb101)); have n3_ := Aside0.mk ((by rw [hg]; exact (below_size (by repeat (first | (with_reducible first | exact HB.out | apply below_alloc | apply pw_below_drewN | apply below_drew1) | exact HB.out))) : w.heap.size ≤ gb101)); clear HB; have HB := n0_; have BK101 := n1_; have GW101 := n2_; have GE101 := n3_; clear n0_ n1_ n2_ n3_; clear hb hbox hg))
 go_loopg [5] k (fun kq v5 w' => ∃ (x5_1 : Int), v5 = .int .i64 x5_1 ∧ Aside0 (thermionlaw01_big.l0 kq l1 x5_1 a0_0 a0_1 a0_2 l0_3 = some r) ∧ Aside0 (kq ≤ k) ∧ Aside0 (w'.heap[gb101]? = some (.cells #[.int .i64 a0_0, .int .i64 a0_1, .bool a0_2, (.slice A0_3 l0_3.length c0_3)] 24 (0, 0))) ∧ Aside0 (Below w.heap.size w w'))
 case atStart => exact ⟨(0), (by first | rfl | (simp; done) | (simp [*]; done)), H', ⟨Nat.le_refl _⟩, ⟨by (with_reducible repeat (first | refine blk_drewN ?_ _ | refine blk_drew ?_ | refine blk_alloc ?_ _)); exact BK101.out⟩, ⟨by repeat (first | (with_reducible first | exact HB.out | apply below_alloc | apply pw_below_drewN | apply below_drew1 | refine below_set ?_ GE101.out) | exact HB.out)⟩⟩
 case round =>
  clear H'
  try clear c1
  try clear p2
  obtain ⟨x5_1, rfl, HA, HK1, BK101, HB⟩ := hrel
  cases gk with
  | zero => exact absurd HA.out (by simp [thermionlaw01_big.l0])
  | succ k1 =>
   have H := HA.out
   clear HA
   simp only [thermionlaw01_big.l0] at H
   by_cases c4 : x5_1 < (l1.length : Int)
   ·rw [if_pos c4] at H
    have c4b0 := decide_eq_true c4
    clear c4
    by_cases c5 : 0 ≤ x5_1
    ·rw [if_pos c5] at H
     have c5b0 := decide_eq_true c5
     clear c5
     by_cases c6 : ((rd_L1 l1 x5_1).length : Int) > 300
     ·rw [if_pos c6] at H
      have c6b0 := decide_eq_true c6
      have c6b1 : decide (300 < (rd_L1 l1 x5_1).length) = true := decide_eq_true (by omega)
      clear c6
      obtain rfl := Option.some.inj H
      have p102 : 0 ≤ (x5_1 : Int) := of_decide_eq_true (by first | (with_reducible assumption) | assumption)
      have q102 : x5_1 < (l1.length : Int) := of_decide_eq_true (by first | (with_reducible assumption) | assumption)
      obtain ⟨ad102, A102_0, c102_0, e102, hx102_0, hl102_0, hi102_0⟩ := at_L1 HR1.out x5_1 p102 q102
      cases e102
      replace hx102_0 := (HB.out.cell (World.block_lt_of_cell? w _ hx102_0)).trans hx102_0
      have HR102_0 := Aside0.mk hi102_0
      have HC102_0 := Aside0.mk hl102_0
      clear hi102_0 hl102_0
      replace p102 := eq_true p102
      replace q102 := eq_true q102
      go_wp2
      go_ret
      exact ⟨by first | rfl | (simp [errW_none, errW_some] <;> rfl) | (simp [*, errW_none, errW_some] <;> rfl), by repeat (first | (with_reducible first | exact HB.out | apply below_alloc | apply pw_below_drewN | apply below_drew1 | refine below_set ?_ GE101.out) | exact HB.out)⟩
     ·rw [if_neg c6] at H
      have c6b0 := decide_eq_false c6
      have c6b1 : decide (300 < (rd_L1 l1 x5_1).length) = false := decide_eq_false (by omega)
      clear c6
      have H' := Aside0.mk H
      clear H
      have p102 : 0 ≤ (x5_1 : Int) := of_decide_eq_true (by first | (with_reducible assumption) | assumption)
      have q102 : x5_1 < (l1.length : Int) := of_decide_eq_true (by first | (with_reducible assumption) | assumption)
      obtain ⟨ad102, A102_0, c102_0, e102, hx102_0, hl102_0, hi102_0⟩ := at_L1 HR1.out x5_1 p102 q102
      cases e102
      replace hx102_0 := (HB.out.cell (World.block_lt_of_cell? w _ hx102_0)).trans hx102_0
      have HR102_0 := Aside0.mk hi102_0
      have HC102_0 := Aside0.mk hl102_0
      clear hi102_0 hl102_0
      replace p102 := eq_true p102
      replace q102 := eq_true q102
      go_wp2
      go_roundg k1
      case measure => have := HK1.out; omega
      case rel => exact ⟨(wrap64 (x5_1 + 1)), (by first | rfl | (simp; done) | (simp [*]; done)), H', ⟨by have := HK1.out; omega⟩, ⟨by (with_reducible repeat (first | refine blk_drewN ?_ _ | refine blk_drew ?_ | refine blk_alloc ?_ _)); exact BK101.out⟩, ⟨by repeat (first | (with_reducible first | exact HB.out | apply below_alloc | apply pw_below_drewN | apply below_drew1 | refine below_set ?_ GE101.out) | exact HB.out)⟩⟩
    ·rw [if_neg c5] at H
     exact absurd H (by simp)
   ·rw [if_neg c4] at H
    have c4b0 := decide_eq_false c4
    clear c4
    obtain rfl := Option.some.inj H
    have hcz7_0 : wr.cell? ⟨gb101, 0, none⟩ = some (.int .i64 a0_0) := (blk_cell BK101.out 0).trans rfl
    have hcz7_1 : wr.cell? ⟨gb101, 1, none⟩ = some (.int .i64 a0_1) := (blk_cell BK101.out 1).trans rfl
    have hcz7_2 : wr.cell? ⟨gb101, 2, none⟩ = some (.bool a0_2) := (blk_cell BK101.out 2).trans rfl
    have hcz7_3 : wr.cell? ⟨gb101, 3, none⟩ = some (.slice A0_3 l0_3.length c0_3) := (blk_cell BK101.out 3).trans rfl
    have hfz7_0 := blk_frozen BK101.out 0
    have hfz7_1 := blk_frozen BK101.out 1
    have hfz7_2 := blk_frozen BK101.out 2
    have hfz7_3 := blk_frozen BK101.out 3
    go_wp2
    go_ret
    exact ⟨by first | rfl | (simp [errW_none, errW_some] <;> rfl) | (simp [*, errW_none, errW_some] <;> rfl), by repeat (first | (with_reducible first | exact HB.out | apply below_alloc | apply pw_below_drewN | apply below_drew1 | refine below_set ?_ GE101.out) | exact HB.out)⟩
end Go.Proofs.Ytndkkjpgnmahbaa.Print
end

section
namespace Go.Proofs.Ytndkkjpgnmahbaa.Print
open Go.RowKit Go.Proofs.YtndkkjpgnmahbaaW.PrintWords Go.Proofs.YtndkkjpgnmahbaaW.PrintLast Go.Proofs.YtndkkjpgnmahbaaW.PrintMore Go.Proofs.Ytndkkjpgnmahbaa.H Go.Proofs.Field
set_option linter.unusedVariables false
def slicesOf (l : List (Option Addr × Nat × List Int)) : List Value := l.map (fun p => .slice p.1 p.2.2.length p.2.1)
theorem C_of_slices {W : World} {g : Nat} {t : TypeId} (l : List (Option Addr × Nat × List Int)) (hb : W.heap[g]? = some (.cells (slicesOf l).toArray t (0, 0))) (hl : l.length ≤ 1000) (h : ∀ p, p ∈ l → Kd.C (Kd.int .i64) W p.1 p.2.2.length p.2.2 ∧ p.2.2.length ≤ p.2.1) :
  Kd.C (Kd.slice 3 (Kd.int .i64)) W (some ⟨g, 0, none⟩) l.length (l.map (fun p => p.2.2)) := by
 refine ⟨by simp, by omega, fun _ => ⟨_, rfl, fun j p hj => ?_⟩⟩
 rw [List.getElem?_map] at hj
 cases hq : l[j]? with
 | none => rw [hq] at hj; cases hj
 | some q =>
  rw [hq] at hj
  obtain rfl : q.2.2 = p := by simpa using hj
  obtain ⟨h1, h2⟩ := h q (List.mem_of_getElem? hq)
  refine ⟨[.slice q.1 q.2.2.length q.2.1], rfl, ⟨q.1, q.2.1, rfl, h2, h1⟩, fun i u hu => ?_⟩
  have hi : i = 0 := by
   cases i with
   | zero => rfl
   | succ i => simp at hu
  subst hi
  obtain rfl : Value.slice q.1 q.2.2.length q.2.1 = u := by simpa using hu
  have h3 := blk_cell hb j
  rw [show (⟨g, 0, none⟩ : Addr).add (j * (Kd.slice 3 (Kd.int .i64)).sz + 0) = ⟨g, j, none⟩ by
   show (⟨g, 0, none⟩ : Addr).add (j * 1 + 0) = _
   unfold Addr.add
   split <;> simp_all]
  rw [h3]
  simp [slicesOf, hq]
theorem big_go (W H : Int) (R : Bool) (C : List Int) (l : List (List Int)) (hl : l.length ≤ 1000) : ∀ (d i : Nat), i + d = l.length → thermionlaw01_big.l0 (d + 1) l (i : Int) W H R C = some ((l.drop i).any (fun x => decide (300 < x.length)) || decide (300 < C.length))
 | 0, i, h => by
  rw [thermionlaw01_big.l0, if_neg (by omega), List.drop_eq_nil_of_le (by omega)]
  have : decide ((C.length : Int) > 300) = decide (300 < C.length) := by
   by_cases q : 300 < C.length
   ·rw [decide_eq_true q, decide_eq_true (by omega)]
   ·rw [decide_eq_false q, decide_eq_false (by omega)]
  rw [this]
  rfl
 | d + 1, i, h => by
  have hi : i < l.length := by omega
  have hw : wrap64 ((i : Int) + 1) = ((i + 1 : Nat) : Int) := by rw [IntWalk.wrap64_in _ (by omega)]; omega
  have hr : rd_L1 l (i : Int) = l[i] := by simp [rd_L1, hi]
  rw [thermionlaw01_big.l0, if_pos (by omega), if_pos (by omega), hr, List.drop_eq_getElem_cons hi, List.any_cons]
  by_cases q : 300 < l[i].length
  ·rw [if_pos (by omega), decide_eq_true q, Bool.true_or, Bool.true_or]
  ·rw [if_neg (by omega), hw, big_go W H R C l hl d (i + 1) (by omega), decide_eq_false q, Bool.false_or]
theorem big_eq (W H : Int) (R : Bool) (C : List Int) (l : List (List Int)) (hl : l.length ≤ 1000) : thermionlaw01_big.f (l.length + 1) W H R C l = some (l.any (fun x => decide (300 < x.length)) || decide (300 < C.length)) := big_go W H R C l hl l.length 0 (by omega)
theorem big_at (W H : Int) (R : Bool) (A : Option Addr) (c : Nat) (C : List Int) (g n : Nat) (l : List (Option Addr × Nat × List Int)) (hn : l.length = n) (hn2 : n ≤ 1000) (b : Bool) (w : World) {t : TypeId} (hr : Kd.C (Kd.int .i64) w A C.length C) (hc : C.length ≤ c) (hb : w.heap[g]? = some (.cells (slicesOf l).toArray t (0, 0))) (h : ∀ p, p ∈ l → Kd.C (Kd.int .i64) w p.1 p.2.2.length p.2.2 ∧ p.2.2.length ≤ p.2.1)
  (hb2 : (((l.map (fun p => p.2.2)).any (fun x => decide (300 < x.length))) || decide (300 < C.length)) = b) :
  Calls Try.prog 19 #[.agg (planV W H R A C.length c), .slice (some ⟨g, 0, none⟩) n n] w fun e w' => e = .returned (.bool b) ∧ Below w.heap.size w w' := by
 subst hn hb2
 have h1 := thermionlaw01_big.calls _ W H R A c C (some ⟨g, 0, none⟩) l.length (l.map (fun p => p.2.2)) _ w hr hc (by rw [List.length_map]; exact C_of_slices l hb hn2 h) (by rw [List.length_map]; exact Nat.le_refl _) (big_eq W H R C _ (by rw [List.length_map]; exact hn2))
 rw [List.length_map] at h1
 exact h1
end Go.Proofs.Ytndkkjpgnmahbaa.Print
end

section
namespace Go.Proofs.Ytndkkjpgnmahbaa.Print
open Go.RowKit Go.Proofs.YtndkkjpgnmahbaaW.PrintWords Go.Proofs.YtndkkjpgnmahbaaW.PrintLast Go.Proofs.YtndkkjpgnmahbaaW.PrintMore
attribute [local go_sem] max2_int min2_int max_two min_two max_three min_three max_four min_four
set_option linter.unusedVariables false
set_option linter.unusedSimpArgs false


def thermionkit_Own.f (l0 : List Int) : Option (List Int) := (some (([] : List Int) : List Int)).bind fun y238 => (if y238.length + l0.length < 17592186044416 then (some (y238 ++ l0)) else (none))
set_option maxHeartbeats 8000000 in
set_option maxRecDepth 100000 in
theorem thermionkit_Own.calls (A0 : Option Addr) (c0 : Nat) (l0 : List Int) (r : List Int) (w : World) (hr0 : Kd.C (Kd.int .i64) w A0 l0.length l0) (hc0 : l0.length ≤ c0) (h : thermionkit_Own.f l0 = some r) :
  Calls Try.prog 38 #[.slice A0 l0.length c0] w fun e w' => ∃ v0_ : Value, e = .returned (v0_) ∧ Kd.R (Kd.int .i64) 3 w' w.heap.size (fun _ => True) v0_ r ∧ Below w.heap.size w w' := by
 have HR0 := Aside0.mk hr0
 have HC0 := Aside0.mk hc0
 clear hr0 hc0
 have HB := Aside0.mk (Below.refl w.heap.size w)
 have H : ((some (([] : List Int) : List Int)).bind fun y238 => (if y238.length + l0.length < 17592186044416 then (some (y238 ++ l0)) else (none))) = some r := h
 clear h
 obtain ⟨y238, hy238⟩ : ∃ y_ : List Int, y_ = (([] : List Int)) := ⟨_, rfl⟩
 replace H : (if y238.length + l0.length < 17592186044416 then (some (y238 ++ l0)) else (none)) = some r := by first | (rw [hy238]; with_reducible exact H) | (have H2_ := (Option.bind_some _ _).symm.trans H; rw [hy238]; with_reducible exact H2_) | (have H2_ := (Option.bind_some _ _).symm.trans H; with_reducible exact H2_) | with_reducible exact H | (rw [hy238]; exact H) | exact H
 have Ny238 := Aside0.mk hy238
 clear hy238
 by_cases c2 : y238.length + l0.length < 17592186044416
 ·rw [if_pos c2] at H
  have LMc2 := Aside0.mk c2
  clear c2
  obtain ⟨y241, hy241⟩ : ∃ y_ : List Int, y_ = (y238 ++ l0) := ⟨_, rfl⟩
  replace H : (some y241) = some r := by first | (rw [hy241]; with_reducible exact H) | (have H2_ := (Option.bind_some _ _).symm.trans H; rw [hy241]; with_reducible exact H2_) | (have H2_ := (Option.bind_some _ _).symm.trans H; with_reducible exact H2_) | with_reducible exact H | (rw [hy241]; exact H) | exact H
  have Ny241 := Aside0.mk hy241
  clear hy241
  obtain rfl := Option.some.inj H
  go_enter Try.func38, Try.ntmps38
  go_wp2_with (first | ((with_reducible refine gate_dst (N := 3) rfl ?_); refine Kd.R_lit (Kd.int .i64) _ 3 ?hg (N := 3) ?hd (xs := ([] : List Int)) (inner := []) (ok := fun _ => True) (okp := fun _ => True) ?hr ?hp (fun _ hk => hk) trivial (Below.refl _ _) (Nat.le_refl _) (by simp) ?_; (case hd => rfl); (case hg => rfl); (case hr => first | (go_simp; done) | (go_simp; rfl)); (case hp => exact (Reps.none _ _)); intro v239 w3 ho4 hb hg_ hnew_; clear hg_ hnew_; (first | rw [← Ny238.out] at ho4 | (simp only [Int.reduceToNat] at ho4; rw [← Ny238.out] at ho4)); have n0_ := Aside0.mk (Kd.R_lower ho4 (below_size (by repeat (first | (with_reducible first | exact HB.out | apply below_alloc | apply pw_below_drewN | apply below_drew1) | exact HB.out)))); have n1_ := Aside0.mk (below_step (by repeat (first | (with_reducible first | exact HB.out | apply below_alloc | apply pw_below_drewN | apply below_drew1) | exact HB.out)) hb); clear HB; have HO240 := n0_; have HB := n1_; clear n0_ n1_; clear hb ho4) | ((with_reducible refine gate_builtin (b := .append) (xs := #[.tmp 3, .tmp 4]) rfl ?_); at_builtin; refine Kd.R_append_rows (Kd.int .i64) (w0 := w) w.heap.size rfl (.tmp 3) (.tmp 4) 22 3 (.int .i64 0) 8 rfl Try.underlying22 info3 rfl (by decide) (by omega) v239 y238 l0 _ _ _ (fun _ => True) (fun _ => False) rfl rfl ?aO ?aR (fun _ _ h => h) (fun _ h => h.elim) ?aF ?aB ?aS ?aL ?_; (case aR => repeat (first | exact (Kd.C_below HR0.out HB.out) | (with_reducible refine Kd.C_alloc ?_ _) | (with_reducible refine Kd.C_drewN ?_ _) | (with_reducible refine Kd.C_drew ?_))); (case aB => exact (by repeat (first | (with_reducible first | exact HB.out | apply below_alloc | apply pw_below_drewN | apply below_drew1) | exact HB.out))); (case aF => exact (fun _ _ => trivial)); (case aO => exact (by (with_reducible repeat (first | apply Kd.R_alloc | apply Kd.R_drewN | apply Kd.R_drew)); exact HO240.out)); (case aS => exact (below_size (by repeat (first | (with_reducible first | exact HB.out | apply below_alloc | apply pw_below_drewN | apply below_drew1) | exact HB.out)))); (case aL => have := LMc2.out; omega); intro v242 w5 ho hb hg hat; rw [← Ny241.out] at ho; have n0_ := Aside0.mk (hb); have n1_ := Aside0.mk (ho); clear HB; clear HO240; have HB := n0_; have HO243 := n1_; clear n0_ n1_; clear ho hb hg hat))
  go_ret
  exact ⟨_, by first | rfl | (simp [errW_none, errW_some] <;> rfl) | (simp [*, errW_none, errW_some] <;> rfl), by (with_reducible repeat (first | apply Kd.R_alloc | apply Kd.R_drewN | apply Kd.R_drew)); exact HO243.out, by repeat (first | (with_reducible first | exact HB.out | apply below_alloc | apply pw_below_drewN | apply below_drew1) | exact HB.out)⟩
 ·rw [if_neg c2] at H
  exact absurd H (by simp)



end Go.Proofs.Ytndkkjpgnmahbaa.Print
end

section
namespace Go.Proofs.Ytndkkjpgnmahbaa.Print
open Go.RowKit Go.Proofs.YtndkkjpgnmahbaaW.PrintWords Go.Proofs.YtndkkjpgnmahbaaW.PrintLast Go.Proofs.YtndkkjpgnmahbaaW.PrintMore Go.Proofs.Field
set_option linter.unusedVariables false
theorem own_eq (l : List Int) (h : l.length ≤ 1000000) : thermionkit_Own.f l = some l := by
 unfold thermionkit_Own.f
 show (if _ then _ else _) = _
 rw [if_pos (by simp; omega)]
 rfl
end Go.Proofs.Ytndkkjpgnmahbaa.Print
end

section
namespace Go.Proofs.Ytndkkjpgnmahbaa.Print
open Go.RowKit Go.Proofs.YtndkkjpgnmahbaaW.PrintWords Go.Proofs.YtndkkjpgnmahbaaW.PrintLast Go.Proofs.YtndkkjpgnmahbaaW.PrintMore Go.Proofs.Ytndkkjpgnmahbaa.H Go.Proofs.Field
attribute [local go_sem] Oper.semAt_some
attribute [local go_sem] max2_int min2_int max_two min_two max_three min_three max_four min_four
set_option linter.unusedVariables false
set_option linter.unusedSimpArgs false
def goodF.T14 : Bool × List (List Nat × List Nat) := (true, [([], []), ([], []), ([0, 1], [0, 1]), ([], []), ([], []), ([], []), ([], []), ([5, 6], [5, 6]), ([7], [7]), ([4, 8], [4, 8]), ([3, 9], [3, 9]), ([], []), ([], []), ([], []), ([], []), ([13, 14], [13, 14]), ([15], [15]), ([12, 16], [12, 16]), ([11, 17], [11, 17]), ([2, 0, 1, 2], [2]), ([10, 19, 0, 1, 2, 3, 4, 5, 6, 7, 8, 9, 10, 19], [10]), ([18, 20, 0, 1, 2, 3, 4, 5, 6, 7, 8, 9, 10, 11, 12, 13, 14, 15, 16, 17, 18, 19, 20], [18])])
def goodF.B14 : List Nat := [0, 0, 3, 0, 0, 0, 0, 96, 224, 496, 1016, 0, 0, 0, 0, 24576, 57344, 126976, 260096, 7, 526335, 2097151]
theorem goodF.tab14 : rtab .any (opsOf Try.f50 14) = goodF.T14 := by kernel_rfl
theorem goodF.bits14 : waitsOk goodF.T14.2 goodF.B14 = true := by kernel_rfl
def goodF.T15 : Bool × List (List Nat × List Nat) := (true, [([], []), ([], []), ([], []), ([1, 2], [1, 2]), ([3], [3]), ([0, 4], [0, 4]), ([], []), ([5, 6], [5, 6]), ([7], [7]), ([8], [8]), ([8], [8]), ([8], [8]), ([10, 11, 8], [8, 10, 11]), ([12, 8], [8, 12]), ([9, 13, 8], [8, 9, 13]), ([8], [8]), ([14, 15, 8], [8, 14, 15]), ([8, 16], [8, 16])])
def goodF.B15 : List Nat := [0, 0, 0, 6, 14, 31, 0, 127, 255, 511, 511, 511, 3583, 7679, 16383, 511, 65535, 131071]
theorem goodF.tab15 : rtab .any (opsOf Try.f50 15) = goodF.T15 := by kernel_rfl
theorem goodF.bits15 : waitsOk goodF.T15.2 goodF.B15 = true := by kernel_rfl
def cellOk (W H : Nat) (R : Bool) (C volts lo hi : List Int) (i : Nat) : Bool :=
 if 0 < fn C i then decide (fn lo i ≤ volt C volts i) && decide (volt C volts i ≤ fn hi i) else decide (allOf (nbs W H R i) * fn lo i ≤ under (fn lo) (nbs W H R i)) && decide (under (fn hi) (nbs W H R i) ≤ allOf (nbs W H R i) * fn hi i)
structure GoodFor (W H : Nat) (R : Bool) (C volts lo hi : List Int) : Prop where
 verr : voltErr W H R C volts = 0
 v : Volted W H R C volts
 W16 : W ≤ 16
 H16 : H ≤ 16
 small : C.length ≤ 256
 ll : lo.length = C.length
 lh : hi.length = C.length
 range : ∀ j, j < C.length → (-1000000 ≤ fn lo j ∧ fn lo j ≤ 1000000) ∧ (-1000000 ≤ fn hi j ∧ fn hi j ≤ 1000000)
theorem all_false {p : Nat → Bool} {n i : Nat} (h : i < n) (hp : p i = false) : (List.range n).all p = false := by
 cases q : (List.range n).all p with
 | false => rfl
 | true =>
  rw [List.all_eq_true] at q
  have := q i (List.mem_range.2 h)
  rw [hp] at this
  exact absurd this (by simp)
structure GI (w W : World) (gp g6 g7 : Nat) (pv : Array Value) (vl vh : Value) : Prop where
 below : Below w.heap.size w W
 p : W.heap[gp]? = some (.cells pv 24 (0, 0))
 l : W.heap[g6]? = some (.cells #[vl] 22 (0, 0))
 h : W.heap[g7]? = some (.cells #[vh] 22 (0, 0))
namespace GI
variable {w W W1 : World} {gp g6 g7 : Nat} {pv : Array Value} {vl vh : Value}
theorem step (h : GI w W gp g6 g7 pv vl vh) (hb : Below W.heap.size W W1) : GI w W1 gp g6 g7 pv vl vh := ⟨below_step h.below hb, blk_below h.p hb, blk_below h.l hb, blk_below h.h hb⟩
theorem turn {B : Nat} {row : Option Nat} (h : GI w W gp g6 g7 pv vl vh) (ht : Turn B W W1 row) (hB : w.heap.size ≤ B) : GI w W1 gp g6 g7 pv vl vh :=
 ⟨ht.below h.below hB h.below.size, ht.heap h.p, ht.heap h.l, ht.heap h.h⟩
theorem far (h : GI w W gp g6 g7 pv vl vh) {k : Nat} {cs : Array Value} (hk : W.heap[k]? = some (.cells cs 3 (0, 0))) (hw : w.heap.size ≤ k) (i : Nat) (v : Value) : GI w (W.setCell ⟨k, i, none⟩ v) gp g6 g7 pv vl vh :=
 ⟨below_set h.below hw, blk_far (p := ⟨k, i, none⟩) h.p (blk_ne h.p hk (by decide)) _, blk_far (p := ⟨k, i, none⟩) h.l (blk_ne h.l hk (by decide)) _, blk_far (p := ⟨k, i, none⟩) h.h (blk_ne h.h hk (by decide)) _⟩
end GI
theorem mul_bound4 {x y : Int} (h1 : 0 ≤ x) (h2 : x ≤ 128) (h3 : -1000000 ≤ y) (h4 : y ≤ 1000000) : -128000000 ≤ x * y ∧ x * y ≤ 128000000 := by
 have a1 := Int.mul_le_mul_of_nonneg_left h4 h1
 have a2 := Int.mul_le_mul_of_nonneg_left h3 h1
 omega
theorem zero3 {W1 W : World} {gt gl gm : Nat} (h : Mem W1 W [(gm, #[.int .i64 0], 3), (gl, #[.int .i64 0], 3), (gt, #[.int .i64 0], 3)]) :
  Below W1.heap.size W1 (((W.setCell ⟨gt, 0, none⟩ (.int .i64 0)).setCell ⟨gl, 0, none⟩ (.int .i64 0)).setCell ⟨gm, 0, none⟩ (.int .i64 0)) ∧ (((W.setCell ⟨gt, 0, none⟩ (.int .i64 0)).setCell ⟨gl, 0, none⟩ (.int .i64 0)).setCell ⟨gm, 0, none⟩ (.int .i64 0)).heap[gt]? = some (.cells #[.int .i64 0] 3 (0, 0)) ∧ (((W.setCell ⟨gt, 0, none⟩ (.int .i64 0)).setCell ⟨gl, 0, none⟩ (.int .i64 0)).setCell ⟨gm, 0, none⟩ (.int .i64 0)).heap[gl]? = some (.cells #[.int .i64 0] 3 (0, 0)) ∧ (((W.setCell ⟨gt, 0, none⟩ (.int .i64 0)).setCell ⟨gl, 0, none⟩ (.int .i64 0)).setCell ⟨gm, 0, none⟩ (.int .i64 0)).heap[gm]? = some (.cells #[.int .i64 0] 3 (0, 0)) := by
 have n1 : gm ≠ gl := h.ne _ List.mem_cons_self
 have n2 : gm ≠ gt := h.ne _ (List.mem_cons_of_mem _ List.mem_cons_self)
 have n3 : gl ≠ gt := h.drop.ne _ List.mem_cons_self
 have b1 := h.third
 have b2 := h.second
 have b3 := h.head
 have c1 : (W.setCell ⟨gt, 0, none⟩ (.int .i64 0)).heap[gt]? = some (.cells #[.int .i64 0] 3 (0, 0)) := by rw [blk_set b1 0]; rfl
 have c2 := blk_far b2 (p := ⟨gt, 0, none⟩) n3 (.int .i64 0)
 have c3 := blk_far b3 (p := ⟨gt, 0, none⟩) n2 (.int .i64 0)
 have d1 := blk_far c1 (p := ⟨gl, 0, none⟩) n3.symm (.int .i64 0)
 have d2 : ((W.setCell ⟨gt, 0, none⟩ (.int .i64 0)).setCell ⟨gl, 0, none⟩ (.int .i64 0)).heap[gl]? = some (.cells #[.int .i64 0] 3 (0, 0)) := by rw [blk_set c2 0]; rfl
 have d3 := blk_far c3 (p := ⟨gl, 0, none⟩) n1 (.int .i64 0)
 refine ⟨below_set (below_set (below_set h.below h.drop.drop.geh) h.drop.geh) h.geh, blk_far d1 (p := ⟨gm, 0, none⟩) n2.symm _, blk_far d2 (p := ⟨gm, 0, none⟩) n1.symm _, ?_⟩
 rw [blk_set d3 0]; rfl
structure Sep (w : World) (gt gl gm gi : Nat) : Prop where
 tl : gt ≠ gl
 tm : gt ≠ gm
 lm : gl ≠ gm
 it : gi ≠ gt
 il : gi ≠ gl
 im : gi ≠ gm
 gt : w.heap.size ≤ gt
 gl : w.heap.size ≤ gl
 gm : w.heap.size ≤ gm
structure GJ (w : World) (gp g6 g7 : Nat) (pv : Array Value) (vl vh : Value) (gt gl gm : Nat) (T L M : Int) (B : Nat) (ds : List Deferred) (gi gq : Nat) (ci cq : Array Value) (V : World) : Prop where
 g : GI w V gp g6 g7 pv vl vh
 t : V.heap[gt]? = some (.cells #[.int .i64 T] 3 (0, 0))
 l : V.heap[gl]? = some (.cells #[.int .i64 L] 3 (0, 0))
 m : V.heap[gm]? = some (.cells #[.int .i64 M] 3 (0, 0))
 marks : MarksTo w.heap.size B V ds
 b : B ≤ V.heap.size
 i : V.heap[gi]? = some (.cells ci 3 (0, 0))
 q : V.heap[gq]? = some (.cells cq 24 (0, 0))
namespace GJ
variable {w V V1 : World} {gp g6 g7 : Nat} {pv : Array Value} {vl vh : Value} {gt gl gm : Nat} {T L M : Int} {B : Nat} {ds : List Deferred} {gi gq : Nat} {ci cq : Array Value}
theorem step (h : GJ w gp g6 g7 pv vl vh gt gl gm T L M B ds gi gq ci cq V) (hb : Below V.heap.size V V1) : GJ w gp g6 g7 pv vl vh gt gl gm T L M B ds gi gq ci cq V1 :=
 ⟨h.g.step hb, blk_below h.t hb, blk_below h.l hb, blk_below h.m hb, h.marks.others (below_others hb), Nat.le_trans h.b hb.size, blk_below h.i hb, blk_below h.q hb⟩
theorem turn {row : Option Nat} (h : GJ w gp g6 g7 pv vl vh gt gl gm T L M B ds gi gq ci cq V) (ht : Turn B V V1 row) (hB : w.heap.size ≤ B) : GJ w gp g6 g7 pv vl vh gt gl gm T L M B ds gi gq ci cq V1 :=
 ⟨h.g.turn ht hB, ht.heap h.t, ht.heap h.l, ht.heap h.m, h.marks.turn ht h.b, Nat.le_trans h.b ht.1.size, ht.heap h.i, ht.heap h.q⟩
theorem putT (h : GJ w gp g6 g7 pv vl vh gt gl gm T L M B ds gi gq ci cq V) (s : Sep w gt gl gm gi) (v : Int) : GJ w gp g6 g7 pv vl vh gt gl gm v L M B ds gi gq ci cq (V.setCell ⟨gt, 0, none⟩ (.int .i64 v)) :=
 ⟨h.g.far h.t s.gt 0 _, by rw [blk_set h.t 0]; rfl, blk_far (p := ⟨gt, 0, none⟩) h.l s.tl.symm _, blk_far (p := ⟨gt, 0, none⟩) h.m s.tm.symm _, h.marks.others (KeepsOthers.setCell _ _ _), Nat.le_trans h.b (KeepsOthers.setCell _ _ _).size, blk_far (p := ⟨gt, 0, none⟩) h.i s.it _, blk_far (p := ⟨gt, 0, none⟩) h.q (blk_ne h.q h.t (by decide)) _⟩
theorem putL (h : GJ w gp g6 g7 pv vl vh gt gl gm T L M B ds gi gq ci cq V) (s : Sep w gt gl gm gi) (v : Int) : GJ w gp g6 g7 pv vl vh gt gl gm T v M B ds gi gq ci cq (V.setCell ⟨gl, 0, none⟩ (.int .i64 v)) :=
 ⟨h.g.far h.l s.gl 0 _, blk_far (p := ⟨gl, 0, none⟩) h.t s.tl _, by rw [blk_set h.l 0]; rfl, blk_far (p := ⟨gl, 0, none⟩) h.m s.lm.symm _, h.marks.others (KeepsOthers.setCell _ _ _), Nat.le_trans h.b (KeepsOthers.setCell _ _ _).size, blk_far (p := ⟨gl, 0, none⟩) h.i s.il _, blk_far (p := ⟨gl, 0, none⟩) h.q (blk_ne h.q h.l (by decide)) _⟩
theorem putM (h : GJ w gp g6 g7 pv vl vh gt gl gm T L M B ds gi gq ci cq V) (s : Sep w gt gl gm gi) (v : Int) : GJ w gp g6 g7 pv vl vh gt gl gm T L v B ds gi gq ci cq (V.setCell ⟨gm, 0, none⟩ (.int .i64 v)) :=
 ⟨h.g.far h.m s.gm 0 _, blk_far (p := ⟨gm, 0, none⟩) h.t s.tm _, blk_far (p := ⟨gm, 0, none⟩) h.l s.lm _, by rw [blk_set h.m 0]; rfl, h.marks.others (KeepsOthers.setCell _ _ _), Nat.le_trans h.b (KeepsOthers.setCell _ _ _).size, blk_far (p := ⟨gm, 0, none⟩) h.i s.im _, blk_far (p := ⟨gm, 0, none⟩) h.q (blk_ne h.q h.m (by decide)) _⟩
end GJ
set_option maxHeartbeats 6400000 in
set_option maxRecDepth 100000 in
theorem good_go (rb : Bool) (W H : Nat) (R : Bool) (A : Option Addr) (c : Nat) (C : List Int) (A1 : Option Addr) (c1 : Nat) (volts : List Int) (A2 : Option Addr) (c2 : Nat) (lo : List Int) (A3 : Option Addr) (c3 : Nat) (hi : List Int) (w : World) (hr : Kd.C (Kd.int .i64) w A C.length C) (hc : C.length ≤ c) (hr1 : Kd.C (Kd.int .i64) w A1 volts.length volts) (hc1 : volts.length ≤ c1)
  (hr2 : Kd.C (Kd.int .i64) w A2 lo.length lo) (hr3 : Kd.C (Kd.int .i64) w A3 hi.length hi) (hG : GoodFor W H R C volts lo hi) (hrb : (List.range C.length).all (cellOk W H R C volts lo hi) = rb) :
  Calls Try.prog 50 #[.agg (planV W H R A C.length c), .slice A1 volts.length c1, .slice A2 C.length c2, .slice A3 C.length c3] w fun e w' => e = .returned (.bool rb) ∧ Below w.heap.size w w' := by
 have HRB := Aside0.mk hrb
 have HR := Aside0.mk hr
 have HC := Aside0.mk hc
 have HR1 := Aside0.mk hr1
 have HC1 := Aside0.mk hc1
 have HR2 := Aside0.mk hr2
 have HR3 := Aside0.mk hr3
 have HG := Aside0.mk hG
 have HM := Aside0.mk (Mem.start w)
 have hu24 := Try.underlying24
 have hu22 := Try.underlying22
 have hlen : (C.length : Int) ≤ 256 := by have := hG.small; omega
 have HOUT : Aside0 (lo.any outB = false ∧ hi.any outB = false) := ⟨by
  constructor
  ·cases q : lo.any outB with
   | false => rfl
   | true =>
    obtain ⟨y, hy, hb⟩ := (any_out lo).1 q
    obtain ⟨j, hj, rfl⟩ := mem_fn hy
    have := (hG.range j (by rw [← hG.ll]; exact hj)).1
    omega
  ·cases q : hi.any outB with
   | false => rfl
   | true =>
    obtain ⟨y, hy, hb⟩ := (any_out hi).1 q
    obtain ⟨j, hj, rfl⟩ := mem_fn hy
    have := (hG.range j (by rw [← hG.lh]; exact hj)).2
    omega⟩
 have HCV : Aside0 (∀ V, Below w.heap.size w V → Calls Try.prog 41 #[.agg (planV W H R A C.length c), .slice A1 volts.length c1] V fun e w' => e = .returned (.int .i64 0) ∧ Below V.heap.size V w') := ⟨fun V hb => field_CheckVolts.calls W H R A c C A1 c1 volts 0 V (Kd.C_below HR.out hb) HC.out (Kd.C_below HR1.out hb) HC1.out (by unfold field_CheckVolts.f; rw [HG.out.verr])⟩
 have HCL : Aside0 (∀ V, Below w.heap.size w V → Calls Try.prog 85 #[.slice A2 C.length c2, .func (.func 86) #[] #[]] V fun e w' => e = .returned (.bool false) ∧ Drawn0 V w') := ⟨fun V hb => by
  have := containsFunc_calls A2 c2 lo V (Kd.C_below HR2.out hb)
  rw [HOUT.out.1, HG.out.ll] at this
  exact this⟩
 have HCH : Aside0 (∀ V, Below w.heap.size w V → Calls Try.prog 85 #[.slice A3 C.length c3, .func (.func 86) #[] #[]] V fun e w' => e = .returned (.bool false) ∧ Drawn0 V w') := ⟨fun V hb => by
  have := containsFunc_calls A3 c3 hi V (Kd.C_below HR3.out hb)
  rw [HOUT.out.2, HG.out.lh] at this
  exact this⟩
 clear hr hc hr1 hc1 hr2 hr3 hG hrb
 refine (callsIn_wide (n := 5)).1 (callsIn_of_wp_marks Try.func50 rfl trivial ?_)
 simp only [Try.ntmps50, List.size_toArray, List.length_cons, List.length_nil, Nat.reduceAdd, Nat.reduceSub, Array.replicate_succ, Array.replicate_zero, List.push_toArray, List.append_toArray, List.nil_append, List.cons_append]
 refine wpIn_wide.2 ?_
 go_wp2_with (first
  | ((with_reducible refine gate_dst (N := 4) rfl ?_); refine ev_box HM.out rfl 24 (.tmp 0) rfl (cs := planV W H R A C.length c) rfl ?_; intro gp w1 hm1 hq1; clear hq1; have HM1 := Aside0.mk hm1; clear hm1 HM)
  | ((with_reducible refine gate_dst (N := 6) rfl ?_); refine ev_box1 HM1.out rfl 22 (.tmp 2) rfl rfl rfl ?_; intro g6 w2 hm2 hq2; clear hq2; have HM2 := Aside0.mk hm2; clear hm2 HM1)
  | ((with_reducible refine gate_dst (N := 7) rfl ?_); refine ev_box1 HM2.out rfl 22 (.tmp 3) rfl rfl rfl ?_; intro g7 w3 hm3 hq3; clear hq3; have HM3 := Aside0.mk hm3; clear hm3 HM2; have q3 : w3.cell? ⟨gp, 3, none⟩ = some (.slice A C.length c) := (blk_cell HM3.out.third 3).trans rfl)
  | ((with_reducible refine gate_dst (N := 20) rfl ?_); refine ev_load HM3.out.third rfl 24 (.tmp 4) rfl rfl _ Try.underlying24 rfl size24 rfl ?_)
  | (go_at_call 41; refine (HCV.out _ HM3.out.below).mono ?_; rintro e w4 ⟨rfl, hb⟩; have HM4 := Aside0.mk (HM3.out.step hb); clear hb HM3 q3; have q6 : w4.cell? ⟨g6, 0, none⟩ = some (.slice A2 C.length c2) := (blk_cell HM4.out.second 0).trans rfl; have q7 : w4.cell? ⟨g7, 0, none⟩ = some (.slice A3 C.length c3) := (blk_cell HM4.out.head 0).trans rfl)
  | (go_at_call 85; (with_reducible refine (HCL.out _ HM4.out.below).mono ?_); rintro e w5 ⟨rfl, hb⟩; have HM5 := Aside0.mk (HM4.out.step hb.below); clear hb HM4 q6 q7 HCL; have q7 : w5.cell? ⟨g7, 0, none⟩ = some (.slice A3 C.length c3) := (blk_cell HM5.out.head 0).trans rfl)
  | (go_at_call 85; (with_reducible refine (HCH.out _ HM5.out.below).mono ?_); rintro e w6 ⟨rfl, hb⟩; have HM6 := Aside0.mk (HM5.out.step hb.below); clear hb HM5 q7 HCH; have q3 : w6.cell? ⟨gp, 3, none⟩ = some (.slice A C.length c) := (blk_cell HM6.out.third 3).trans rfl))
 rename_i Ka hKa
 have HKa := Aside0.mk hKa
 clear hKa
 have HGI0 : Aside0 (GI w w6 gp g6 g7 (planV W H R A C.length c) (.slice A2 C.length c2) (.slice A3 C.length c3)) := ⟨⟨HM6.out.below, HM6.out.third, HM6.out.second, HM6.out.head⟩⟩
 clear HM6 q3 HCV
 refine (wpIn_wide (n := 5)).1 ?_
 refine loop_ghost (fun k a' Wz => ∃ (i : Nat) (ds : List Deferred), a' = (fun (zs : Nat → Value) => ({ tmps := List.toArray (zs 0 :: .slice A1 volts.length c1 :: zs 2 :: zs 3 :: .pointer (some ⟨gp, 0, none⟩) :: zs 5 :: .pointer (some ⟨g6, 0, none⟩) :: .pointer (some ⟨g7, 0, none⟩) :: .bool false :: .int .i64 (C.length : Int) :: zs 10 :: zs 11 :: zs 12 :: zs 13 :: zs 14 :: zs 15 :: zs 16 :: zs 17 :: zs 18 :: zs 19 :: zs 20 :: zs 21 :: zs 22 :: zs 23 :: zs 24 :: zs 25 :: zs 26 :: zs 27 :: zs 28 :: zs 29 :: zs 30 :: zs 31 :: zs 32 :: zs 33 :: zs 34 :: zs 35 :: zs 36 :: zs 37 :: zs 38 :: zs 39 :: zs 40 :: zs 41 :: zs 42 :: zs 43 :: zs 44 :: .slice A C.length c :: .int .i64 (C.length : Int) :: .int .i64 (i : Int) :: zs 48 :: zs 49 :: zs 50 :: zs 51 :: zs 52 :: zs 53 :: zs 54 :: zs 55 :: zs 56 :: zs 57 :: zs 58 :: zs 59 :: zs 60 :: zs 61 :: zs 62 :: zs 63 :: zs 64 :: zs 65 :: zs 66 :: zs 67 :: zs 68 :: zs 69 :: zs 70 :: zs 71 :: zs 72 :: zs 73 :: zs 74 :: zs 75 :: zs 76 :: zs 77 :: zs 78 :: zs 79 :: zs 80 :: zs 81 :: zs 82 :: zs 83 :: zs 84 :: zs 85 :: zs 86 :: zs 87 :: zs 88 :: zs 89 :: zs 90 :: zs 91 :: zs 92 :: zs 93 :: zs 94 :: zs 95 :: zs 96 :: zs 97 :: zs 98 :: zs 99 :: zs 100 :: zs 101 :: zs 102 :: zs 103 :: zs 104 :: zs 105 :: zs 106 :: zs 107 :: zs 108 :: zs 109 :: zs 110 :: zs 111 :: zs 112 :: zs 113 :: zs 114 :: zs 115 :: zs 116 :: zs 117 :: zs 118 :: []), defers := ds } : Act)) (fun q => a'.tmps.getD q undef) ∧ Aside0 (i + k = C.length) ∧ Aside0 ((List.range i).all (cellOk W H R C volts lo hi) = true) ∧ Aside0 (Marks w.heap.size Wz ds) ∧ Aside0 (GI w Wz gp g6 g7 (planV W H R A C.length c) (.slice A2 C.length c2) (.slice A3 C.length c3))) C.length ?_ ?_
 ·exact ⟨0, [], rfl, ⟨by omega⟩, ⟨rfl⟩, ⟨Marks.nil _ _⟩, HGI0⟩
 clear HGI0
 rintro k a1 W1 ⟨i, ds, ha, HK, HAL, HMK, HGI⟩
 generalize (fun q => a1.tmps.getD q undef) = zs at ha
 replace ha : a1 = ({ tmps := List.toArray (zs 0 :: .slice A1 volts.length c1 :: zs 2 :: zs 3 :: .pointer (some ⟨gp, 0, none⟩) :: zs 5 :: .pointer (some ⟨g6, 0, none⟩) :: .pointer (some ⟨g7, 0, none⟩) :: .bool false :: .int .i64 (C.length : Int) :: zs 10 :: zs 11 :: zs 12 :: zs 13 :: zs 14 :: zs 15 :: zs 16 :: zs 17 :: zs 18 :: zs 19 :: zs 20 :: zs 21 :: zs 22 :: zs 23 :: zs 24 :: zs 25 :: zs 26 :: zs 27 :: zs 28 :: zs 29 :: zs 30 :: zs 31 :: zs 32 :: zs 33 :: zs 34 :: zs 35 :: zs 36 :: zs 37 :: zs 38 :: zs 39 :: zs 40 :: zs 41 :: zs 42 :: zs 43 :: zs 44 :: .slice A C.length c :: .int .i64 (C.length : Int) :: .int .i64 (i : Int) :: zs 48 :: zs 49 :: zs 50 :: zs 51 :: zs 52 :: zs 53 :: zs 54 :: zs 55 :: zs 56 :: zs 57 :: zs 58 :: zs 59 :: zs 60 :: zs 61 :: zs 62 :: zs 63 :: zs 64 :: zs 65 :: zs 66 :: zs 67 :: zs 68 :: zs 69 :: zs 70 :: zs 71 :: zs 72 :: zs 73 :: zs 74 :: zs 75 :: zs 76 :: zs 77 :: zs 78 :: zs 79 :: zs 80 :: zs 81 :: zs 82 :: zs 83 :: zs 84 :: zs 85 :: zs 86 :: zs 87 :: zs 88 :: zs 89 :: zs 90 :: zs 91 :: zs 92 :: zs 93 :: zs 94 :: zs 95 :: zs 96 :: zs 97 :: zs 98 :: zs 99 :: zs 100 :: zs 101 :: zs 102 :: zs 103 :: zs 104 :: zs 105 :: zs 106 :: zs 107 :: zs 108 :: zs 109 :: zs 110 :: zs 111 :: zs 112 :: zs 113 :: zs 114 :: zs 115 :: zs 116 :: zs 117 :: zs 118 :: []), defers := ds } : Act) := ha
 subst ha
 by_cases hci : i < C.length
 rotate_left
 ·obtain rfl : i = C.length := by have := HK.out; omega
  obtain rfl : true = rb := HAL.out.symm.trans HRB.out
  clear hci
  refine wpIn_wide.2 ?_
  have hlt : decide ((C.length : Int) < (C.length : Int)) = false := decide_eq_false (by omega)
  go_wp2_with fail
  refine HKa.out _ _ ?_
  go_wp2_with fail
  refine ret_marks HGI.out.below.size HMK.out (fun W' hs => ⟨_, results_tmp rfl _ _ _, rfl, HGI.out.below.trans hs.below⟩)
 have HI := Aside0.mk hci
 have HKN : Aside0 (k - 1 < k ∧ i + 1 + (k - 1) = C.length) := ⟨by have := HK.out; omega⟩
 obtain ⟨ad, e0, hx⟩ := at_natM (Kd.C_below HR.out HGI.out.below) i hci
 cases e0
 have i1 : (0 : Int) ≤ (i : Int) := by omega
 have i2 : (i : Int) < (C.length : Int) := by omega
 have i3 : (i : Int) < 256 := by omega
 obtain ⟨X, hX⟩ : ∃ X, C.getD i 0 = X := ⟨_, rfl⟩
 rw [hX] at hx
 have HX2 : Aside0 (fn C i = X) := ⟨hX⟩
 have q6 : W1.cell? ⟨g6, 0, none⟩ = some (.slice A2 C.length c2) := (blk_cell HGI.out.l 0).trans rfl
 have q7 : W1.cell? ⟨g7, 0, none⟩ = some (.slice A3 C.length c3) := (blk_cell HGI.out.h 0).trans rfl
 clear hX hci
 by_cases q : 0 < X
 ·have hg : decide (X > 0) = true := decide_eq_true q
  have hok : cellOk W H R C volts lo hi i = (decide (fn lo i ≤ volt C volts i) && decide (volt C volts i ≤ fn hi i)) := by unfold cellOk; rw [if_pos (by rw [HX2.out]; exact q)]
  have hvl := HG.out.v.vlen i HI.out
  obtain ⟨n, rfl⟩ : ∃ n : Nat, X = (n : Int) + 1 := ⟨(X - 1).toNat, by omega⟩
  rw [HX2.out] at hvl
  have hvn : volt C volts i = fn volts n := by unfold volt; rw [HX2.out]; congr 1
  rw [hvn] at hok
  obtain ⟨adv, ev, xv⟩ := at_natM (Kd.C_below HR1.out HGI.out.below) n (by omega)
  obtain ⟨ad2, e2, x2⟩ := at_natM (Kd.C_below HR2.out HGI.out.below) i (by rw [HG.out.ll]; exact HI.out)
  obtain ⟨ad3, e3, x3⟩ := at_natM (Kd.C_below HR3.out HGI.out.below) i (by rw [HG.out.lh]; exact HI.out)
  cases ev
  cases e2
  cases e3
  rw [show volts.getD n 0 = fn volts n from rfl] at xv
  rw [show lo.getD i 0 = fn lo i from rfl] at x2
  rw [show hi.getD i 0 = fn hi i from rfl] at x3
  have k0 : (n : Int) < 7 := by have := HG.out.v.elr i HI.out; rw [HX2.out] at this; omega
  have k1 : (n : Int) < (volts.length : Int) := by omega
  have k2 : n < volts.length := by omega
  generalize fn volts n = y1 at xv hok
  generalize fn lo i = y2 at x2 hok
  generalize fn hi i = y3 at x3 hok
  have n1 : IntKind.i64.wrap ((n : Int) + 1 - 1) = (n : Int) := by rw [IntWalk.i64_in _ (by have := HG.out.v.elr i HI.out; rw [HX2.out] at this; omega)]; omega
  have n2 : wrap64 (n : Int) = (n : Int) := IntWalk.wrap64_in _ (by omega)
  have HOK := Aside0.mk hok
  clear q hvl hok hvn
  refine wpIn_wide.2 ?_
  go_upto_region 8 with fail
  by_cases z1 : y2 ≤ y1
  ·have h1x : decide (y2 > y1) = false := by simp; omega
   obtain ⟨b2, h2x⟩ : ∃ b, decide (y3 < y1) = b := ⟨_, rfl⟩
   have HZ := Aside0.mk (And.intro z1 h2x)
   clear z1
   refine wp_region_noPanic ?_
   go_quiet (fail)
   have HBd : Aside0 (Below W1.heap.size W1 (W1.drewN nq)) := ⟨pw_below_drewN (Below.refl _ _) _⟩
   refine NoPanic.normal ?_
   cases b2
   ·have HNX : Aside0 ((List.range (i + 1)).all (cellOk W H R C volts lo hi) = true) := ⟨by
     have z2 := of_decide_eq_false HZ.out.2
     rw [List.range_succ, List.all_append, HAL.out, List.all_cons, HOK.out, decide_eq_true HZ.out.1, decide_eq_true (by omega)]; rfl⟩
    go_wp2_with fail
    exact ⟨k - 1, HKN.out.1, i + 1, ds, rfl, ⟨HKN.out.2⟩, HNX, ⟨HMK.out.others (below_others HBd.out)⟩, ⟨HGI.out.step HBd.out⟩⟩
   ·obtain rfl : false = rb := by
     have z2 := of_decide_eq_true HZ.out.2
     rw [← HRB.out]; exact (all_false HI.out (by rw [HOK.out, decide_eq_true HZ.out.1, decide_eq_false (by omega)]; rfl)).symm
    go_wp2_with fail
    (try simp only [Exit.inBlock, Exit.then]); refine ret_marks (HGI.out.step HBd.out).below.size (HMK.out.others (below_others HBd.out)) (fun W' hs => ⟨_, results_tmp rfl _ _ _, rfl, (HGI.out.step HBd.out).below.trans hs.below⟩)
  ·have h1x : decide (y2 > y1) = true := by simp; omega
   obtain rfl : false = rb := by rw [← HRB.out]; exact (all_false HI.out (by rw [HOK.out, decide_eq_false z1]; rfl)).symm
   clear z1
   refine wp_region_noPanic ?_
   go_quiet (fail)
   have HBd : Aside0 (Below W1.heap.size W1 (W1.drewN nq)) := ⟨pw_below_drewN (Below.refl _ _) _⟩
   refine NoPanic.normal ?_
   go_wp2_with fail
   (try simp only [Exit.inBlock, Exit.then]); refine ret_marks (HGI.out.step HBd.out).below.size (HMK.out.others (below_others HBd.out)) (fun W' hs => ⟨_, results_tmp rfl _ _ _, rfl, (HGI.out.step HBd.out).below.trans hs.below⟩)
 have hg := decide_eq_false q
 have HVAC : Aside0 (cellOk W H R C volts lo hi i = (decide (allOf (nbs W H R i) * fn lo i ≤ under (fn lo) (nbs W H R i)) && decide (under (fn hi) (nbs W H R i) ≤ allOf (nbs W H R i) * fn hi i))) := ⟨by unfold cellOk; rw [if_neg (by rw [HX2.out]; exact q)]⟩
 have HMM := Aside0.mk (Mem.start W1)
 clear q q6 q7
 refine wpIn_wide.2 ?_
 go_upto_region 11 with (first
  | ((with_reducible refine gate_dst (N := 12) rfl ?_); refine ev_var HMM.out rfl 3 rfl info3 rfl ?_; intro gt v1 hm1 hq1; clear hq1; have HV1 := Aside0.mk hm1; clear hm1 HMM)
  | ((with_reducible refine gate_dst (N := 13) rfl ?_); refine ev_var HV1.out rfl 3 rfl info3 rfl ?_; intro gl v2 hm2 hq2; clear hq2; have HV2 := Aside0.mk hm2; clear hm2 HV1)
  | ((with_reducible refine gate_dst (N := 14) rfl ?_); refine ev_var HV2.out rfl 3 rfl info3 rfl ?_; intro gm v3 hm3 hq3; clear hq3; have HV3 := Aside0.mk hm3; clear hm3 HV2; have e1 : v3.cell? ⟨gt, 0, none⟩ = some (.int .i64 0) := (blk_cell HV3.out.third 0).trans rfl; have e2 : v3.cell? ⟨gl, 0, none⟩ = some (.int .i64 0) := (blk_cell HV3.out.second 0).trans rfl; have e3 : v3.cell? ⟨gm, 0, none⟩ = some (.int .i64 0) := (blk_cell HV3.out.head 0).trans rfl; have e4 : v3.frozen? ⟨gt, 0, none⟩ = false := blk_frozen HV3.out.third 0; have e5 : v3.frozen? ⟨gl, 0, none⟩ = false := blk_frozen HV3.out.second 0; have e6 : v3.frozen? ⟨gm, 0, none⟩ = false := blk_frozen HV3.out.head 0; have f1 : gm ≠ gl := HV3.out.ne _ List.mem_cons_self; have f2 : gm ≠ gt := HV3.out.ne _ (List.mem_cons_of_mem _ List.mem_cons_self); have f3 : gl ≠ gt := HV3.out.drop.ne _ List.mem_cons_self; have f4 := f1.symm; have f5 := f2.symm; have f6 := f3.symm))
 try simp only [Act.put, List.setIfInBounds_toArray, List.set_cons_zero, List.set_cons_succ]
 have HZ := Aside0.mk (zero3 HV3.out)
 have HSEP : Aside0 (gt ≠ gl ∧ gt ≠ gm ∧ gl ≠ gm ∧ w.heap.size ≤ gt ∧ w.heap.size ≤ gl ∧ w.heap.size ≤ gm) := ⟨⟨f6, f5, f4, Nat.le_trans HGI.out.below.size HV3.out.drop.drop.geh, Nat.le_trans HGI.out.below.size HV3.out.drop.geh, Nat.le_trans HGI.out.below.size HV3.out.geh⟩⟩
 generalize ((v3.setCell ⟨gt, 0, none⟩ (.int .i64 0)).setCell ⟨gl, 0, none⟩ (.int .i64 0)).setCell ⟨gm, 0, none⟩ (.int .i64 0) = v4 at HZ ⊢
 clear e1 e2 e3 e4 e5 e6 f1 f2 f3 f4 f5 f6 HV3 hx
 have HG4 := Aside0.mk (HGI.out.step HZ.out.1)
 have HMK4 := Aside0.mk (HMK.out.others (below_others HZ.out.1))
 clear HGI HMK
 go_wp2_with (first
  | ((with_reducible refine gate_dst (N := 76) rfl ?_); refine ev_load HG4.out.p rfl 24 (.tmp 4) rfl rfl _ Try.underlying24 rfl size24 rfl ?_)
  | (go_at_call 78; refine (near_calls _ _ _ _ _ _ _ _).mono ?_; rintro e w6 ⟨gp2, gi2, rfl, hM6, hz6, hgp2, hgi2⟩; have HS6 := Aside0.mk (HG4.out.step hM6.below); have HMK6 := Aside0.mk ((HMK4.out.others (below_others hM6.below)).to); have HBX := Aside0.mk (And.intro hM6.head hM6.second); have HT6 := Aside0.mk (And.intro (blk_below HZ.out.2.1 hM6.below) (And.intro (blk_below HZ.out.2.2.1 hM6.below) (blk_below HZ.out.2.2.2 hM6.below))); have HSEP6 : Aside0 (Sep w gt gl gm gi2) := ⟨⟨HSEP.out.1, HSEP.out.2.1, HSEP.out.2.2.1, (by have := blk_lt HZ.out.2.1; omega), (by have := blk_lt HZ.out.2.2.1; omega), (by have := blk_lt HZ.out.2.2.2; omega), HSEP.out.2.2.2.1, HSEP.out.2.2.2.2.1, HSEP.out.2.2.2.2.2⟩⟩; clear hM6 hz6 hgp2 hgi2 HG4 HMK4 HZ HSEP))
 rename_i Kb hKb
 have HKb := Aside0.mk hKb
 clear hKb
 refine (wpIn_wide (n := 5)).1 ?_
 have HBase : Aside0 (w.heap.size ≤ w6.heap.size) := ⟨HS6.out.below.size⟩
 have HGB : Aside0 (gi2 < w6.heap.size ∧ gp2 < w6.heap.size) := ⟨⟨blk_lt HBX.out.1, blk_lt HBX.out.2⟩⟩
 refine wpIn_rangeFunc_ownG rfl (by decide) (gf := 98) (lb := #[.pointer (some ⟨gi2, 0, none⟩), .pointer (some ⟨gp2, 0, none⟩)]) rfl trivial (enters_of Try.func98 (by kernel_rfl) rfl)
  (near1_stops 4 W H R (some ad) C.length c i gi2 gp2 (by rw [← HG.out.v.len]; exact HI.out) HG.out.W16 HG.out.H16 w6 HBX.out) (fun h k => ⟨k.1.trans h.1, k.2.trans h.2⟩) (fun V l o o' hl ho _ _ => ⟨World.putObj_heap_other (by have := HGB.out.1; omega), World.putObj_heap_other (by have := HGB.out.2; omega)⟩) (Below.refl _ _) (fun _ => rfl)
  (fun pre V => GJ w gp g6 g7 (planV W H R (some ad) C.length c) (.slice A2 C.length c2) (.slice A3 C.length c3) gt gl gm (allOf (pre.map (·.1))) (under (fn lo) (pre.map (·.1))) (under (fn hi) (pre.map (·.1))) w6.heap.size ds gi2 gp2 #[.int .i64 i] (planV W H R (some ad) C.length c) V)
  (fun _ _ _ => False) ?hI ?hIx ?h0 ?fr ?assign ?body ?done ?stop
 case assign =>
  intro l x V K hK
  gi_wp2
  exact hK
 case hI =>
  rintro pre V V' row h hg hr
  exact h.turn ⟨hg, hr⟩ HBase.out
 case hIx =>
  intro _ _ _ _ _ h
  exact h.elim
 case h0 => exact ⟨HS6.out, HT6.out.1, HT6.out.2.1, HT6.out.2.2, HMK6.out, Nat.le_refl _, HBX.out.1, HBX.out.2⟩
 case body =>
  rintro l pre x V hj hlt
  obtain ⟨kx, hkx⟩ : ∃ kx, x.1.1 = kx := ⟨_, rfl⟩
  obtain ⟨wx, hwx⟩ : ∃ wx, x.1.2 = wx := ⟨_, rfl⟩
  have hnb := nbs_lt (by rw [← HG.out.v.len]; exact HI.out) x.2
  have hbr := HG.out.range x.1.1 (by rw [HG.out.v.len]; exact hnb.1)
  have hw1 := hnb.2.2.1
  have hw2 := hnb.2.2.2 HG.out.W16
  have hk0 : x.1.1 < C.length := by rw [HG.out.v.len]; exact hnb.1
  have hpr : ∀ p, p ∈ pre.map (·.1) → 1 ≤ p.2 ∧ p.2 ≤ 32 ∧ p.1 < C.length := fun p hp => by
   obtain ⟨y, _, rfl⟩ := List.mem_map.1 hp
   have h8 := nbs_lt (by rw [← HG.out.v.len]; exact HI.out) y.2
   exact ⟨h8.2.2.1, h8.2.2.2 HG.out.W16, by rw [HG.out.v.len]; exact h8.1⟩
  have hub := under_bound (f := fn lo) (l := pre.map (·.1)) (fun p hp => ⟨(hpr p hp).1, (hpr p hp).2.1, (HG.out.range _ (hpr p hp).2.2).1⟩)
  have hub2 := under_bound (f := fn hi) (l := pre.map (·.1)) (fun p hp => ⟨(hpr p hp).1, (hpr p hp).2.1, (HG.out.range _ (hpr p hp).2.2).2⟩)
  rw [List.length_map] at hub hub2
  have HUN : Aside0 (under (fn lo) ((pre ++ [x]).map (·.1)) = under (fn lo) (pre.map (·.1)) + wx * fn lo kx ∧ under (fn hi) ((pre ++ [x]).map (·.1)) = under (fn hi) (pre.map (·.1)) + wx * fn hi kx ∧ allOf ((pre ++ [x]).map (·.1)) = allOf (pre.map (·.1)) + wx) := ⟨by
   rw [List.map_append, under_append, under_append, List.map_singleton, under_one, under_one, hkx, hwx, allOf_append]
   exact ⟨rfl, rfl, by rw [← hwx]; simp [allOf]⟩⟩
  rw [hkx] at hbr hk0
  rw [hwx] at hw1 hw2
  have hmb := mul_bound hw1 hw2 hbr.1.1 hbr.1.2
  have hmh := mul_bound hw1 hw2 hbr.2.1 hbr.2.2
  obtain ⟨ML, hML⟩ : ∃ M, wx * fn lo kx = M := ⟨_, rfl⟩
  obtain ⟨MH, hMH⟩ : ∃ M, wx * fn hi kx = M := ⟨_, rfl⟩
  rw [hML] at hmb HUN
  rw [hMH] at hmh HUN
  obtain ⟨ad2, ed2, x2⟩ := at_natM (Kd.C_below HR2.out hj.g.below) kx (by rw [HG.out.ll]; exact hk0)
  obtain ⟨ad3, ed3, x3⟩ := at_natM (Kd.C_below HR3.out hj.g.below) kx (by rw [HG.out.lh]; exact hk0)
  cases ed2
  cases ed3
  have HLO : Aside0 (∀ V', Below w.heap.size w V' → V'.cell? (ad2.add kx) = some (.int .i64 (fn lo kx)) ∧ V'.cell? (ad3.add kx) = some (.int .i64 (fn hi kx))) := ⟨fun V' hb => by
   obtain ⟨b2, c2, y2⟩ := at_natM (Kd.C_below HR2.out hb) kx (by rw [HG.out.ll]; exact hk0)
   obtain ⟨b3, c3, y3⟩ := at_natM (Kd.C_below HR3.out hb) kx (by rw [HG.out.lh]; exact hk0)
   cases c2
   cases c3
   exact ⟨y2, y3⟩⟩
  clear x2 x3
  obtain ⟨lk, hlk⟩ : ∃ z, fn lo kx = z := ⟨_, rfl⟩
  obtain ⟨hk, hhk⟩ : ∃ z, fn hi kx = z := ⟨_, rfl⟩
  rw [hlk] at hML HLO
  rw [hhk] at hMH HLO
  generalize under (fn lo) (pre.map (·.1)) = Lx at hj hub HUN
  generalize under (fn hi) (pre.map (·.1)) = Mx at hj hub2 HUN
  generalize allOf (pre.map (·.1)) = Tx at hj hub hub2 HUN
  have HJ := Aside0.mk hj
  have n1 : IntKind.i64.wrap (wx * lk) = ML := by rw [hML]; exact IntWalk.i64_in _ (by omega)
  have n2 : IntKind.i64.wrap (Lx + ML) = Lx + ML := IntWalk.i64_in _ (by omega)
  have n3 : IntKind.i64.wrap (Tx + wx) = Tx + wx := IntWalk.i64_in _ (by omega)
  have n4 : IntKind.i64.wrap (wx * hk) = MH := by rw [hMH]; exact IntWalk.i64_in _ (by omega)
  have n5 : IntKind.i64.wrap (Mx + MH) = Mx + MH := IntWalk.i64_in _ (by omega)
  have i4 : (0 : Int) ≤ (kx : Int) := by omega
  have i5 : (kx : Int) < (C.length : Int) := by omega
  have HSS : Aside0 (∀ V' T' L', GJ w gp g6 g7 (planV W H R (some ad) C.length c) (.slice (some ad2) C.length c2) (.slice (some ad3) C.length c3) gt gl gm T' L' Mx w6.heap.size ds gi2 gp2 #[.int .i64 i] (planV W H R (some ad) C.length c) V' → (V'.cell? ⟨gm, 0, none⟩ = some (.int .i64 Mx) ∧ V'.cell? ⟨g6, 0, none⟩ = some (.slice (some ad2) C.length c2) ∧ V'.cell? ⟨g7, 0, none⟩ = some (.slice (some ad3) C.length c3) ∧ V'.cell? (ad2.add kx) = some (.int .i64 lk) ∧ V'.cell? (ad3.add kx) = some (.int .i64 hk))) := ⟨fun V' T' L' h => ⟨(blk_cell h.m 0).trans rfl, (blk_cell h.g.l 0).trans rfl, (blk_cell h.g.h 0).trans rfl, (HLO.out _ h.g.below).1, (HLO.out _ h.g.below).2⟩⟩
  obtain ⟨s1, s2, s3, s4, s5⟩ := HSS.out _ _ _ hj
  show Code.wpIn (Fence.wide.inRound l) (5 - 1 - 1) Try.prog _ (ownPostG w6.heap.size (Boxes gi2 gp2) _ _ (pre ++ [x]) V) _ _
  rw [hkx, hwx]
  clear hub hub2 hmb hmh hML hMH hbr hw1 hw2 hk0 hnb hkx hwx hj hlt hpr hlk hhk
  refine wpIn_block ?_
  have HBd := Aside0.mk (below_drew1 (Below.refl V.heap.size V))
  refine startIn_ (r := some l) (n := 5 - 1 - 1) (m := 22) (S := fun w' => w'.cell? ⟨gm, 0, none⟩ = some (.int .i64 Mx) ∧ w'.cell? ⟨g6, 0, none⟩ = some (.slice (some ad2) C.length c2) ∧ w'.cell? ⟨g7, 0, none⟩ = some (.slice (some ad3) C.length c3) ∧ w'.cell? (ad2.add kx) = some (.int .i64 lk) ∧ w'.cell? (ad3.add kx) = some (.int .i64 hk)) (ds := [21]) #[false, false, false, false, false, false, false, false, false, false, false, false, false, false, false, false, false, false, false, false, false, false] (by kernel_rfl) (by kernel_rfl) (block_out ownG_out) rfl rfl ⟨s1, s2, s3, s4, s5⟩ (fun hHeld => ?_); refine with_tabW goodF.tab14 goodF.bits14 (fun HT_ HW_ => ?_)
  generalize V.drew = wd at HBd hHeld  ⊢
  refine pure_ (i := 1) (N := some 82) (v := ?_) (a' := ?_) (bS 22 2) rfl rfl (any_of HT_.out (by kernel_rfl)) (fun _ _ _ h => h) (Or.inl ⟨by rfl, ?_⟩) ?_ ?_; rotate_left; (· intro w'; go_simp; with_reducible rfl); rotate_left; (· simp only [Act.put, sT, sZ, sS, i64_w, i32_w]; rfl)
  refine pure_ (i := 4) (N := some 85) (v := ?_) (a' := ?_) (bS 22 18) rfl rfl (any_of HT_.out (by kernel_rfl)) (fun _ _ _ h => h) (Or.inl ⟨by rfl, ?_⟩) ?_ ?_; rotate_left; (· intro w'; go_simp; with_reducible rfl); rotate_left; (· simp only [Act.put, sT, sZ, sS, i64_w, i32_w]; rfl)
  refine pure_ (i := 6) (N := some 87) (v := ?_) (a' := ?_) (bS 22 82) rfl rfl (any_of HT_.out (by kernel_rfl)) (fun _ _ _ h => h) (Or.inl ⟨by rfl, ?_⟩) ?_ ?_; rotate_left; (· intro w'; go_simp; with_reducible rfl); rotate_left; (· simp only [Act.put, sT, sZ, sS, i64_w, i32_w]; rfl)
  refine pure_ (i := 12) (N := some 93) (v := ?_) (a' := ?_) (bS 22 4178) rfl rfl (any_of HT_.out (by kernel_rfl)) (fun _ _ _ h => h) (Or.inl ⟨by rfl, ?_⟩) ?_ ?_; rotate_left; (· intro w'; go_simp; with_reducible rfl); rotate_left; (· simp only [Act.put, sT, sZ, sS, i64_w, i32_w]; rfl)
  refine pure_ (i := 14) (N := some 95) (v := ?_) (a' := ?_) (bS 22 20562) rfl rfl (any_of HT_.out (by kernel_rfl)) (fun _ _ _ h => h) (Or.inl ⟨by rfl, ?_⟩) ?_ ?_; rotate_left; (· intro w'; go_simp; with_reducible rfl); rotate_left; (· simp only [Act.put, sT, sZ, sS, i64_w, i32_w]; rfl)
  refine take_ (i := 5) (N := some 86) (v := ?_) (a' := ?_) (bS 22 20594) rfl rfl (take_ofW HT_.out HW_.out (by kernel_rfl)) (fun _ _ _ h => h) (Or.inl ⟨by rfl, ?_⟩) hHeld ?_ ?_; rotate_left; (· rintro w' ⟨s0, s1, s2, s3, s4⟩; go_simp; with_reducible rfl); rotate_left; (· simp only [Act.put, sT, sZ, sS, i64_w, i32_w]; rfl)
  refine pure_ (i := 7) (N := some 88) (v := ?_) (a' := ?_) (bS 22 20722) rfl rfl (any_of HT_.out (by kernel_rfl)) (fun _ _ _ h => h) (Or.inl ⟨by rfl, ?_⟩) ?_ ?_; rotate_left; (· intro w'; go_simp; with_reducible rfl); rotate_left; (· simp only [Act.put, sT, sZ, sS, i64_w, i32_w]; rfl)
  refine take_ (i := 8) (N := some 89) (v := ?_) (a' := ?_) (bS 22 20978) rfl rfl (take_ofW HT_.out HW_.out (by kernel_rfl)) (fun _ _ _ h => h) (Or.inl ⟨by rfl, ?_⟩) hHeld ?_ ?_; rotate_left; (· rintro w' ⟨s0, s1, s2, s3, s4⟩; go_simp; with_reducible rfl); rotate_left; (· simp only [Act.put, sT, sZ, sS, i64_w, i32_w]; rfl)
  refine pure_ (i := 9) (N := some 90) (v := ?_) (a' := ?_) (bS 22 21490) rfl rfl (any_of HT_.out (by kernel_rfl)) (fun _ _ _ h => h) (Or.inl ⟨by rfl, ?_⟩) ?_ ?_; rotate_left; (· intro w'; go_simp; with_reducible rfl); rotate_left; (· simp only [Act.put, sT, sZ, sS, i64_w, i32_w]; rfl)
  refine take_ (i := 11) (N := some 92) (v := ?_) (a' := ?_) (bS 22 23538) rfl rfl (take_ofW HT_.out HW_.out (by kernel_rfl)) (fun _ _ _ h => h) (Or.inl ⟨by rfl, ?_⟩) hHeld ?_ ?_; rotate_left; (· rintro w' ⟨s0, s1, s2, s3, s4⟩; go_simp; with_reducible rfl); rotate_left; (· simp only [Act.put, sT, sZ, sS, i64_w, i32_w]; rfl)
  refine take_ (i := 13) (N := some 94) (v := ?_) (a' := ?_) (bS 22 31730) rfl rfl (take_ofW HT_.out HW_.out (by kernel_rfl)) (fun _ _ _ h => h) (Or.inl ⟨by rfl, ?_⟩) hHeld ?_ ?_; rotate_left; (· rintro w' ⟨s0, s1, s2, s3, s4⟩; go_simp; with_reducible rfl); rotate_left; (· simp only [Act.put, sT, sZ, sS, i64_w, i32_w]; rfl)
  refine pure_ (i := 15) (N := some 96) (v := ?_) (a' := ?_) (bS 22 64498) rfl rfl (any_of HT_.out (by kernel_rfl)) (fun _ _ _ h => h) (Or.inl ⟨by rfl, ?_⟩) ?_ ?_; rotate_left; (· intro w'; go_simp; with_reducible rfl); rotate_left; (· simp only [Act.put, sT, sZ, sS, i64_w, i32_w]; rfl)
  refine take_ (i := 16) (N := some 97) (v := ?_) (a' := ?_) (bS 22 130034) rfl rfl (take_ofW HT_.out HW_.out (by kernel_rfl)) (fun _ _ _ h => h) (Or.inl ⟨by rfl, ?_⟩) hHeld ?_ ?_; rotate_left; (· rintro w' ⟨s0, s1, s2, s3, s4⟩; go_simp; with_reducible rfl); rotate_left; (· simp only [Act.put, sT, sZ, sS, i64_w, i32_w]; rfl)
  refine pure_ (i := 17) (N := some 98) (v := ?_) (a' := ?_) (bS 22 261106) rfl rfl (any_of HT_.out (by kernel_rfl)) (fun _ _ _ h => h) (Or.inl ⟨by rfl, ?_⟩) ?_ ?_; rotate_left; (· intro w'; go_simp; with_reducible rfl); rotate_left; (· simp only [Act.put, sT, sZ, sS, i64_w, i32_w]; rfl)
  refine pure_ (i := 18) (N := some 99) (v := ?_) (a' := ?_) (bS 22 523250) rfl rfl (any_of HT_.out (by kernel_rfl)) (fun _ _ _ h => h) (Or.inl ⟨by rfl, ?_⟩) ?_ ?_; rotate_left; (· intro w'; go_simp; with_reducible rfl); rotate_left; (· simp only [Act.put, sT, sZ, sS, i64_w, i32_w]; rfl)
  have HB1 := Aside0.mk (HJ.out.step HBd.out)
  have HA1 := Aside0.mk (HB1.out.putT HSEP6.out (Tx + wx))
  have HA2 := Aside0.mk (HA1.out.putL HSEP6.out (Lx + ML))
  have HA3 := Aside0.mk (HA2.out.putM HSEP6.out (Mx + MH))
  have HS1 := Aside0.mk (HSS.out _ _ _ HA1.out)
  have HS2 := Aside0.mk (HSS.out _ _ _ HA2.out)
  have HF : Aside0 (KeepsFrom w6.heap.size V (((wd.setCell ⟨gt, 0, none⟩ (.int .i64 (Tx + wx))).setCell ⟨gl, 0, none⟩ (.int .i64 (Lx + ML))).setCell ⟨gm, 0, none⟩ (.int .i64 (Mx + MH))) ∧ Boxes gi2 gp2 V (((wd.setCell ⟨gt, 0, none⟩ (.int .i64 (Tx + wx))).setCell ⟨gl, 0, none⟩ (.int .i64 (Lx + ML))).setCell ⟨gm, 0, none⟩ (.int .i64 (Mx + MH))) ∧ GJ w gp g6 g7 (planV W H R (some ad) C.length c) (.slice (some ad2) C.length c2) (.slice (some ad3) C.length c3) gt gl gm (allOf ((pre ++ [x]).map (·.1))) (under (fn lo) ((pre ++ [x]).map (·.1))) (under (fn hi) ((pre ++ [x]).map (·.1))) w6.heap.size ds gi2 gp2 #[.int .i64 i] (planV W H R (some ad) C.length c) (((wd.setCell ⟨gt, 0, none⟩ (.int .i64 (Tx + wx))).setCell ⟨gl, 0, none⟩ (.int .i64 (Lx + ML))).setCell ⟨gm, 0, none⟩ (.int .i64 (Mx + MH)))) := ⟨by
   rw [HUN.out.1, HUN.out.2.1, HUN.out.2.2]
   exact ⟨((((below_others HBd.out).trans (KeepsOthers.setCell _ _ _)).trans (KeepsOthers.setCell _ _ _)).trans (KeepsOthers.setCell _ _ _)).from _, ⟨HA3.out.i.trans HJ.out.i.symm, HA3.out.q.trans HJ.out.q.symm⟩, HA3.out⟩⟩
  have t1 : wd.cell? ⟨gt, 0, none⟩ = some (.int .i64 Tx) := (blk_cell HB1.out.t 0).trans rfl
  have t2 : wd.cell? ⟨gl, 0, none⟩ = some (.int .i64 Lx) := (blk_cell HB1.out.l 0).trans rfl
  have t3 : wd.cell? ⟨gm, 0, none⟩ = some (.int .i64 Mx) := (blk_cell HB1.out.m 0).trans rfl
  have z1 : wd.frozen? ⟨gt, 0, none⟩ = false := blk_frozen HB1.out.t 0
  have z2 : wd.frozen? ⟨gl, 0, none⟩ = false := blk_frozen HB1.out.l 0
  have z3 : wd.frozen? ⟨gm, 0, none⟩ = false := blk_frozen HB1.out.m 0
  have f1 := HSEP6.out.tl
  have f2 := HSEP6.out.tm
  have f3 := HSEP6.out.lm
  have f4 := f1.symm
  have f5 := f2.symm
  have f6 := f3.symm
  clear HB1 HA1 HA2 HA3 HBd HJ HSS HLO s1 s2 s3 s4 s5 n1 n4 HT_ HW_
  have HS0 := Aside0.mk hHeld
  clear hHeld
  refine wpAnyLast_ready (rs := [0, 3]) (by kernel_rfl) (by simp) ?_
  refine AllReadyL.cons (i := 0) rfl (by decide) (fun K hK => ?_) (AllReadyL.cons (i := 3) rfl (by decide) (fun K hK => ?_) AllReadyL.nil)
  ·go_simp
   refine hK.out _ _ HS0.out (fun hHeld => ?_)
   clear hK K hHeld
   refine pure_ (i := 2) (N := some 83) (v := ?_) (a' := ?_) (bS 22 523255) rfl rfl (by kernel_rfl) (fun _ _ _ h => h) (Or.inl ⟨by rfl, ?_⟩) ?_ ?_; rotate_left; (· intro w'; go_simp; with_reducible rfl); rotate_left; (· simp only [Act.put, sT, sZ, sS, i64_w, i32_w]; rfl)
   refine wpAnyLast_ready (rs := [3, 19]) (by kernel_rfl) (by simp) ?_
   refine AllReadyL.cons (i := 3) rfl (by decide) (fun K hK => ?_) (AllReadyL.cons (i := 19) rfl (by decide) (fun K hK => ?_) AllReadyL.nil)
   ·go_simp
    refine hK.out _ _ HS0.out (fun hHeld => ?_)
    clear hK K hHeld
    refine pure_ (i := 10) (N := some 91) (v := ?_) (a' := ?_) (bS 22 524287) rfl rfl (by kernel_rfl) (fun _ _ _ h => h) (Or.inl ⟨by rfl, ?_⟩) ?_ ?_; rotate_left; (· intro w'; go_simp; with_reducible rfl); rotate_left; (· simp only [Act.put, sT, sZ, sS, i64_w, i32_w]; rfl)
    refine one_ (i := 19) (N := none) (bS 22 1048575) rfl rfl (by kernel_rfl) (by decide) (fun K hK => ?_)
    go_simp
    refine hK.out _ _ HS1.out (fun hHeld => ?_)
    clear hK K hHeld
    refine one_ (i := 20) (N := none) (bS 22 2097151) rfl rfl (by kernel_rfl) (by decide) (fun K hK => ?_)
    go_simp
    refine hK.out _ _ HS2.out (fun hHeld => ?_)
    clear hK K hHeld
    refine last_ (i := 21) (N := none) (bS 22 4194303) rfl rfl (by kernel_rfl) (by decide) (fun K hK => ?_)
    go_simp
    refine hK.out _ _ ?_
    clear hK K
    refine done_ (by kernel_rfl) ?_
    exact HF.out
   ·go_simp
    refine hK.out _ _ HS1.out (fun hHeld => ?_)
    clear hK K hHeld
    refine one_ (i := 3) (N := some 84) (bS 22 1047551) rfl rfl (by kernel_rfl) (by decide) (fun K hK => ?_)
    go_simp
    refine hK.out _ _ HS1.out (fun hHeld => ?_)
    clear hK K hHeld
    refine pure_ (i := 10) (N := some 91) (v := ?_) (a' := ?_) (bS 22 1048575) rfl rfl (by kernel_rfl) (fun _ _ _ h => h) (Or.inl ⟨by rfl, ?_⟩) ?_ ?_; rotate_left; (· intro w'; go_simp; with_reducible rfl); rotate_left; (· simp only [Act.put, sT, sZ, sS, i64_w, i32_w]; rfl)
    refine one_ (i := 20) (N := none) (bS 22 2097151) rfl rfl (by kernel_rfl) (by decide) (fun K hK => ?_)
    go_simp
    refine hK.out _ _ HS2.out (fun hHeld => ?_)
    clear hK K hHeld
    refine last_ (i := 21) (N := none) (bS 22 4194303) rfl rfl (by kernel_rfl) (by decide) (fun K hK => ?_)
    go_simp
    refine hK.out _ _ ?_
    clear hK K
    refine done_ (by kernel_rfl) ?_
    exact HF.out
  ·go_simp
   refine hK.out _ _ HS0.out (fun hHeld => ?_)
   clear hK K hHeld
   refine pure_ (i := 10) (N := some 91) (v := ?_) (a' := ?_) (bS 22 524282) rfl rfl (by kernel_rfl) (fun _ _ _ h => h) (Or.inl ⟨by rfl, ?_⟩) ?_ ?_; rotate_left; (· intro w'; go_simp; with_reducible rfl); rotate_left; (· simp only [Act.put, sT, sZ, sS, i64_w, i32_w]; rfl)
   refine one_ (i := 0) (N := some 81) (bS 22 524283) rfl rfl (by kernel_rfl) (by decide) (fun K hK => ?_)
   go_simp
   refine hK.out _ _ HS0.out (fun hHeld => ?_)
   clear hK K hHeld
   refine pure_ (i := 2) (N := some 83) (v := ?_) (a' := ?_) (bS 22 524287) rfl rfl (by kernel_rfl) (fun _ _ _ h => h) (Or.inl ⟨by rfl, ?_⟩) ?_ ?_; rotate_left; (· intro w'; go_simp; with_reducible rfl); rotate_left; (· simp only [Act.put, sT, sZ, sS, i64_w, i32_w]; rfl)
   refine one_ (i := 19) (N := none) (bS 22 1048575) rfl rfl (by kernel_rfl) (by decide) (fun K hK => ?_)
   go_simp
   refine hK.out _ _ HS1.out (fun hHeld => ?_)
   clear hK K hHeld
   refine one_ (i := 20) (N := none) (bS 22 2097151) rfl rfl (by kernel_rfl) (by decide) (fun K hK => ?_)
   go_simp
   refine hK.out _ _ HS2.out (fun hHeld => ?_)
   clear hK K hHeld
   refine last_ (i := 21) (N := none) (bS 22 4194303) rfl rfl (by kernel_rfl) (by decide) (fun K hK => ?_)
   go_simp
   refine hK.out _ _ ?_
   clear hK K
   refine done_ (by kernel_rfl) ?_
   exact HF.out
 case done =>
  rintro D xs V hD hxs h hK
  have HMV := Aside0.mk (h.marks.push HBase.out hD hK)
  rw [hxs] at h
  have HV := Aside0.mk h
  have hok := HVAC.out
  have hbr := HG.out.range i HI.out
  have hpr : ∀ p, p ∈ nbs W H R i → 1 ≤ p.2 ∧ p.2 ≤ 32 ∧ p.1 < C.length := fun p hp => by
   have h8 := nbs_lt (by rw [← HG.out.v.len]; exact HI.out) hp
   exact ⟨h8.2.2.1, h8.2.2.2 HG.out.W16, by rw [HG.out.v.len]; exact h8.1⟩
  have hub := (under_bound (f := fn lo) (l := nbs W H R i) (fun p hp => ⟨(hpr p hp).1, (hpr p hp).2.1, (HG.out.range _ (hpr p hp).2.2).1⟩)).2.2
  have hnl := nbs_length W H R i
  have hm1 := mul_bound4 (by omega : 0 ≤ allOf (nbs W H R i)) (by omega) hbr.1.1 hbr.1.2
  have hm2 := mul_bound4 (by omega : 0 ≤ allOf (nbs W H R i)) (by omega) hbr.2.1 hbr.2.2
  obtain ⟨ad2, ed2, x2⟩ := at_natM (Kd.C_below HR2.out h.g.below) i (by rw [HG.out.ll]; exact HI.out)
  obtain ⟨ad3, ed3, x3⟩ := at_natM (Kd.C_below HR3.out h.g.below) i (by rw [HG.out.lh]; exact HI.out)
  cases ed2
  cases ed3
  rw [show lo.getD i 0 = fn lo i from rfl] at x2
  rw [show hi.getD i 0 = fn hi i from rfl] at x3
  have c1 : V.cell? ⟨gt, 0, none⟩ = some (.int .i64 (allOf (nbs W H R i))) := (blk_cell h.t 0).trans rfl
  have c2' : V.cell? ⟨gl, 0, none⟩ = some (.int .i64 (under (fn lo) (nbs W H R i))) := (blk_cell h.l 0).trans rfl
  have c3' : V.cell? ⟨gm, 0, none⟩ = some (.int .i64 (under (fn hi) (nbs W H R i))) := (blk_cell h.m 0).trans rfl
  have c6 : V.cell? ⟨g6, 0, none⟩ = some (.slice (some ad2) C.length c2) := (blk_cell h.g.l 0).trans rfl
  have c7 : V.cell? ⟨g7, 0, none⟩ = some (.slice (some ad3) C.length c3) := (blk_cell h.g.h 0).trans rfl
  have HGV := Aside0.mk h.g
  clear h HV hub hnl hpr hbr hK hD hxs
  generalize under (fn lo) (nbs W H R i) = SL at c2' hok
  generalize under (fn hi) (nbs W H R i) = SM at c3' hok
  generalize allOf (nbs W H R i) = AL at c1 hok hm1 hm2
  generalize fn lo i = y2 at x2 hm1 hok
  generalize fn hi i = y3 at x3 hm2 hok
  have n1 : IntKind.i64.wrap (AL * y2) = AL * y2 := IntWalk.i64_in _ (by omega)
  have n2 : IntKind.i64.wrap (AL * y3) = AL * y3 := IntWalk.i64_in _ (by omega)
  have HOK := Aside0.mk hok
  have HML := Aside0.mk (And.intro hm1 hm2)
  clear hok hm1 hm2
  refine HKb.out _ _ ?_
  clear HKb
  go_upto_region 15 with fail
  by_cases z1 : AL * y2 ≤ SL
  ·have h1x : decide (AL * y2 > SL) = false := decide_eq_false (by omega)
   obtain ⟨b2, h2x⟩ : ∃ b, decide (AL * y3 < SM) = b := ⟨_, rfl⟩
   have HZ := Aside0.mk (And.intro z1 h2x)
   clear z1
   refine wp_region_noPanic ?_
   have HBd := Aside0.mk (below_drew1 (Below.refl V.heap.size V))
   refine start_ (n := 18) (S := fun w' => w'.cell? ⟨gt, 0, none⟩ = some (.int .i64 AL) ∧ w'.cell? ⟨gl, 0, none⟩ = some (.int .i64 SL) ∧ w'.cell? ⟨gm, 0, none⟩ = some (.int .i64 SM) ∧ w'.cell? ⟨g6, 0, none⟩ = some (.slice (some ad2) C.length c2) ∧ w'.cell? ⟨g7, 0, none⟩ = some (.slice (some ad3) C.length c3) ∧ w'.cell? (ad2.add i) = some (.int .i64 y2) ∧ w'.cell? (ad3.add i) = some (.int .i64 y3)) (ds := []) #[false, false, false, false, false, false, false, false, false, false, false, false, false, false, false, false, false, false] (by kernel_rfl) rfl rfl ⟨c1, c2', c3', c6, c7, x2, x3⟩ (fun hHeld => ?_); refine with_tabW goodF.tab15 goodF.bits15 (fun HT_ HW_ => ?_)
   generalize V.drew = wd at HBd hHeld  ⊢
   refine pure_ (i := 2) (N := some 102) (v := ?_) (a' := ?_) (bS 18 4) rfl rfl (any_of HT_.out (by kernel_rfl)) (fun _ _ _ h => h) (Or.inl ⟨by rfl, ?_⟩) ?_ ?_; rotate_left; (· intro w'; go_simp; with_reducible rfl); rotate_left; (· simp only [Act.put, sT, sZ, sS, i64_w, i32_w]; rfl)
   refine take_ (i := 0) (N := some 100) (v := ?_) (a' := ?_) (bS 18 5) rfl rfl (take_ofW HT_.out HW_.out (by kernel_rfl)) (fun _ _ _ h => h) (Or.inl ⟨by rfl, ?_⟩) hHeld ?_ ?_; rotate_left; (· rintro w' ⟨s0, s1, s2, s3, s4, s5, s6⟩; go_simp; with_reducible rfl); rotate_left; (· simp only [Act.put, sT, sZ, sS, i64_w, i32_w]; rfl)
   refine take_ (i := 1) (N := some 101) (v := ?_) (a' := ?_) (bS 18 7) rfl rfl (take_ofW HT_.out HW_.out (by kernel_rfl)) (fun _ _ _ h => h) (Or.inl ⟨by rfl, ?_⟩) hHeld ?_ ?_; rotate_left; (· rintro w' ⟨s0, s1, s2, s3, s4, s5, s6⟩; go_simp; with_reducible rfl); rotate_left; (· simp only [Act.put, sT, sZ, sS, i64_w, i32_w]; rfl)
   refine pure_ (i := 3) (N := some 103) (v := ?_) (a' := ?_) (bS 18 15) rfl rfl (any_of HT_.out (by kernel_rfl)) (fun _ _ _ h => h) (Or.inl ⟨by rfl, ?_⟩) ?_ ?_; rotate_left; (· intro w'; go_simp; with_reducible rfl); rotate_left; (· simp only [Act.put, sT, sZ, sS, i64_w, i32_w]; rfl)
   refine take_ (i := 4) (N := some 104) (v := ?_) (a' := ?_) (bS 18 31) rfl rfl (take_ofW HT_.out HW_.out (by kernel_rfl)) (fun _ _ _ h => h) (Or.inl ⟨by rfl, ?_⟩) hHeld ?_ ?_; rotate_left; (· rintro w' ⟨s0, s1, s2, s3, s4, s5, s6⟩; go_simp; with_reducible rfl); rotate_left; (· simp only [Act.put, sT, sZ, sS, i64_w, i32_w]; rfl)
   refine pure_ (i := 5) (N := some 105) (v := ?_) (a' := ?_) (bS 18 63) rfl rfl (any_of HT_.out (by kernel_rfl)) (fun _ _ _ h => h) (Or.inl ⟨by rfl, ?_⟩) ?_ ?_; rotate_left; (· intro w'; go_simp; with_reducible rfl); rotate_left; (· simp only [Act.put, sT, sZ, sS, i64_w, i32_w]; rfl)
   refine take_ (i := 6) (N := some 106) (v := ?_) (a' := ?_) (bS 18 127) rfl rfl (take_ofW HT_.out HW_.out (by kernel_rfl)) (fun _ _ _ h => h) (Or.inl ⟨by rfl, ?_⟩) hHeld ?_ ?_; rotate_left; (· rintro w' ⟨s0, s1, s2, s3, s4, s5, s6⟩; go_simp; with_reducible rfl); rotate_left; (· simp only [Act.put, sT, sZ, sS, i64_w, i32_w]; rfl)
   refine pure_ (i := 7) (N := some 107) (v := ?_) (a' := ?_) (bS 18 255) rfl rfl (any_of HT_.out (by kernel_rfl)) (fun _ _ _ h => h) (Or.inl ⟨by rfl, ?_⟩) ?_ ?_; rotate_left; (· intro w'; go_simp; with_reducible rfl); rotate_left; (· simp only [Act.put, sT, sZ, sS, i64_w, i32_w]; rfl)
   refine pure_ (i := 8) (N := some 108) (v := ?_) (a' := ?_) (bS 18 511) rfl rfl (any_of HT_.out (by kernel_rfl)) (fun _ _ _ h => h) (Or.inl ⟨by rfl, ?_⟩) ?_ ?_; rotate_left; (· intro w'; go_simp; with_reducible rfl); rotate_left; (· simp only [Act.put, sT, sZ, sS, i64_w, i32_w]; rfl)
   refine pure_ (i := 11) (N := some 111) (v := ?_) (a' := ?_) (bS 18 2559) rfl rfl (any_of HT_.out (by kernel_rfl)) (fun _ _ _ h => h) (Or.inl ⟨by rfl, ?_⟩) ?_ ?_; rotate_left; (· intro w'; go_simp; with_reducible rfl); rotate_left; (· simp only [Act.put, sT, sZ, sS, i64_w, i32_w]; rfl)
   refine take_ (i := 9) (N := some 109) (v := ?_) (a' := ?_) (bS 18 3071) rfl rfl (take_ofW HT_.out HW_.out (by kernel_rfl)) (fun _ _ _ h => h) (Or.inl ⟨by rfl, ?_⟩) hHeld ?_ ?_; rotate_left; (· rintro w' ⟨s0, s1, s2, s3, s4, s5, s6⟩; go_simp; with_reducible rfl); rotate_left; (· simp only [Act.put, sT, sZ, sS, i64_w, i32_w]; rfl)
   refine take_ (i := 10) (N := some 110) (v := ?_) (a' := ?_) (bS 18 4095) rfl rfl (take_ofW HT_.out HW_.out (by kernel_rfl)) (fun _ _ _ h => h) (Or.inl ⟨by rfl, ?_⟩) hHeld ?_ ?_; rotate_left; (· rintro w' ⟨s0, s1, s2, s3, s4, s5, s6⟩; go_simp; with_reducible rfl); rotate_left; (· simp only [Act.put, sT, sZ, sS, i64_w, i32_w]; rfl)
   refine pure_ (i := 12) (N := some 112) (v := ?_) (a' := ?_) (bS 18 8191) rfl rfl (any_of HT_.out (by kernel_rfl)) (fun _ _ _ h => h) (Or.inl ⟨by rfl, ?_⟩) ?_ ?_; rotate_left; (· intro w'; go_simp; with_reducible rfl); rotate_left; (· simp only [Act.put, sT, sZ, sS, i64_w, i32_w]; rfl)
   refine take_ (i := 13) (N := some 113) (v := ?_) (a' := ?_) (bS 18 16383) rfl rfl (take_ofW HT_.out HW_.out (by kernel_rfl)) (fun _ _ _ h => h) (Or.inl ⟨by rfl, ?_⟩) hHeld ?_ ?_; rotate_left; (· rintro w' ⟨s0, s1, s2, s3, s4, s5, s6⟩; go_simp; with_reducible rfl); rotate_left; (· simp only [Act.put, sT, sZ, sS, i64_w, i32_w]; rfl)
   refine pure_ (i := 14) (N := some 114) (v := ?_) (a' := ?_) (bS 18 32767) rfl rfl (any_of HT_.out (by kernel_rfl)) (fun _ _ _ h => h) (Or.inl ⟨by rfl, ?_⟩) ?_ ?_; rotate_left; (· intro w'; go_simp; with_reducible rfl); rotate_left; (· simp only [Act.put, sT, sZ, sS, i64_w, i32_w]; rfl)
   refine take_ (i := 15) (N := some 115) (v := ?_) (a' := ?_) (bS 18 65535) rfl rfl (take_ofW HT_.out HW_.out (by kernel_rfl)) (fun _ _ _ h => h) (Or.inl ⟨by rfl, ?_⟩) hHeld ?_ ?_; rotate_left; (· rintro w' ⟨s0, s1, s2, s3, s4, s5, s6⟩; go_simp; with_reducible rfl); rotate_left; (· simp only [Act.put, sT, sZ, sS, i64_w, i32_w]; rfl)
   refine pure_ (i := 16) (N := some 116) (v := ?_) (a' := ?_) (bS 18 131071) rfl rfl (any_of HT_.out (by kernel_rfl)) (fun _ _ _ h => h) (Or.inl ⟨by rfl, ?_⟩) ?_ ?_; rotate_left; (· intro w'; go_simp; with_reducible rfl); rotate_left; (· simp only [Act.put, sT, sZ, sS, i64_w, i32_w]; rfl)
   refine pure_ (i := 17) (N := some 117) (v := ?_) (a' := ?_) (bS 18 262143) rfl rfl (any_of HT_.out (by kernel_rfl)) (fun _ _ _ h => h) (Or.inl ⟨by rfl, ?_⟩) ?_ ?_; rotate_left; (· intro w'; go_simp; with_reducible rfl); rotate_left; (· simp only [Act.put, sT, sZ, sS, i64_w, i32_w]; rfl)
   refine done_ (done_of HT_.out (by kernel_rfl)) ?_
   clear hHeld HT_ HW_
   refine NoPanic.normal ?_
   cases b2
   ·have HNX : Aside0 ((List.range (i + 1)).all (cellOk W H R C volts lo hi) = true) := ⟨by
     have z2 := of_decide_eq_false HZ.out.2
     rw [List.range_succ, List.all_append, HAL.out, List.all_cons, HOK.out, decide_eq_true HZ.out.1, decide_eq_true (by omega)]; rfl⟩
    go_wp2_with fail
    exact ⟨k - 1, HKN.out.1, i + 1, _, rfl, ⟨HKN.out.2⟩, HNX, ⟨HMV.out.others (below_others HBd.out)⟩, ⟨HGV.out.step HBd.out⟩⟩
   ·obtain rfl : false = rb := by
     have z2 := of_decide_eq_true HZ.out.2
     rw [← HRB.out]; exact (all_false HI.out (by rw [HOK.out, decide_eq_true HZ.out.1, decide_eq_false (by omega)]; rfl)).symm
    go_wp2_with fail
    (try simp only [Exit.inBlock, Exit.then]); refine ret_marks (HGV.out.step HBd.out).below.size (HMV.out.others (below_others HBd.out)) (fun W' hs => ⟨_, results_tmp rfl _ _ _, rfl, (HGV.out.step HBd.out).below.trans hs.below⟩)
  ·have h1x : decide (AL * y2 > SL) = true := decide_eq_true (by omega)
   obtain rfl : false = rb := by rw [← HRB.out]; exact (all_false HI.out (by rw [HOK.out, decide_eq_false z1]; rfl)).symm
   clear z1
   refine wp_region_noPanic ?_
   have HBd := Aside0.mk (below_drew1 (Below.refl V.heap.size V))
   refine start_ (n := 18) (S := fun w' => w'.cell? ⟨gt, 0, none⟩ = some (.int .i64 AL) ∧ w'.cell? ⟨gl, 0, none⟩ = some (.int .i64 SL) ∧ w'.cell? ⟨gm, 0, none⟩ = some (.int .i64 SM) ∧ w'.cell? ⟨g6, 0, none⟩ = some (.slice (some ad2) C.length c2) ∧ w'.cell? ⟨g7, 0, none⟩ = some (.slice (some ad3) C.length c3) ∧ w'.cell? (ad2.add i) = some (.int .i64 y2) ∧ w'.cell? (ad3.add i) = some (.int .i64 y3)) (ds := []) #[false, false, false, false, false, false, false, false, false, false, false, false, false, false, false, false, false, false] (by kernel_rfl) rfl rfl ⟨c1, c2', c3', c6, c7, x2, x3⟩ (fun hHeld => ?_); refine with_tabW goodF.tab15 goodF.bits15 (fun HT_ HW_ => ?_)
   generalize V.drew = wd at HBd hHeld  ⊢
   refine pure_ (i := 2) (N := some 102) (v := ?_) (a' := ?_) (bS 18 4) rfl rfl (any_of HT_.out (by kernel_rfl)) (fun _ _ _ h => h) (Or.inl ⟨by rfl, ?_⟩) ?_ ?_; rotate_left; (· intro w'; go_simp; with_reducible rfl); rotate_left; (· simp only [Act.put, sT, sZ, sS, i64_w, i32_w]; rfl)
   refine take_ (i := 0) (N := some 100) (v := ?_) (a' := ?_) (bS 18 5) rfl rfl (take_ofW HT_.out HW_.out (by kernel_rfl)) (fun _ _ _ h => h) (Or.inl ⟨by rfl, ?_⟩) hHeld ?_ ?_; rotate_left; (· rintro w' ⟨s0, s1, s2, s3, s4, s5, s6⟩; go_simp; with_reducible rfl); rotate_left; (· simp only [Act.put, sT, sZ, sS, i64_w, i32_w]; rfl)
   refine take_ (i := 1) (N := some 101) (v := ?_) (a' := ?_) (bS 18 7) rfl rfl (take_ofW HT_.out HW_.out (by kernel_rfl)) (fun _ _ _ h => h) (Or.inl ⟨by rfl, ?_⟩) hHeld ?_ ?_; rotate_left; (· rintro w' ⟨s0, s1, s2, s3, s4, s5, s6⟩; go_simp; with_reducible rfl); rotate_left; (· simp only [Act.put, sT, sZ, sS, i64_w, i32_w]; rfl)
   refine pure_ (i := 3) (N := some 103) (v := ?_) (a' := ?_) (bS 18 15) rfl rfl (any_of HT_.out (by kernel_rfl)) (fun _ _ _ h => h) (Or.inl ⟨by rfl, ?_⟩) ?_ ?_; rotate_left; (· intro w'; go_simp; with_reducible rfl); rotate_left; (· simp only [Act.put, sT, sZ, sS, i64_w, i32_w]; rfl)
   refine take_ (i := 4) (N := some 104) (v := ?_) (a' := ?_) (bS 18 31) rfl rfl (take_ofW HT_.out HW_.out (by kernel_rfl)) (fun _ _ _ h => h) (Or.inl ⟨by rfl, ?_⟩) hHeld ?_ ?_; rotate_left; (· rintro w' ⟨s0, s1, s2, s3, s4, s5, s6⟩; go_simp; with_reducible rfl); rotate_left; (· simp only [Act.put, sT, sZ, sS, i64_w, i32_w]; rfl)
   refine pure_ (i := 5) (N := some 105) (v := ?_) (a' := ?_) (bS 18 63) rfl rfl (any_of HT_.out (by kernel_rfl)) (fun _ _ _ h => h) (Or.inl ⟨by rfl, ?_⟩) ?_ ?_; rotate_left; (· intro w'; go_simp; with_reducible rfl); rotate_left; (· simp only [Act.put, sT, sZ, sS, i64_w, i32_w]; rfl)
   refine take_ (i := 6) (N := some 106) (v := ?_) (a' := ?_) (bS 18 127) rfl rfl (take_ofW HT_.out HW_.out (by kernel_rfl)) (fun _ _ _ h => h) (Or.inl ⟨by rfl, ?_⟩) hHeld ?_ ?_; rotate_left; (· rintro w' ⟨s0, s1, s2, s3, s4, s5, s6⟩; go_simp; with_reducible rfl); rotate_left; (· simp only [Act.put, sT, sZ, sS, i64_w, i32_w]; rfl)
   refine pure_ (i := 7) (N := some 107) (v := ?_) (a' := ?_) (bS 18 255) rfl rfl (any_of HT_.out (by kernel_rfl)) (fun _ _ _ h => h) (Or.inl ⟨by rfl, ?_⟩) ?_ ?_; rotate_left; (· intro w'; go_simp; with_reducible rfl); rotate_left; (· simp only [Act.put, sT, sZ, sS, i64_w, i32_w]; rfl)
   refine pure_ (i := 8) (N := some 108) (v := ?_) (a' := ?_) (bS 18 511) rfl rfl (any_of HT_.out (by kernel_rfl)) (fun _ _ _ h => h) (Or.inl ⟨by rfl, ?_⟩) ?_ ?_; rotate_left; (· intro w'; go_simp; with_reducible rfl); rotate_left; (· simp only [Act.put, sT, sZ, sS, i64_w, i32_w]; rfl)
   refine pure_ (i := 9) (N := some 109) (v := undef) (a' := ?_) (bS 18 1023) rfl rfl (any_of HT_.out (by kernel_rfl)) (fun _ _ _ h => h) (Or.inr ⟨by rfl, rfl⟩) ?_ ?_
   rotate_left
   ·simp only [Act.put, sT, sZ, sS, i64_w, i32_w]
    rfl
   refine pure_ (i := 10) (N := some 110) (v := undef) (a' := ?_) (bS 18 2047) rfl rfl (any_of HT_.out (by kernel_rfl)) (fun _ _ _ h => h) (Or.inr ⟨by rfl, rfl⟩) ?_ ?_
   rotate_left
   ·simp only [Act.put, sT, sZ, sS, i64_w, i32_w]
    rfl
   refine pure_ (i := 11) (N := some 111) (v := undef) (a' := ?_) (bS 18 4095) rfl rfl (any_of HT_.out (by kernel_rfl)) (fun _ _ _ h => h) (Or.inr ⟨by rfl, rfl⟩) ?_ ?_
   rotate_left
   ·simp only [Act.put, sT, sZ, sS, i64_w, i32_w]
    rfl
   refine pure_ (i := 12) (N := some 112) (v := undef) (a' := ?_) (bS 18 8191) rfl rfl (any_of HT_.out (by kernel_rfl)) (fun _ _ _ h => h) (Or.inr ⟨by rfl, rfl⟩) ?_ ?_
   rotate_left
   ·simp only [Act.put, sT, sZ, sS, i64_w, i32_w]
    rfl
   refine pure_ (i := 13) (N := some 113) (v := undef) (a' := ?_) (bS 18 16383) rfl rfl (any_of HT_.out (by kernel_rfl)) (fun _ _ _ h => h) (Or.inr ⟨by rfl, rfl⟩) ?_ ?_
   rotate_left
   ·simp only [Act.put, sT, sZ, sS, i64_w, i32_w]
    rfl
   refine pure_ (i := 14) (N := some 114) (v := undef) (a' := ?_) (bS 18 32767) rfl rfl (any_of HT_.out (by kernel_rfl)) (fun _ _ _ h => h) (Or.inr ⟨by rfl, rfl⟩) ?_ ?_
   rotate_left
   ·simp only [Act.put, sT, sZ, sS, i64_w, i32_w]
    rfl
   refine pure_ (i := 15) (N := some 115) (v := undef) (a' := ?_) (bS 18 65535) rfl rfl (any_of HT_.out (by kernel_rfl)) (fun _ _ _ h => h) (Or.inr ⟨by rfl, rfl⟩) ?_ ?_
   rotate_left
   ·simp only [Act.put, sT, sZ, sS, i64_w, i32_w]
    rfl
   refine pure_ (i := 16) (N := some 116) (v := undef) (a' := ?_) (bS 18 131071) rfl rfl (any_of HT_.out (by kernel_rfl)) (fun _ _ _ h => h) (Or.inr ⟨by rfl, rfl⟩) ?_ ?_
   rotate_left
   ·simp only [Act.put, sT, sZ, sS, i64_w, i32_w]
    rfl
   refine pure_ (i := 17) (N := some 117) (v := ?_) (a' := ?_) (bS 18 262143) rfl rfl (any_of HT_.out (by kernel_rfl)) (fun _ _ _ h => h) (Or.inl ⟨by rfl, ?_⟩) ?_ ?_; rotate_left; (· intro w'; go_simp; with_reducible rfl); rotate_left; (· simp only [Act.put, sT, sZ, sS, i64_w, i32_w]; rfl)
   refine done_ (done_of HT_.out (by kernel_rfl)) ?_
   clear hHeld HT_ HW_
   refine NoPanic.normal ?_
   go_wp2_with fail
   (try simp only [Exit.inBlock, Exit.then]); refine ret_marks (HGV.out.step HBd.out).below.size (HMV.out.others (below_others HBd.out)) (fun W' hs => ⟨_, results_tmp rfl _ _ _, rfl, (HGV.out.step HBd.out).below.trans hs.below⟩)
 case stop =>
  rintro D cd pre V _ _ h _
  exact h.elim
end Go.Proofs.Ytndkkjpgnmahbaa.Print
end

section
namespace Go.Proofs.Ytndkkjpgnmahbaa.Print
open Go.RowKit Go.Proofs.YtndkkjpgnmahbaaW.PrintWords Go.Proofs.YtndkkjpgnmahbaaW.PrintLast Go.Proofs.YtndkkjpgnmahbaaW.PrintMore Go.Proofs.Ytndkkjpgnmahbaa.H Go.Proofs.Field
attribute [local go_sem] max2_int min2_int max_two min_two max_three min_three max_four min_four
set_option linter.unusedVariables false
set_option linter.unusedSimpArgs false
def goodB (W H : Int) (R : Bool) (C volts lo hi : List Int) : Bool :=
 decide (voltErr W H R C volts = 0) && (decide (lo.length = C.length) && (decide (hi.length = C.length) && (!lo.any outB && (!hi.any outB && (List.range C.length).all (cellOk W.toNat H.toNat R C volts lo hi)))))
def field_Good.f (W H : Int) (R : Bool) (C volts lo hi : List Int) : Option (Bool) := some (goodB W H R C volts lo hi)
theorem goodFor_of {W H : Int} {R : Bool} {C volts lo hi : List Int} (h1 : voltErr W H R C volts = 0) (h2 : lo.length = C.length) (h3 : hi.length = C.length) (h4 : lo.any outB = false) (h5 : hi.any outB = false) : ∃ W' H' : Nat, W = W' ∧ H = H' ∧ GoodFor W' H' R C volts lo hi := by
 obtain ⟨W', H', rfl, rfl, hW, hH, hN, hCE, hV⟩ := volted_of h1
 refine ⟨W', H', rfl, rfl, h1, hV, hW, hH, hN, h2, h3, fun j hj => ?_⟩
 have out : ∀ l : List Int, l.any outB = false → j < l.length → -1000000 ≤ fn l j ∧ fn l j ≤ 1000000 := fun l hl hj => by
  have hm : fn l j ∈ l := by
   unfold fn
   rw [List.getD_eq_getElem?_getD, List.getElem?_eq_getElem hj]
   exact List.getElem_mem hj
  by_cases q : fn l j < -1000000 ∨ 1000000 < fn l j
  ·have := (any_out l).2 ⟨_, hm, q⟩
   rw [hl] at this
   exact absurd this (by simp)
  ·omega
 exact ⟨out lo h4 (by omega), out hi h5 (by omega)⟩
set_option maxHeartbeats 6400000 in
set_option maxRecDepth 100000 in
theorem good_fails (W H : Int) (R : Bool) (A : Option Addr) (c : Nat) (C : List Int) (A1 : Option Addr) (c1 : Nat) (volts : List Int) (A2 : Option Addr) (c2 : Nat) (lo : List Int) (A3 : Option Addr) (c3 : Nat) (hi : List Int) (w : World) (hr : Kd.C (Kd.int .i64) w A C.length C) (hc : C.length ≤ c) (hr1 : Kd.C (Kd.int .i64) w A1 volts.length volts) (hc1 : volts.length ≤ c1)
  (hr2 : Kd.C (Kd.int .i64) w A2 lo.length lo) (hr3 : Kd.C (Kd.int .i64) w A3 hi.length hi) (hl2 : lo.length ≤ 1000000000) (hl3 : hi.length ≤ 1000000000)
  (hh : ¬ (voltErr W H R C volts = 0 ∧ lo.length = C.length ∧ hi.length = C.length ∧ lo.any outB = false ∧ hi.any outB = false)) :
  Calls Try.prog 50 #[.agg (planV W H R A C.length c), .slice A1 volts.length c1, .slice A2 lo.length c2, .slice A3 hi.length c3] w fun e w' => e = .returned (.bool false) ∧ Below w.heap.size w w' := by
 have HM := Aside0.mk (Mem.start w)
 have hu24 := Try.underlying24
 have hu22 := Try.underlying22
 obtain ⟨e0, he0⟩ : ∃ e, voltErr W H R C volts = e := ⟨_, rfl⟩
 obtain ⟨bl, hbl⟩ : ∃ b, lo.any outB = b := ⟨_, rfl⟩
 obtain ⟨bh, hbh⟩ : ∃ b, hi.any outB = b := ⟨_, rfl⟩
 rw [he0, hbl, hbh] at hh
 have HCV : Aside0 (∀ V, Below w.heap.size w V → Calls Try.prog 41 #[.agg (planV W H R A C.length c), .slice A1 volts.length c1] V fun e w' => e = .returned (.int .i64 e0) ∧ Below V.heap.size V w') := ⟨fun V hb => field_CheckVolts.calls W H R A c C A1 c1 volts e0 V (Kd.C_below hr hb) hc (Kd.C_below hr1 hb) hc1 (by unfold field_CheckVolts.f; rw [he0])⟩
 have HCL : Aside0 (∀ V, Below w.heap.size w V → Calls Try.prog 85 #[.slice A2 lo.length c2, .func (.func 86) #[] #[]] V fun e w' => e = .returned (.bool bl) ∧ Drawn0 V w') := ⟨fun V hb => by
  have := containsFunc_calls A2 c2 lo V (Kd.C_below hr2 hb)
  rw [hbl] at this
  exact this⟩
 have HCH : Aside0 (∀ V, Below w.heap.size w V → Calls Try.prog 85 #[.slice A3 hi.length c3, .func (.func 86) #[] #[]] V fun e w' => e = .returned (.bool bh) ∧ Drawn0 V w') := ⟨fun V hb => by
  have := containsFunc_calls A3 c3 hi V (Kd.C_below hr3 hb)
  rw [hbh] at this
  exact this⟩
 clear hr hc hr1 hc1 hr2 hr3 he0 hbl hbh
 by_cases g0 : e0 = 0
 ·subst g0
  by_cases g1 : lo.length = C.length
  ·by_cases g2 : hi.length = C.length
   ·have hh2 : bl = true ∨ bh = true := by
     cases bl
     ·cases bh
      ·exact absurd ⟨rfl, g1, g2, rfl, rfl⟩ hh
      ·exact .inr rfl
     ·exact .inl rfl
    rw [g1] at HCL
    rw [g2] at HCH
    rw [g1, g2]
    clear hh
    cases bl
    ·obtain rfl : bh = true := by simpa using hh2
     clear g1 g2 hh2
     go_enter Try.func50, Try.ntmps50
     go_wp2_with (first
       | ((with_reducible refine gate_dst (N := 4) rfl ?_); refine ev_box HM.out rfl 24 (.tmp 0) rfl (cs := planV W H R A C.length c) rfl ?_; intro gp w1 hm1 hq1; clear hq1; have HM1 := Aside0.mk hm1; clear hm1 HM)
       | ((with_reducible refine gate_dst (N := 6) rfl ?_); refine ev_box1 HM1.out rfl 22 (.tmp 2) rfl rfl rfl ?_; intro g6 w2 hm2 hq2; clear hq2; have HM2 := Aside0.mk hm2; clear hm2 HM1)
       | ((with_reducible refine gate_dst (N := 7) rfl ?_); refine ev_box1 HM2.out rfl 22 (.tmp 3) rfl rfl rfl ?_; intro g7 w3 hm3 hq3; clear hq3; have HM3 := Aside0.mk hm3; clear hm3 HM2; have q3 : w3.cell? ⟨gp, 3, none⟩ = some (.slice A C.length c) := (blk_cell HM3.out.third 3).trans rfl)
       | ((with_reducible refine gate_dst (N := 20) rfl ?_); refine ev_load HM3.out.third rfl 24 (.tmp 4) rfl rfl _ Try.underlying24 rfl size24 rfl ?_)
       | (go_at_call 41; refine (HCV.out _ HM3.out.below).mono ?_; rintro e w4 ⟨rfl, hb⟩; have HM4 := Aside0.mk (HM3.out.step hb); clear hb HM3 q3; have q6 : w4.cell? ⟨g6, 0, none⟩ = some (.slice A2 C.length c2) := (blk_cell HM4.out.second 0).trans rfl; have q7 : w4.cell? ⟨g7, 0, none⟩ = some (.slice A3 C.length c3) := (blk_cell HM4.out.head 0).trans rfl)
       | (go_at_call 85; (with_reducible refine (HCL.out _ HM4.out.below).mono ?_); rintro e w5 ⟨rfl, hb⟩; have HM5 := Aside0.mk (HM4.out.step hb.below); clear hb HM4 q6 q7 HCL; have q7 : w5.cell? ⟨g7, 0, none⟩ = some (.slice A3 C.length c3) := (blk_cell HM5.out.head 0).trans rfl)
       | (go_at_call 85; (with_reducible refine (HCH.out _ HM5.out.below).mono ?_); rintro e w6 ⟨rfl, hb⟩; have HM6 := Aside0.mk (HM5.out.step hb.below); clear hb HM5 q7 HCH))
     go_ret
     exact ⟨rfl, HM6.out.below⟩
    ·clear g1 g2 hh2
     go_enter Try.func50, Try.ntmps50
     go_wp2_with (first
       | ((with_reducible refine gate_dst (N := 4) rfl ?_); refine ev_box HM.out rfl 24 (.tmp 0) rfl (cs := planV W H R A C.length c) rfl ?_; intro gp w1 hm1 hq1; clear hq1; have HM1 := Aside0.mk hm1; clear hm1 HM)
       | ((with_reducible refine gate_dst (N := 6) rfl ?_); refine ev_box1 HM1.out rfl 22 (.tmp 2) rfl rfl rfl ?_; intro g6 w2 hm2 hq2; clear hq2; have HM2 := Aside0.mk hm2; clear hm2 HM1)
       | ((with_reducible refine gate_dst (N := 7) rfl ?_); refine ev_box1 HM2.out rfl 22 (.tmp 3) rfl rfl rfl ?_; intro g7 w3 hm3 hq3; clear hq3; have HM3 := Aside0.mk hm3; clear hm3 HM2; have q3 : w3.cell? ⟨gp, 3, none⟩ = some (.slice A C.length c) := (blk_cell HM3.out.third 3).trans rfl)
       | ((with_reducible refine gate_dst (N := 20) rfl ?_); refine ev_load HM3.out.third rfl 24 (.tmp 4) rfl rfl _ Try.underlying24 rfl size24 rfl ?_)
       | (go_at_call 41; refine (HCV.out _ HM3.out.below).mono ?_; rintro e w4 ⟨rfl, hb⟩; have HM4 := Aside0.mk (HM3.out.step hb); clear hb HM3 q3; have q6 : w4.cell? ⟨g6, 0, none⟩ = some (.slice A2 C.length c2) := (blk_cell HM4.out.second 0).trans rfl; have q7 : w4.cell? ⟨g7, 0, none⟩ = some (.slice A3 C.length c3) := (blk_cell HM4.out.head 0).trans rfl)
       | (go_at_call 85; (with_reducible refine (HCL.out _ HM4.out.below).mono ?_); rintro e w5 ⟨rfl, hb⟩; have HM5 := Aside0.mk (HM4.out.step hb.below); clear hb HM4 q6 q7 HCL; have q7 : w5.cell? ⟨g7, 0, none⟩ = some (.slice A3 C.length c3) := (blk_cell HM5.out.head 0).trans rfl)
       | (go_at_call 85; (with_reducible refine (HCH.out _ HM5.out.below).mono ?_); rintro e w6 ⟨rfl, hb⟩; have HM6 := Aside0.mk (HM5.out.step hb.below); clear hb HM5 q7 HCH))
     go_ret
     exact ⟨rfl, HM5.out.below⟩
   ·rw [g1] at HCL
    rw [g1]
    have n1 : ((hi.length : Int) != (C.length : Int)) = true := bne_iff_ne.mpr (by omega)
    have n2 : (hi.length != C.length) = true := bne_iff_ne.mpr g2
    have n3 : (hi.length == C.length) = false := beq_eq_false_iff_ne.mpr g2
    clear g1 g2 hh
    go_enter Try.func50, Try.ntmps50
    go_wp2_with (first
      | ((with_reducible refine gate_dst (N := 4) rfl ?_); refine ev_box HM.out rfl 24 (.tmp 0) rfl (cs := planV W H R A C.length c) rfl ?_; intro gp w1 hm1 hq1; clear hq1; have HM1 := Aside0.mk hm1; clear hm1 HM)
      | ((with_reducible refine gate_dst (N := 6) rfl ?_); refine ev_box1 HM1.out rfl 22 (.tmp 2) rfl rfl rfl ?_; intro g6 w2 hm2 hq2; clear hq2; have HM2 := Aside0.mk hm2; clear hm2 HM1)
      | ((with_reducible refine gate_dst (N := 7) rfl ?_); refine ev_box1 HM2.out rfl 22 (.tmp 3) rfl rfl rfl ?_; intro g7 w3 hm3 hq3; clear hq3; have HM3 := Aside0.mk hm3; clear hm3 HM2; have q3 : w3.cell? ⟨gp, 3, none⟩ = some (.slice A C.length c) := (blk_cell HM3.out.third 3).trans rfl)
      | ((with_reducible refine gate_dst (N := 20) rfl ?_); refine ev_load HM3.out.third rfl 24 (.tmp 4) rfl rfl _ Try.underlying24 rfl size24 rfl ?_)
      | (go_at_call 41; refine (HCV.out _ HM3.out.below).mono ?_; rintro e w4 ⟨rfl, hb⟩; have HM4 := Aside0.mk (HM3.out.step hb); clear hb HM3 q3; have q6 : w4.cell? ⟨g6, 0, none⟩ = some (.slice A2 C.length c2) := (blk_cell HM4.out.second 0).trans rfl; have q7 : w4.cell? ⟨g7, 0, none⟩ = some (.slice A3 hi.length c3) := (blk_cell HM4.out.head 0).trans rfl)
      | (go_at_call 85; (with_reducible refine (HCL.out _ HM4.out.below).mono ?_); rintro e w5 ⟨rfl, hb⟩; have HM5 := Aside0.mk (HM4.out.step hb.below); clear hb HM4 q6 q7 HCL; have q7 : w5.cell? ⟨g7, 0, none⟩ = some (.slice A3 hi.length c3) := (blk_cell HM5.out.head 0).trans rfl)
      | (go_at_call 85; (with_reducible refine (HCH.out _ HM5.out.below).mono ?_); rintro e w6 ⟨rfl, hb⟩; have HM6 := Aside0.mk (HM5.out.step hb.below); clear hb HM5 q7 HCH))
    go_ret
    exact ⟨rfl, HM4.out.below⟩
  ·have n1 : ((lo.length : Int) != (C.length : Int)) = true := bne_iff_ne.mpr (by omega)
   have n2 : (lo.length != C.length) = true := bne_iff_ne.mpr g1
   have n3 : (lo.length == C.length) = false := beq_eq_false_iff_ne.mpr g1
   clear g1 hh
   go_enter Try.func50, Try.ntmps50
   go_wp2_with (first
     | ((with_reducible refine gate_dst (N := 4) rfl ?_); refine ev_box HM.out rfl 24 (.tmp 0) rfl (cs := planV W H R A C.length c) rfl ?_; intro gp w1 hm1 hq1; clear hq1; have HM1 := Aside0.mk hm1; clear hm1 HM)
     | ((with_reducible refine gate_dst (N := 6) rfl ?_); refine ev_box1 HM1.out rfl 22 (.tmp 2) rfl rfl rfl ?_; intro g6 w2 hm2 hq2; clear hq2; have HM2 := Aside0.mk hm2; clear hm2 HM1)
     | ((with_reducible refine gate_dst (N := 7) rfl ?_); refine ev_box1 HM2.out rfl 22 (.tmp 3) rfl rfl rfl ?_; intro g7 w3 hm3 hq3; clear hq3; have HM3 := Aside0.mk hm3; clear hm3 HM2; have q3 : w3.cell? ⟨gp, 3, none⟩ = some (.slice A C.length c) := (blk_cell HM3.out.third 3).trans rfl)
     | ((with_reducible refine gate_dst (N := 20) rfl ?_); refine ev_load HM3.out.third rfl 24 (.tmp 4) rfl rfl _ Try.underlying24 rfl size24 rfl ?_)
     | (go_at_call 41; refine (HCV.out _ HM3.out.below).mono ?_; rintro e w4 ⟨rfl, hb⟩; have HM4 := Aside0.mk (HM3.out.step hb); clear hb HM3 q3; have q6 : w4.cell? ⟨g6, 0, none⟩ = some (.slice A2 lo.length c2) := (blk_cell HM4.out.second 0).trans rfl; have q7 : w4.cell? ⟨g7, 0, none⟩ = some (.slice A3 hi.length c3) := (blk_cell HM4.out.head 0).trans rfl)
     | (go_at_call 85; (with_reducible refine (HCL.out _ HM4.out.below).mono ?_); rintro e w5 ⟨rfl, hb⟩; have HM5 := Aside0.mk (HM4.out.step hb.below); clear hb HM4 q6 q7 HCL; have q7 : w5.cell? ⟨g7, 0, none⟩ = some (.slice A3 hi.length c3) := (blk_cell HM5.out.head 0).trans rfl)
     | (go_at_call 85; (with_reducible refine (HCH.out _ HM5.out.below).mono ?_); rintro e w6 ⟨rfl, hb⟩; have HM6 := Aside0.mk (HM5.out.step hb.below); clear hb HM5 q7 HCH))
   go_ret
   exact ⟨rfl, HM4.out.below⟩
 ·have g1 : (e0 != 0) = true := bne_iff_ne.mpr g0
  clear g0 hh
  go_enter Try.func50, Try.ntmps50
  go_wp2_with (first
    | ((with_reducible refine gate_dst (N := 4) rfl ?_); refine ev_box HM.out rfl 24 (.tmp 0) rfl (cs := planV W H R A C.length c) rfl ?_; intro gp w1 hm1 hq1; clear hq1; have HM1 := Aside0.mk hm1; clear hm1 HM)
    | ((with_reducible refine gate_dst (N := 6) rfl ?_); refine ev_box1 HM1.out rfl 22 (.tmp 2) rfl rfl rfl ?_; intro g6 w2 hm2 hq2; clear hq2; have HM2 := Aside0.mk hm2; clear hm2 HM1)
    | ((with_reducible refine gate_dst (N := 7) rfl ?_); refine ev_box1 HM2.out rfl 22 (.tmp 3) rfl rfl rfl ?_; intro g7 w3 hm3 hq3; clear hq3; have HM3 := Aside0.mk hm3; clear hm3 HM2; have q3 : w3.cell? ⟨gp, 3, none⟩ = some (.slice A C.length c) := (blk_cell HM3.out.third 3).trans rfl)
    | ((with_reducible refine gate_dst (N := 20) rfl ?_); refine ev_load HM3.out.third rfl 24 (.tmp 4) rfl rfl _ Try.underlying24 rfl size24 rfl ?_)
    | (go_at_call 41; refine (HCV.out _ HM3.out.below).mono ?_; rintro e w4 ⟨rfl, hb⟩; have HM4 := Aside0.mk (HM3.out.step hb); clear hb HM3 q3; have q6 : w4.cell? ⟨g6, 0, none⟩ = some (.slice A2 lo.length c2) := (blk_cell HM4.out.second 0).trans rfl; have q7 : w4.cell? ⟨g7, 0, none⟩ = some (.slice A3 hi.length c3) := (blk_cell HM4.out.head 0).trans rfl)
    | (go_at_call 85; (with_reducible refine (HCL.out _ HM4.out.below).mono ?_); rintro e w5 ⟨rfl, hb⟩; have HM5 := Aside0.mk (HM4.out.step hb.below); clear hb HM4 q6 q7 HCL; have q7 : w5.cell? ⟨g7, 0, none⟩ = some (.slice A3 hi.length c3) := (blk_cell HM5.out.head 0).trans rfl)
    | (go_at_call 85; (with_reducible refine (HCH.out _ HM5.out.below).mono ?_); rintro e w6 ⟨rfl, hb⟩; have HM6 := Aside0.mk (HM5.out.step hb.below); clear hb HM5 q7 HCH))
  go_ret
  exact ⟨rfl, HM4.out.below⟩
theorem field_Good.calls (W H : Int) (R : Bool) (A : Option Addr) (c : Nat) (C : List Int) (A1 : Option Addr) (c1 : Nat) (volts : List Int) (A2 : Option Addr) (c2 : Nat) (lo : List Int) (A3 : Option Addr) (c3 : Nat) (hi : List Int) (r : Bool) (w : World) (hr : Kd.C (Kd.int .i64) w A C.length C) (hc : C.length ≤ c) (hr1 : Kd.C (Kd.int .i64) w A1 volts.length volts) (hc1 : volts.length ≤ c1)
  (hr2 : Kd.C (Kd.int .i64) w A2 lo.length lo) (hc2 : lo.length ≤ c2) (hr3 : Kd.C (Kd.int .i64) w A3 hi.length hi) (hc3 : hi.length ≤ c3) (hl2 : lo.length ≤ 1000000000) (hl3 : hi.length ≤ 1000000000) (h : field_Good.f W H R C volts lo hi = some r) :
  Calls Try.prog 50 #[.agg (planV W H R A C.length c), .slice A1 volts.length c1, .slice A2 lo.length c2, .slice A3 hi.length c3] w fun e w' => e = .returned (.bool r) ∧ Below w.heap.size w w' := by
 obtain rfl : goodB W H R C volts lo hi = r := Option.some.inj h
 by_cases q : voltErr W H R C volts = 0 ∧ lo.length = C.length ∧ hi.length = C.length ∧ lo.any outB = false ∧ hi.any outB = false
 ·obtain ⟨h1, h2, h3, h4, h5⟩ := q
  obtain ⟨W', H', rfl, rfl, hG⟩ := goodFor_of h1 h2 h3 h4 h5
  have hb : goodB W' H' R C volts lo hi = (List.range C.length).all (cellOk W' H' R C volts lo hi) := by
   unfold goodB
   rw [decide_eq_true h1, decide_eq_true h2, decide_eq_true h3, h4, h5]
   rfl
  rw [hb]
  have := good_go _ W' H' R A c C A1 c1 volts A2 c2 lo A3 c3 hi w hr hc hr1 hc1 hr2 hr3 hG rfl
  rw [h2, h3]
  exact this
 ·have hb : goodB W H R C volts lo hi = false := by
   unfold goodB
   by_cases g0 : voltErr W H R C volts = 0
   ·by_cases g1 : lo.length = C.length
    ·by_cases g2 : hi.length = C.length
     ·cases g3 : lo.any outB with
      | true => simp
      | false =>
       cases g4 : hi.any outB with
       | true => simp
       | false => exact absurd ⟨g0, g1, g2, g3, g4⟩ q
     ·rw [decide_eq_false g2]; simp
    ·rw [decide_eq_false g1]; simp
   ·rw [decide_eq_false g0]; simp
  rw [hb]
  exact good_fails W H R A c C A1 c1 volts A2 c2 lo A3 c3 hi w hr hc hr1 hc1 hr2 hr3 hl2 hl3 q
def thermionref01_Good.f (k : Nat) (W H : Int) (R : Bool) (C v lo hi : List Int) : Option (Bool) := some (goodB W H R C v lo hi)
theorem any_true {l : List Int} {i : Nat} (h : i < l.length) (hp : outB (fn l i) = true) : l.any outB = true := by
 rw [List.any_eq_true]
 refine ⟨fn l i, ?_, hp⟩
 unfold fn
 rw [List.getD_eq_getElem?_getD, List.getElem?_eq_getElem h]
 exact List.getElem_mem h
theorem any_take {l : List Int} {i : Nat} (h : i < l.length) (hp : outB (fn l i) = false) (ht : (l.take i).any outB = false) : (l.take (i + 1)).any outB = false := by
 have e : fn l i = l[i] := by unfold fn; rw [List.getD_eq_getElem?_getD, List.getElem?_eq_getElem h]; rfl
 rw [List.take_add_one, List.getElem?_eq_getElem h, List.any_append, ht, ← e]
 simp [hp]
theorem sumsg_at (k : Nat) (W H : Int) (R : Bool) (A : Option Addr) (c : Nat) (C : List Int) (A1 : Option Addr) (c1 n : Nat) (l : List Int) (i r1 r2 : Int) (w : World) (hl : l.length = n) (hr : Kd.C (Kd.int .i64) w A C.length C) (hc : C.length ≤ c) (hr1 : Kd.C (Kd.int .i64) w A1 l.length l) (hc1 : n ≤ c1) (h : thermionref01_sums.f k W H R C l i = some (r1, r2)) :
  Calls Try.prog 90 #[.agg (planV W H R A C.length c), .slice A1 n c1, .int .i64 i] w fun e w' => e = .returned (.tuple #[.int .i64 r1, .int .i64 r2]) ∧ Below w.heap.size w w' := by
 subst hl
 exact thermionref01_sums.calls k W H R A c C A1 c1 l i r1 r2 w hr hc hr1 hc1 h
set_option maxHeartbeats 6400000 in
set_option maxRecDepth 100000 in
theorem refgood_loops (rb : Bool) (W H : Nat) (R : Bool) (A : Option Addr) (c : Nat) (C : List Int) (A1 : Option Addr) (c1 : Nat) (v : List Int) (A2 : Option Addr) (c2 : Nat) (lo : List Int) (A3 : Option Addr) (c3 : Nat) (hi : List Int) (w : World) (hr : Kd.C (Kd.int .i64) w A C.length C) (hc : C.length ≤ c) (hr1 : Kd.C (Kd.int .i64) w A1 v.length v) (hc1 : v.length ≤ c1)
  (hr2 : Kd.C (Kd.int .i64) w A2 lo.length lo) (hc2 : lo.length ≤ c2) (hr3 : Kd.C (Kd.int .i64) w A3 hi.length hi) (hc3 : hi.length ≤ c3)
  (h0 : voltErr W H R C v = 0) (h2 : lo.length = C.length) (h3 : hi.length = C.length) (hrb : goodB W H R C v lo hi = rb) :
  Calls Try.prog 51 #[.agg (planV W H R A C.length c), .slice A1 v.length c1, .slice A2 C.length c2, .slice A3 C.length c3] w fun e w' => e = .returned (.bool rb) ∧ Below w.heap.size w w' := by
 obtain ⟨W', H', eW, eH, hW, hH, hN, _, hV⟩ := volted_of h0
 obtain rfl : W = W' := by omega
 obtain rfl : H = H' := by omega
 obtain ⟨KV, hKV⟩ := refvolts_eq W H R C v
 have HE : Aside0 (thermionref01_CheckVolts.f KV W H R C v = some 0) := ⟨by rw [← h0]; exact hKV KV (Nat.le_refl _)⟩
 have hpos := hV.pos
 have hW1 : 1 ≤ W := by
  rcases Nat.eq_zero_or_pos W with q | q
  ·subst q; have := hV.len; rw [Nat.zero_mul] at this; omega
  ·exact q
 have hH1 : 1 ≤ H := by
  rcases Nat.eq_zero_or_pos H with q | q
  ·subst q; have := hV.len; rw [Nat.mul_zero] at this; omega
  ·exact q
 have HV := Aside0.mk hV
 have HWH := Aside0.mk (And.intro (And.intro hW1 hW) (And.intro hH1 hH))
 have HL := Aside0.mk (And.intro h2 h3)
 have H0 := Aside0.mk h0
 have HRB := Aside0.mk hrb
 have HN := Aside0.mk hN
 have HM := Aside0.mk (Mem.start w)
 have HR := Aside0.mk hr
 have HC := Aside0.mk hc
 have HR1 := Aside0.mk hr1
 have HC1 := Aside0.mk hc1
 have HR2 := Aside0.mk hr2
 have HC2 := Aside0.mk (h2 ▸ hc2)
 have HR3 := Aside0.mk hr3
 have HC3 := Aside0.mk (h3 ▸ hc3)
 have hu24 := Try.underlying24
 have hu22 := Try.underlying22
 clear hr hc hr1 hc1 hr2 hc2 hr3 hc3 hV hW1 hH1 hW hH h0 h2 h3 hrb hN hpos hKV eW eH
 go_enter Try.func51, Try.ntmps51
 go_wp2_with (first
  | ((with_reducible refine gate_dst (N := 4) rfl ?_); refine ev_box HM.out rfl 24 (.tmp 0) rfl (cs := planV W H R A C.length c) rfl ?_; intro gp w1 hm1 hq1; have HM1 := Aside0.mk hm1; clear hm1 hq1 HM)
  | ((with_reducible refine gate_dst (N := 16) rfl ?_); refine ev_load HM1.out.head rfl 24 (.tmp 4) rfl rfl _ Try.underlying24 rfl size24 rfl ?_)
  | (go_at_call 42; refine (thermionref01_CheckVolts.calls KV W H R A c C A1 c1 v 0 _ (Kd.C_below HR.out HM1.out.below) HC.out (Kd.C_below HR1.out HM1.out.below) HC1.out HE.out).mono ?_; rintro e w2 ⟨rfl, hb⟩; have HM2 := Aside0.mk (HM1.out.step hb); clear hb HM1 HE; have q3 : w2.cell? ⟨gp, 3, none⟩ = some (.slice A C.length c) := (blk_cell HM2.out.head 3).trans rfl))
 go_loopg [9] C.length (fun k v9 w' => ∃ (i : Nat), v9 = .int .i64 (i : Int) ∧ Aside0 (i + k = C.length) ∧ Aside0 ((lo.take i).any outB = false ∧ (hi.take i).any outB = false) ∧ Aside0 (Mem w w' [(gp, planV W H R A C.length c, 24)]))
 case atStart => exact ⟨0, by go_num, ⟨by omega⟩, ⟨rfl, rfl⟩, HM2⟩
 case round =>
  clear q3 HM2
  obtain ⟨i, rfl, HK, HT, HM⟩ := hrel
  have q3 : wr.cell? ⟨gp, 3, none⟩ = some (.slice A C.length c) := (blk_cell HM.out.head 3).trans rfl
  by_cases hci : i < C.length
  ·have HI := Aside0.mk hci
   have b1 : decide ((i : Int) < (C.length : Int)) = true := by simp; omega
   have b2 : decide (i < C.length) = true := by simp; omega
   have b3 : (i : Int) < (C.length : Int) := by omega
   have b4 : (0 : Int) ≤ (i : Int) := by omega
   have b5 : wrap64 ((i : Int) + 1) = ((i + 1 : Nat) : Int) := by rw [IntWalk.wrap64_in _ (by have := HN.out; omega)]; omega
   obtain ⟨ad2, e2, x2⟩ := at_natM (Kd.C_below HR2.out HM.out.below) i (by rw [HL.out.1]; exact hci)
   obtain ⟨ad3, e3, x3⟩ := at_natM (Kd.C_below HR3.out HM.out.below) i (by rw [HL.out.2]; exact hci)
   cases e2
   cases e3
   rw [show lo.getD i 0 = fn lo i from rfl] at x2
   rw [show hi.getD i 0 = fn hi i from rfl] at x3
   obtain ⟨o1, ho1⟩ : ∃ b, outB (fn lo i) = b := ⟨_, rfl⟩
   obtain ⟨o2, ho2⟩ : ∃ b, outB (fn hi i) = b := ⟨_, rfl⟩
   have HO := Aside0.mk (And.intro ho1 ho2)
   have HY1 : Aside0 (thermionref01_beyond.f (fn lo i) (-1000000) 1000000 = some o1) := ⟨by rw [beyond_eq]; exact congrArg some ho1⟩
   have HY2 : Aside0 (thermionref01_beyond.f (fn hi i) (-1000000) 1000000 = some o2) := ⟨by rw [beyond_eq]; exact congrArg some ho2⟩
   clear ho1 ho2 hci
   generalize hy2 : fn lo i = y2 at x2 HY1
   generalize hy3 : fn hi i = y3 at x3 HY2
   cases o1
   ·cases o2
    ·have HT2 : Aside0 ((lo.take (i + 1)).any outB = false ∧ (hi.take (i + 1)).any outB = false) := ⟨any_take (by rw [HL.out.1]; exact HI.out) HO.out.1 HT.out.1, any_take (by rw [HL.out.2]; exact HI.out) HO.out.2 HT.out.2⟩
     go_wp2_with (first
      | (go_at_call 73; (with_reducible refine (thermionref01_beyond.calls y2 (-1000000) 1000000 false _ HY1.out).mono ?_); rintro e w3 ⟨rfl, hb⟩; have x3' : w3.cell? (ad3.add i) = _ := cell_later (by first | exact hb | exact hb.below) x3; have HM3 := Aside0.mk (HM.out.step (by first | exact hb | exact hb.below)); clear hb HM x2 x3 HY1 q3)
      | (go_at_call 73; (with_reducible refine (thermionref01_beyond.calls y3 (-1000000) 1000000 false _ HY2.out).mono ?_); rintro e w4 ⟨rfl, hb⟩; have HM4 := Aside0.mk (HM3.out.step (by first | exact hb | exact hb.below)); clear hb HM3 x3' HY2))
     go_roundg (C.length - (i + 1))
     case measure => have := HK.out; have := HI.out; omega
     case rel => exact ⟨i + 1, by first | exact congrArg _ b5 | go_num, ⟨by have := HI.out; omega⟩, HT2, HM4⟩
    ·obtain rfl : false = rb := by rw [← HRB.out]; unfold goodB; rw [any_true (l := hi) (i := i) (by rw [HL.out.2]; exact HI.out) HO.out.2]; simp
     go_wp2_with (first
      | (go_at_call 73; (with_reducible refine (thermionref01_beyond.calls y2 (-1000000) 1000000 false _ HY1.out).mono ?_); rintro e w3 ⟨rfl, hb⟩; have x3' : w3.cell? (ad3.add i) = _ := cell_later (by first | exact hb | exact hb.below) x3; have HM3 := Aside0.mk (HM.out.step (by first | exact hb | exact hb.below)); clear hb HM x2 x3 HY1 q3)
      | (go_at_call 73; (with_reducible refine (thermionref01_beyond.calls y3 (-1000000) 1000000 true _ HY2.out).mono ?_); rintro e w4 ⟨rfl, hb⟩; have HM4 := Aside0.mk (HM3.out.step (by first | exact hb | exact hb.below)); clear hb HM3 x3' HY2))
     go_ret
     exact ⟨rfl, HM4.out.below⟩
   ·obtain rfl : false = rb := by rw [← HRB.out]; unfold goodB; rw [any_true (l := lo) (i := i) (by rw [HL.out.1]; exact HI.out) HO.out.1]; simp
    go_wp2_with (first
     | (go_at_call 73; (with_reducible refine (thermionref01_beyond.calls y2 (-1000000) 1000000 true _ HY1.out).mono ?_); rintro e w3 ⟨rfl, hb⟩; have HM3 := Aside0.mk (HM.out.step (by first | exact hb | exact hb.below)); clear hb HM x2 HY1 q3))
    go_ret
    exact ⟨rfl, HM3.out.below⟩
  ·obtain rfl : i = C.length := by have := HK.out; omega
   have b1 : decide ((C.length : Int) < (C.length : Int)) = false := by simp
   have b2 : decide (C.length < C.length) = false := by simp
   have hG : GoodFor W H R C v lo hi := by
    obtain ⟨t1, t2⟩ := HT.out
    rw [List.take_of_length_le (by rw [HL.out.1]; exact Nat.le_refl _)] at t1
    rw [List.take_of_length_le (by rw [HL.out.2]; exact Nat.le_refl _)] at t2
    obtain ⟨W2, H2, e1, e2, hG⟩ := goodFor_of H0.out HL.out.1 HL.out.2 t1 t2
    obtain rfl : W = W2 := by omega
    obtain rfl : H = H2 := by omega
    exact hG
   have HG := Aside0.mk hG
   have HRB2 : Aside0 ((List.range C.length).all (cellOk W H R C v lo hi) = rb) := ⟨by
    rw [← HRB.out]
    obtain ⟨t1, t2⟩ := HT.out
    rw [List.take_of_length_le (by rw [HL.out.1]; exact Nat.le_refl _)] at t1
    rw [List.take_of_length_le (by rw [HL.out.2]; exact Nat.le_refl _)] at t2
    unfold goodB
    rw [decide_eq_true H0.out, decide_eq_true HL.out.1, decide_eq_true HL.out.2, t1, t2]
    rfl⟩
   clear hci HT HK hG HRB
   obtain ⟨wp, rfl⟩ : ∃ wp : World, wp = wr := ⟨_, rfl⟩
   go_upto_region 8 with fail
   go_wp2_with fail
   go_loopg [10] C.length (fun k v10 w' => ∃ (i : Nat), v10 = .int .i64 (i : Int) ∧ Aside0 (i + k = C.length) ∧ Aside0 ((List.range i).all (cellOk W H R C v lo hi) = true) ∧ Aside0 (Mem w w' [(gp, planV W H R A C.length c, 24)]))
   case atStart => exact ⟨0, by go_num, ⟨by omega⟩, ⟨rfl⟩, HM⟩
   case round =>
    clear q3 HM b1 b2
    obtain ⟨i, rfl, HK, HAL, HM⟩ := hrel
    have q3 : wr.cell? ⟨gp, 3, none⟩ = some (.slice A C.length c) := (blk_cell HM.out.head 3).trans rfl
    by_cases hci : i < C.length
    ·have HI := Aside0.mk hci
     have b1 : decide ((i : Int) < (C.length : Int)) = true := by simp; omega
     have b2 : decide (i < C.length) = true := by simp; omega
     have b3 : (i : Int) < (C.length : Int) := by omega
     have b4 : (0 : Int) ≤ (i : Int) := by omega
     have b5 : wrap64 ((i : Int) + 1) = ((i + 1 : Nat) : Int) := by rw [IntWalk.wrap64_in _ (by have := HN.out; omega)]; omega
     obtain ⟨ad, e1, hx⟩ := at_natM (Kd.C_below HR.out HM.out.below) i hci
     obtain ⟨ad2, e2, x2⟩ := at_natM (Kd.C_below HR2.out HM.out.below) i (by rw [HL.out.1]; exact hci)
     obtain ⟨ad3, e3, x3⟩ := at_natM (Kd.C_below HR3.out HM.out.below) i (by rw [HL.out.2]; exact hci)
     cases e1
     cases e2
     cases e3
     rw [show lo.getD i 0 = fn lo i from rfl] at x2
     rw [show hi.getD i 0 = fn hi i from rfl] at x3
     obtain ⟨X, hX⟩ : ∃ X, C.getD i 0 = X := ⟨_, rfl⟩
     rw [hX] at hx
     have HX2 : Aside0 (fn C i = X) := ⟨hX⟩
     clear hX hci
     by_cases q : 0 < X
     ·have hg : decide (X > 0) = true := decide_eq_true q
      have hok : cellOk W H R C v lo hi i = (decide (fn lo i ≤ volt C v i) && decide (volt C v i ≤ fn hi i)) := by unfold cellOk; rw [if_pos (by rw [HX2.out]; exact q)]
      have hvl := HV.out.vlen i HI.out
      obtain ⟨n, rfl⟩ : ∃ n : Nat, X = (n : Int) + 1 := ⟨(X - 1).toNat, by omega⟩
      rw [HX2.out] at hvl
      have hvn : volt C v i = fn v n := by unfold volt; rw [HX2.out]; congr 1
      rw [hvn] at hok
      obtain ⟨adv, ev, xv⟩ := at_natM (Kd.C_below HR1.out HM.out.below) n (by omega)
      cases ev
      rw [show v.getD n 0 = fn v n from rfl] at xv
      have k0 : (n : Int) < 7 := by have := HV.out.elr i HI.out; rw [HX2.out] at this; omega
      have k1 : (n : Int) < (v.length : Int) := by omega
      have k2 : n < v.length := by omega
      generalize fn v n = y1 at xv hok
      generalize fn lo i = y2 at x2 hok
      generalize fn hi i = y3 at x3 hok
      have n1 : IntKind.i64.wrap ((n : Int) + 1 - 1) = (n : Int) := by rw [IntWalk.i64_in _ (by omega)]; omega
      have n2 : wrap64 (n : Int) = (n : Int) := IntWalk.wrap64_in _ (by omega)
      have HOK := Aside0.mk hok
      clear q hvl hok hvn
      by_cases z1 : y2 ≤ y1
      ·have h1x : decide (y2 > y1) = false := by simp; omega
       by_cases z2 : y1 ≤ y3
       ·have h2x : decide (y3 < y1) = false := by simp; omega
        have HNX : Aside0 ((List.range (i + 1)).all (cellOk W H R C v lo hi) = true) := ⟨by rw [List.range_succ, List.all_append, HAL.out, List.all_cons, HOK.out, decide_eq_true z1, decide_eq_true z2]; rfl⟩
        clear z1 z2
        go_wp2_with fail
        go_roundg (C.length - (i + 1))
        case measure => have := HK.out; have := HI.out; omega
        case rel => exact ⟨i + 1, by first | exact congrArg _ b5 | go_num, ⟨by have := HI.out; omega⟩, HNX, HM⟩
       ·have h2x : decide (y3 < y1) = true := by simp; omega
        obtain rfl : false = rb := by rw [← HRB2.out]; exact (all_false HI.out (by rw [HOK.out, decide_eq_true z1, decide_eq_false z2]; rfl)).symm
        clear z1 z2
        go_wp2_with fail
        go_ret
        exact ⟨rfl, HM.out.below⟩
      ·have h1x : decide (y2 > y1) = true := by simp; omega
       obtain rfl : false = rb := by rw [← HRB2.out]; exact (all_false HI.out (by rw [HOK.out, decide_eq_false z1]; rfl)).symm
       clear z1
       go_wp2_with fail
       go_ret
       exact ⟨rfl, HM.out.below⟩
     ·have hg : decide (X > 0) = false := decide_eq_false q
      have hok : cellOk W H R C v lo hi i = (decide (allOf (nbs W H R i) * fn lo i ≤ under (fn lo) (nbs W H R i)) && decide (under (fn hi) (nbs W H R i) ≤ allOf (nbs W H R i) * fn hi i)) := by unfold cellOk; rw [if_neg (by rw [HX2.out]; exact q)]
      have hlen := HV.out.len
      have hil : i < W * H := by rw [← hlen]; exact HI.out
      have hbr := HG.out.range i HI.out
      have HS1 := Aside0.mk (sums_eq (C := C) (R := R) HWH.out.1 HWH.out.2 hil lo (by rw [HL.out.1, hlen]; exact Nat.le_refl _) (fun j hj => (HG.out.range j (by rw [hlen]; exact hj)).1) 0)
      have HS2 := Aside0.mk (sums_eq (C := C) (R := R) HWH.out.1 HWH.out.2 hil hi (by rw [HL.out.2, hlen]; exact Nat.le_refl _) (fun j hj => (HG.out.range j (by rw [hlen]; exact hj)).2) 0)
      have hpr : ∀ p, p ∈ nbs W H R i → 1 ≤ p.2 ∧ p.2 ≤ 32 ∧ p.1 < C.length := fun p hp => by
       have h8 := nbs_lt hil hp
       exact ⟨h8.2.2.1, h8.2.2.2 HWH.out.1.2, by rw [hlen]; exact h8.1⟩
      have hub := (under_bound (f := fn lo) (l := nbs W H R i) (fun p hp => ⟨(hpr p hp).1, (hpr p hp).2.1, (HG.out.range _ (hpr p hp).2.2).1⟩)).2.2
      have hnl := nbs_length W H R i
      have hm1 := mul_bound4 (by omega : 0 ≤ allOf (nbs W H R i)) (by omega) hbr.1.1 hbr.1.2
      have hm2 := mul_bound4 (by omega : 0 ≤ allOf (nbs W H R i)) (by omega) hbr.2.1 hbr.2.2
      clear hub hnl hpr hbr hlen hil
      generalize under (fn lo) (nbs W H R i) = SL at HS1 hok
      generalize under (fn hi) (nbs W H R i) = SM at HS2 hok
      generalize allOf (nbs W H R i) = AL at HS1 HS2 hm1 hm2 hok
      generalize fn lo i = y2 at x2 hm1 hok
      generalize fn hi i = y3 at x3 hm2 hok
      have n1 : IntKind.i64.wrap (AL * y2) = AL * y2 := IntWalk.i64_in _ (by omega)
      have n2 : IntKind.i64.wrap (AL * y3) = AL * y3 := IntWalk.i64_in _ (by omega)
      have n3 : wrap64 (AL * y2) = AL * y2 := IntWalk.wrap64_in _ (by omega)
      have n4 : wrap64 (AL * y3) = AL * y3 := IntWalk.wrap64_in _ (by omega)
      have HOK := Aside0.mk hok
      clear q hok hm1 hm2
      by_cases z1 : AL * y2 ≤ SL
      ·have h1x : decide (AL * y2 > SL) = false := decide_eq_false (by omega)
       by_cases z2 : SM ≤ AL * y3
       ·have h2x : decide (AL * y3 < SM) = false := decide_eq_false (by omega)
        have HNX : Aside0 ((List.range (i + 1)).all (cellOk W H R C v lo hi) = true) := ⟨by rw [List.range_succ, List.all_append, HAL.out, List.all_cons, HOK.out, decide_eq_true z1, decide_eq_true z2]; rfl⟩
        clear z1 z2
        go_wp2_with (first
         | ((with_reducible refine gate_dst (N := 92) rfl ?_); refine ev_load HM.out.head rfl 24 (.tmp 4) rfl rfl _ Try.underlying24 rfl size24 rfl ?_)
         | (go_at_call 90; (with_reducible refine (sumsg_at 8 W H R (some ad) c C (some ad2) c2 C.length lo i AL SL _ HL.out.1 (Kd.C_below HR.out HM.out.below) HC.out (Kd.C_below HR2.out HM.out.below) HC2.out HS1.out).mono ?_); rintro e w3 ⟨rfl, hb⟩; have x2' : w3.cell? (ad2.add i) = _ := cell_later hb x2; have x3' : w3.cell? (ad3.add i) = _ := cell_later hb x3; have HM3 := Aside0.mk (HM.out.step hb); clear hb HM x2 x3 HS1 q3 hx)
         | ((with_reducible refine gate_dst (N := 99) rfl ?_); refine ev_load HM3.out.head rfl 24 (.tmp 4) rfl rfl _ Try.underlying24 rfl size24 rfl ?_)
         | (go_at_call 90; (with_reducible refine (sumsg_at 8 W H R (some ad) c C (some ad3) c3 C.length hi i AL SM _ HL.out.2 (Kd.C_below HR.out HM3.out.below) HC.out (Kd.C_below HR3.out HM3.out.below) HC3.out HS2.out).mono ?_); rintro e w4 ⟨rfl, hb⟩; have x2 : w4.cell? (ad2.add i) = _ := cell_later hb x2'; have x3 : w4.cell? (ad3.add i) = _ := cell_later hb x3'; have HM4 := Aside0.mk (HM3.out.step hb); clear hb HM3 x2' x3' HS2))
        go_roundg (C.length - (i + 1))
        case measure => have := HK.out; have := HI.out; omega
        case rel => exact ⟨i + 1, by first | exact congrArg _ b5 | go_num, ⟨by have := HI.out; omega⟩, HNX, HM4⟩
       ·have h2x : decide (AL * y3 < SM) = true := decide_eq_true (by omega)
        obtain rfl : false = rb := by rw [← HRB2.out]; exact (all_false HI.out (by rw [HOK.out, decide_eq_true z1, decide_eq_false z2]; rfl)).symm
        clear z1 z2
        go_wp2_with (first
         | ((with_reducible refine gate_dst (N := 92) rfl ?_); refine ev_load HM.out.head rfl 24 (.tmp 4) rfl rfl _ Try.underlying24 rfl size24 rfl ?_)
         | (go_at_call 90; (with_reducible refine (sumsg_at 8 W H R (some ad) c C (some ad2) c2 C.length lo i AL SL _ HL.out.1 (Kd.C_below HR.out HM.out.below) HC.out (Kd.C_below HR2.out HM.out.below) HC2.out HS1.out).mono ?_); rintro e w3 ⟨rfl, hb⟩; have x2' : w3.cell? (ad2.add i) = _ := cell_later hb x2; have x3' : w3.cell? (ad3.add i) = _ := cell_later hb x3; have HM3 := Aside0.mk (HM.out.step hb); clear hb HM x2 x3 HS1 q3 hx)
         | ((with_reducible refine gate_dst (N := 99) rfl ?_); refine ev_load HM3.out.head rfl 24 (.tmp 4) rfl rfl _ Try.underlying24 rfl size24 rfl ?_)
         | (go_at_call 90; (with_reducible refine (sumsg_at 8 W H R (some ad) c C (some ad3) c3 C.length hi i AL SM _ HL.out.2 (Kd.C_below HR.out HM3.out.below) HC.out (Kd.C_below HR3.out HM3.out.below) HC3.out HS2.out).mono ?_); rintro e w4 ⟨rfl, hb⟩; have x2 : w4.cell? (ad2.add i) = _ := cell_later hb x2'; have x3 : w4.cell? (ad3.add i) = _ := cell_later hb x3'; have HM4 := Aside0.mk (HM3.out.step hb); clear hb HM3 x2' x3' HS2))
        go_ret
        exact ⟨rfl, HM4.out.below⟩
      ·have h1x : decide (AL * y2 > SL) = true := decide_eq_true (by omega)
       obtain rfl : false = rb := by rw [← HRB2.out]; exact (all_false HI.out (by rw [HOK.out, decide_eq_false z1]; rfl)).symm
       clear z1
       go_wp2_with (first
        | ((with_reducible refine gate_dst (N := 92) rfl ?_); refine ev_load HM.out.head rfl 24 (.tmp 4) rfl rfl _ Try.underlying24 rfl size24 rfl ?_)
        | (go_at_call 90; (with_reducible refine (sumsg_at 8 W H R (some ad) c C (some ad2) c2 C.length lo i AL SL _ HL.out.1 (Kd.C_below HR.out HM.out.below) HC.out (Kd.C_below HR2.out HM.out.below) HC2.out HS1.out).mono ?_); rintro e w3 ⟨rfl, hb⟩; have x2' : w3.cell? (ad2.add i) = _ := cell_later hb x2; have x3' : w3.cell? (ad3.add i) = _ := cell_later hb x3; have HM3 := Aside0.mk (HM.out.step hb); clear hb HM x2 x3 HS1 q3 hx)
        | ((with_reducible refine gate_dst (N := 99) rfl ?_); refine ev_load HM3.out.head rfl 24 (.tmp 4) rfl rfl _ Try.underlying24 rfl size24 rfl ?_)
        | (go_at_call 90; (with_reducible refine (sumsg_at 8 W H R (some ad) c C (some ad3) c3 C.length hi i AL SM _ HL.out.2 (Kd.C_below HR.out HM3.out.below) HC.out (Kd.C_below HR3.out HM3.out.below) HC3.out HS2.out).mono ?_); rintro e w4 ⟨rfl, hb⟩; have x2 : w4.cell? (ad2.add i) = _ := cell_later hb x2'; have x3 : w4.cell? (ad3.add i) = _ := cell_later hb x3'; have HM4 := Aside0.mk (HM3.out.step hb); clear hb HM3 x2' x3' HS2))
       go_ret
       exact ⟨rfl, HM4.out.below⟩
    ·obtain rfl : i = C.length := by have := HK.out; omega
     have b1 : decide ((C.length : Int) < (C.length : Int)) = false := by simp
     have b2 : decide (C.length < C.length) = false := by simp
     obtain rfl : true = rb := HAL.out.symm.trans HRB2.out
     go_wp2_with fail
     go_ret
     exact ⟨rfl, HM.out.below⟩
set_option maxHeartbeats 6400000 in
set_option maxRecDepth 100000 in
theorem refgood_fails (W H : Int) (R : Bool) (A : Option Addr) (c : Nat) (C : List Int) (A1 : Option Addr) (c1 : Nat) (v : List Int) (A2 : Option Addr) (c2 : Nat) (lo : List Int) (A3 : Option Addr) (c3 : Nat) (hi : List Int) (w : World) (hr : Kd.C (Kd.int .i64) w A C.length C) (hc : C.length ≤ c) (hr1 : Kd.C (Kd.int .i64) w A1 v.length v) (hc1 : v.length ≤ c1)
  (hr2 : Kd.C (Kd.int .i64) w A2 lo.length lo) (hc2 : lo.length ≤ c2) (hr3 : Kd.C (Kd.int .i64) w A3 hi.length hi) (hc3 : hi.length ≤ c3)
  (hl2 : lo.length ≤ 9223372036854775807) (hl3 : hi.length ≤ 9223372036854775807) (hh : ¬ (voltErr W H R C v = 0 ∧ lo.length = C.length ∧ hi.length = C.length)) :
  Calls Try.prog 51 #[.agg (planV W H R A C.length c), .slice A1 v.length c1, .slice A2 lo.length c2, .slice A3 hi.length c3] w fun e w' => e = .returned (.bool false) ∧ Below w.heap.size w w' := by
 obtain ⟨KV, hKV⟩ := refvolts_eq W H R C v
 obtain ⟨e0, he0⟩ : ∃ e, voltErr W H R C v = e := ⟨_, rfl⟩
 have HE : Aside0 (thermionref01_CheckVolts.f KV W H R C v = some e0) := ⟨by rw [← he0]; exact hKV KV (Nat.le_refl _)⟩
 rw [he0] at hh
 have HM := Aside0.mk (Mem.start w)
 have HR := Aside0.mk hr
 have HC := Aside0.mk hc
 have HR1 := Aside0.mk hr1
 have HC1 := Aside0.mk hc1
 have hu24 := Try.underlying24
 have hu22 := Try.underlying22
 clear hr hc hr1 hc1 hr2 hc2 hr3 hc3 hKV he0
 by_cases g0 : e0 = 0
 ·subst g0
  by_cases g1 : lo.length = C.length
  ·by_cases g2 : hi.length = C.length
   ·exact absurd ⟨rfl, g1, g2⟩ hh
   ·rw [g1]
    have n1 : ((hi.length : Int) != (C.length : Int)) = true := bne_iff_ne.mpr (by omega)
    have n2 : (hi.length != C.length) = true := bne_iff_ne.mpr g2
    have n3 : (hi.length == C.length) = false := beq_eq_false_iff_ne.mpr g2
    clear g1 g2 hh
    go_enter Try.func51, Try.ntmps51
    go_wp2_with (first
      | ((with_reducible refine gate_dst (N := 4) rfl ?_); refine ev_box HM.out rfl 24 (.tmp 0) rfl (cs := planV W H R A C.length c) rfl ?_; intro gp w1 hm1 hq1; have HM1 := Aside0.mk hm1; clear hm1 hq1 HM)
      | ((with_reducible refine gate_dst (N := 16) rfl ?_); refine ev_load HM1.out.head rfl 24 (.tmp 4) rfl rfl _ Try.underlying24 rfl size24 rfl ?_)
      | (go_at_call 42; refine (thermionref01_CheckVolts.calls KV W H R A c C A1 c1 v 0 _ (Kd.C_below HR.out HM1.out.below) HC.out (Kd.C_below HR1.out HM1.out.below) HC1.out HE.out).mono ?_; rintro e w2 ⟨rfl, hb⟩; have HM2 := Aside0.mk (HM1.out.step hb); clear hb HM1 HE; have q3 : w2.cell? ⟨gp, 3, none⟩ = some (.slice A C.length c) := (blk_cell HM2.out.head 3).trans rfl))
    go_ret
    exact ⟨rfl, HM2.out.below⟩
  ·have n1 : ((lo.length : Int) != (C.length : Int)) = true := bne_iff_ne.mpr (by omega)
   have n2 : (lo.length != C.length) = true := bne_iff_ne.mpr g1
   have n3 : (lo.length == C.length) = false := beq_eq_false_iff_ne.mpr g1
   clear g1 hh
   go_enter Try.func51, Try.ntmps51
   go_wp2_with (first
     | ((with_reducible refine gate_dst (N := 4) rfl ?_); refine ev_box HM.out rfl 24 (.tmp 0) rfl (cs := planV W H R A C.length c) rfl ?_; intro gp w1 hm1 hq1; have HM1 := Aside0.mk hm1; clear hm1 hq1 HM)
     | ((with_reducible refine gate_dst (N := 16) rfl ?_); refine ev_load HM1.out.head rfl 24 (.tmp 4) rfl rfl _ Try.underlying24 rfl size24 rfl ?_)
     | (go_at_call 42; refine (thermionref01_CheckVolts.calls KV W H R A c C A1 c1 v 0 _ (Kd.C_below HR.out HM1.out.below) HC.out (Kd.C_below HR1.out HM1.out.below) HC1.out HE.out).mono ?_; rintro e w2 ⟨rfl, hb⟩; have HM2 := Aside0.mk (HM1.out.step hb); clear hb HM1 HE; have q3 : w2.cell? ⟨gp, 3, none⟩ = some (.slice A C.length c) := (blk_cell HM2.out.head 3).trans rfl))
   go_ret
   exact ⟨rfl, HM2.out.below⟩
 ·have g1 : (e0 != 0) = true := bne_iff_ne.mpr g0
  clear g0 hh
  go_enter Try.func51, Try.ntmps51
  go_wp2_with (first
    | ((with_reducible refine gate_dst (N := 4) rfl ?_); refine ev_box HM.out rfl 24 (.tmp 0) rfl (cs := planV W H R A C.length c) rfl ?_; intro gp w1 hm1 hq1; have HM1 := Aside0.mk hm1; clear hm1 hq1 HM)
    | ((with_reducible refine gate_dst (N := 16) rfl ?_); refine ev_load HM1.out.head rfl 24 (.tmp 4) rfl rfl _ Try.underlying24 rfl size24 rfl ?_)
    | (go_at_call 42; refine (thermionref01_CheckVolts.calls KV W H R A c C A1 c1 v e0 _ (Kd.C_below HR.out HM1.out.below) HC.out (Kd.C_below HR1.out HM1.out.below) HC1.out HE.out).mono ?_; rintro e w2 ⟨rfl, hb⟩; have HM2 := Aside0.mk (HM1.out.step hb); clear hb HM1 HE; have q3 : w2.cell? ⟨gp, 3, none⟩ = some (.slice A C.length c) := (blk_cell HM2.out.head 3).trans rfl))
  go_ret
  exact ⟨rfl, HM2.out.below⟩
theorem thermionref01_Good.calls (k : Nat) (W H : Int) (R : Bool) (A : Option Addr) (c : Nat) (C : List Int) (A1 : Option Addr) (c1 : Nat) (v : List Int) (A2 : Option Addr) (c2 : Nat) (lo : List Int) (A3 : Option Addr) (c3 : Nat) (hi : List Int) (r : Bool) (w : World) (hr : Kd.C (Kd.int .i64) w A C.length C) (hc : C.length ≤ c) (hr1 : Kd.C (Kd.int .i64) w A1 v.length v) (hc1 : v.length ≤ c1)
  (hr2 : Kd.C (Kd.int .i64) w A2 lo.length lo) (hc2 : lo.length ≤ c2) (hr3 : Kd.C (Kd.int .i64) w A3 hi.length hi) (hc3 : hi.length ≤ c3) (h : thermionref01_Good.f k W H R C v lo hi = some r) :
  Calls Try.prog 51 #[.agg (planV W H R A C.length c), .slice A1 v.length c1, .slice A2 lo.length c2, .slice A3 hi.length c3] w fun e w' => e = .returned (.bool r) ∧ Below w.heap.size w w' := by
 have hrb : goodB W H R C v lo hi = r := Option.some.inj h
 by_cases q : voltErr W H R C v = 0 ∧ lo.length = C.length ∧ hi.length = C.length
 ·obtain ⟨h1, h2, h3⟩ := q
  obtain ⟨W', H', rfl, rfl, _⟩ := volted_of h1
  have := refgood_loops r W' H' R A c C A1 c1 v A2 c2 lo A3 c3 hi w hr hc hr1 hc1 hr2 hc2 hr3 hc3 h1 h2 h3 hrb
  rw [h2, h3]
  exact this
 ·have hb : goodB W H R C v lo hi = false := by
   unfold goodB
   by_cases g0 : voltErr W H R C v = 0
   ·by_cases g1 : lo.length = C.length
    ·by_cases g2 : hi.length = C.length
     ·exact absurd ⟨g0, g1, g2⟩ q
     ·rw [decide_eq_false g2]; simp
    ·rw [decide_eq_false g1]; simp
   ·rw [decide_eq_false g0]; simp
  obtain rfl : false = r := hb.symm.trans hrb
  have b2 : lo.length ≤ 9223372036854775807 := hr2.2.1
  have b3 : hi.length ≤ 9223372036854775807 := hr3.2.1
  exact refgood_fails W H R A c C A1 c1 v A2 c2 lo A3 c3 hi w hr hc hr1 hc1 hr2 hc2 hr3 hc3 b2 b3 q
end Go.Proofs.Ytndkkjpgnmahbaa.Print
end

section
namespace Go.Proofs.Ytndkkjpgnmahbaa.Print
open Go.RowKit Go.Proofs.YtndkkjpgnmahbaaW.PrintWords Go.Proofs.YtndkkjpgnmahbaaW.PrintLast Go.Proofs.YtndkkjpgnmahbaaW.PrintMore Go.Proofs.Field
set_option linter.unusedVariables false
theorem refgood_eq (W H : Int) (R : Bool) (C v lo hi : List Int) : Ev (fun k => thermionref01_Good.f k W H R C v lo hi) (goodB W H R C v lo hi) := ⟨0, fun _ _ => rfl⟩
end Go.Proofs.Ytndkkjpgnmahbaa.Print
end

section
namespace Go.Proofs.Ytndkkjpgnmahbaa.H
open Go.RowKit Go.Proofs.YtndkkjpgnmahbaaW.PrintWords Go.Proofs.YtndkkjpgnmahbaaW.PrintLast Go.Proofs.YtndkkjpgnmahbaaW.PrintMore Go.Proofs.Ytndkkjpgnmahbaa.Print
namespace Mem
variable {w W W1 : World} {l : List (Nat × Array Value × TypeId)} {g : Nat} {old new : Array Value} {t : TypeId}
theorem keepd (h : Mem w W ((g, old, t) :: l)) (hK : KeepBut W W1 g none) (hB : Below w.heap.size w W1) (hg : W1.heap[g]? = some (.cells new t (0, 0))) : Mem w W1 ((g, new, t) :: l) := by
 refine ⟨hB, fun p hp => ?_, fun p hp => ?_, ?_⟩
 ·rcases List.mem_cons.1 hp with rfl | hp
  ·exact hg
  ·have h1 := h.blk p (List.mem_cons_of_mem _ hp)
   rw [hK.2 p.1 (blk_lt h1) (Ne.symm (h.ne p hp)) (by simp)]
   exact h1
 ·rcases List.mem_cons.1 hp with rfl | hp
  ·exact h.geh
  ·exact h.ge p (List.mem_cons_of_mem _ hp)
 ·have a := h.apart
  simp only [List.pairwise_cons] at a ⊢
  exact a
theorem back3 {q r s : Nat × Array Value × TypeId} (h : Mem w W (s :: q :: r :: l)) : Mem w W (q :: r :: s :: l) := h.bring (by
 refine (List.Perm.swap q s (r :: l)).trans ?_
 exact List.Perm.cons q (List.Perm.swap r s l))
end Mem
end Go.Proofs.Ytndkkjpgnmahbaa.H
namespace Go.Proofs.Ytndkkjpgnmahbaa.Print
open Go.RowKit Go.Proofs.YtndkkjpgnmahbaaW.PrintWords Go.Proofs.YtndkkjpgnmahbaaW.PrintLast Go.Proofs.YtndkkjpgnmahbaaW.PrintMore Go.Proofs.Ytndkkjpgnmahbaa.H Go.Proofs.Field
set_option linter.unusedVariables false
section
variable {P : Program} {ops : Array Oper} {o : Oper} {a : Act} {Q : Exit → Act → World → Prop} {K : Act → World → Prop} {w W : World} {l : List (Nat × Array Value × TypeId)}
theorem new_step {N : Option Tmp} (hm : Mem w W l) (hw : Region.wanted o (yielded ops a.tmps) = true) (hN : o.dst = N) (t : TypeId) (ho : o.op = .alloc t) {cs : Array Value} {s b : Nat} (hi : (P.info? t).map (fun i => (i.zero, i.size, i.bytes)) = some (some (.agg cs), s, b))
  (h : ∀ g W1, Mem w W1 ((g, cs, t) :: l) → K (a.put N (.pointer (some ⟨g, 0, none⟩))) W1) : if Region.wanted o (yielded ops a.tmps) = true then Oper.wp P o a W K Q else K (a.put N undef) W := by
 subst hN
 obtain ⟨i, hi1, hi2, _, _⟩ := info_parts hi
 refine event_step (w1 := W.alloc (.cells cs t (0, 0))) hw ?_ (h _ _ (hm.new rfl (blk_new W _) (below_alloc (Below.refl _ _) _)))
 unfold execOp
 simp [ho, Instr.alloc, zeroValue, typeInfo, hi1, hi2, newVar, newRow, newObj, Value.cells, Sem.run_bind, Result.andThen]
 rfl
theorem store_step {N : Option Tmp} {g : Nat} {old cs : Array Value} {t : TypeId} (hm : Mem w W ((g, old, t) :: l)) (hw : Region.wanted o (yielded ops a.tmps) = true) (hN : o.dst = N) (ty : TypeId) (x y : Operand) (ho : o.op = .store ty x y)
  (hx : a.eval x = .pointer (some ⟨g, 0, none⟩)) (hy : a.eval y = .agg cs) {n : Nat} (hi : (P.info? ty).map (·.size) = some n) (hold : old.size = n) (hs : cs.size = n) (h1 : cs.all (·.oneCell') = true)
  (h : ∀ W1, Mem w W1 ((g, cs, t) :: l) → K (a.put N undef) W1) : if Region.wanted o (yielded ops a.tmps) = true then Oper.wp P o a W K Q else K (a.put N undef) W := by
 subst hN
 rw [if_pos hw]
 exact wp_store_row ty x y ho g cs hx hy t old hm.head (by rw [hi, hs]) (by rw [hold, hs]) h1 (h _ (hm.row cs))
end
theorem dice_is {w0 W : World} {g : Nat} {s : Int} {l : List (Nat × Array Value × TypeId)} (h : Mem w0 W ((g, #[.int .u64 s], 79) :: l)) : IsS79 w0 W g s := ⟨h.head, h.geh⟩
theorem dice_row {w0 W W1 : World} {g : Nat} {s s' : Int} {l : List (Nat × Array Value × TypeId)} {v : Value} {ok : Nat → Prop} {r : List Int} (h : Mem w0 W ((g, #[.int .u64 s], 79) :: l)) (hK : KeepBut W W1 g none) (hB : Below w0.heap.size w0 W1) (hI : IsS79 w0 W1 g s')
  (hR : Kd.R (Kd.int .i64) 3 W1 W.heap.size ok v r) (hp : 0 < r.length) : ∃ g2 c cur, v = .slice (some ⟨g2, 0, none⟩) r.length c ∧ r.length ≤ c ∧ IsNums cur r ∧ Mem w0 W1 ((g2, cur, 3) :: (g, #[.int .u64 s'], 79) :: l) := by
 obtain ⟨g2, c, cur, rfl, a1, a2, a3, _, a5⟩ := R_mem hR hp
 have h1 := h.keepd hK hB hI.1
 refine ⟨g2, c, cur, rfl, a1, a5, h1.below, fun p hp => ?_, fun p hp => ?_, .cons (fun p hp => ?_) h1.apart⟩
 ·rcases List.mem_cons.1 hp with rfl | hp
  ·exact a2
  ·exact h1.blk p hp
 ·rcases List.mem_cons.1 hp with rfl | hp
  ·exact Nat.le_trans h.below.size a3
  ·exact h1.ge p hp
 ·have h3 : p.1 < W.heap.size := by
   rcases List.mem_cons.1 hp with rfl | hp
   ·exact blk_lt h.head
   ·exact blk_lt (h.blk p (List.mem_cons_of_mem _ hp))
  show g2 ≠ p.1
  omega
theorem apart_of {w0 W : World} {g g2 : Nat} {cs cs2 : Array Value} {t t2 : TypeId} {l : List (Nat × Array Value × TypeId)} (h : Mem w0 W ((g, cs, t) :: l)) (hp : (g2, cs2, t2) ∈ l) : g2 ≠ g := (h.ne _ hp).symm
theorem plan_cells {W : World} {g : Nat} {Wd Hd : Int} {R : Bool} {A : Option Addr} {n c : Nat} (h : W.heap[g]? = some (.cells (planV Wd Hd R A n c) 24 (0, 0))) : W.cell? ⟨g, 0, none⟩ = some (.int .i64 Wd) ∧ W.cell? ⟨g, 1, none⟩ = some (.int .i64 Hd) ∧ W.cell? ⟨g, 2, none⟩ = some (.bool R) ∧ W.cell? ⟨g, 3, none⟩ = some (.slice A n c) :=
 ⟨(blk_cell h 0).trans rfl, (blk_cell h 1).trans rfl, (blk_cell h 2).trans rfl, (blk_cell h 3).trans rfl⟩
theorem pair_cells {W : World} {g : Nat} {cs : Array Value} {t : TypeId} {a b : Value} (h : W.heap[g]? = some (.cells cs t (0, 0))) (h0 : cs[0]? = some a) (h1 : cs[1]? = some b) : W.cell? ⟨g, 0, none⟩ = some a ∧ W.cell? ⟨g, 1, none⟩ = some b :=
 ⟨(blk_cell h 0).trans h0, (blk_cell h 1).trans h1⟩
theorem volts_some {W H : Nat} {R : Bool} {C v : List Int} (hV : Volted W H R C v) (hck : checkErr W H R C = 0) : 0 < v.length := by
 obtain ⟨_, _, _, _, _, _, ⟨e, he, hne⟩, _⟩ := check_parts hck
 obtain ⟨i0, hi0, rfl⟩ := mem_fn he
 by_cases q : 0 < v.length
 ·exact q
 ·exfalso
  have h0 : v.length = 0 := by omega
  have : ∀ i, i < C.length → fn C i = 0 := fun i hi => by
   have h1 := hV.vlen i hi
   have h2 := (hV.elr i hi).1
   omega
  exact hne (this i0 hi0)
end Go.Proofs.Ytndkkjpgnmahbaa.Print
end

section
namespace Go.Proofs.Ytndkkjpgnmahbaa.Print
open Go.RowKit Go.Proofs.YtndkkjpgnmahbaaW.PrintWords Go.Proofs.YtndkkjpgnmahbaaW.PrintLast Go.Proofs.YtndkkjpgnmahbaaW.PrintMore Go.Proofs.Ytndkkjpgnmahbaa.H Go.Proofs.Field
attribute [local go_sem] max2_int min2_int max_two min_two max_three min_three max_four min_four
set_option linter.unusedVariables false
set_option linter.unusedSimpArgs false
def goodsF.T6 : Bool × List (List Nat × List Nat) := (true, [([], []), ([], []), ([], []), ([2], [2]), ([0, 1, 3, 3], [0, 1, 3]), ([4], [4]), ([5], [5]), ([5], [5]), ([], []), ([8, 6, 4, 0, 1, 2, 3, 4, 5, 6, 8], [6, 8]), ([7, 9, 0, 1, 2, 3, 4, 5, 6, 7, 8, 9], [7])])
def goodsF.B6 : List Nat := [0, 0, 0, 4, 15, 31, 63, 63, 0, 383, 1023]
theorem goodsF.tab6 : rtab .any (opsOf Try.f12 6) = goodsF.T6 := by kernel_rfl
theorem goodsF.bits6 : waitsOk goodsF.T6.2 goodsF.B6 = true := by kernel_rfl
def goodsF.T10 : Bool × List (List Nat × List Nat) := (true, [([], []), ([0], [0]), ([], []), ([], []), ([3], [3]), ([], []), ([4, 5], [4, 5]), ([6], [6]), ([], []), ([8], [8]), ([9], [9]), ([7, 10], [7, 10]), ([11], [11]), ([1, 2, 0, 1, 2, 3, 4, 5, 6, 7, 8, 9, 10, 11, 12], [1, 2]), ([13, 12, 10, 0, 1, 2, 3, 4, 5, 6, 7, 8, 9, 10, 11, 12], [12, 13])])
def goodsF.B10 : List Nat := [0, 1, 0, 0, 8, 0, 56, 120, 0, 256, 768, 2040, 4088, 8191, 16383]
theorem goodsF.tab10 : rtab .any (opsOf Try.f12 10) = goodsF.T10 := by kernel_rfl
theorem goodsF.bits10 : waitsOk goodsF.T10.2 goodsF.B10 = true := by kernel_rfl
def goodsF.T12 : Bool × List (List Nat × List Nat) := (true, [([], []), ([0], [0]), ([], []), ([], []), ([3], [3]), ([], []), ([4, 5], [4, 5]), ([6], [6]), ([], []), ([8], [8]), ([9], [9]), ([7, 10], [7, 10]), ([11], [11]), ([1, 2, 0, 1, 2, 3, 4, 5, 6, 7, 8, 9, 10, 11, 12], [1, 2]), ([13, 12, 10, 0, 1, 2, 3, 4, 5, 6, 7, 8, 9, 10, 11, 12], [12, 13])])
def goodsF.B12 : List Nat := [0, 1, 0, 0, 8, 0, 56, 120, 0, 256, 768, 2040, 4088, 8191, 16383]
theorem goodsF.tab12 : rtab .any (opsOf Try.f12 12) = goodsF.T12 := by kernel_rfl
theorem goodsF.bits12 : waitsOk goodsF.T12.2 goodsF.B12 = true := by kernel_rfl
def goodsF.T14 : Bool × List (List Nat × List Nat) := (true, [([], []), ([0], [0]), ([], []), ([], []), ([3], [3]), ([], []), ([], []), ([6], [6]), ([7], [7]), ([8], [8]), ([1, 2, 0, 1, 2, 6, 7, 8, 9], [1, 2]), ([10, 9, 8, 0, 1, 2, 6, 7, 8, 9], [9, 10]), ([4, 5, 0, 1, 2, 3, 4, 5, 6, 7, 8, 9, 10, 11], [4, 5]), ([12, 11, 0, 1, 2, 3, 4, 5, 6, 7, 8, 9, 10, 11], [12])])
def goodsF.B14 : List Nat := [0, 1, 0, 0, 8, 0, 0, 64, 192, 448, 967, 1991, 4095, 8191]
theorem goodsF.tab14 : rtab .any (opsOf Try.f12 14) = goodsF.T14 := by kernel_rfl
theorem goodsF.bits14 : waitsOk goodsF.T14.2 goodsF.B14 = true := by kernel_rfl
def goodLo (m k : Nat) (q5 q2 : Int) (lo : List Int) : List Int := if m = 0 then lo.set k (fn lo k + q5 - 1) else if m = 2 then lo.set k (-1000000 - q2) else lo
def goodHi (m k : Nat) (q5 q2 : Int) (hi : List Int) : List Int := if m = 1 then hi.set k (fn hi k - q5 + 1) else if m = 2 then hi.set k 1000000 else hi
theorem goodLo_length (m k : Nat) (q5 q2 : Int) (lo : List Int) : (goodLo m k q5 q2 lo).length = lo.length := by
 unfold goodLo; split
 ·rw [List.length_set]
 ·split
  ·rw [List.length_set]
  ·rfl
theorem goodHi_length (m k : Nat) (q5 q2 : Int) (hi : List Int) : (goodHi m k q5 q2 hi).length = hi.length := by
 unfold goodHi; split
 ·rw [List.length_set]
 ·split
  ·rw [List.length_set]
  ·rfl
theorem cells16 {a b c d e f g h i j : Prop} (h1 : a ∧ b ∧ c ∧ d) (h2 : e ∧ f ∧ g ∧ h) (h3 : i ∧ j) : a ∧ b ∧ c ∧ d ∧ e ∧ f ∧ g ∧ h ∧ i ∧ j := ⟨h1.1, h1.2.1, h1.2.2.1, h1.2.2.2, h2.1, h2.2.1, h2.2.2.1, h2.2.2.2, h3.1, h3.2⟩
theorem own_at (A : Option Addr) (c n : Nat) (l : List Int) (w : World) (hl : l.length = n) (hr : Kd.C (Kd.int .i64) w A l.length l) (hc : n ≤ c) (h : thermionkit_Own.f l = some l) :
  Calls Try.prog 38 #[.slice A n c] w fun e w' => ∃ v0_ : Value, e = .returned (v0_) ∧ Kd.R (Kd.int .i64) 3 w' w.heap.size (fun _ => True) v0_ l ∧ Below w.heap.size w w' := by
 subst hl
 exact thermionkit_Own.calls A c l l w hr hc h
theorem same_at (k : Nat) (A0 : Option Addr) (c0 n : Nat) (A1 : Option Addr) (c1 : Nat) (l : List Int) (w : World) (hl : l.length = n) (hr0 : Kd.C (Kd.int .i64) w A0 l.length l) (hc0 : n ≤ c0) (hr1 : Kd.C (Kd.int .i64) w A1 l.length l) (hc1 : n ≤ c1) (h : thermionkit_Same.f k l l = some true) :
  Calls Try.prog 43 #[.slice A0 n c0, .slice A1 n c1] w fun e w' => e = .returned (.bool true) ∧ Drawn0 w w' := by
 subst hl
 exact thermionkit_Same.calls k A0 c0 l A1 c1 l true w hr0 hc0 hr1 hc1 h
theorem ourgood_at (W H : Int) (R : Bool) (A : Option Addr) (c : Nat) (C : List Int) (A1 : Option Addr) (c1 : Nat) (v : List Int) (A2 : Option Addr) (c2 n2 : Nat) (lo : List Int) (A3 : Option Addr) (c3 n3 : Nat) (hi : List Int) (r : Bool) (w : World) (hr : Kd.C (Kd.int .i64) w A C.length C) (hc : C.length ≤ c) (hr1 : Kd.C (Kd.int .i64) w A1 v.length v) (hc1 : v.length ≤ c1)
  (h2 : lo.length = n2) (h3 : hi.length = n3) (hr2 : Kd.C (Kd.int .i64) w A2 lo.length lo) (hc2 : n2 ≤ c2) (hr3 : Kd.C (Kd.int .i64) w A3 hi.length hi) (hc3 : n3 ≤ c3) (hl : n2 ≤ 1000000000 ∧ n3 ≤ 1000000000) (h : field_Good.f W H R C v lo hi = some r) :
  Calls Try.prog 50 #[.agg (planV W H R A C.length c), .slice A1 v.length c1, .slice A2 n2 c2, .slice A3 n3 c3] w fun e w' => e = .returned (.bool r) ∧ Below w.heap.size w w' := by
 subst h2 h3
 exact field_Good.calls W H R A c C A1 c1 v A2 c2 lo A3 c3 hi r w hr hc hr1 hc1 hr2 hc2 hr3 hc3 hl.1 hl.2 h
theorem refgood_at (k : Nat) (W H : Int) (R : Bool) (A : Option Addr) (c : Nat) (C : List Int) (A1 : Option Addr) (c1 : Nat) (v : List Int) (A2 : Option Addr) (c2 n2 : Nat) (lo : List Int) (A3 : Option Addr) (c3 n3 : Nat) (hi : List Int) (r : Bool) (w : World) (hr : Kd.C (Kd.int .i64) w A C.length C) (hc : C.length ≤ c) (hr1 : Kd.C (Kd.int .i64) w A1 v.length v) (hc1 : v.length ≤ c1)
  (h2 : lo.length = n2) (h3 : hi.length = n3) (hr2 : Kd.C (Kd.int .i64) w A2 lo.length lo) (hc2 : n2 ≤ c2) (hr3 : Kd.C (Kd.int .i64) w A3 hi.length hi) (hc3 : n3 ≤ c3) (h : thermionref01_Good.f k W H R C v lo hi = some r) :
  Calls Try.prog 51 #[.agg (planV W H R A C.length c), .slice A1 v.length c1, .slice A2 n2 c2, .slice A3 n3 c3] w fun e w' => e = .returned (.bool r) ∧ Below w.heap.size w w' := by
 subst h2 h3
 exact thermionref01_Good.calls k W H R A c C A1 c1 v A2 c2 lo A3 c3 hi r w hr hc hr1 hc1 hr2 hc2 hr3 hc3 h
set_option maxHeartbeats 6400000 in
set_option maxRecDepth 100000 in
theorem goods_calls (W H : Int) (R : Bool) (A : Option Addr) (c : Nat) (C : List Int) (A1 : Option Addr) (c1 : Nat) (v : List Int) (A2 : Option Addr) (c2 : Nat) (low : List Int) (A3 : Option Addr) (c3 : Nat) (high : List Int) (A4 : Option Addr) (c4 : Nat) (l4 : List Int) (a5 a6 : Int) (w : World)
  (hr : Kd.C (Kd.int .i64) w A C.length C) (hc : C.length ≤ c) (hr1 : Kd.C (Kd.int .i64) w A1 v.length v) (hc1 : v.length ≤ c1) (hr2 : Kd.C (Kd.int .i64) w A2 low.length low) (hc2 : low.length ≤ c2) (hr3 : Kd.C (Kd.int .i64) w A3 high.length high) (hc3 : high.length ≤ c3) (hr4 : Kd.C (Kd.int .i64) w A4 l4.length l4) (hc4 : l4.length ≤ c4) :
  Calls Try.prog 12 #[.agg (planV W H R A C.length c), .slice A1 v.length c1, .slice A2 low.length c2, .slice A3 high.length c3, .slice A4 l4.length c4, .int .i64 a5, .int .i64 a6] w fun e w' => e = .returned (.bool true) ∧ Below w.heap.size w w' := by
 obtain ⟨K1, hK1⟩ := refgood_eq W H R C v low high
 obtain ⟨rb1, hrb1⟩ : ∃ b, goodB W H R C v low high = b := ⟨_, rfl⟩
 rw [hrb1] at hK1
 obtain ⟨s0, hs0⟩ : ∃ s, thermionkit_NewDice.f l4 = some s := ⟨_, rfl⟩
 obtain ⟨W', H', R', C', v', s1, s2, D⟩ := dealt s0 8 6 (by omega) (by omega)
 obtain ⟨kv, hkv⟩ := D.volts
 obtain ⟨d0, hup, hd1, hd2⟩ := upto_eq s2 9 (by omega) (by omega)
 obtain ⟨n, rfl⟩ : ∃ n : Nat, d0 = n := ⟨d0.toNat, by omega⟩
 obtain ⟨s3, hs3⟩ : ∃ s, nextWord s2 = s := ⟨_, rfl⟩
 rw [hs3] at hup
 obtain ⟨lo, hi, z3, z4, hz, hlo, hhi, hbd⟩ : ∃ lo hi z3 z4, field_Solve.f W' H' R' C' v' n = some (lo, hi, z3, z4, 0) ∧ lo.length = C'.length ∧ hi.length = C'.length ∧ ∀ j, j < C'.length → (-1000000 ≤ fn lo j ∧ fn lo j ≤ 1000000) ∧ (-1000000 ≤ fn hi j ∧ fn hi j ≤ 1000000) := ⟨_, _, _, _, solve_eq D.verr (by omega), (bounds_len D.volted D.small n).1, (bounds_len D.volted D.small n).2, fun j hj => by rw [fn_take hj, fn_take hj]; exact solve_range D.volted D.small n hj⟩
 have hpos : 0 < C'.length := by rw [D.len]; exact Nat.mul_pos D.W1 D.H1
 have hvp := volts_some D.volted D.check
 obtain ⟨k, hk, hk1⟩ := mod_eq a5 (C'.length : Int) (by omega) (by have := D.small; omega)
 obtain ⟨m, hm, hm1⟩ := mod_eq a6 4 (by omega) (by omega)
 obtain ⟨x6, hx6⟩ : ∃ x, wrap64 (Int.tdiv a6 4) = x := ⟨_, rfl⟩
 obtain ⟨q5, hq5, hq51⟩ := mod_eq x6 5 (by omega) (by omega)
 obtain ⟨q2, hq2, hq21⟩ := mod_eq x6 2 (by omega) (by omega)
 obtain ⟨lo', hlo'⟩ : ∃ l, goodLo m k q5 q2 lo = l := ⟨_, rfl⟩
 obtain ⟨hi', hhi'⟩ : ∃ l, goodHi m k q5 q2 hi = l := ⟨_, rfl⟩
 have hl1 : lo'.length = C'.length := by rw [← hlo', goodLo_length]; exact hlo
 have hl2 : hi'.length = C'.length := by rw [← hhi', goodHi_length]; exact hhi
 obtain ⟨K2, hK2⟩ := refgood_eq (W' : Int) (H' : Int) R' C' v' lo' hi'
 obtain ⟨rb2, hrb2⟩ : ∃ b, goodB (W' : Int) (H' : Int) R' C' v' lo' hi' = b := ⟨_, rfl⟩
 rw [hrb2] at hK2
 obtain ⟨K3, hK3⟩ := same_eq lo' (by rw [hl1]; have := D.small; omega)
 obtain ⟨K4, hK4⟩ := same_eq hi' (by rw [hl2]; have := D.small; omega)
 obtain ⟨b, hb⟩ : ∃ b, ((([v, low, high]).any (fun x => decide (300 < x.length))) || decide (300 < C.length)) = b := ⟨_, rfl⟩
 have HG1 : Aside0 (field_Good.f W H R C v low high = some rb1) := ⟨by unfold field_Good.f; rw [hrb1]⟩
 have HG2 := Aside0.mk (hK1 K1 (Nat.le_refl _))
 have HG3 : Aside0 (field_Good.f W' H' R' C' v' lo' hi' = some rb2) := ⟨by unfold field_Good.f; rw [hrb2]⟩
 have HG4 := Aside0.mk (hK2 K2 (Nat.le_refl _))
 have HS3 := Aside0.mk (hK3 K3 (Nat.le_refl _))
 have HS4 := Aside0.mk (hK4 K4 (Nat.le_refl _))
 have HO1 := Aside0.mk (own_eq lo' (by rw [hl1]; have := D.small; omega))
 have HO2 := Aside0.mk (own_eq hi' (by rw [hl2]; have := D.small; omega))
 have HZ : Aside0 (thermionref01_Solve.f W' H' R' C' v' n = some (lo, hi, z3, z4, 0)) := ⟨hz⟩
 have HSL := Aside0.mk hlo
 have HSH := Aside0.mk hhi
 have HL1 := Aside0.mk hl1
 have HL2 := Aside0.mk hl2
 have HLO := Aside0.mk hlo'
 have HHI := Aside0.mk hhi'
 have HBD := Aside0.mk hbd
 have HPOS := Aside0.mk hpos
 have HSMA := Aside0.mk D.small
 have HVP := Aside0.mk hvp
 have HUP := Aside0.mk hup
 have HND := Aside0.mk hs0
 have HD := Aside0.mk D
 have HMD := Aside0.mk hk
 have HKL := Aside0.mk hk1
 have HM4 := Aside0.mk hm
 have HMM := Aside0.mk hm1
 have HX6 := Aside0.mk hx6
 have HQ5 := Aside0.mk (And.intro hq5 hq51)
 have HQ2n := Aside0.mk (And.intro hq2 hq21)
 have HVO := Aside0.mk (hkv kv (Nat.le_refl _))
 have HAW := Aside0.mk awake_true
 have HR := Aside0.mk hr
 have HC := Aside0.mk hc
 have HR1 := Aside0.mk hr1
 have HC1 := Aside0.mk hc1
 have HR2 := Aside0.mk hr2
 have HC2 := Aside0.mk hc2
 have HR3 := Aside0.mk hr3
 have HC3 := Aside0.mk hc3
 have HR4 := Aside0.mk hr4
 have HC4 := Aside0.mk hc4
 have HBG := Aside0.mk hb
 have HM := Aside0.mk (Mem.start w)
 have HRA : Aside0 (∀ V, Below w.heap.size w V → ∀ p, p ∈ [(A1, c1, v), (A2, c2, low), (A3, c3, high)] → Kd.C (Kd.int .i64) V p.1 p.2.2.length p.2.2 ∧ p.2.2.length ≤ p.2.1) := ⟨fun V hV p hp => by
  simp only [List.mem_cons, List.not_mem_nil, or_false] at hp
  rcases hp with rfl | rfl | rfl
  ·exact ⟨Kd.C_below hr1 hV, hc1⟩
  ·exact ⟨Kd.C_below hr2 hV, hc2⟩
  ·exact ⟨Kd.C_below hr3 hV, hc3⟩⟩
 have hu24 := Try.underlying24
 have hu22 := Try.underlying22
 have hu33 := Try.underlying33
 have hu46 := Try.underlying46
 clear hr hc hr1 hc1 hr2 hc2 hr3 hc3 hr4 hc4 hs0 D hkv hup hd1 hd2 hs3 hz hlo hhi hbd hpos hvp hk hk1 hm hm1 hx6 hq5 hq51 hq2 hq21 hlo' hhi' hl1 hl2 hK1 hrb1 hK2 hrb2 hK3 hK4 hb
 go_enter Try.func12, Try.ntmps12
 cases b
 case true =>
  go_wp2_with (first
   | ((with_reducible refine gate_dst (N := 7) rfl ?_); refine ev_box HM.out rfl 24 (.tmp 0) rfl (cs := planV W H R A C.length c) rfl ?_; intro gp w1 hm1 hq1; clear hq1; have HM1 := Aside0.mk hm1; clear hm1 HM)
   | ((with_reducible refine gate_dst (N := 23) rfl ?_); refine ev_load HM1.out.head rfl 24 (.tmp 7) rfl rfl _ Try.underlying24 rfl size24 rfl ?_)
   | ((with_reducible refine gate_dst (N := 27) rfl ?_); refine ev_lit HM1.out rfl [.slice A1 v.length c1, .slice A2 low.length c2, .slice A3 high.length c3] 3 22 ?hrl ?_; (case hrl => first | (go_simp; done) | (go_simp; rfl)); intro gl w2 hm1 hq1; clear hq1; have HM2 := Aside0.mk hm1; clear hm1 HM1)
   | (go_at_call 19; refine (big_at W H R A c C gl 3 [(A1, c1, v), (A2, c2, low), (A3, c3, high)] rfl (by omega) true _ (Kd.C_below HR.out HM2.out.below) HC.out HM2.out.head (HRA.out _ HM2.out.below) HBG.out).mono ?_; rintro e1 we ⟨rfl, hb⟩; have HM3 := Aside0.mk (HM2.out.step hb); clear hb HM2; have HEB := Aside0.mk HM3.out.below; have HP := Aside0.mk HM3.out.second; replace HR := Aside0.mk (Kd.C_below HR.out HEB.out); replace HR4 := Aside0.mk (Kd.C_below HR4.out HEB.out); clear HM3 HRA HBG)
   | (go_at_call 20; refine (thermionlaw01_awake.calls 10 true _ HAW.out).mono ?_; rintro e1 wE ⟨rfl, hb⟩; have HE := Aside0.mk (below_step HEB.out hb); clear hb))
  go_ret
  exact ⟨rfl, HE.out⟩
 case false =>
  go_upto_region 6 with (first
   | ((with_reducible refine gate_dst (N := 7) rfl ?_); refine ev_box HM.out rfl 24 (.tmp 0) rfl (cs := planV W H R A C.length c) rfl ?_; intro gp w1 hm1 hq1; clear hq1; have HM1 := Aside0.mk hm1; clear hm1 HM)
   | ((with_reducible refine gate_dst (N := 23) rfl ?_); refine ev_load HM1.out.head rfl 24 (.tmp 7) rfl rfl _ Try.underlying24 rfl size24 rfl ?_)
   | ((with_reducible refine gate_dst (N := 27) rfl ?_); refine ev_lit HM1.out rfl [.slice A1 v.length c1, .slice A2 low.length c2, .slice A3 high.length c3] 3 22 ?hrl ?_; (case hrl => first | (go_simp; done) | (go_simp; rfl)); intro gl w2 hm1 hq1; clear hq1; have HM2 := Aside0.mk hm1; clear hm1 HM1)
   | (go_at_call 19; refine (big_at W H R A c C gl 3 [(A1, c1, v), (A2, c2, low), (A3, c3, high)] rfl (by omega) false _ (Kd.C_below HR.out HM2.out.below) HC.out HM2.out.head (HRA.out _ HM2.out.below) HBG.out).mono ?_; rintro e1 we ⟨rfl, hb⟩; have HM3 := Aside0.mk (HM2.out.step hb); clear hb HM2; have HEB := Aside0.mk HM3.out.below; have HP := Aside0.mk HM3.out.second; replace HR := Aside0.mk (Kd.C_below HR.out HEB.out); replace HR4 := Aside0.mk (Kd.C_below HR4.out HEB.out); replace HR1 := Aside0.mk (Kd.C_below HR1.out HEB.out); replace HR2 := Aside0.mk (Kd.C_below HR2.out HEB.out); replace HR3 := Aside0.mk (Kd.C_below HR3.out HEB.out); clear HM3 HRA)
   | (go_at_call 21; refine (thermionkit_NewDice.calls A4 c4 l4 s0 we we (Below.refl _ _) HR4.out HC4.out HND.out).mono ?_; rintro e1 u1 ⟨g, rfl, hI, hB, hb⟩; have HD1 := Aside0.mk ((Mem.start we).add hb hI.1 hI.2); clear hI hB hb HND)
   | (go_at_call 22; refine (thermionkit_PlanOf.calls g s0 8 6 W' H' R' C' s1 we u1 (dice_is HD1.out) HD1.out.below HD.out.plan).mono ?_; rintro e1 u2 ⟨vp, rfl, hR, hI, hB, hK⟩; obtain ⟨gC, cC, cuC, rfl, hcC, hnC, hm1⟩ := dice_row HD1.out hK hB hI hR HPOS.out; have HNC := Aside0.mk (And.intro hnC hcC); have HD2 := Aside0.mk hm1; clear hR hI hB hK hcC hnC hm1 HD1)
   | ((with_reducible refine gate_dst (N := 16) rfl ?_); refine ev_new HD2.out rfl 24 rfl info24 ?_; intro g6 u3 hm1 hq1; have HD3 := Aside0.mk hm1; clear hm1 hq1 HD2)
   | ((with_reducible refine gate_store (t := 24) (p := 16) rfl ?_); refine ev_store HD3.out rfl 24 (.tmp 16) (.tmp 33) rfl rfl (cs := planV W' H' R' (some ⟨gC, 0, none⟩) C'.length cC) rfl size24 rfl rfl (by simp [Value.oneCell']) ?_; intro u4 hm1 hq1; clear hq1; have HD4 := Aside0.mk hm1; clear hm1 HD3)
   | ((with_reducible refine gate_dst (N := 35) rfl ?_); refine ev_load HD4.out.head rfl 24 (.tmp 16) rfl rfl _ Try.underlying24 rfl size24 rfl ?_)
   | (go_at_call 23; refine (thermionkit_VoltsOf.calls kv g s1 W' H' R' (some ⟨gC, 0, none⟩) cC C' v' s2 we u4 (dice_is HD4.out.third3) HD4.out.below (C_mem HD4.out.second HNC.out.1) HNC.out.2 (fun ad e _ => by cases e; exact apart_of (cs2 := cuC) (t2 := 3) HD4.out.third3 (by simp)) HVO.out).mono ?_; rintro e1 u5 ⟨vv, rfl, hR, hI, hB, hK⟩; obtain ⟨gv, cv, cuv, rfl, hcv, hnv, hm1⟩ := dice_row HD4.out.third3 hK hB hI hR HVP.out; have HNV := Aside0.mk (And.intro hnv hcv); have HD5 := Aside0.mk hm1; clear hR hI hB hK hcv hnv hm1 HVO HD4))
  go_cut [18, 19] (fun v18 v19 wc => ∃ (g18 g1 k1 g2 k2 : Nat) (cu1 cu2 : Array Value), v18 = .pointer (some ⟨g18, 0, none⟩) ∧ v19 = .int .i64 0 ∧ Aside0 (IsNums cu1 lo ∧ C'.length ≤ k1) ∧ Aside0 (IsNums cu2 hi ∧ C'.length ≤ k2) ∧ Aside0 (Mem we wc [(g18, #[.slice (some ⟨g1, 0, none⟩) C'.length k1, .slice (some ⟨g2, 0, none⟩) C'.length k2, .int .i64 z3, .bool z4], 33), (g2, cu2, 3), (g1, cu1, 3), (g, #[.int .u64 s3], 79), (gv, cuv, 3), (g6, planV W' H' R' (some ⟨gC, 0, none⟩) C'.length cC, 24), (gC, cuC, 3)]))
  case first =>
   have HQ := Aside0.mk (HD5.out.swap.drew)
   clear HD5
   refine start_ (n := 11) (S := fun w' => w'.cell? ⟨g6, 0, none⟩ = some (.int .i64 (W' : Int)) ∧ w'.cell? ⟨g6, 1, none⟩ = some (.int .i64 (H' : Int)) ∧ w'.cell? ⟨g6, 2, none⟩ = some (.bool R') ∧ w'.cell? ⟨g6, 3, none⟩ = some (.slice (some ⟨gC, 0, none⟩) C'.length cC)) (ds := [9]) #[false, false, false, false, false, false, false, false, false, false, false] (by kernel_rfl) rfl rfl (plan_cells (HQ.out.blk (g6, planV W' H' R' (some ⟨gC, 0, none⟩) C'.length cC, 24) (by simp))) (fun hHeld => ?_); refine with_tabW goodsF.tab6 goodsF.bits6 (fun HT_ HW_ => ?_)
   refine pure_ (i := 1) (N := some 39) (v := ?_) (a' := ?_) (bS 11 2) rfl rfl (any_of HT_.out (by kernel_rfl)) (fun _ _ _ h => h) (Or.inl ⟨by rfl, ?_⟩) ?_ ?_; rotate_left; (· intro w'; go_simp; with_reducible rfl); rotate_left; (· simp only [Act.put, sT, sZ, sS, i64_w, i32_w]; rfl)
   refine pure_ (i := 2) (N := some 40) (v := ?_) (a' := ?_) (bS 11 6) rfl rfl (any_of HT_.out (by kernel_rfl)) (fun _ _ _ h => h) (Or.inl ⟨by rfl, ?_⟩) ?_ ?_; rotate_left; (· intro w'; go_simp; with_reducible rfl); rotate_left; (· simp only [Act.put, sT, sZ, sS, i64_w, i32_w]; rfl)
   refine take_ (i := 0) (N := some 38) (v := ?_) (a' := ?_) (bS 11 7) rfl rfl (take_ofW HT_.out HW_.out (by kernel_rfl)) (fun _ _ _ h => h) (Or.inl ⟨by rfl, ?_⟩) hHeld ?_ ?_; rotate_left; (· rintro w' ⟨s0, s1, s2, s3⟩; go_simp; with_reducible rfl); rotate_left; (· simp only [Act.put, sT, sZ, sS, i64_w, i32_w]; rfl)
   refine two_ (i := 3) (j := 8) (Ni := some 41) (Nj := some 18) (bS 11 15) (bS 11 263) rfl rfl rfl rfl (by kernel_rfl) (by decide) (by decide) (fun K hK => ?_) (fun K hK => ?_)
   ·refine goes_ Try.func49 (by kernel_rfl) rfl #[.pointer (some ⟨g, 0, none⟩), .int .i64 9] (by rfl) rfl rfl (by (try simp only [List.map_toArray, List.map_cons, List.map_nil]); first | done | rfl) ?_
    with_reducible refine (thermionkit_Dice_Upto.calls g s2 9 (n : Int) s3 we _ (dice_is HQ.out) HQ.out.below HUP.out).mono ?_
    rintro e1 wq ⟨rfl, hI_, hB_, hK_⟩
    have HQ2 := Aside0.mk (HQ.out.keepd hK_ hB_ hI_.1)
    clear HQ HUP hI_ hB_ hK_
    have HQ := HQ2
    clear HQ2
    refine ⟨_, rfl, ?_⟩
    refine hK.out _ _ (plan_cells (HQ.out.blk (g6, planV W' H' R' (some ⟨gC, 0, none⟩) C'.length cC, 24) (by simp))) (fun hHeld => ?_)
    clear hK K
    refine norm_ (a' := ?_) ?_ ?_
    rotate_left
    ·show Act.put _ (some 41) _ = _
     simp only [Act.put, sT, sZ, sS, i64_w, i32_w]
     rfl
    refine two_ (i := 4) (j := 8) (Ni := some 42) (Nj := some 18) (bS 11 31) (bS 11 271) rfl rfl rfl rfl (by kernel_rfl) (by decide) (by decide) (fun K hK => ?_) (fun K hK => ?_)
    ·refine goes_ Try.func26 (by kernel_rfl) rfl #[.agg (planV W' H' R' (some ⟨gC, 0, none⟩) C'.length cC), .slice (some ⟨gv, 0, none⟩) v'.length cv, .int .i64 (n : Int)] (by rfl) rfl rfl (by (try simp only [List.map_toArray, List.map_cons, List.map_nil]); first | done | rfl) ?_
     with_reducible refine (thermionref01_Solve.calls W' H' R' (some ⟨gC, 0, none⟩) cC C' (some ⟨gv, 0, none⟩) cv v' n lo hi z3 z4 0 _ (C_mem (HQ.out.blk (gC, cuC, 3) (by simp)) HNC.out.1) HNC.out.2 (C_mem (HQ.out.blk (gv, cuv, 3) (by simp)) HNV.out.1) HNV.out.2 HZ.out).mono ?_
     rintro e1 wq ⟨v0, v1, rfl, hR1, hR2, hb⟩
     obtain ⟨g1, k1, cu1, g2, k2, cu2, rfl, rfl, hc1, hc2, hn1, hn2, hm1⟩ := two_mem HQ.out hb hR1 hR2 (by rw [HSL.out]; exact HPOS.out) (by rw [HSH.out]; exact HPOS.out)
     have HQ2 := Aside0.mk hm1
     rw [HSL.out] at hc1
     rw [HSH.out] at hc2
     rw [HSL.out, HSH.out]
     have HN1 := Aside0.mk (And.intro hn1 hc1)
     have HN2 := Aside0.mk (And.intro hn2 hc2)
     clear HQ HZ hR1 hR2 hb hc1 hc2 hn1 hn2 hm1
     have HQ := HQ2
     clear HQ2
     refine ⟨_, rfl, ?_⟩
     refine hK.out _ _ (plan_cells (HQ.out.blk (g6, planV W' H' R' (some ⟨gC, 0, none⟩) C'.length cC, 24) (by simp))) (fun hHeld => ?_)
     clear hK K
     refine norm_ (a' := ?_) ?_ ?_
     rotate_left
     ·show Act.put _ (some 42) _ = _
      simp only [Act.put, sT, sZ, sS, i64_w, i32_w]
      rfl
     refine pure_ (i := 5) (N := some 37) (v := ?_) (a' := ?_) (bS 11 63) rfl rfl (any_of HT_.out (by kernel_rfl)) (fun _ _ _ h => h) (Or.inl ⟨by rfl, ?_⟩) ?_ ?_; rotate_left; (· intro w'; go_simp; with_reducible rfl); rotate_left; (· simp only [Act.put, sT, sZ, sS, i64_w, i32_w]; rfl)
     refine pure_ (i := 6) (N := some 43) (v := ?_) (a' := ?_) (bS 11 127) rfl rfl (any_of HT_.out (by kernel_rfl)) (fun _ _ _ h => h) (Or.inl ⟨by rfl, ?_⟩) ?_ ?_; rotate_left; (· intro w'; go_simp; with_reducible rfl); rotate_left; (· simp only [Act.put, sT, sZ, sS, i64_w, i32_w]; rfl)
     refine pure_ (i := 7) (N := some 44) (v := ?_) (a' := ?_) (bS 11 255) rfl rfl (any_of HT_.out (by kernel_rfl)) (fun _ _ _ h => h) (Or.inl ⟨by rfl, ?_⟩) ?_ ?_; rotate_left; (· intro w'; go_simp; with_reducible rfl); rotate_left; (· simp only [Act.put, sT, sZ, sS, i64_w, i32_w]; rfl)
     refine one_ (i := 8) (N := some 18) (bS 11 511) rfl rfl (one_of HT_.out (by kernel_rfl)) (by decide) (fun K hK => ?_)
     refine new_step HQ.out (by rfl) rfl 33 rfl info33 (fun g18 wq hm1 => ?_)
     clear HQ
     have HQ := Aside0.mk hm1
     clear hm1
     refine hK.out _ _ (plan_cells (HQ.out.blk (g6, planV W' H' R' (some ⟨gC, 0, none⟩) C'.length cC, 24) (by simp))) (fun hHeld => ?_)
     clear hK K
     refine norm_ (a' := ?_) ?_ ?_
     rotate_left
     ·show Act.put _ (some 18) _ = _
      simp only [Act.put, sT, sZ, sS, i64_w, i32_w]
      rfl
     refine last_ (i := 9) (N := none) (bS 11 1023) rfl rfl (one_of HT_.out (by kernel_rfl)) (by decide) (fun K hK => ?_)
     refine store_step (HQ.out) (by rfl) rfl 33 (.tmp 18) (.tmp 43) rfl rfl rfl (cs := #[.slice (some ⟨g1, 0, none⟩) C'.length k1, .slice (some ⟨g2, 0, none⟩) C'.length k2, .int .i64 z3, .bool z4]) size33 rfl rfl (by simp [Value.oneCell']) (fun wq hm1 => ?_)
     clear HQ
     have HQ := Aside0.mk hm1
     clear hm1
     refine hK.out _ _ ?_
     clear hK K
     refine norm_ (a' := ?_) ?_ ?_
     rotate_left
     ·show Act.put _ none _ = _
      simp only [Act.put, sT, sZ, sS, i64_w, i32_w]
      rfl
     refine pure_ (i := 10) (N := some 19) (v := ?_) (a' := ?_) (bS 11 2047) rfl rfl (any_of HT_.out (by kernel_rfl)) (fun _ _ _ h => h) (Or.inl ⟨by rfl, ?_⟩) ?_ ?_; rotate_left; (· intro w'; go_simp; with_reducible rfl); rotate_left; (· simp only [Act.put, sT, sZ, sS, i64_w, i32_w]; rfl)
     refine done_ (done_of HT_.out (by kernel_rfl)) ?_
     clear hHeld HT_ HW_
     go_wp2
     go_meet
     case rel => exact ⟨g18, g1, k1, g2, k2, cu1, cu2, rfl, rfl, HN1, HN2, HQ⟩
    ·refine new_step HQ.out (by rfl) rfl 33 rfl info33 (fun g18 wq hm1 => ?_)
     clear HQ
     have HQ := Aside0.mk hm1
     clear hm1
     refine hK.out _ _ (plan_cells (HQ.out.blk (g6, planV W' H' R' (some ⟨gC, 0, none⟩) C'.length cC, 24) (by simp))) (fun hHeld => ?_)
     clear hK K
     refine norm_ (a' := ?_) ?_ ?_
     rotate_left
     ·show Act.put _ (some 18) _ = _
      simp only [Act.put, sT, sZ, sS, i64_w, i32_w]
      rfl
     refine one_ (i := 4) (N := some 42) (bS 11 287) rfl rfl (one_of HT_.out (by kernel_rfl)) (by decide) (fun K hK => ?_)
     refine goes_ Try.func26 (by kernel_rfl) rfl #[.agg (planV W' H' R' (some ⟨gC, 0, none⟩) C'.length cC), .slice (some ⟨gv, 0, none⟩) v'.length cv, .int .i64 (n : Int)] (by rfl) rfl rfl (by (try simp only [List.map_toArray, List.map_cons, List.map_nil]); first | done | rfl) ?_
     with_reducible refine (thermionref01_Solve.calls W' H' R' (some ⟨gC, 0, none⟩) cC C' (some ⟨gv, 0, none⟩) cv v' n lo hi z3 z4 0 _ (C_mem (HQ.out.blk (gC, cuC, 3) (by simp)) HNC.out.1) HNC.out.2 (C_mem (HQ.out.blk (gv, cuv, 3) (by simp)) HNV.out.1) HNV.out.2 HZ.out).mono ?_
     rintro e1 wq ⟨v0, v1, rfl, hR1, hR2, hb⟩
     obtain ⟨g1, k1, cu1, g2, k2, cu2, rfl, rfl, hc1, hc2, hn1, hn2, hm1⟩ := two_mem HQ.out hb hR1 hR2 (by rw [HSL.out]; exact HPOS.out) (by rw [HSH.out]; exact HPOS.out)
     have HQ2 := Aside0.mk hm1.third3
     rw [HSL.out] at hc1
     rw [HSH.out] at hc2
     rw [HSL.out, HSH.out]
     have HN1 := Aside0.mk (And.intro hn1 hc1)
     have HN2 := Aside0.mk (And.intro hn2 hc2)
     clear HQ HZ hR1 hR2 hb hc1 hc2 hn1 hn2 hm1
     have HQ := HQ2
     clear HQ2
     refine ⟨_, rfl, ?_⟩
     refine hK.out _ _ (plan_cells (HQ.out.blk (g6, planV W' H' R' (some ⟨gC, 0, none⟩) C'.length cC, 24) (by simp))) (fun hHeld => ?_)
     clear hK K
     refine norm_ (a' := ?_) ?_ ?_
     rotate_left
     ·show Act.put _ (some 42) _ = _
      simp only [Act.put, sT, sZ, sS, i64_w, i32_w]
      rfl
     refine pure_ (i := 5) (N := some 37) (v := ?_) (a' := ?_) (bS 11 319) rfl rfl (any_of HT_.out (by kernel_rfl)) (fun _ _ _ h => h) (Or.inl ⟨by rfl, ?_⟩) ?_ ?_; rotate_left; (· intro w'; go_simp; with_reducible rfl); rotate_left; (· simp only [Act.put, sT, sZ, sS, i64_w, i32_w]; rfl)
     refine pure_ (i := 6) (N := some 43) (v := ?_) (a' := ?_) (bS 11 383) rfl rfl (any_of HT_.out (by kernel_rfl)) (fun _ _ _ h => h) (Or.inl ⟨by rfl, ?_⟩) ?_ ?_; rotate_left; (· intro w'; go_simp; with_reducible rfl); rotate_left; (· simp only [Act.put, sT, sZ, sS, i64_w, i32_w]; rfl)
     refine pure_ (i := 7) (N := some 44) (v := ?_) (a' := ?_) (bS 11 511) rfl rfl (any_of HT_.out (by kernel_rfl)) (fun _ _ _ h => h) (Or.inl ⟨by rfl, ?_⟩) ?_ ?_; rotate_left; (· intro w'; go_simp; with_reducible rfl); rotate_left; (· simp only [Act.put, sT, sZ, sS, i64_w, i32_w]; rfl)
     refine last_ (i := 9) (N := none) (bS 11 1023) rfl rfl (one_of HT_.out (by kernel_rfl)) (by decide) (fun K hK => ?_)
     refine store_step (HQ.out) (by rfl) rfl 33 (.tmp 18) (.tmp 43) rfl rfl rfl (cs := #[.slice (some ⟨g1, 0, none⟩) C'.length k1, .slice (some ⟨g2, 0, none⟩) C'.length k2, .int .i64 z3, .bool z4]) size33 rfl rfl (by simp [Value.oneCell']) (fun wq hm1 => ?_)
     clear HQ
     have HQ := Aside0.mk hm1
     clear hm1
     refine hK.out _ _ ?_
     clear hK K
     refine norm_ (a' := ?_) ?_ ?_
     rotate_left
     ·show Act.put _ none _ = _
      simp only [Act.put, sT, sZ, sS, i64_w, i32_w]
      rfl
     refine pure_ (i := 10) (N := some 19) (v := ?_) (a' := ?_) (bS 11 2047) rfl rfl (any_of HT_.out (by kernel_rfl)) (fun _ _ _ h => h) (Or.inl ⟨by rfl, ?_⟩) ?_ ?_; rotate_left; (· intro w'; go_simp; with_reducible rfl); rotate_left; (· simp only [Act.put, sT, sZ, sS, i64_w, i32_w]; rfl)
     refine done_ (done_of HT_.out (by kernel_rfl)) ?_
     clear hHeld HT_ HW_
     go_wp2
     go_meet
     case rel => exact ⟨g18, g1, k1, g2, k2, cu1, cu2, rfl, rfl, HN1, HN2, HQ⟩
   ·refine new_step HQ.out (by rfl) rfl 33 rfl info33 (fun g18 wq hm1 => ?_)
    clear HQ
    have HQ := Aside0.mk hm1
    clear hm1
    refine hK.out _ _ (plan_cells (HQ.out.blk (g6, planV W' H' R' (some ⟨gC, 0, none⟩) C'.length cC, 24) (by simp))) (fun hHeld => ?_)
    clear hK K
    refine norm_ (a' := ?_) ?_ ?_
    rotate_left
    ·show Act.put _ (some 18) _ = _
     simp only [Act.put, sT, sZ, sS, i64_w, i32_w]
     rfl
    refine one_ (i := 3) (N := some 41) (bS 11 271) rfl rfl (one_of HT_.out (by kernel_rfl)) (by decide) (fun K hK => ?_)
    refine goes_ Try.func49 (by kernel_rfl) rfl #[.pointer (some ⟨g, 0, none⟩), .int .i64 9] (by rfl) rfl rfl (by (try simp only [List.map_toArray, List.map_cons, List.map_nil]); first | done | rfl) ?_
    with_reducible refine (thermionkit_Dice_Upto.calls g s2 9 (n : Int) s3 we _ (dice_is HQ.out.swap) HQ.out.below HUP.out).mono ?_
    rintro e1 wq ⟨rfl, hI_, hB_, hK_⟩
    have HQ2 := Aside0.mk ((HQ.out.swap.keepd hK_ hB_ hI_.1).swap)
    clear HQ HUP hI_ hB_ hK_
    have HQ := HQ2
    clear HQ2
    refine ⟨_, rfl, ?_⟩
    refine hK.out _ _ (plan_cells (HQ.out.blk (g6, planV W' H' R' (some ⟨gC, 0, none⟩) C'.length cC, 24) (by simp))) (fun hHeld => ?_)
    clear hK K
    refine norm_ (a' := ?_) ?_ ?_
    rotate_left
    ·show Act.put _ (some 41) _ = _
     simp only [Act.put, sT, sZ, sS, i64_w, i32_w]
     rfl
    refine one_ (i := 4) (N := some 42) (bS 11 287) rfl rfl (one_of HT_.out (by kernel_rfl)) (by decide) (fun K hK => ?_)
    refine goes_ Try.func26 (by kernel_rfl) rfl #[.agg (planV W' H' R' (some ⟨gC, 0, none⟩) C'.length cC), .slice (some ⟨gv, 0, none⟩) v'.length cv, .int .i64 (n : Int)] (by rfl) rfl rfl (by (try simp only [List.map_toArray, List.map_cons, List.map_nil]); first | done | rfl) ?_
    with_reducible refine (thermionref01_Solve.calls W' H' R' (some ⟨gC, 0, none⟩) cC C' (some ⟨gv, 0, none⟩) cv v' n lo hi z3 z4 0 _ (C_mem (HQ.out.blk (gC, cuC, 3) (by simp)) HNC.out.1) HNC.out.2 (C_mem (HQ.out.blk (gv, cuv, 3) (by simp)) HNV.out.1) HNV.out.2 HZ.out).mono ?_
    rintro e1 wq ⟨v0, v1, rfl, hR1, hR2, hb⟩
    obtain ⟨g1, k1, cu1, g2, k2, cu2, rfl, rfl, hc1, hc2, hn1, hn2, hm1⟩ := two_mem HQ.out hb hR1 hR2 (by rw [HSL.out]; exact HPOS.out) (by rw [HSH.out]; exact HPOS.out)
    have HQ2 := Aside0.mk hm1.third3
    rw [HSL.out] at hc1
    rw [HSH.out] at hc2
    rw [HSL.out, HSH.out]
    have HN1 := Aside0.mk (And.intro hn1 hc1)
    have HN2 := Aside0.mk (And.intro hn2 hc2)
    clear HQ HZ hR1 hR2 hb hc1 hc2 hn1 hn2 hm1
    have HQ := HQ2
    clear HQ2
    refine ⟨_, rfl, ?_⟩
    refine hK.out _ _ (plan_cells (HQ.out.blk (g6, planV W' H' R' (some ⟨gC, 0, none⟩) C'.length cC, 24) (by simp))) (fun hHeld => ?_)
    clear hK K
    refine norm_ (a' := ?_) ?_ ?_
    rotate_left
    ·show Act.put _ (some 42) _ = _
     simp only [Act.put, sT, sZ, sS, i64_w, i32_w]
     rfl
    refine pure_ (i := 5) (N := some 37) (v := ?_) (a' := ?_) (bS 11 319) rfl rfl (any_of HT_.out (by kernel_rfl)) (fun _ _ _ h => h) (Or.inl ⟨by rfl, ?_⟩) ?_ ?_; rotate_left; (· intro w'; go_simp; with_reducible rfl); rotate_left; (· simp only [Act.put, sT, sZ, sS, i64_w, i32_w]; rfl)
    refine pure_ (i := 6) (N := some 43) (v := ?_) (a' := ?_) (bS 11 383) rfl rfl (any_of HT_.out (by kernel_rfl)) (fun _ _ _ h => h) (Or.inl ⟨by rfl, ?_⟩) ?_ ?_; rotate_left; (· intro w'; go_simp; with_reducible rfl); rotate_left; (· simp only [Act.put, sT, sZ, sS, i64_w, i32_w]; rfl)
    refine pure_ (i := 7) (N := some 44) (v := ?_) (a' := ?_) (bS 11 511) rfl rfl (any_of HT_.out (by kernel_rfl)) (fun _ _ _ h => h) (Or.inl ⟨by rfl, ?_⟩) ?_ ?_; rotate_left; (· intro w'; go_simp; with_reducible rfl); rotate_left; (· simp only [Act.put, sT, sZ, sS, i64_w, i32_w]; rfl)
    refine last_ (i := 9) (N := none) (bS 11 1023) rfl rfl (one_of HT_.out (by kernel_rfl)) (by decide) (fun K hK => ?_)
    refine store_step (HQ.out) (by rfl) rfl 33 (.tmp 18) (.tmp 43) rfl rfl rfl (cs := #[.slice (some ⟨g1, 0, none⟩) C'.length k1, .slice (some ⟨g2, 0, none⟩) C'.length k2, .int .i64 z3, .bool z4]) size33 rfl rfl (by simp [Value.oneCell']) (fun wq hm1 => ?_)
    clear HQ
    have HQ := Aside0.mk hm1
    clear hm1
    refine hK.out _ _ ?_
    clear hK K
    refine norm_ (a' := ?_) ?_ ?_
    rotate_left
    ·show Act.put _ none _ = _
     simp only [Act.put, sT, sZ, sS, i64_w, i32_w]
     rfl
    refine pure_ (i := 10) (N := some 19) (v := ?_) (a' := ?_) (bS 11 2047) rfl rfl (any_of HT_.out (by kernel_rfl)) (fun _ _ _ h => h) (Or.inl ⟨by rfl, ?_⟩) ?_ ?_; rotate_left; (· intro w'; go_simp; with_reducible rfl); rotate_left; (· simp only [Act.put, sT, sZ, sS, i64_w, i32_w]; rfl)
    refine done_ (done_of HT_.out (by kernel_rfl)) ?_
    clear hHeld HT_ HW_
    go_wp2
    go_meet
    case rel => exact ⟨g18, g1, k1, g2, k2, cu1, cu2, rfl, rfl, HN1, HN2, HQ⟩
  case rest =>
  obtain ⟨g18, g1, k1, g2, k2, cu1, cu2, rfl, rfl, HN1, HN2, HQ⟩ := hcut
  obtain ⟨_, _, _, qd3⟩ := plan_cells (HQ.out.blk (g6, planV W' H' R' (some ⟨gC, 0, none⟩) C'.length cC, 24) (by simp))
  have HLW : Aside0 (low.length ≤ 1000000000 ∧ high.length ≤ 1000000000) := ⟨by
   have h := HBG.out
   simp only [List.any_cons, List.any_nil, Bool.or_false, Bool.or_eq_false_iff, decide_eq_false_iff_not] at h
   omega⟩
  clear HBG HD
  go_upto_region 9 with (first
   | (go_at_call 28; refine (thermionkit_Mod.calls a5 (C'.length : Int) k _ HMD.out).mono ?_; rintro e1 y1 ⟨rfl, hb⟩; have HQ2 := Aside0.mk (HQ.out.step hb.below); clear hb HQ HMD qd3; have HQ := HQ2; clear HQ2)
   | (go_at_call 28; refine (thermionkit_Mod.calls a6 4 m _ HM4.out).mono ?_; rintro e1 y2 ⟨rfl, hb⟩; have HQ2 := Aside0.mk (HQ.out.step hb.below); clear hb HQ HM4; have HQ := HQ2; clear HQ2))
  have hm4 : m = 0 ∨ m = 1 ∨ m = 2 ∨ m = 3 := by have := HMM.out; omega
  have HKN : Aside0 (k < C'.length) := ⟨by have := HKL.out; omega⟩
  have k1' : (0 : Int) ≤ (k : Int) := by omega
  have k2' : (k : Int) < (C'.length : Int) := HKL.out
  have k3' : (k : Int) ≤ 9223372036854775807 := by have := HKL.out; have := HSMA.out; omega
  clear HMM
  rcases hm4 with rfl | rfl | rfl | rfl
  case' inl =>
   go_upto_region 10 with fail
   obtain ⟨y, hy⟩ : ∃ y, fn lo k = y := ⟨_, rfl⟩
   have hyb := HBD.out k HKN.out
   rw [hy] at hyb
   have HE := Aside0.mk (HN1.out.1.2 k (by rw [HSL.out]; exact HKN.out))
   rw [hy] at HE
   have HY := Aside0.mk hy
   have hx6 := HX6.out
   have hx7 : IntKind.i64.wrap (Int.tdiv a6 4) = x6 := by rw [i64_w]; exact hx6
   have n1 : IntKind.i64.wrap (y + (q5 : Int)) = y + q5 := IntWalk.i64_in _ (by have := HQ5.out.2; omega)
   have n2 : IntKind.i64.wrap (y + (q5 : Int) - 1) = y + q5 - 1 := IntWalk.i64_in _ (by have := HQ5.out.2; omega)
   have n3 : wrap64 (y + (q5 : Int)) = y + q5 := IntWalk.wrap64_in _ (by have := HQ5.out.2; omega)
   have n4 : wrap64 (y + (q5 : Int) - 1) = y + q5 - 1 := IntWalk.wrap64_in _ (by have := HQ5.out.2; omega)
   clear hy hyb
   replace HQ := Aside0.mk HQ.out.drew
   refine start_ (n := 15) (S := fun w' => w'.cell? ⟨g18, 0, none⟩ = some (.slice (some ⟨g1, 0, none⟩) C'.length k1) ∧ w'.cell? ⟨g1, k, none⟩ = some (.int .i64 y)) (ds := [14]) #[false, false, false, false, false, false, false, false, false, false, false, false, false, false, false] (by kernel_rfl) rfl rfl (⟨(blk_cell HQ.out.head 0).trans rfl, (blk_cell HQ.out.third k).trans HE.out⟩) (fun hHeld => ?_); refine with_tabW goodsF.tab10 goodsF.bits10 (fun HT_ HW_ => ?_)
   refine pure_ (i := 0) (N := some 54) (v := ?_) (a' := ?_) (bS 15 1) rfl rfl (any_of HT_.out (by kernel_rfl)) (fun _ _ _ h => h) (Or.inl ⟨by rfl, ?_⟩) ?_ ?_; rotate_left; (· intro w'; go_simp; with_reducible rfl); rotate_left; (· simp only [Act.put, sT, sZ, sS, i64_w, i32_w]; rfl)
   refine pure_ (i := 2) (N := some 56) (v := ?_) (a' := ?_) (bS 15 5) rfl rfl (any_of HT_.out (by kernel_rfl)) (fun _ _ _ h => h) (Or.inl ⟨by rfl, ?_⟩) ?_ ?_; rotate_left; (· intro w'; go_simp; with_reducible rfl); rotate_left; (· simp only [Act.put, sT, sZ, sS, i64_w, i32_w]; rfl)
   refine pure_ (i := 3) (N := some 57) (v := ?_) (a' := ?_) (bS 15 13) rfl rfl (any_of HT_.out (by kernel_rfl)) (fun _ _ _ h => h) (Or.inl ⟨by rfl, ?_⟩) ?_ ?_; rotate_left; (· intro w'; go_simp; with_reducible rfl); rotate_left; (· simp only [Act.put, sT, sZ, sS, i64_w, i32_w]; rfl)
   refine pure_ (i := 5) (N := some 59) (v := ?_) (a' := ?_) (bS 15 45) rfl rfl (any_of HT_.out (by kernel_rfl)) (fun _ _ _ h => h) (Or.inl ⟨by rfl, ?_⟩) ?_ ?_; rotate_left; (· intro w'; go_simp; with_reducible rfl); rotate_left; (· simp only [Act.put, sT, sZ, sS, i64_w, i32_w]; rfl)
   refine pure_ (i := 8) (N := some 62) (v := ?_) (a' := ?_) (bS 15 301) rfl rfl (any_of HT_.out (by kernel_rfl)) (fun _ _ _ h => h) (Or.inl ⟨by rfl, ?_⟩) ?_ ?_; rotate_left; (· intro w'; go_simp; with_reducible rfl); rotate_left; (· simp only [Act.put, sT, sZ, sS, i64_w, i32_w]; rfl)
   refine pure_ (i := 9) (N := some 63) (v := ?_) (a' := ?_) (bS 15 813) rfl rfl (any_of HT_.out (by kernel_rfl)) (fun _ _ _ h => h) (Or.inl ⟨by rfl, ?_⟩) ?_ ?_; rotate_left; (· intro w'; go_simp; with_reducible rfl); rotate_left; (· simp only [Act.put, sT, sZ, sS, i64_w, i32_w]; rfl)
   refine take_ (i := 1) (N := some 55) (v := ?_) (a' := ?_) (bS 15 815) rfl rfl (take_ofW HT_.out HW_.out (by kernel_rfl)) (fun _ _ _ h => h) (Or.inl ⟨by rfl, ?_⟩) hHeld ?_ ?_; rotate_left; (· rintro w' ⟨s0, s1⟩; go_simp; with_reducible rfl); rotate_left; (· simp only [Act.put, sT, sZ, sS, i64_w, i32_w]; rfl)
   refine take_ (i := 4) (N := some 58) (v := ?_) (a' := ?_) (bS 15 831) rfl rfl (take_ofW HT_.out HW_.out (by kernel_rfl)) (fun _ _ _ h => h) (Or.inl ⟨by rfl, ?_⟩) hHeld ?_ ?_; rotate_left; (· rintro w' ⟨s0, s1⟩; go_simp; with_reducible rfl); rotate_left; (· simp only [Act.put, sT, sZ, sS, i64_w, i32_w]; rfl)
   refine pure_ (i := 6) (N := some 60) (v := ?_) (a' := ?_) (bS 15 895) rfl rfl (any_of HT_.out (by kernel_rfl)) (fun _ _ _ h => h) (Or.inl ⟨by rfl, ?_⟩) ?_ ?_; rotate_left; (· intro w'; go_simp; with_reducible rfl); rotate_left; (· simp only [Act.put, sT, sZ, sS, i64_w, i32_w]; rfl)
   refine take_ (i := 7) (N := some 61) (v := ?_) (a' := ?_) (bS 15 1023) rfl rfl (take_ofW HT_.out HW_.out (by kernel_rfl)) (fun _ _ _ h => h) (Or.inl ⟨by rfl, ?_⟩) hHeld ?_ ?_; rotate_left; (· rintro w' ⟨s0, s1⟩; go_simp; with_reducible rfl); rotate_left; (· simp only [Act.put, sT, sZ, sS, i64_w, i32_w]; rfl)
   refine one_ (i := 10) (N := some 64) (bS 15 2047) rfl rfl (one_of HT_.out (by kernel_rfl)) (by decide) (fun K hK => ?_)
   refine goes_ Try.func28 (by kernel_rfl) rfl #[.int .i64 x6, .int .i64 5] (by rfl) rfl rfl (by (try simp only [List.map_toArray, List.map_cons, List.map_nil]); first | done | rfl) ?_
   with_reducible refine (thermionkit_Mod.calls x6 5 q5 _ HQ5.out.1).mono ?_
   rintro e1 wq ⟨rfl, hb⟩
   have HQ2 := Aside0.mk (HQ.out.step hb.below)
   clear hb HQ
   have HQ := HQ2
   clear HQ2
   refine ⟨_, rfl, ?_⟩
   refine hK.out _ _ (⟨(blk_cell HQ.out.head 0).trans rfl, (blk_cell HQ.out.third k).trans HE.out⟩) (fun hHeld => ?_)
   clear hK K
   refine norm_ (a' := ?_) ?_ ?_
   rotate_left
   ·show Act.put _ (some 64) _ = _
    simp only [Act.put, sT, sZ, sS, i64_w, i32_w]
    rfl
   refine pure_ (i := 11) (N := some 65) (v := ?_) (a' := ?_) (bS 15 4095) rfl rfl (any_of HT_.out (by kernel_rfl)) (fun _ _ _ h => h) (Or.inl ⟨by rfl, ?_⟩) ?_ ?_; rotate_left; (· intro w'; go_simp; with_reducible rfl); rotate_left; (· simp only [Act.put, sT, sZ, sS, i64_w, i32_w]; rfl)
   refine pure_ (i := 12) (N := some 66) (v := ?_) (a' := ?_) (bS 15 8191) rfl rfl (any_of HT_.out (by kernel_rfl)) (fun _ _ _ h => h) (Or.inl ⟨by rfl, ?_⟩) ?_ ?_; rotate_left; (· intro w'; go_simp; with_reducible rfl); rotate_left; (· simp only [Act.put, sT, sZ, sS, i64_w, i32_w]; rfl)
   refine pure_ (i := 13) (N := some 67) (v := ?_) (a' := ?_) (bS 15 16383) rfl rfl (any_of HT_.out (by kernel_rfl)) (fun _ _ _ h => h) (Or.inl ⟨by rfl, ?_⟩) ?_ ?_; rotate_left; (· intro w'; go_simp; with_reducible rfl); rotate_left; (· simp only [Act.put, sT, sZ, sS, i64_w, i32_w]; rfl)
   refine last_ (i := 14) (N := none) (bS 15 32767) rfl rfl (one_of HT_.out (by kernel_rfl)) (by decide) (fun K hK => ?_)
   have cX := (blk_cell HQ.out.third k).trans HE.out
   have fX := blk_frozen HQ.out.third k
   go_simp
   refine hK.out _ _ ?_
   clear hK K
   refine done_ (done_of HT_.out (by kernel_rfl)) ?_
   clear hHeld HT_ HW_ cX fX n1 n2 n3 n4 hx6 hx7
   have HQ2 := Aside0.mk ((HQ.out.third3.put k (.int .i64 (y + (q5 : Int) - 1)) rfl).back3)
   generalize wq.setCell _ _ = wz at HQ2 ⊢
   have HNA : Aside0 (IsNums (cu1.setIfInBounds k (.int .i64 (y + (q5 : Int) - 1))) lo' ∧ C'.length ≤ k1) := ⟨by rw [← HLO.out]; unfold goodLo; rw [if_pos rfl, HY.out]; exact HN1.out.1.set k _, HN1.out.2⟩
   generalize cu1.setIfInBounds k _ = cuA at HQ2 HNA
   have HNB : Aside0 (IsNums cu2 hi' ∧ C'.length ≤ k2) := ⟨by rw [← HHI.out]; unfold goodHi; rw [if_neg (by omega), if_neg (by omega)]; exact HN2.out.1, HN2.out.2⟩
   generalize cu2 = cuB at HQ2 HNB
   clear HQ HN1 HN2 HE HY HKN HBD HQ5 HX6
   have HQ : Aside0 (Mem we wz [(g18, #[.slice (some ⟨g1, 0, none⟩) C'.length k1, .slice (some ⟨g2, 0, none⟩) C'.length k2, .int .i64 z3, .bool z4], 33), (g2, cuB, 3), (g1, cuA, 3), (g, #[.int .u64 s3], 79), (gv, cuv, 3), (g6, planV W' H' R' (some ⟨gC, 0, none⟩) C'.length cC, 24), (gC, cuC, 3)]) := HQ2
   clear HQ2
  case' inr.inl =>
   go_upto_region 12 with fail
   obtain ⟨y, hy⟩ : ∃ y, fn hi k = y := ⟨_, rfl⟩
   have hyb := HBD.out k HKN.out
   rw [hy] at hyb
   have HE := Aside0.mk (HN2.out.1.2 k (by rw [HSH.out]; exact HKN.out))
   rw [hy] at HE
   have HY := Aside0.mk hy
   have hx6 := HX6.out
   have hx7 : IntKind.i64.wrap (Int.tdiv a6 4) = x6 := by rw [i64_w]; exact hx6
   have n1 : IntKind.i64.wrap (y - (q5 : Int)) = y - q5 := IntWalk.i64_in _ (by have := HQ5.out.2; omega)
   have n2 : IntKind.i64.wrap (y - (q5 : Int) + 1) = y - q5 + 1 := IntWalk.i64_in _ (by have := HQ5.out.2; omega)
   have n3 : wrap64 (y - (q5 : Int)) = y - q5 := IntWalk.wrap64_in _ (by have := HQ5.out.2; omega)
   have n4 : wrap64 (y - (q5 : Int) + 1) = y - q5 + 1 := IntWalk.wrap64_in _ (by have := HQ5.out.2; omega)
   clear hy hyb
   replace HQ := Aside0.mk HQ.out.drew
   refine start_ (n := 15) (S := fun w' => w'.cell? ⟨g18, 1, none⟩ = some (.slice (some ⟨g2, 0, none⟩) C'.length k2) ∧ w'.cell? ⟨g2, k, none⟩ = some (.int .i64 y)) (ds := [14]) #[false, false, false, false, false, false, false, false, false, false, false, false, false, false, false] (by kernel_rfl) rfl rfl (⟨(blk_cell HQ.out.head 1).trans rfl, (blk_cell HQ.out.second k).trans HE.out⟩) (fun hHeld => ?_); refine with_tabW goodsF.tab12 goodsF.bits12 (fun HT_ HW_ => ?_)
   refine pure_ (i := 0) (N := some 70) (v := ?_) (a' := ?_) (bS 15 1) rfl rfl (any_of HT_.out (by kernel_rfl)) (fun _ _ _ h => h) (Or.inl ⟨by rfl, ?_⟩) ?_ ?_; rotate_left; (· intro w'; go_simp; with_reducible rfl); rotate_left; (· simp only [Act.put, sT, sZ, sS, i64_w, i32_w]; rfl)
   refine pure_ (i := 2) (N := some 72) (v := ?_) (a' := ?_) (bS 15 5) rfl rfl (any_of HT_.out (by kernel_rfl)) (fun _ _ _ h => h) (Or.inl ⟨by rfl, ?_⟩) ?_ ?_; rotate_left; (· intro w'; go_simp; with_reducible rfl); rotate_left; (· simp only [Act.put, sT, sZ, sS, i64_w, i32_w]; rfl)
   refine pure_ (i := 3) (N := some 73) (v := ?_) (a' := ?_) (bS 15 13) rfl rfl (any_of HT_.out (by kernel_rfl)) (fun _ _ _ h => h) (Or.inl ⟨by rfl, ?_⟩) ?_ ?_; rotate_left; (· intro w'; go_simp; with_reducible rfl); rotate_left; (· simp only [Act.put, sT, sZ, sS, i64_w, i32_w]; rfl)
   refine pure_ (i := 5) (N := some 75) (v := ?_) (a' := ?_) (bS 15 45) rfl rfl (any_of HT_.out (by kernel_rfl)) (fun _ _ _ h => h) (Or.inl ⟨by rfl, ?_⟩) ?_ ?_; rotate_left; (· intro w'; go_simp; with_reducible rfl); rotate_left; (· simp only [Act.put, sT, sZ, sS, i64_w, i32_w]; rfl)
   refine pure_ (i := 8) (N := some 78) (v := ?_) (a' := ?_) (bS 15 301) rfl rfl (any_of HT_.out (by kernel_rfl)) (fun _ _ _ h => h) (Or.inl ⟨by rfl, ?_⟩) ?_ ?_; rotate_left; (· intro w'; go_simp; with_reducible rfl); rotate_left; (· simp only [Act.put, sT, sZ, sS, i64_w, i32_w]; rfl)
   refine pure_ (i := 9) (N := some 79) (v := ?_) (a' := ?_) (bS 15 813) rfl rfl (any_of HT_.out (by kernel_rfl)) (fun _ _ _ h => h) (Or.inl ⟨by rfl, ?_⟩) ?_ ?_; rotate_left; (· intro w'; go_simp; with_reducible rfl); rotate_left; (· simp only [Act.put, sT, sZ, sS, i64_w, i32_w]; rfl)
   refine take_ (i := 1) (N := some 71) (v := ?_) (a' := ?_) (bS 15 815) rfl rfl (take_ofW HT_.out HW_.out (by kernel_rfl)) (fun _ _ _ h => h) (Or.inl ⟨by rfl, ?_⟩) hHeld ?_ ?_; rotate_left; (· rintro w' ⟨s0, s1⟩; go_simp; with_reducible rfl); rotate_left; (· simp only [Act.put, sT, sZ, sS, i64_w, i32_w]; rfl)
   refine take_ (i := 4) (N := some 74) (v := ?_) (a' := ?_) (bS 15 831) rfl rfl (take_ofW HT_.out HW_.out (by kernel_rfl)) (fun _ _ _ h => h) (Or.inl ⟨by rfl, ?_⟩) hHeld ?_ ?_; rotate_left; (· rintro w' ⟨s0, s1⟩; go_simp; with_reducible rfl); rotate_left; (· simp only [Act.put, sT, sZ, sS, i64_w, i32_w]; rfl)
   refine pure_ (i := 6) (N := some 76) (v := ?_) (a' := ?_) (bS 15 895) rfl rfl (any_of HT_.out (by kernel_rfl)) (fun _ _ _ h => h) (Or.inl ⟨by rfl, ?_⟩) ?_ ?_; rotate_left; (· intro w'; go_simp; with_reducible rfl); rotate_left; (· simp only [Act.put, sT, sZ, sS, i64_w, i32_w]; rfl)
   refine take_ (i := 7) (N := some 77) (v := ?_) (a' := ?_) (bS 15 1023) rfl rfl (take_ofW HT_.out HW_.out (by kernel_rfl)) (fun _ _ _ h => h) (Or.inl ⟨by rfl, ?_⟩) hHeld ?_ ?_; rotate_left; (· rintro w' ⟨s0, s1⟩; go_simp; with_reducible rfl); rotate_left; (· simp only [Act.put, sT, sZ, sS, i64_w, i32_w]; rfl)
   refine one_ (i := 10) (N := some 80) (bS 15 2047) rfl rfl (one_of HT_.out (by kernel_rfl)) (by decide) (fun K hK => ?_)
   refine goes_ Try.func28 (by kernel_rfl) rfl #[.int .i64 x6, .int .i64 5] (by rfl) rfl rfl (by (try simp only [List.map_toArray, List.map_cons, List.map_nil]); first | done | rfl) ?_
   with_reducible refine (thermionkit_Mod.calls x6 5 q5 _ HQ5.out.1).mono ?_
   rintro e1 wq ⟨rfl, hb⟩
   have HQ2 := Aside0.mk (HQ.out.step hb.below)
   clear hb HQ
   have HQ := HQ2
   clear HQ2
   refine ⟨_, rfl, ?_⟩
   refine hK.out _ _ (⟨(blk_cell HQ.out.head 1).trans rfl, (blk_cell HQ.out.second k).trans HE.out⟩) (fun hHeld => ?_)
   clear hK K
   refine norm_ (a' := ?_) ?_ ?_
   rotate_left
   ·show Act.put _ (some 80) _ = _
    simp only [Act.put, sT, sZ, sS, i64_w, i32_w]
    rfl
   refine pure_ (i := 11) (N := some 81) (v := ?_) (a' := ?_) (bS 15 4095) rfl rfl (any_of HT_.out (by kernel_rfl)) (fun _ _ _ h => h) (Or.inl ⟨by rfl, ?_⟩) ?_ ?_; rotate_left; (· intro w'; go_simp; with_reducible rfl); rotate_left; (· simp only [Act.put, sT, sZ, sS, i64_w, i32_w]; rfl)
   refine pure_ (i := 12) (N := some 82) (v := ?_) (a' := ?_) (bS 15 8191) rfl rfl (any_of HT_.out (by kernel_rfl)) (fun _ _ _ h => h) (Or.inl ⟨by rfl, ?_⟩) ?_ ?_; rotate_left; (· intro w'; go_simp; with_reducible rfl); rotate_left; (· simp only [Act.put, sT, sZ, sS, i64_w, i32_w]; rfl)
   refine pure_ (i := 13) (N := some 83) (v := ?_) (a' := ?_) (bS 15 16383) rfl rfl (any_of HT_.out (by kernel_rfl)) (fun _ _ _ h => h) (Or.inl ⟨by rfl, ?_⟩) ?_ ?_; rotate_left; (· intro w'; go_simp; with_reducible rfl); rotate_left; (· simp only [Act.put, sT, sZ, sS, i64_w, i32_w]; rfl)
   refine last_ (i := 14) (N := none) (bS 15 32767) rfl rfl (one_of HT_.out (by kernel_rfl)) (by decide) (fun K hK => ?_)
   have cX := (blk_cell HQ.out.second k).trans HE.out
   have fX := blk_frozen HQ.out.second k
   go_simp
   refine hK.out _ _ ?_
   clear hK K
   refine done_ (done_of HT_.out (by kernel_rfl)) ?_
   clear hHeld HT_ HW_ cX fX n1 n2 n3 n4 hx6 hx7
   have HQ2 := Aside0.mk ((HQ.out.swap.put k (.int .i64 (y - (q5 : Int) + 1)) rfl).swap)
   generalize wq.setCell _ _ = wz at HQ2 ⊢
   have HNA : Aside0 (IsNums cu1 lo' ∧ C'.length ≤ k1) := ⟨by rw [← HLO.out]; unfold goodLo; rw [if_neg (by omega), if_neg (by omega)]; exact HN1.out.1, HN1.out.2⟩
   generalize cu1 = cuA at HQ2 HNA
   have HNB : Aside0 (IsNums (cu2.setIfInBounds k (.int .i64 (y - (q5 : Int) + 1))) hi' ∧ C'.length ≤ k2) := ⟨by rw [← HHI.out]; unfold goodHi; rw [if_pos rfl, HY.out]; exact HN2.out.1.set k _, HN2.out.2⟩
   generalize cu2.setIfInBounds k _ = cuB at HQ2 HNB
   clear HQ HN1 HN2 HE HY HKN HBD HQ5 HX6
   have HQ : Aside0 (Mem we wz [(g18, #[.slice (some ⟨g1, 0, none⟩) C'.length k1, .slice (some ⟨g2, 0, none⟩) C'.length k2, .int .i64 z3, .bool z4], 33), (g2, cuB, 3), (g1, cuA, 3), (g, #[.int .u64 s3], 79), (gv, cuv, 3), (g6, planV W' H' R' (some ⟨gC, 0, none⟩) C'.length cC, 24), (gC, cuC, 3)]) := HQ2
   clear HQ2
  case' inr.inr.inl =>
   go_upto_region 14 with fail
   have HE1 := Aside0.mk (HN1.out.1.2 k (by rw [HSL.out]; exact HKN.out))
   have HE2 := Aside0.mk (HN2.out.1.2 k (by rw [HSH.out]; exact HKN.out))
   have hx6 := HX6.out
   have hx7 : IntKind.i64.wrap (Int.tdiv a6 4) = x6 := by rw [i64_w]; exact hx6
   have n1 : IntKind.i64.wrap (-1000000 - (q2 : Int)) = -1000000 - q2 := IntWalk.i64_in _ (by have := HQ2n.out.2; omega)
   have n3 : wrap64 (-1000000 - (q2 : Int)) = -1000000 - q2 := IntWalk.wrap64_in _ (by have := HQ2n.out.2; omega)
   replace HQ := Aside0.mk HQ.out.drew
   refine start_ (n := 14) (S := fun w' => w'.cell? ⟨g18, 0, none⟩ = some (.slice (some ⟨g1, 0, none⟩) C'.length k1) ∧ w'.cell? ⟨g18, 1, none⟩ = some (.slice (some ⟨g2, 0, none⟩) C'.length k2)) (ds := [13]) #[false, false, false, false, false, false, false, false, false, false, false, false, false, false] (by kernel_rfl) rfl rfl (⟨(blk_cell HQ.out.head 0).trans rfl, (blk_cell HQ.out.head 1).trans rfl⟩) (fun hHeld => ?_); refine with_tabW goodsF.tab14 goodsF.bits14 (fun HT_ HW_ => ?_)
   refine pure_ (i := 0) (N := some 86) (v := ?_) (a' := ?_) (bS 14 1) rfl rfl (any_of HT_.out (by kernel_rfl)) (fun _ _ _ h => h) (Or.inl ⟨by rfl, ?_⟩) ?_ ?_; rotate_left; (· intro w'; go_simp; with_reducible rfl); rotate_left; (· simp only [Act.put, sT, sZ, sS, i64_w, i32_w]; rfl)
   refine pure_ (i := 2) (N := some 88) (v := ?_) (a' := ?_) (bS 14 5) rfl rfl (any_of HT_.out (by kernel_rfl)) (fun _ _ _ h => h) (Or.inl ⟨by rfl, ?_⟩) ?_ ?_; rotate_left; (· intro w'; go_simp; with_reducible rfl); rotate_left; (· simp only [Act.put, sT, sZ, sS, i64_w, i32_w]; rfl)
   refine pure_ (i := 3) (N := some 89) (v := ?_) (a' := ?_) (bS 14 13) rfl rfl (any_of HT_.out (by kernel_rfl)) (fun _ _ _ h => h) (Or.inl ⟨by rfl, ?_⟩) ?_ ?_; rotate_left; (· intro w'; go_simp; with_reducible rfl); rotate_left; (· simp only [Act.put, sT, sZ, sS, i64_w, i32_w]; rfl)
   refine pure_ (i := 5) (N := some 91) (v := ?_) (a' := ?_) (bS 14 45) rfl rfl (any_of HT_.out (by kernel_rfl)) (fun _ _ _ h => h) (Or.inl ⟨by rfl, ?_⟩) ?_ ?_; rotate_left; (· intro w'; go_simp; with_reducible rfl); rotate_left; (· simp only [Act.put, sT, sZ, sS, i64_w, i32_w]; rfl)
   refine pure_ (i := 6) (N := some 92) (v := ?_) (a' := ?_) (bS 14 109) rfl rfl (any_of HT_.out (by kernel_rfl)) (fun _ _ _ h => h) (Or.inl ⟨by rfl, ?_⟩) ?_ ?_; rotate_left; (· intro w'; go_simp; with_reducible rfl); rotate_left; (· simp only [Act.put, sT, sZ, sS, i64_w, i32_w]; rfl)
   refine pure_ (i := 7) (N := some 93) (v := ?_) (a' := ?_) (bS 14 237) rfl rfl (any_of HT_.out (by kernel_rfl)) (fun _ _ _ h => h) (Or.inl ⟨by rfl, ?_⟩) ?_ ?_; rotate_left; (· intro w'; go_simp; with_reducible rfl); rotate_left; (· simp only [Act.put, sT, sZ, sS, i64_w, i32_w]; rfl)
   refine take_ (i := 1) (N := some 87) (v := ?_) (a' := ?_) (bS 14 239) rfl rfl (take_ofW HT_.out HW_.out (by kernel_rfl)) (fun _ _ _ h => h) (Or.inl ⟨by rfl, ?_⟩) hHeld ?_ ?_; rotate_left; (· rintro w' ⟨s0, s1⟩; go_simp; with_reducible rfl); rotate_left; (· simp only [Act.put, sT, sZ, sS, i64_w, i32_w]; rfl)
   refine take_ (i := 4) (N := some 90) (v := ?_) (a' := ?_) (bS 14 255) rfl rfl (take_ofW HT_.out HW_.out (by kernel_rfl)) (fun _ _ _ h => h) (Or.inl ⟨by rfl, ?_⟩) hHeld ?_ ?_; rotate_left; (· rintro w' ⟨s0, s1⟩; go_simp; with_reducible rfl); rotate_left; (· simp only [Act.put, sT, sZ, sS, i64_w, i32_w]; rfl)
   refine one_ (i := 8) (N := some 94) (bS 14 511) rfl rfl (one_of HT_.out (by kernel_rfl)) (by decide) (fun K hK => ?_)
   refine goes_ Try.func28 (by kernel_rfl) rfl #[.int .i64 x6, .int .i64 2] (by rfl) rfl rfl (by (try simp only [List.map_toArray, List.map_cons, List.map_nil]); first | done | rfl) ?_
   with_reducible refine (thermionkit_Mod.calls x6 2 q2 _ HQ2n.out.1).mono ?_
   rintro e1 wq ⟨rfl, hb⟩
   have HQ2 := Aside0.mk (HQ.out.step hb.below)
   clear hb HQ
   have HQ := HQ2
   clear HQ2
   refine ⟨_, rfl, ?_⟩
   refine hK.out _ _ (⟨(blk_cell HQ.out.head 0).trans rfl, (blk_cell HQ.out.head 1).trans rfl⟩) (fun hHeld => ?_)
   clear hK K
   refine norm_ (a' := ?_) ?_ ?_
   rotate_left
   ·show Act.put _ (some 94) _ = _
    simp only [Act.put, sT, sZ, sS, i64_w, i32_w]
    rfl
   refine pure_ (i := 9) (N := some 95) (v := ?_) (a' := ?_) (bS 14 1023) rfl rfl (any_of HT_.out (by kernel_rfl)) (fun _ _ _ h => h) (Or.inl ⟨by rfl, ?_⟩) ?_ ?_; rotate_left; (· intro w'; go_simp; with_reducible rfl); rotate_left; (· simp only [Act.put, sT, sZ, sS, i64_w, i32_w]; rfl)
   refine pure_ (i := 10) (N := some 96) (v := ?_) (a' := ?_) (bS 14 2047) rfl rfl (any_of HT_.out (by kernel_rfl)) (fun _ _ _ h => h) (Or.inl ⟨by rfl, ?_⟩) ?_ ?_; rotate_left; (· intro w'; go_simp; with_reducible rfl); rotate_left; (· simp only [Act.put, sT, sZ, sS, i64_w, i32_w]; rfl)
   refine one_ (i := 11) (N := none) (bS 14 4095) rfl rfl (one_of HT_.out (by kernel_rfl)) (by decide) (fun K hK => ?_)
   have cX := (blk_cell HQ.out.third k).trans HE1.out
   have fX := blk_frozen HQ.out.third k
   have HQ3 := Aside0.mk ((HQ.out.third3.put k (.int .i64 (-1000000 - (q2 : Int))) rfl).back3)
   go_simp
   clear cX fX HQ
   have HQ := HQ3
   clear HQ3
   refine hK.out _ _ (⟨(blk_cell HQ.out.head 0).trans rfl, (blk_cell HQ.out.head 1).trans rfl⟩) (fun hHeld => ?_)
   clear hK K
   generalize wq.setCell _ _ = wp at HQ hHeld ⊢
   refine pure_ (i := 12) (N := some 97) (v := ?_) (a' := ?_) (bS 14 8191) rfl rfl (any_of HT_.out (by kernel_rfl)) (fun _ _ _ h => h) (Or.inl ⟨by rfl, ?_⟩) ?_ ?_; rotate_left; (· intro w'; go_simp; with_reducible rfl); rotate_left; (· simp only [Act.put, sT, sZ, sS, i64_w, i32_w]; rfl)
   refine last_ (i := 13) (N := none) (bS 14 16383) rfl rfl (one_of HT_.out (by kernel_rfl)) (by decide) (fun K hK => ?_)
   have cX := (blk_cell HQ.out.second k).trans HE2.out
   have fX := blk_frozen HQ.out.second k
   go_simp
   refine hK.out _ _ ?_
   clear hK K
   refine done_ (done_of HT_.out (by kernel_rfl)) ?_
   clear hHeld HT_ HW_ cX fX n1 n3 hx6 hx7
   have HQ2 := Aside0.mk ((HQ.out.swap.put k (.int .i64 1000000) rfl).swap)
   generalize wp.setCell _ _ = wz at HQ2 ⊢
   have HNA : Aside0 (IsNums (cu1.setIfInBounds k (.int .i64 (-1000000 - (q2 : Int)))) lo' ∧ C'.length ≤ k1) := ⟨by rw [← HLO.out]; unfold goodLo; rw [if_neg (by omega), if_pos rfl]; exact HN1.out.1.set k _, HN1.out.2⟩
   generalize cu1.setIfInBounds k _ = cuA at HQ2 HNA
   have HNB : Aside0 (IsNums (cu2.setIfInBounds k (.int .i64 (1000000))) hi' ∧ C'.length ≤ k2) := ⟨by rw [← HHI.out]; unfold goodHi; rw [if_neg (by omega), if_pos rfl]; exact HN2.out.1.set k _, HN2.out.2⟩
   generalize cu2.setIfInBounds k _ = cuB at HQ2 HNB
   clear HQ HN1 HN2 HE1 HE2 HKN HBD HQ5 HX6
   have HQ : Aside0 (Mem we wz [(g18, #[.slice (some ⟨g1, 0, none⟩) C'.length k1, .slice (some ⟨g2, 0, none⟩) C'.length k2, .int .i64 z3, .bool z4], 33), (g2, cuB, 3), (g1, cuA, 3), (g, #[.int .u64 s3], 79), (gv, cuv, 3), (g6, planV W' H' R' (some ⟨gC, 0, none⟩) C'.length cC, 24), (gC, cuC, 3)]) := HQ2
   clear HQ2
  case' inr.inr.inr =>
   have HQ2 := HQ
   generalize y2 = wz at HQ2 ⊢
   have HNA : Aside0 (IsNums cu1 lo' ∧ C'.length ≤ k1) := ⟨by rw [← HLO.out]; unfold goodLo; rw [if_neg (by omega), if_neg (by omega)]; exact HN1.out.1, HN1.out.2⟩
   generalize cu1 = cuA at HQ2 HNA
   have HNB : Aside0 (IsNums cu2 hi' ∧ C'.length ≤ k2) := ⟨by rw [← HHI.out]; unfold goodHi; rw [if_neg (by omega), if_neg (by omega)]; exact HN2.out.1, HN2.out.2⟩
   generalize cu2 = cuB at HQ2 HNB
   clear HQ HN1 HN2 HKN HBD HQ5 HX6
   have HQ : Aside0 (Mem we wz [(g18, #[.slice (some ⟨g1, 0, none⟩) C'.length k1, .slice (some ⟨g2, 0, none⟩) C'.length k2, .int .i64 z3, .bool z4], 33), (g2, cuB, 3), (g1, cuA, 3), (g, #[.int .u64 s3], 79), (gv, cuv, 3), (g6, planV W' H' R' (some ⟨gC, 0, none⟩) C'.length cC, 24), (gC, cuC, 3)]) := HQ2
   clear HQ2
  all_goals
   go_upto_region 15 with fail
   go_cut [21, 22] (fun v21 v22 wc => ∃ (ga ca : Nat) (cua : Array Value) (gb cb : Nat) (cub : Array Value), v21 = .slice (some ⟨ga, 0, none⟩) C'.length ca ∧ v22 = .slice (some ⟨gb, 0, none⟩) C'.length cb ∧ Aside0 (IsNums cua lo' ∧ C'.length ≤ ca) ∧ Aside0 (IsNums cub hi' ∧ C'.length ≤ cb) ∧ Aside0 (Mem we wc ((gb, cub, 3) :: (ga, cua, 3) :: [(g18, #[.slice (some ⟨g1, 0, none⟩) C'.length k1, .slice (some ⟨g2, 0, none⟩) C'.length k2, .int .i64 z3, .bool z4], 33), (g2, cuB, 3), (g1, cuA, 3), (g, #[.int .u64 s3], 79), (gv, cuv, 3), (g6, planV W' H' R' (some ⟨gC, 0, none⟩) C'.length cC, 24), (gC, cuC, 3)])))
   case first =>
    replace HQ := Aside0.mk HQ.out.drew
    go_region_held3 (fun w' => w'.cell? ⟨g18, 0, none⟩ = some (.slice (some ⟨g1, 0, none⟩) C'.length k1) ∧ w'.cell? ⟨g18, 1, none⟩ = some (.slice (some ⟨g2, 0, none⟩) C'.length k2)) (exact pair_cells (HQ.out.blk (g18, #[.slice (some ⟨g1, 0, none⟩) C'.length k1, .slice (some ⟨g2, 0, none⟩) C'.length k2, .int .i64 z3, .bool z4], 33) (by simp)) rfl rfl) (first
     | (go_at_call 38; (with_reducible refine (own_at (some ⟨g1, 0, none⟩) k1 C'.length lo' _ HL1.out (C_mem (HQ.out.blk (g1, cuA, 3) (by simp)) HNA.out.1) HNA.out.2 HO1.out).mono ?_); rintro e1 wq ⟨vo, rfl, hR, hb⟩; obtain ⟨ga, ca, cua, rfl, hc1, hn1, hm1⟩ := one_mem HQ.out hb hR (by rw [HL1.out]; exact HPOS.out); rw [HL1.out] at hc1; rw [HL1.out]; have HNa := Aside0.mk (And.intro hn1 hc1); clear HQ hR hb hc1 hn1 HO1; have HQ := Aside0.mk hm1; clear hm1)
     | (go_at_call 38; (with_reducible refine (own_at (some ⟨g2, 0, none⟩) k2 C'.length hi' _ HL2.out (C_mem (HQ.out.blk (g2, cuB, 3) (by simp)) HNB.out.1) HNB.out.2 HO2.out).mono ?_); rintro e1 wq ⟨vo, rfl, hR, hb⟩; obtain ⟨gb, cb, cub, rfl, hc1, hn1, hm1⟩ := one_mem HQ.out hb hR (by rw [HL2.out]; exact HPOS.out); rw [HL2.out] at hc1; rw [HL2.out]; have HNb := Aside0.mk (And.intro hn1 hc1); clear HQ hR hb hc1 hn1 HO2; have HQ := Aside0.mk hm1; clear hm1))
    go_wp2
    go_meet
    case rel => exact ⟨ga, ca, cua, gb, cb, cub, rfl, rfl, HNa, HNb, HQ⟩
   case rest =>
   obtain ⟨ga, ca, cua, gb, cb, cub, rfl, rfl, HNa, HNb, HQ2⟩ := hcut
   clear HQ
   have HQ := HQ2
   clear HQ2
   go_upto_region 16 with fail
   replace HQ := Aside0.mk HQ.out.drew
   go_region_held3 (fun w' => w'.cell? ⟨gp, 0, none⟩ = some (.int .i64 W) ∧ w'.cell? ⟨gp, 1, none⟩ = some (.int .i64 H) ∧ w'.cell? ⟨gp, 2, none⟩ = some (.bool R) ∧ w'.cell? ⟨gp, 3, none⟩ = some (.slice A C.length c) ∧ w'.cell? ⟨g6, 0, none⟩ = some (.int .i64 (W' : Int)) ∧ w'.cell? ⟨g6, 1, none⟩ = some (.int .i64 (H' : Int)) ∧ w'.cell? ⟨g6, 2, none⟩ = some (.bool R') ∧ w'.cell? ⟨g6, 3, none⟩ = some (.slice (some ⟨gC, 0, none⟩) C'.length cC) ∧ w'.cell? ⟨g18, 0, none⟩ = some (.slice (some ⟨g1, 0, none⟩) C'.length k1) ∧ w'.cell? ⟨g18, 1, none⟩ = some (.slice (some ⟨g2, 0, none⟩) C'.length k2)) (exact cells16 (plan_cells (blk_below HP.out HQ.out.below)) (plan_cells (HQ.out.blk (g6, planV W' H' R' (some ⟨gC, 0, none⟩) C'.length cC, 24) (by simp))) (pair_cells (HQ.out.blk (g18, #[.slice (some ⟨g1, 0, none⟩) C'.length k1, .slice (some ⟨g2, 0, none⟩) C'.length k2, .int .i64 z3, .bool z4], 33) (by simp)) rfl rfl)) (first
    | (go_at_call 50; (with_reducible refine (ourgood_at W H R A c C A1 c1 v A2 c2 low.length low A3 c3 high.length high rb1 _ (Kd.C_below HR.out HQ.out.below) HC.out (Kd.C_below HR1.out HQ.out.below) HC1.out rfl rfl (Kd.C_below HR2.out HQ.out.below) HC2.out (Kd.C_below HR3.out HQ.out.below) HC3.out HLW.out HG1.out).mono ?_); rintro e1 wq ⟨rfl, hb⟩; have HQ2 := Aside0.mk (HQ.out.step hb); clear hb HQ HG1; have HQ := HQ2; clear HQ2)
    | (go_at_call 51; (with_reducible refine (refgood_at K1 W H R A c C A1 c1 v A2 c2 low.length low A3 c3 high.length high rb1 _ (Kd.C_below HR.out HQ.out.below) HC.out (Kd.C_below HR1.out HQ.out.below) HC1.out rfl rfl (Kd.C_below HR2.out HQ.out.below) HC2.out (Kd.C_below HR3.out HQ.out.below) HC3.out HG2.out).mono ?_); rintro e1 wq ⟨rfl, hb⟩; have HQ2 := Aside0.mk (HQ.out.step hb); clear hb HQ HG2; have HQ := HQ2; clear HQ2)
    | (go_at_call 50; (with_reducible refine (ourgood_at W' H' R' (some ⟨gC, 0, none⟩) cC C' (some ⟨gv, 0, none⟩) cv v' (some ⟨ga, 0, none⟩) ca C'.length lo' (some ⟨gb, 0, none⟩) cb C'.length hi' rb2 _ (C_mem (HQ.out.blk (gC, cuC, 3) (by simp)) HNC.out.1) HNC.out.2 (C_mem (HQ.out.blk (gv, cuv, 3) (by simp)) HNV.out.1) HNV.out.2 HL1.out HL2.out (C_mem (HQ.out.blk (ga, cua, 3) (by simp)) HNa.out.1) HNa.out.2 (C_mem (HQ.out.blk (gb, cub, 3) (by simp)) HNb.out.1) HNb.out.2 (by have := HSMA.out; omega) HG3.out).mono ?_); rintro e1 wq ⟨rfl, hb⟩; have HQ2 := Aside0.mk (HQ.out.step hb); clear hb HQ HG3; have HQ := HQ2; clear HQ2)
    | (go_at_call 51; (with_reducible refine (refgood_at K2 W' H' R' (some ⟨gC, 0, none⟩) cC C' (some ⟨gv, 0, none⟩) cv v' (some ⟨g1, 0, none⟩) k1 C'.length lo' (some ⟨g2, 0, none⟩) k2 C'.length hi' rb2 _ (C_mem (HQ.out.blk (gC, cuC, 3) (by simp)) HNC.out.1) HNC.out.2 (C_mem (HQ.out.blk (gv, cuv, 3) (by simp)) HNV.out.1) HNV.out.2 HL1.out HL2.out (C_mem (HQ.out.blk (g1, cuA, 3) (by simp)) HNA.out.1) HNA.out.2 (C_mem (HQ.out.blk (g2, cuB, 3) (by simp)) HNB.out.1) HNB.out.2 HG4.out).mono ?_); rintro e1 wq ⟨rfl, hb⟩; have HQ2 := Aside0.mk (HQ.out.step hb); clear hb HQ HG4; have HQ := HQ2; clear HQ2)
    | (go_at_call 43; (with_reducible refine (same_at K3 (some ⟨ga, 0, none⟩) ca C'.length (some ⟨g1, 0, none⟩) k1 lo' _ HL1.out (C_mem (HQ.out.blk (ga, cua, 3) (by simp)) HNa.out.1) HNa.out.2 (C_mem (HQ.out.blk (g1, cuA, 3) (by simp)) HNA.out.1) HNA.out.2 HS3.out).mono ?_); rintro e1 wq ⟨rfl, hb⟩; have HQ2 := Aside0.mk (HQ.out.step hb.below); clear hb HQ HS3; have HQ := HQ2; clear HQ2)
    | (go_at_call 43; (with_reducible refine (same_at K4 (some ⟨gb, 0, none⟩) cb C'.length (some ⟨g2, 0, none⟩) k2 hi' _ HL2.out (C_mem (HQ.out.blk (gb, cub, 3) (by simp)) HNb.out.1) HNb.out.2 (C_mem (HQ.out.blk (g2, cuB, 3) (by simp)) HNB.out.1) HNB.out.2 HS4.out).mono ?_); rintro e1 wq ⟨rfl, hb⟩; have HQ2 := Aside0.mk (HQ.out.step hb.below); clear hb HQ HS4; have HQ := HQ2; clear HQ2)
    | (go_at_call 20; (with_reducible refine (thermionlaw01_awake.calls 10 true _ HAW.out).mono ?_); rintro e1 wq ⟨rfl, hb⟩; have HQ2 := Aside0.mk (HQ.out.step hb); clear hb HQ ; have HQ := HQ2; clear HQ2))
   go_wp2
   go_ret
   exact ⟨rfl, below_step HEB.out HQ.out.below⟩
end Go.Proofs.Ytndkkjpgnmahbaa.Print
end

section
namespace Go.Proofs.YtndkkjpgnmahbaaW.PrintWords
open Go.ChangeShapes Go.WideShapes
end Go.Proofs.YtndkkjpgnmahbaaW.PrintWords
end

section
namespace Go.Proofs.Ytndkkjpgnmahbaa.Print
open Go.RowKit Go.Proofs.YtndkkjpgnmahbaaW.PrintWords Go.Proofs.YtndkkjpgnmahbaaW.PrintLast Go.Proofs.YtndkkjpgnmahbaaW.PrintMore
set_option linter.unusedVariables false
set_option linter.unusedSimpArgs false
def Word64 (x : Int) : Prop := (Lit.int .i64 x).wf = true
theorem Word64.range {x : Int} (h : Word64 x) : -9223372036854775808 ≤ x ∧ x ≤ 9223372036854775807 := by
 unfold Word64 at h
 simp only [Lit.wf, Bool.and_eq_true, decide_eq_true_eq] at h
 have e1 : IntKind.min .i64 = -9223372036854775808 := by decide
 have e2 : IntKind.max .i64 = 9223372036854775807 := by decide
 omega
section
variable {H : Type} {enc : TypeId × Value → H} {W : World} {base : Nat} {sp : Nat → Bool} {held : Bool} {n : Nat} {cs : List Value} {x : DataW H × List MemPlace}
theorem trod_int3 (h : DataW.trod enc Try.prog W base sp held n 3 cs = some x) : ∃ y, cs = [.int .i64 y] ∧ Word64 y := by
 obtain ⟨y, rfl, _, hw⟩ := DataW.trod_int Try.underlying3 h
 exact ⟨y, rfl, hw⟩
theorem trod_bool4 (h : DataW.trod enc Try.prog W base sp held n 4 cs = some x) : ∃ y, cs = [.bool y] := by
 obtain ⟨y, rfl, _⟩ := DataW.trod_bool Try.underlying4 h
 exact ⟨y, rfl⟩
theorem pick_list {α : Type} (m : Nat) (P : Nat → α → Prop) (h : ∀ i, i < m → ∃ y, P i y) : ∃ xs : List α, xs.length = m ∧ ∀ i (hi : i < xs.length), P i xs[i] := by
 induction m with
 | zero => exact ⟨[], rfl, fun i hi => absurd hi (by simp)⟩
 | succ m ih =>
  obtain ⟨xs, hl, hx⟩ := ih (fun i hi => h i (by omega))
  obtain ⟨y, hy⟩ := h m (by omega)
  refine ⟨xs ++ [y], by simp [hl], fun i hi => ?_⟩
  by_cases q : i < xs.length
  ·rw [List.getElem_append_left q]
   exact hx i q
  ·have : i = m := by rw [List.length_append, List.length_singleton] at hi; omega
   subst this
   rw [List.getElem_append_right (by omega)]
   simpa [hl] using hy
theorem trod_list {α : Type} {d : Kd α} {t e : TypeId} {Wf : α → Prop} (ht : Try.prog.underlying t = some (.slice e)) (hsz : Try.prog.cellsOf e = d.sz) (hopen : ∀ n cs x, DataW.trod enc Try.prog W base sp held n e cs = some x → ∃ y, d.K W y cs ∧ Wf y)
  (h : DataW.trod enc Try.prog W base sp held n t cs = some x) : ∃ (A : Option Addr) (xs : List α) (c : Nat), cs = [.slice A xs.length c] ∧ xs.length ≤ c ∧ c ≤ maxLen ∧ d.C W A xs.length xs ∧ ∀ y, y ∈ xs → Wf y := by
 rcases DataW.trod_slice ht h with ⟨rfl, _⟩ | ⟨a, len, cap, elems, rest, m, _, rfl, _, hb, hl, hm, hlen, hel, _, _⟩
 ·exact ⟨none, [], 0, rfl, by simp, by simp, ⟨rfl, by simp, fun h => absurd h (by simp)⟩, fun y hy => by cases hy⟩
 ·have each : ∀ i, i < len → ∃ y, (∃ ci, ci.length = d.sz ∧ d.K W y ci ∧ ∀ j u, ci[j]? = some u → W.cell? (a.add (i * d.sz + j)) = some u) ∧ Wf y := by
   intro i hi
   have h1 := hel i hi
   rw [List.getElem?_eq_getElem (by omega), Option.bind_eq_some_iff] at h1
   obtain ⟨ci, hci, htr⟩ := h1
   obtain ⟨y, hK, hW⟩ := hopen _ _ _ htr
   obtain ⟨_, hcl, hcc⟩ := World.cells?_some hci
   rw [hsz] at hcl hcc
   refine ⟨y, ⟨ci, hcl, hK, fun j u hu => ?_⟩, hW⟩
   have hj : j < d.sz := by
    have := (List.getElem?_eq_some_iff.1 hu).1
    omega
   have := hcc j hj
   rw [hu] at this
   rw [← this, add_add]
  obtain ⟨xs, hxl, hxs⟩ := pick_list len _ each
  refine ⟨some a, xs, cap, by rw [hxl], by omega, hm, ⟨rfl, ?_, fun _ => ⟨a, rfl, fun j p hj => ?_⟩⟩, fun y hy => ?_⟩
  ·have : maxLen ≤ 9223372036854775807 := by unfold maxLen; omega
   omega
  ·obtain ⟨hj1, hj2⟩ := List.getElem?_eq_some_iff.1 hj
   have := (hxs j hj1).1
   rw [hj2] at this
   exact this
  ·obtain ⟨i, hi, rfl⟩ := List.mem_iff_getElem.1 hy
   exact (hxs i hi).2
theorem cells3 : Try.prog.cellsOf 3 = 1 := by kernel_rfl
theorem cells4 : Try.prog.cellsOf 4 = 1 := by kernel_rfl
theorem cells22 : Try.prog.cellsOf 22 = 1 := by kernel_rfl
theorem cells24 : Try.prog.cellsOf 24 = 4 := by kernel_rfl
theorem trod_field {t : TypeId} {fs : Array Field} (ht : Try.prog.underlying t = some (.struct fs)) (h : DataW.trod enc Try.prog W base sp held n t cs = some x) :
  cs.length = Try.prog.cellsOf t ∧ ∀ (i : Nat) (f : Field), fs[i]? = some f → ∃ m y, DataW.trod enc Try.prog W base sp held m f.type ((cs.drop f.offset).take (Try.prog.cellsOf f.type)) = some y := by
 obtain ⟨xs, m, _, _, hl, hlen, hf⟩ := DataW.trod_struct ht h
 refine ⟨hl, fun i f hi => ?_⟩
 have h1 := hf i f hi
 have hix : i < xs.length := by
  have := (Array.getElem?_eq_some_iff.1 hi).1
  omega
 rw [List.getElem?_eq_getElem hix] at h1
 exact ⟨m, _, h1⟩
theorem trod_at {t : TypeId} {fs : Array Field} (ht : Try.prog.underlying t = some (.struct fs)) (h : DataW.trod enc Try.prog W base sp held n t cs = some x) (i : Nat) (ty off k : Nat) {f : Field} (hi : fs[i]? = some f) (h1 : f.type = ty) (h2 : f.offset = off) (h3 : Try.prog.cellsOf ty = k) :
  ∃ m y, DataW.trod enc Try.prog W base sp held m ty ((cs.drop off).take k) = some y := by
 obtain ⟨m, y, e⟩ := (trod_field ht h).2 i f hi
 rw [h1, h2, h3] at e
 exact ⟨m, y, e⟩
theorem trod_ints (h : DataW.trod enc Try.prog W base sp held n 22 cs = some x) : ∃ (A : Option Addr) (xs : List Int) (c : Nat), cs = [.slice A xs.length c] ∧ xs.length ≤ c ∧ c ≤ maxLen ∧ (Kd.int .i64).C W A xs.length xs ∧ ∀ y, y ∈ xs → Word64 y :=
 trod_list (d := Kd.int .i64) Try.underlying22 cells3 (fun _ _ _ h => by
  obtain ⟨y, rfl, hw⟩ := trod_int3 h
  exact ⟨y, rfl, hw⟩) h
theorem trod_plan (h : DataW.trod enc Try.prog W base sp held n 24 cs = some x) : ∃ (Wd Hd : Int) (R : Bool) (A : Option Addr) (L : List Int) (c : Nat), cs = [.int .i64 Wd, .int .i64 Hd, .bool R, .slice A L.length c] ∧ Word64 Wd ∧ Word64 Hd ∧ L.length ≤ c ∧ c ≤ maxLen ∧ (Kd.int .i64).C W A L.length L ∧ ∀ y, y ∈ L → Word64 y := by
 have hl := (trod_field Try.underlying24 h).1
 rw [cells24] at hl
 obtain ⟨m0, y0, h0⟩ := trod_at Try.underlying24 h 0 3 0 _ rfl rfl rfl cells3
 obtain ⟨m1, y1, h1⟩ := trod_at Try.underlying24 h 1 3 1 _ rfl rfl rfl cells3
 obtain ⟨m2, y2, h2⟩ := trod_at Try.underlying24 h 2 4 2 _ rfl rfl rfl cells4
 obtain ⟨m3, y3, h3⟩ := trod_at Try.underlying24 h 3 22 3 _ rfl rfl rfl cells22
 obtain ⟨a, e0, w0⟩ := trod_int3 h0
 obtain ⟨b, e1, w1⟩ := trod_int3 h1
 obtain ⟨r, e2⟩ := trod_bool4 h2
 obtain ⟨A, L, c, e3, hc, hm, hC, hw⟩ := trod_ints h3
 match cs, hl with
 | [c0, c1, c2, c3], _ =>
  simp at e0 e1 e2 e3
  subst e0
  subst e1
  subst e2
  subst e3
  exact ⟨a, b, r, A, L, c, rfl, w0, w1, hc, hm, hC, hw⟩
end
end Go.Proofs.Ytndkkjpgnmahbaa.Print
end
