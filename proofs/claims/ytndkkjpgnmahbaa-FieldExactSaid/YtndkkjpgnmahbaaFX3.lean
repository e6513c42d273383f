/- Part 3 of the texts of a claim about Ytndkkjpgnmahbaa, put together by a program of this work: what the Go functions do, and that their calls do so. -/
import Derived.Test.YtndkkjpgnmahbaaFX2
import Derived.WalkSpells
set_option linter.unusedVariables false
set_option linter.unusedSimpArgs false
set_option maxRecDepth 100000
set_option maxHeartbeats 64000000
attribute [local go_sem] Go.Proofs.YtndkkjpgnmahbaaW.PrintMore.max2_int Go.Proofs.YtndkkjpgnmahbaaW.PrintMore.min2_int Go.Proofs.YtndkkjpgnmahbaaW.PrintMore.max_two Go.Proofs.YtndkkjpgnmahbaaW.PrintMore.min_two Go.Proofs.YtndkkjpgnmahbaaW.PrintMore.max_three Go.Proofs.YtndkkjpgnmahbaaW.PrintMore.min_three Go.Proofs.YtndkkjpgnmahbaaW.PrintMore.max_four Go.Proofs.YtndkkjpgnmahbaaW.PrintMore.min_four
section
namespace Go.Proofs.Ytndkkjpgnmahbaa.Print
open Go.RowKit YtndkkjpgnmahbaaW.PrintWords YtndkkjpgnmahbaaW.PrintLast YtndkkjpgnmahbaaW.PrintMore Ytndkkjpgnmahbaa.H Proofs.Field
attribute [local go_sem] Oper.semAt_some
abbrev sweeperV (W H : Int) (R : Bool) (A : Option Addr) (n c fu : Nat) : Array Value := #[.int .i64 W, .int .i64 H, .bool R, .slice A n c, .func (.func fu) #[] #[]]
def numsA (b : List Int) : Array Value := (nums .i64 b).toArray
def sweepF.T10 : Bool × List (List Nat × List Nat) := (true, [([], []), ([], []), ([], []), ([], []), ([2], [2]), ([4, 3], [3, 4]), ([5], [5]), ([1, 6], [1, 6]), ([0, 7], [0, 7]), ([], []), ([], []), ([9, 10], [9, 10]), ([8, 0, 1, 2, 3, 4, 5, 6, 7, 8], [8]), ([11, 12, 0, 1, 2, 3, 4, 5, 6, 7, 8, 9, 10, 11, 12], [11])])
def sweepF.B10 : List Nat := [0, 0, 0, 0, 4, 28, 60, 126, 255, 0, 0, 1536, 511, 8191]
theorem sweepF.tab10 : rtab .any (opsOf Try.f70 10) = sweepF.T10 := by kernel_rfl
theorem sweepF.bits10 : waitsOk sweepF.T10.2 sweepF.B10 = true := by kernel_rfl
structure SW (w W : World) (gb g2 g3 : Nat) (pv : Array Value) (b : List Int) : Prop where
 g : w.grownBy W (some gb)
 hb : W.heap[gb]? = some (.cells (numsA b) 83 (0, 0))
 hs : W.heap[g2]? = some (.cells pv 87 (0, 0))
 hp : W.heap[g3]? = some (.cells #[.pointer (some ⟨gb, 0, none⟩)] 89 (0, 0))
 gb0 : gb < w.heap.size
 len : b.length = 256
theorem numsA_get {b : List Int} {i : Nat} (h : i < b.length) : (numsA b)[i]? = some (.int .i64 (fn b i)) := get_nums b i h
namespace SW
variable {w W W1 : World} {gb g2 g3 : Nat} {pv : Array Value} {b : List Int}
theorem step (h : SW w W gb g2 g3 pv b) (hbl : Below W.heap.size W W1) : SW w W1 gb g2 g3 pv b :=
 ⟨h.g.andThen (grown_below hbl) (fun j hj => by cases hj), blk_below h.hb hbl, blk_below h.hs hbl, blk_below h.hp hbl, h.gb0, h.len⟩
theorem turn {B : Nat} {row : Option Nat} (h : SW w W gb g2 g3 pv b) (ht : Turn B W W1 row) (hB : w.heap.size ≤ B) : SW w W1 gb g2 g3 pv b :=
 ⟨h.g.andThen ht.1 (fun j hj => .inl (by have := (ht.2 j hj).1; omega)), ht.heap h.hb, ht.heap h.hs, ht.heap h.hp, h.gb0, h.len⟩
theorem cell (h : SW w W gb g2 g3 pv b) {i : Nat} (hi : i < 256) : W.cell? ⟨gb, i, none⟩ = some (.int .i64 (fn b i)) := (blk_cell h.hb i).trans (numsA_get (by rw [h.len]; exact hi))
theorem frozen (h : SW w W gb g2 g3 pv b) (i : Nat) : W.frozen? ⟨gb, i, none⟩ = false := blk_frozen h.hb i
theorem pcell (h : SW w W gb g2 g3 pv b) : W.cell? ⟨g3, 0, none⟩ = some (.pointer (some ⟨gb, 0, none⟩)) := (blk_cell h.hp 0).trans rfl
theorem scell (h : SW w W gb g2 g3 pv b) (i : Nat) : W.cell? ⟨g2, i, none⟩ = pv[i]? := blk_cell h.hs i
theorem put (h : SW w W gb g2 g3 pv b) (i : Nat) (v : Int) : SW w (W.setCell ⟨gb, i, none⟩ (.int .i64 v)) gb g2 g3 pv (b.set i v) := by
 have n1 : g2 ≠ gb := fun e => by have := h.hs; rw [e, h.hb] at this; injection this with q; injection q with _ q; cases q
 have n2 : g3 ≠ gb := fun e => by have := h.hp; rw [e, h.hb] at this; injection this with q; injection q with _ q; cases q
 refine ⟨⟨h.g.os, h.g.tape, h.g.output, ?_, fun k hk hne => ?_⟩, ?_, blk_far h.hs n1 _, blk_far h.hp n2 _, h.gb0, by rw [List.length_set]; exact h.len⟩
 ·exact Nat.le_trans h.g.size (KeepsOthers.setCell W _ _).size
 ·rw [Below.heap_setCell W _ _ k (fun e => hne (by rw [e]))]
  exact h.g.block k hk hne
 ·rw [blk_set h.hb i, numsA, set_nums]; rfl
theorem far (h : SW w W gb g2 g3 pv b) {k : Nat} {cs : Array Value} (hk : W.heap[k]? = some (.cells cs 3 (0, 0))) (hw : w.heap.size ≤ k) (i : Nat) (v : Value) : SW w (W.setCell ⟨k, i, none⟩ v) gb g2 g3 pv b := by
 have n1 : g2 ≠ k := fun e => by have := h.hs; rw [e, hk] at this; injection this with q; injection q with _ q; cases q
 have n2 : g3 ≠ k := fun e => by have := h.hp; rw [e, hk] at this; injection this with q; injection q with _ q; cases q
 have n3 : gb ≠ k := by have := h.gb0; omega
 refine ⟨⟨h.g.os, h.g.tape, h.g.output, ?_, fun j hj hne => ?_⟩, blk_far h.hb n3 _, blk_far h.hs n1 _, blk_far h.hp n2 _, h.gb0, h.len⟩
 ·exact Nat.le_trans h.g.size (KeepsOthers.setCell W _ _).size
 ·rw [Below.heap_setCell W _ _ j (show j ≠ k by omega)]
  exact h.g.block j hj hne
end SW
def SI (w : World) (gb g2 g3 : Nat) (pv : Array Value) (b : List Int) (gs ga : Nat) (S T : Int) (B : Nat) (ds : List Deferred) (gi gq : Nat) (ci cq : Array Value) (V : World) : Prop :=
 SW w V gb g2 g3 pv b ∧ V.heap[gs]? = some (.cells #[.int .i64 S] 3 (0, 0)) ∧ V.heap[ga]? = some (.cells #[.int .i64 T] 3 (0, 0)) ∧ MarksTo w.heap.size B V ds ∧ B ≤ V.heap.size ∧ V.heap[gi]? = some (.cells ci 3 (0, 0)) ∧ V.heap[gq]? = some (.cells cq 24 (0, 0))
section
variable {P : Program} {ops : Array Oper} {rest : List Oper} {o : Oper} {a : Act} {Q : Exit → Act → World → Prop} {w W : World} {l : List (Nat × Array Value × TypeId)}
theorem ev_box1 (hm : Mem w W l) (hgd : o.guard = none) (t : TypeId) (x : Operand) (ho : o.op = .box t x) {v : Value} (hx : a.eval x = v) (hv : v.cells = #[v])
  (h : ∀ g W1, Mem w W1 ((g, #[v], t) :: l) → Below W.heap.size W W1 → wpList P ops Q rest (a.put o.dst (.pointer (some ⟨g, 0, none⟩))) W1) : wpList P ops Q (o :: rest) a W := by
 refine Kd.event_run (w1 := W.alloc (.cells #[v] t (0, 0))) hgd ?_ (h _ _ (hm.new rfl (blk_new W _) (below_alloc (Below.refl _ _) _)) (below_alloc (Below.refl _ _) _))
 unfold execOp
 simp [ho, Instr.box, hx, newVar, newRow, newObj, hv, Sem.run_bind, Result.andThen]
 rfl
end
structure Sweepable (up : Bool) (W H : Nat) (R : Bool) (C : List Int) (b : List Int) : Prop where
 cells : C.length = W * H
 wide : W ≤ 16
 high : H ≤ 16
 len : b.length = 256
 all : ∀ i, i < C.length → ¬ 0 < fn C i → 0 < allOf (nbs W H R i)
 range : ∀ i, i ≤ C.length → ∀ j, j < C.length → -1000000 ≤ fn (sweepTo up W H R C b i).1 j ∧ fn (sweepTo up W H R C b i).1 j ≤ 1000000
theorem mul_bound {x y : Int} (h1 : 1 ≤ x) (h2 : x ≤ 32) (h3 : -1000000 ≤ y) (h4 : y ≤ 1000000) : -32000000 ≤ x * y ∧ x * y ≤ 32000000 := by
 have a1 := Int.mul_le_mul_of_nonneg_left h4 (show 0 ≤ x by omega)
 have a2 := Int.mul_le_mul_of_nonneg_left h3 (show 0 ≤ x by omega)
 omega
theorem under_bound {f : Nat → Int} {l : List (Nat × Int)} (h : ∀ p, p ∈ l → 1 ≤ p.2 ∧ p.2 ≤ 32 ∧ -1000000 ≤ f p.1 ∧ f p.1 ≤ 1000000) : -32000000 * (l.length : Int) ≤ under f l ∧ under f l ≤ 32000000 * (l.length : Int) ∧ (l.length : Int) ≤ allOf l ∧ allOf l ≤ 32 * (l.length : Int) := by
 induction l with
 | nil => exact ⟨by simp [under], by simp [under], by simp [allOf], by simp [allOf]⟩
 | cons p l ih =>
  obtain ⟨h1, h2, h3, h4⟩ := ih (fun q hq => h q (List.mem_cons_of_mem _ hq))
  obtain ⟨p1, p2, p3, p4⟩ := h p List.mem_cons_self
  have e1 : under f (p :: l) = p.2 * f p.1 + under f l := by simp [under]
  have e2 : allOf (p :: l) = p.2 + allOf l := by simp [allOf]
  have e3 : ((p :: l).length : Int) = (l.length : Int) + 1 := by simp
  have m := mul_bound p1 p2 p3 p4
  rw [e1, e2, e3]
  omega
theorem sweep_calls (up : Bool) (fu : Nat) (hfu : fu = if up = true then 71 else 69) (W H : Nat) (R : Bool) (A : Option Addr) (c : Nat) (C : List Int) (gb : Nat) (b0 : List Int) (w : World) (hr : Kd.C (Kd.int .i64) w A C.length C) (hAb : ∀ ad, A = some ad → ad.block ≠ gb) (hS : Sweepable up W H R C b0) (hb : w.heap[gb]? = some (.cells (numsA b0) 83 (0, 0))) :
  Calls Try.prog 70 #[.agg (sweeperV W H R A C.length c fu), .pointer (some ⟨gb, 0, none⟩)] w fun e w' => e = .returned (.bool (sweep up W H R C b0).2) ∧ w'.heap[gb]? = some (.cells (numsA (sweep up W H R C b0).1) 83 (0, 0)) ∧ w.grownBy w' (some gb) := by
 have HR : Aside0 (∀ V, w.grownBy V (some gb) → Kd.C (Kd.int .i64) V A C.length C) := ⟨fun V hg => by
  refine Kd.C_of_reads (d := (0 : Int)) (h1 := fun _ => rfl) ?_
  have h1 := Kd.reads_of_C (enc := Value.int .i64) (d := (0 : Int)) (h1 := fun _ => rfl) hr
  refine ⟨h1.1, h1.2.1, fun hn => ?_⟩
  obtain ⟨ad, e, hc⟩ := h1.2.2 hn
  refine ⟨ad, e, fun j hj => ?_⟩
  have h2 := hc j hj
  have h3 : (ad.add j).block ≠ gb := by rw [show (ad.add j).block = ad.block by unfold Addr.add; split <;> rfl]; exact hAb ad e
  exact hg.cell h2 (fun q => h3 (Option.some.inj q))⟩
 have HM := Aside0.mk (Mem.start w)
 have HX := Aside0.mk hS
 have HB := Aside0.mk hb
 have HFU := Aside0.mk hfu
 have HLN : Aside0 (C.length ≤ 256) := ⟨by have := Nat.mul_le_mul hS.wide hS.high; have := hS.cells; omega⟩
 have b1 : (C.length : Int) ≤ 256 := by have := HLN.out; omega
 have hu24 := Try.underlying24
 have hu87 := Try.underlying87
 have hu83 := Try.underlying83
 clear hr hS hb hAb hfu
 refine (callsIn_wide (n := 5)).1 (callsIn_of_wp_marks Try.func70 rfl trivial ?_)
 simp only [Try.ntmps70, List.size_toArray, List.length_cons, List.length_nil, Nat.reduceAdd, Nat.reduceSub, Array.replicate_succ, Array.replicate_zero, List.push_toArray, List.append_toArray, List.nil_append, List.cons_append]
 refine wpIn_wide.2 ?_
 go_wp2_with (first
  | ((with_reducible refine gate_dst (N := 2) rfl ?_); refine ev_box HM.out rfl 87 (.tmp 0) rfl (cs := sweeperV W H R A C.length c fu) rfl ?_; intro g2 w1 hm1 hq1; clear hq1; have HM1 := Aside0.mk hm1; clear hm1 HM)
  | ((with_reducible refine gate_dst (N := 3) rfl ?_); refine ev_box1 HM1.out rfl 89 (.tmp 1) rfl rfl rfl ?_; intro g3 w2 hm2 hq2; clear hq2; have HM2 := Aside0.mk hm2; clear hm2 HM1; have q3 : w2.cell? ⟨g2, 3, none⟩ = some (.slice A C.length c) := (blk_cell HM2.out.second 3).trans rfl))
 rename_i Q0 K0 hK0
 have HK0 := Aside0.mk hK0
 clear hK0
 have HSW : Aside0 (SW w w2 gb g2 g3 (sweeperV W H R A C.length c fu) (sweepTo up W H R C b0 0).1) := ⟨⟨(grown_below HM2.out.below).but _, blk_below HB.out HM2.out.below, HM2.out.second, HM2.out.head, blk_lt HB.out, HX.out.len⟩⟩
 clear HM2 q3
 refine (wpIn_wide (n := 5)).1 ?_
 refine loop_ghost (fun k a' W' => ∃ (z6 z7 z8 z9 z10 z11 z12 z18 z19 z20 z21 z22 z23 z24 z25 z26 z27 z28 z29 z30 z31 z32 z33 z34 z35 z36 z37 z38 z39 z40 z41 z42 z43 z44 z45 z46 z47 z48 z49 z50 z51 z52 z53 z54 z55 z56 z57 z58 z59 z60 : Value) (i : Nat) (ds : List Deferred), a' = { tmps := List.toArray (.agg #[.int .i64 W, .int .i64 H, .bool R, .slice A C.length c, .func (.func fu) #[] #[]] :: .pointer (some ⟨gb, 0, none⟩) :: .pointer (some ⟨g2, 0, none⟩) :: .pointer (some ⟨g3, 0, none⟩) :: .bool false :: .bool (sweepTo up W H R C b0 i).2 :: z6 :: z7 :: z8 :: z9 :: z10 :: z11 :: z12 :: .pointer (some ⟨g2, 0, none⟩) :: .pointer (some ⟨g2, 3, none⟩) :: .slice A C.length c :: .int .i64 (C.length : Int) :: .int .i64 (i : Int) :: z18 :: z19 :: z20 :: z21 :: z22 :: z23 :: z24 :: z25 :: z26 :: z27 :: z28 :: z29 :: z30 :: z31 :: z32 :: z33 :: z34 :: z35 :: z36 :: z37 :: z38 :: z39 :: z40 :: z41 :: z42 :: z43 :: z44 :: z45 :: z46 :: z47 :: z48 :: z49 :: z50 :: z51 :: z52 :: z53 :: z54 :: z55 :: z56 :: z57 :: z58 :: z59 :: z60 :: []), defers := ds } ∧ Aside0 (i + k = C.length) ∧ Aside0 (Marks w.heap.size W' ds) ∧ Aside0 (SW w W' gb g2 g3 (sweeperV W H R A C.length c fu) (sweepTo up W H R C b0 i).1)) C.length ?_ ?_
 ·exact ⟨_, _, _, _, _, _, _, _, _, _, _, _, _, _, _, _, _, _, _, _, _, _, _, _, _, _, _, _, _, _, _, _, _, _, _, _, _, _, _, _, _, _, _, _, _, _, _, _, _, _, 0, [], rfl, ⟨by omega⟩, ⟨Marks.nil _ _⟩, HSW⟩
 clear HSW
 rintro k a1 W1 ⟨z6, z7, z8, z9, z10, z11, z12, z18, z19, z20, z21, z22, z23, z24, z25, z26, z27, z28, z29, z30, z31, z32, z33, z34, z35, z36, z37, z38, z39, z40, z41, z42, z43, z44, z45, z46, z47, z48, z49, z50, z51, z52, z53, z54, z55, z56, z57, z58, z59, z60, i, ds, rfl, HK, HMK, HSW⟩
 by_cases hi : i < C.length
 rotate_left
 ·obtain rfl : i = C.length := by have := HK.out; omega
  clear hi
  refine wpIn_wide.2 ?_
  have hlt : decide ((C.length : Int) < (C.length : Int)) = false := decide_eq_false (by omega)
  have HRES : Aside0 ((sweepTo up W H R C b0 C.length).2 = (sweep up W H R C b0).2 ∧ (sweepTo up W H R C b0 C.length).1 = (sweep up W H R C b0).1) := ⟨⟨rfl, rfl⟩⟩
  generalize (sweepTo up W H R C b0 C.length).2 = ch at HRES ⊢
  go_wp2_with fail
  refine HK0.out _ _ ?_
  go_wp2_with fail
  refine ret_marks (Nat.le_trans HSW.out.g.size (Nat.le_refl _)) HMK.out (fun W' hs => ⟨_, results_tmp rfl _ _ _, ?_, ?_, ?_⟩)
  ·rw [← HRES.out.1]; rfl
  ·rw [← HRES.out.2]
   exact hs.cells _ _ HSW.out.hb rfl
  ·exact ⟨hs.below.os.trans HSW.out.g.os, hs.below.tape.trans HSW.out.g.tape, hs.below.output.trans HSW.out.g.output, by rw [hs.size]; exact HSW.out.g.size, fun k hk hne => (hs.below.block k hk).trans (HSW.out.g.block k hk hne)⟩
 have HI := Aside0.mk hi
 obtain ⟨ad, e0, hx⟩ := at_natM (HR.out W1 HSW.out.g) i hi
 cases e0
 have i1 : (0 : Int) ≤ (i : Int) := by omega
 have i2 : (i : Int) < (C.length : Int) := by omega
 have i3 : (i : Int) < 256 := by omega
 obtain ⟨X, hX⟩ : ∃ X, C.getD i 0 = X := ⟨_, rfl⟩
 rw [hX] at hx
 have HX2 : Aside0 (fn C i = X) := ⟨hX⟩
 clear hX hi
 by_cases q : 0 < X
 ·have hg : decide (X > 0) = true := decide_eq_true q
  have HN : Aside0 (sweepTo up W H R C b0 (i + 1) = sweepTo up W H R C b0 i) := ⟨by rw [sweepTo, swStep, HX2.out, if_pos q]⟩
  clear q
  obtain ⟨ch, hch⟩ : ∃ ch, (sweepTo up W H R C b0 i).2 = ch := ⟨_, rfl⟩
  rw [hch]
  have HCH := Aside0.mk hch
  clear hch
  refine wpIn_wide.2 ?_
  go_wp2_with fail
  have HSW2 : Aside0 (SW w W1 gb g2 g3 (sweeperV W H R (some ad) C.length c fu) (sweepTo up W H R C b0 (i + 1)).1) := ⟨by rw [HN.out]; exact HSW.out⟩
  rw [← HCH.out, ← HN.out]
  exact ⟨k - 1, by have := HK.out; have := HI.out; omega, _, _, _, _, _, _, _, _, _, _, _, _, _, _, _, _, _, _, _, _, _, _, _, _, _, _, _, _, _, _, _, _, _, _, _, _, _, _, _, _, _, _, _, _, _, _, _, _, _, _, i + 1, ds, rfl, ⟨by have := HK.out; have := HI.out; omega⟩, HMK, HSW2⟩
 obtain ⟨b, hbb⟩ : ∃ b, (sweepTo up W H R C b0 i).1 = b := ⟨_, rfl⟩
 obtain ⟨ch, hch⟩ : ∃ ch, (sweepTo up W H R C b0 i).2 = ch := ⟨_, rfl⟩
 have HBC : Aside0 ((sweepTo up W H R C b0 i).1 = b ∧ (sweepTo up W H R C b0 i).2 = ch) := ⟨⟨hbb, hch⟩⟩
 have HBR : Aside0 (∀ j, j < C.length → -1000000 ≤ fn b j ∧ fn b j ≤ 1000000) := ⟨by have h1 := HX.out.range i (by have := HI.out; omega); rw [hbb] at h1; exact h1⟩
 have HNX : Aside0 (sweepTo up W H R C b0 (i + 1) = if relax up W H R b i ≠ fn b i then (b.set i (relax up W H R b i), true) else (b, ch)) := ⟨by
  rw [sweepTo, swStep, HX2.out, if_neg q, hbb]
  split
  ·rfl
  ·rw [← hbb, ← hch]⟩
 have HALL : Aside0 (0 < allOf (nbs W H R i)) := ⟨HX.out.all i HI.out (by rw [HX2.out]; exact q)⟩
 rw [hbb] at HSW
 rw [hch]
 have hg := decide_eq_false q
 clear q hbb hch HX2
 have s0 : W1.cell? ⟨g2, 0, none⟩ = some (.int .i64 W) := (HSW.out.scell 0).trans rfl
 have HMM := Aside0.mk (Mem.start W1)
 refine wpIn_wide.2 ?_
 go_upto_region 7 with (first
  | ((with_reducible refine gate_dst (N := 8) rfl ?_); refine ev_var HMM.out rfl 3 rfl info3 rfl ?_; intro gs w3 hm3 hq3; clear hq3; have HM3 := Aside0.mk hm3; clear hm3 HMM)
  | ((with_reducible refine gate_dst (N := 9) rfl ?_); refine ev_var HM3.out rfl 3 rfl info3 rfl ?_; intro ga w4 hm4 hq4; clear hq4; have HM4 := Aside0.mk hm4; clear hm4 HM3; have e1 : w4.cell? ⟨gs, 0, none⟩ = some (.int .i64 0) := (blk_cell HM4.out.second 0).trans rfl; have e2 : w4.frozen? ⟨gs, 0, none⟩ = false := blk_frozen HM4.out.second 0; have e3 : w4.cell? ⟨ga, 0, none⟩ = some (.int .i64 0) := (HM4.out.cell 0).trans rfl; have e4 : w4.frozen? ⟨ga, 0, none⟩ = false := HM4.out.frozen 0; have e5 : gs ≠ ga := (HM4.out.ne _ (List.mem_singleton.2 rfl)).symm; have e6 : ga ≠ gs := HM4.out.ne _ (List.mem_singleton.2 rfl)))
 have HM5 := Aside0.mk ((HM4.out.swap.put 0 (.int .i64 0) rfl).swap.put 0 (.int .i64 0) rfl)
 have HNE : Aside0 (gs ≠ ga) := ⟨e5⟩
 generalize (w4.setCell ⟨gs, 0, none⟩ (.int .i64 0)).setCell ⟨ga, 0, none⟩ (.int .i64 0) = w5 at HM5 ⊢
 clear e1 e2 e3 e4 e5 e6 HM4 s0 hx
 have HS5 := Aside0.mk (HSW.out.step HM5.out.below)
 have HMK5 := Aside0.mk (HMK.out.others (below_others HM5.out.below))
 have HGE : Aside0 (w.heap.size ≤ gs ∧ w.heap.size ≤ ga) := ⟨⟨Nat.le_trans HSW.out.g.size HM5.out.drop.geh, Nat.le_trans HSW.out.g.size HM5.out.geh⟩⟩
 have t0 : w5.cell? ⟨g2, 0, none⟩ = some (.int .i64 W) := (HS5.out.scell 0).trans rfl
 have t1 : w5.cell? ⟨g2, 1, none⟩ = some (.int .i64 H) := (HS5.out.scell 1).trans rfl
 have t2 : w5.cell? ⟨g2, 2, none⟩ = some (.bool R) := (HS5.out.scell 2).trans rfl
 have t3 : w5.cell? ⟨g2, 3, none⟩ = some (.slice (some ad) C.length c) := (HS5.out.scell 3).trans rfl
 clear HSW HMK
 go_wp2_with (go_at_call 78; refine (near_calls _ _ _ _ _ _ _ _).mono ?_; rintro e w6 ⟨gp2, gi2, rfl, hM6, hz6, hgp2, hgi2⟩; have HS6 := Aside0.mk (HS5.out.step hM6.below); have HMK6 := Aside0.mk ((HMK5.out.others (below_others hM6.below)).to); have HBX := Aside0.mk (And.intro hM6.head hM6.second); have HGG : Aside0 (w6.heap[gs]? = some (.cells #[.int .i64 0] 3 (0, 0)) ∧ w6.heap[ga]? = some (.cells #[.int .i64 0] 3 (0, 0)) ∧ gi2 ≠ gs ∧ gi2 ≠ ga) := ⟨⟨blk_below HM5.out.second hM6.below, blk_below HM5.out.head hM6.below, by have := blk_lt HM5.out.second; omega, by have := blk_lt HM5.out.head; omega⟩⟩; clear hM6 hz6 hgp2 hgi2 HS5 HMK5 HM5 t0 t1 t2 t3)
 rename_i Ka hKa
 have HKa := Aside0.mk hKa
 clear hKa
 refine (wpIn_wide (n := 5)).1 ?_
 have HBase : Aside0 (w.heap.size ≤ w6.heap.size) := ⟨HS6.out.g.size⟩
 have HGB : Aside0 (gi2 < w6.heap.size ∧ gp2 < w6.heap.size) := ⟨⟨blk_lt HBX.out.1, blk_lt HBX.out.2⟩⟩
 refine wpIn_rangeFunc_ownG rfl (by decide) (gf := 98) (lb := #[.pointer (some ⟨gi2, 0, none⟩), .pointer (some ⟨gp2, 0, none⟩)]) rfl trivial (enters_of Try.func98 (by kernel_rfl) rfl)
  (near1_stops 4 W H R (some ad) C.length c i gi2 gp2 (by rw [← HX.out.cells]; exact HI.out) HX.out.wide HX.out.high w6 HBX.out) (fun h k => ⟨k.1.trans h.1, k.2.trans h.2⟩) (fun V l o o' hl ho _ _ => ⟨World.putObj_heap_other (by have := HGB.out.1; omega), World.putObj_heap_other (by have := HGB.out.2; omega)⟩) (Below.refl _ _) (fun _ => rfl)
  (fun pre V => SI w gb g2 g3 (sweeperV W H R (some ad) C.length c fu) b gs ga (under (fn b) (pre.map (·.1))) (allOf (pre.map (·.1))) w6.heap.size ds gi2 gp2 #[.int .i64 i] (planV W H R (some ad) C.length c) V)
  (fun _ _ _ => False) ?hI ?hIx ?h0 (fun x => { tmps := List.toArray (.agg #[.int .i64 W, .int .i64 H, .bool R, .slice (some ad) C.length c, .func (.func fu) #[] #[]] :: .pointer (some ⟨gb, 0, none⟩) :: .pointer (some ⟨g2, 0, none⟩) :: .pointer (some ⟨g3, 0, none⟩) :: .bool false :: .bool ch :: .int .i64 (i : Int) :: .int .i64 X :: .pointer (some ⟨gs, 0, none⟩) :: .pointer (some ⟨ga, 0, none⟩) :: .int .i64 x.1.1 :: .int .i64 x.1.2 :: z12 :: .pointer (some ⟨g2, 0, none⟩) :: .pointer (some ⟨g2, 3, none⟩) :: .slice (some ad) C.length c :: .int .i64 (C.length : Int) :: .int .i64 (i : Int) :: .bool true :: .int .i64 (i : Int) :: .pointer (some (ad.add i)) :: .int .i64 X :: .int .i64 X :: .bool false :: .pointer (some ⟨g2, 0, none⟩) :: .agg (planV W H R (some ad) C.length c) :: .int .i64 (i : Int) :: .func (.func 98) #[] #[.pointer (some ⟨gi2, 0, none⟩), .pointer (some ⟨gp2, 0, none⟩)] :: .int .i64 x.1.1 :: .int .i64 x.1.2 :: z30 :: z31 :: z32 :: z33 :: z34 :: z35 :: z36 :: z37 :: z38 :: z39 :: z40 :: z41 :: z42 :: z43 :: z44 :: z45 :: z46 :: z47 :: z48 :: z49 :: z50 :: z51 :: z52 :: z53 :: z54 :: z55 :: z56 :: z57 :: z58 :: z59 :: z60 :: []), defers := [] }) ?assign ?body ?done ?stop
 case hI =>
  rintro pre V V' row ⟨h1, h2, h3, h4, h5, h6, h7⟩ hg hr
  have ht : Turn w6.heap.size V V' row := ⟨hg, hr⟩
  exact ⟨h1.turn ht HBase.out, ht.heap h2, ht.heap h3, h4.turn ht h5, Nat.le_trans h5 hg.size, ht.heap h6, ht.heap h7⟩
 case hIx =>
  intro _ _ _ _ _ h
  exact h.elim
 case h0 => exact ⟨HS6.out, HGG.out.1, HGG.out.2.1, HMK6.out, Nat.le_refl _, HBX.out.1, HBX.out.2⟩
 case assign =>
  intro l x V K hK
  gi_wp2
  exact hK
 case body =>
  rintro l pre x V ⟨h1, h2, h3, h4, h5, h6, h7⟩ hlt
  obtain ⟨kx, hkx⟩ : ∃ kx, x.1.1 = kx := ⟨_, rfl⟩
  obtain ⟨wx, hwx⟩ : ∃ wx, x.1.2 = wx := ⟨_, rfl⟩
  have hnb := nbs_lt (by rw [← HX.out.cells]; exact HI.out) x.2
  have hbr := HBR.out x.1.1 (by rw [HX.out.cells]; exact hnb.1)
  have hw1 := hnb.2.2.1
  have hw2 := hnb.2.2.2 HX.out.wide
  have hk0 : x.1.1 < C.length := by rw [HX.out.cells]; exact hnb.1
  have hub := under_bound (f := fn b) (l := pre.map (·.1)) (fun p hp => by
   obtain ⟨y, _, rfl⟩ := List.mem_map.1 hp
   have h8 := nbs_lt (by rw [← HX.out.cells]; exact HI.out) y.2
   have h9 := HBR.out y.1.1 (by rw [HX.out.cells]; exact h8.1)
   exact ⟨h8.2.2.1, h8.2.2.2 HX.out.wide, h9.1, h9.2⟩)
  rw [List.length_map] at hub
  have HUN : Aside0 (under (fn b) ((pre ++ [x]).map (·.1)) = under (fn b) (pre.map (·.1)) + wx * fn b kx ∧ allOf ((pre ++ [x]).map (·.1)) = allOf (pre.map (·.1)) + wx) := ⟨by
   rw [List.map_append, under_append, List.map_singleton, under_one, hkx, hwx, allOf_append]
   exact ⟨rfl, by rw [← hwx]; simp [allOf]⟩⟩
  rw [hkx] at hbr hk0
  rw [hwx] at hw1 hw2
  have hmb := mul_bound hw1 hw2 hbr.1 hbr.2
  obtain ⟨M, hM⟩ : ∃ M, wx * fn b kx = M := ⟨_, rfl⟩
  rw [hM] at hmb HUN
  have hk256 : kx < 256 := by have := HLN.out; omega
  have s4 := h1.cell hk256
  have s3 := h1.pcell
  generalize under (fn b) (pre.map (·.1)) = Sx at h2 hub HUN
  generalize allOf (pre.map (·.1)) = Tx at h3 hub HUN
  obtain ⟨bk, hbk⟩ : ∃ bk, fn b kx = bk := ⟨_, rfl⟩
  rw [hbk] at hM s4
  have s1 : V.cell? ⟨gs, 0, none⟩ = some (.int .i64 Sx) := (blk_cell h2 0).trans rfl
  have s2 : V.cell? ⟨ga, 0, none⟩ = some (.int .i64 Tx) := (blk_cell h3 0).trans rfl
  have n1 : IntKind.i64.wrap (wx * bk) = M := by rw [hM]; exact IntWalk.i64_in _ (by omega)
  have n2 : IntKind.i64.wrap (Sx + M) = Sx + M := IntWalk.i64_in _ (by omega)
  have n3 : IntKind.i64.wrap (Tx + wx) = Tx + wx := IntWalk.i64_in _ (by omega)
  have i4 : (0 : Int) ≤ (kx : Int) := by omega
  have i5 : (kx : Int) < 256 := by omega
  have HVV := Aside0.mk (And.intro h1 (And.intro h2 (And.intro h3 (And.intro h4 (And.intro h5 (And.intro h6 h7))))))
  show Code.wpIn (Fence.wide.inRound l) (5 - 1 - 1) Try.prog _ (ownPostG w6.heap.size (Boxes gi2 gp2) _ _ (pre ++ [x]) V) _ _
  rw [hkx, hwx]
  clear hub hmb hM hbk hbr hw1 hw2 hk0 hk256 hnb hkx hwx h1 h2 h3 h4 h5 h6 h7 hlt
  refine wpIn_block ?_
  have HBd := Aside0.mk (below_drew1 (Below.refl V.heap.size V))
  refine startIn_ (r := some l) (n := 5 - 1 - 1) (m := 14) (S := fun w' => w'.cell? ⟨gs, 0, none⟩ = some (.int .i64 Sx) ∧ w'.cell? ⟨ga, 0, none⟩ = some (.int .i64 Tx) ∧ w'.cell? ⟨g3, 0, none⟩ = some (.pointer (some ⟨gb, 0, none⟩)) ∧ w'.cell? ⟨gb, kx, none⟩ = some (.int .i64 bk)) (ds := [12, 13]) #[false, false, false, false, false, false, false, false, false, false, false, false, false, false] (by kernel_rfl) (by kernel_rfl) (block_out ownG_out) rfl rfl ⟨s1, s2, s3, s4⟩ (fun hHeld => ?_); refine with_tabW sweepF.tab10 sweepF.bits10 (fun HT_ HW_ => ?_)
  generalize V.drew = wd at HBd hHeld  ⊢
  refine pu_ 1 31 (bS 14 2) HT_ ?_
  refine pu_ 3 33 (bS 14 10) HT_ ?_
  refine pu_ 10 40 (bS 14 1034) HT_ ?_
  refine ta_ 0 30 (bS 14 1035) HT_ HW_ hHeld ?_
  refine ta_ 2 32 (bS 14 1039) HT_ HW_ hHeld ?_
  refine pu_ 4 34 (bS 14 1055) HT_ ?_
  refine pu_ 5 35 (bS 14 1087) HT_ ?_
  refine ta_ 6 36 (bS 14 1151) HT_ HW_ hHeld ?_
  refine pu_ 7 37 (bS 14 1279) HT_ ?_
  refine pu_ 8 38 (bS 14 1535) HT_ ?_
  have hb2 := HBd.out
  have g1 := blk_below HVV.out.2.1 hb2
  have g2' := blk_below HVV.out.2.2.1 hb2
  have f1 : wd.frozen? ⟨gs, 0, none⟩ = false := blk_frozen g1 0
  have f2 : wd.frozen? ⟨ga, 0, none⟩ = false := blk_frozen g2' 0
  have e5 := HNE.out
  have e6 := HNE.out.symm
  have HF : Aside0 (KeepsFrom w6.heap.size V ((wd.setCell ⟨gs, 0, none⟩ (.int .i64 (Sx + M))).setCell ⟨ga, 0, none⟩ (.int .i64 (Tx + wx))) ∧ Boxes gi2 gp2 V ((wd.setCell ⟨gs, 0, none⟩ (.int .i64 (Sx + M))).setCell ⟨ga, 0, none⟩ (.int .i64 (Tx + wx))) ∧ SI w gb g2 g3 (sweeperV W H R (some ad) C.length c fu) b gs ga (under (fn b) ((pre ++ [x]).map (·.1))) (allOf ((pre ++ [x]).map (·.1))) w6.heap.size ds gi2 gp2 #[.int .i64 i] (planV W H R (some ad) C.length c) ((wd.setCell ⟨gs, 0, none⟩ (.int .i64 (Sx + M))).setCell ⟨ga, 0, none⟩ (.int .i64 (Tx + wx)))) := ⟨by
   obtain ⟨h1, h2, h3, h4, h5, h6, h7⟩ := HVV.out
   have k1 : KeepsOthers V ((wd.setCell ⟨gs, 0, none⟩ (.int .i64 (Sx + M))).setCell ⟨ga, 0, none⟩ (.int .i64 (Tx + wx))) := ((below_others hb2).trans (KeepsOthers.setCell _ _ _)).trans (KeepsOthers.setCell _ _ _)
   have a1 : (wd.setCell ⟨gs, 0, none⟩ (.int .i64 (Sx + M))).heap[gs]? = some (.cells #[.int .i64 (Sx + M)] 3 (0, 0)) := by rw [blk_set g1 0]; rfl
   have a2 := blk_far g2' (p := ⟨gs, 0, none⟩) e6 (.int .i64 (Sx + M))
   have a3 := blk_far a1 (p := ⟨ga, 0, none⟩) e5 (.int .i64 (Tx + wx))
   have a4 : ((wd.setCell ⟨gs, 0, none⟩ (.int .i64 (Sx + M))).setCell ⟨ga, 0, none⟩ (.int .i64 (Tx + wx))).heap[ga]? = some (.cells #[.int .i64 (Tx + wx)] 3 (0, 0)) := by rw [blk_set a2 0]; rfl
   have a5 : ((wd.setCell ⟨gs, 0, none⟩ (.int .i64 (Sx + M))).setCell ⟨ga, 0, none⟩ (.int .i64 (Tx + wx))).heap[gi2]? = some (.cells #[.int .i64 i] 3 (0, 0)) := blk_far (p := ⟨ga, 0, none⟩) (blk_far (p := ⟨gs, 0, none⟩) (blk_below h6 hb2) HGG.out.2.2.1 _) HGG.out.2.2.2 _
   have a6 : ((wd.setCell ⟨gs, 0, none⟩ (.int .i64 (Sx + M))).setCell ⟨ga, 0, none⟩ (.int .i64 (Tx + wx))).heap[gp2]? = some (.cells (planV W H R (some ad) C.length c) 24 (0, 0)) := blk_far (p := ⟨ga, 0, none⟩) (blk_far (p := ⟨gs, 0, none⟩) (blk_below h7 hb2) (fun e => by have h8 := h7; rw [e, h2] at h8; injection h8 with q; injection q with _ q; cases q) _) (fun e => by have h8 := h7; rw [e, h3] at h8; injection h8 with q; injection q with _ q; cases q) _
   rw [HUN.out.1, HUN.out.2]
   exact ⟨k1.from _, ⟨a5.trans h6.symm, a6.trans h7.symm⟩, ((h1.step hb2).far g1 HGE.out.1 0 _).far a2 HGE.out.2 0 _, a3, a4, h4.others k1, Nat.le_trans h5 k1.size, a5, a6⟩⟩
  clear g1 g2' hb2 HBd
  refine wpAnyLast_ready (rs := [9, 12]) (by kernel_rfl) (by simp) ?_
  refine AllReadyL.cons (i := 9) rfl (by decide) (fun K hK => ?_) (AllReadyL.cons_last (i := 12) rfl (by decide) (fun K hK => ?_) AllReadyL.nil)
  ·obtain ⟨s1, s2, s3, s4⟩ := hHeld
   go_simp
   refine hK.out _ _ ⟨s1, s2, s3, s4⟩ (fun hHeld => ?_)
   clear hK K
   refine pv_ 11 41 (bS 14 4095) ?_
   refine la_ 12 (bS 14 8191) (fun K hK => ?_)
   go_simp
   refine hK.out _ _ ?_
   clear hK K hHeld
   refine la_ 13 (bS 14 16383) (fun K hK => ?_)
   go_simp
   refine hK.out _ _ ?_
   refine done_ (by kernel_rfl) ?_
   exact HF.out
  ·obtain ⟨s1, s2, s3, s4⟩ := hHeld
   go_simp
   refine hK.out _ _ ?_
   clear hK K
   refine wpAnyLast_all (rs := [9]) (by kernel_rfl) (by simp) (fun j hj => ?_)
   obtain rfl : j = 9 := by simpa using hj
   refine wpOp_step rfl (fun K hK => ?_)
   change Shut _ at hK
   go_simp
   refine hK.out _ _ ⟨fun _ h => h, ?_⟩
   clear hK K hj
   refine pv_ 11 41 (bS 14 8191) ?_
   refine la_ 13 (bS 14 16383) (fun K hK => ?_)
   go_simp
   refine hK.out _ _ ?_
   refine done_ (by kernel_rfl) ?_
   exact HF.out
 case done =>
  rintro D xs V hD hxs ⟨h1, h2, h3, h4, h5, _⟩ hK
  have HMV := Aside0.mk (h4.push HBase.out hD hK)
  rw [hxs] at h2 h3
  have HV := Aside0.mk h1
  have c1 : V.cell? ⟨gs, 0, none⟩ = some (.int .i64 (under (fn b) (nbs W H R i))) := (blk_cell h2 0).trans rfl
  have c2 : V.cell? ⟨ga, 0, none⟩ = some (.int .i64 (allOf (nbs W H R i))) := (blk_cell h3 0).trans rfl
  have c3 : V.cell? ⟨g2, 4, none⟩ = some (.func (.func fu) #[] #[]) := (h1.scell 4).trans rfl
  have c4 := h1.pcell
  have hi256 : i < 256 := by have := HI.out; have := HLN.out; omega
  have c5 := h1.cell hi256
  have f5 := h1.frozen i
  have hub := under_bound (f := fn b) (l := nbs W H R i) (fun p hp => by
   have h8 := nbs_lt (by rw [← HX.out.cells]; exact HI.out) hp
   have h9 := HBR.out p.1 (by rw [HX.out.cells]; exact h8.1)
   exact ⟨h8.2.2.1, h8.2.2.2 HX.out.wide, h9.1, h9.2⟩)
  have hnl := nbs_length W H R i
  have HRL : Aside0 (relax up W H R b i = dvd up (under (fn b) (nbs W H R i)) (allOf (nbs W H R i))) := ⟨rfl⟩
  have hAL := HALL.out
  generalize under (fn b) (nbs W H R i) = SU at c1 hub HRL
  generalize allOf (nbs W H R i) = AL at c2 hub HRL hAL
  have hSU : -1000000000000 ≤ SU ∧ SU ≤ 1000000000000 := by omega
  clear hub hnl h1 h2 h3 h4 h5 hK hi256 hD hxs
  have hfu := HFU.out
  refine HKa.out _ _ ?_
  clear HKa
  cases up
  ·obtain rfl : fu = 69 := by simpa using hfu
   have HD := Aside0.mk (down_eq (n := SU) (d := AL) hAL hSU)
   have HE : Aside0 (relax false W H R b i = SU / AL) := ⟨by rw [HRL.out]; unfold dvd; rw [if_neg (by simp)]⟩
   generalize SU / AL = r at HD HE
   clear hfu hAL hSU HRL
   by_cases e : r = fn b i
   ·have HN2 : Aside0 (sweepTo false W H R C b0 (i + 1) = (b, ch)) := ⟨by rw [HNX.out, HE.out, if_neg (by simpa using e)]⟩
    obtain rfl := e
    have hne : (fn b i != fn b i) = false := by simp
    go_wp2_with (go_at_call 69; refine (field_down.calls _ _ _ _ HD.out).mono ?_; rintro e w' ⟨rfl, ⟨m2, rfl⟩⟩)
    have hb5 : Below V.heap.size V (V.drewN m2) := pw_below_drewN (Below.refl _ _) _
    have HC : Aside0 ((sweepTo false W H R C b0 (i + 1)).2 = ch) := ⟨by rw [HN2.out]⟩
    rw [← HC.out]
    exact ⟨k - 1, by have := HK.out; have := HI.out; omega, _, _, _, _, _, _, _, _, _, _, _, _, _, _, _, _, _, _, _, _, _, _, _, _, _, _, _, _, _, _, _, _, _, _, _, _, _, _, _, _, _, _, _, _, _, _, _, _, _, _, i + 1, _, rfl, ⟨by have := HK.out; have := HI.out; omega⟩, ⟨HMV.out.others (below_others hb5)⟩, ⟨by rw [HN2.out]; exact HV.out.step hb5⟩⟩
   ·have HN2 : Aside0 (sweepTo false W H R C b0 (i + 1) = (b.set i r, true)) := ⟨by rw [HNX.out, HE.out, if_pos e]⟩
    have hne : (r != fn b i) = true := bne_iff_ne.mpr e
    clear e
    go_wp2_with (go_at_call 69; refine (field_down.calls _ _ _ _ HD.out).mono ?_; rintro e w' ⟨rfl, ⟨m2, rfl⟩⟩)
    have hb5 : Below V.heap.size V (V.drewN m2) := pw_below_drewN (Below.refl _ _) _
    have HC : Aside0 ((sweepTo false W H R C b0 (i + 1)).2 = true) := ⟨by rw [HN2.out]⟩
    rw [show Value.bool true = Value.bool (sweepTo false W H R C b0 (i + 1)).2 by rw [HC.out]]
    exact ⟨k - 1, by have := HK.out; have := HI.out; omega, _, _, _, _, _, _, _, _, _, _, _, _, _, _, _, _, _, _, _, _, _, _, _, _, _, _, _, _, _, _, _, _, _, _, _, _, _, _, _, _, _, _, _, _, _, _, _, _, _, _, i + 1, _, rfl, ⟨by have := HK.out; have := HI.out; omega⟩, ⟨(HMV.out.others (below_others hb5)).others (KeepsOthers.setCell _ _ _)⟩, ⟨by rw [HN2.out]; exact (HV.out.step hb5).put i r⟩⟩
  ·obtain rfl : fu = 71 := by simpa using hfu
   have HD := Aside0.mk (up_eq (n := SU) (d := AL) hAL hSU)
   have HE : Aside0 (relax true W H R b i = -(-SU / AL)) := ⟨by rw [HRL.out]; unfold dvd; rw [if_pos rfl]⟩
   generalize -(-SU / AL) = r at HD HE
   clear hfu hAL hSU HRL
   by_cases e : r = fn b i
   ·have HN2 : Aside0 (sweepTo true W H R C b0 (i + 1) = (b, ch)) := ⟨by rw [HNX.out, HE.out, if_neg (by simpa using e)]⟩
    obtain rfl := e
    have hne : (fn b i != fn b i) = false := by simp
    go_wp2_with (go_at_call 71; refine (field_up.calls _ _ _ _ HD.out).mono ?_; rintro e w' ⟨rfl, ⟨m2, rfl⟩⟩)
    have hb5 : Below V.heap.size V (V.drewN m2) := pw_below_drewN (Below.refl _ _) _
    have HC : Aside0 ((sweepTo true W H R C b0 (i + 1)).2 = ch) := ⟨by rw [HN2.out]⟩
    rw [← HC.out]
    exact ⟨k - 1, by have := HK.out; have := HI.out; omega, _, _, _, _, _, _, _, _, _, _, _, _, _, _, _, _, _, _, _, _, _, _, _, _, _, _, _, _, _, _, _, _, _, _, _, _, _, _, _, _, _, _, _, _, _, _, _, _, _, _, i + 1, _, rfl, ⟨by have := HK.out; have := HI.out; omega⟩, ⟨HMV.out.others (below_others hb5)⟩, ⟨by rw [HN2.out]; exact HV.out.step hb5⟩⟩
   ·have HN2 : Aside0 (sweepTo true W H R C b0 (i + 1) = (b.set i r, true)) := ⟨by rw [HNX.out, HE.out, if_pos e]⟩
    have hne : (r != fn b i) = true := bne_iff_ne.mpr e
    clear e
    go_wp2_with (go_at_call 71; refine (field_up.calls _ _ _ _ HD.out).mono ?_; rintro e w' ⟨rfl, ⟨m2, rfl⟩⟩)
    have hb5 : Below V.heap.size V (V.drewN m2) := pw_below_drewN (Below.refl _ _) _
    have HC : Aside0 ((sweepTo true W H R C b0 (i + 1)).2 = true) := ⟨by rw [HN2.out]⟩
    rw [show Value.bool true = Value.bool (sweepTo true W H R C b0 (i + 1)).2 by rw [HC.out]]
    exact ⟨k - 1, by have := HK.out; have := HI.out; omega, _, _, _, _, _, _, _, _, _, _, _, _, _, _, _, _, _, _, _, _, _, _, _, _, _, _, _, _, _, _, _, _, _, _, _, _, _, _, _, _, _, _, _, _, _, _, _, _, _, _, i + 1, _, rfl, ⟨by have := HK.out; have := HI.out; omega⟩, ⟨(HMV.out.others (below_others hb5)).others (KeepsOthers.setCell _ _ _)⟩, ⟨by rw [HN2.out]; exact (HV.out.step hb5).put i r⟩⟩
 case stop =>
  rintro D c pre V _ _ h _
  exact h.elim
end Go.Proofs.Ytndkkjpgnmahbaa.Print
end

section
namespace Go.Proofs.Ytndkkjpgnmahbaa.Print
open Go.RowKit YtndkkjpgnmahbaaW.PrintWords YtndkkjpgnmahbaaW.PrintLast YtndkkjpgnmahbaaW.PrintMore Ytndkkjpgnmahbaa.H Proofs.Field
def beginF.T12 : Bool × List (List Nat × List Nat) := (true, [([], []), ([], []), ([], []), ([], []), ([3], [3]), ([2, 4], [2, 4]), ([5], [5]), ([], []), ([], []), ([8], [8]), ([7, 9], [7, 9]), ([10], [10]), ([0, 0, 2, 3, 4, 5, 6], [0]), ([12, 6, 0, 2, 3, 4, 5, 6], [6, 12]), ([1, 0, 1, 2, 3, 4, 5, 6, 7, 8, 9, 10, 11, 12, 13], [1]), ([14, 11, 13, 0, 1, 2, 3, 4, 5, 6, 7, 8, 9, 10, 11, 12, 13], [11, 14])])
def beginF.B12 : List Nat := [0, 0, 0, 0, 8, 28, 60, 0, 0, 256, 896, 1920, 125, 4221, 16383, 32767]
theorem beginF.tab12 : rtab .any (opsOf Try.f68 12) = beginF.T12 := by kernel_rfl
theorem beginF.bits12 : waitsOk beginF.T12.2 beginF.B12 = true := by kernel_rfl
def beginF.T15 : Bool × List (List Nat × List Nat) := (true, [([], []), ([], []), ([0, 0], [0]), ([1, 2, 0, 1, 2], [1])])
def beginF.B15 : List Nat := [0, 0, 1, 7]
theorem beginF.tab15 : rtab .any (opsOf Try.f68 15) = beginF.T15 := by kernel_rfl
theorem beginF.bits15 : waitsOk beginF.T15.2 beginF.B15 = true := by kernel_rfl
theorem info83 : (Try.prog.info? 83).map (fun i => (i.zero, i.size, i.bytes)) = some (some (.agg (List.replicate 256 (Value.int .i64 0)).toArray), 256, 2048) := by kernel_rfl
theorem size83 : (Try.prog.info? 83).map (·.size) = some 256 := by kernel_rfl
theorem results_two_row {P : Program} {fn : Func} {p q : Tmp} {ty ty' : TypeId} (h : fn.results = #[.cell p ty, .cell q ty']) (tmps : Array Value) (w : World) (g g' : Nat) (t t' : TypeId) (cs cs' : Array Value) (fr fr' : Nat × Nat) (d d' : TypeDesc)
  (hp : tmps.getD p undef = .pointer (some ⟨g, 0, none⟩)) (hg : w.heap[g]? = some (.cells cs t fr)) (hu : P.underlying ty = some d) (hd : (match d with | .struct _ | .array _ _ => true | _ => false) = true) (hi : (P.info? ty).map (·.size) = some cs.size)
  (hp' : tmps.getD q undef = .pointer (some ⟨g', 0, none⟩)) (hg' : w.heap[g']? = some (.cells cs' t' fr')) (hu' : P.underlying ty' = some d') (hd' : (match d' with | .struct _ | .array _ _ => true | _ => false) = true) (hi' : (P.info? ty').map (·.size) = some cs'.size) :
  (results fn tmps).run P w = .ok (.tuple #[.agg cs, .agg cs']) w := by
 have e : tmps[p]?.getD undef = .pointer (some ⟨g, 0, none⟩) := by simpa using hp
 have e' : tmps[q]?.getD undef = .pointer (some ⟨g', 0, none⟩) := by simpa using hp'
 simp [results, h, e, e', asAddr, run_loadVar_row w g t ty cs fr d hg hu hd hi, run_loadVar_row w g' t' ty' cs' fr' d' hg' hu' hd' hi']
theorem exec_load_row {P : Program} {o : Oper} {a : Act} {w : World} (ty : TypeId) (x : Operand) (ho : o.op = .load ty x) (g : Nat) (hx : a.eval x = .pointer (some ⟨g, 0, none⟩)) (t : TypeId) (cs : Array Value) (fr : Nat × Nat) (d : TypeDesc) (hg : w.heap[g]? = some (.cells cs t fr))
  (hu : P.underlying ty = some d) (hd : (match d with | .struct _ | .array _ _ => true | _ => false) = true) (hi : (P.info? ty).map (·.size) = some cs.size) : (execOp a.eval o).run P w = .ok (.value (.agg cs)) w := by
 unfold execOp
 simp only [ho, hx, Instr.loadAt, Instr.sureAddr, Sem.run_bind, Sem.run_pure, Result.andThen_ok, run_loadVar_row w g t ty cs fr d hg hu hd hi]
def laidTo (C volts : List Int) (x : Int) (i : Nat) : List Int := (List.range 256).map (fun k => if k < i then (if 0 < fn C k then volt C volts k else x) else 0)
theorem laidTo_length (C volts : List Int) (x : Int) (i : Nat) : (laidTo C volts x i).length = 256 := by simp [laidTo]
theorem laidTo_zero (C volts : List Int) (x : Int) : laidTo C volts x 0 = List.replicate 256 0 := by
 refine List.ext_getElem (by rw [laidTo_length, List.length_replicate]) (fun k h1 h2 => ?_)
 simp only [laidTo, List.getElem_map, List.getElem_range, List.getElem_replicate]
 rw [if_neg (Nat.not_lt_zero _)]
theorem laidTo_all (C volts : List Int) (x : Int) : laidTo C volts x C.length = laid C volts 256 x := rfl
theorem laidTo_succ (C volts : List Int) (x : Int) (i : Nat) : laidTo C volts x (i + 1) = (laidTo C volts x i).set i (if 0 < fn C i then volt C volts i else x) := by
 refine List.ext_getElem (by rw [List.length_set, laidTo_length, laidTo_length]) (fun k h1 h2 => ?_)
 rw [List.getElem_set]
 simp only [laidTo, List.getElem_map, List.getElem_range]
 by_cases q : i = k
 ·subst q; rw [if_pos rfl, if_pos (by omega)]
 ·rw [if_neg q]
  by_cases r : k < i
  ·rw [if_pos r, if_pos (by omega)]
  ·rw [if_neg r, if_neg (by omega)]
def onTo (C volts : List Int) (j : Nat) : List Int := ((elec C).take j).map (fun e => fn volts (e.toNat - 1))
theorem onTo_all (C volts : List Int) : onTo C volts (elec C).length = onOf C volts := by unfold onTo onOf; rw [List.take_length]
theorem onTo_succ (C volts : List Int) {j : Nat} (h : j < (elec C).length) : onTo C volts (j + 1) = onTo C volts j ++ [fn volts (((elec C).getD j 0).toNat - 1)] := by
 unfold onTo
 rw [List.take_add_one, List.getElem?_eq_getElem h, Option.toList_some, List.map_append, List.map_singleton, List.getD_eq_getElem?_getD, List.getElem?_eq_getElem h]
 rfl
theorem onTo_length (C volts : List Int) {j : Nat} (h : j ≤ (elec C).length) : (onTo C volts j).length = j := by unfold onTo; rw [List.length_map, List.length_take]; omega
theorem elec_length (C : List Int) : (elec C).length ≤ 6 := by
 unfold elec
 exact Nat.le_trans (List.length_filter_le _ _) (by simp)
theorem elec_get (C : List Int) {j : Nat} (h : j < (elec C).length) : 1 ≤ (elec C).getD j 0 ∧ (elec C).getD j 0 ≤ 6 ∧ (elec C).getD j 0 ∈ C := by
 rw [List.getD_eq_getElem?_getD, List.getElem?_eq_getElem h]
 exact mem_elec.1 (List.getElem_mem h)
structure BG (w W : World) (gp gl gh : Nat) (pv : Array Value) (lo hi : List Int) : Prop where
 below : Below w.heap.size w W
 p : W.heap[gp]? = some (.cells pv 24 (0, 0))
 l : W.heap[gl]? = some (.cells (numsA lo) 83 (0, 0))
 h : W.heap[gh]? = some (.cells (numsA hi) 83 (0, 0))
 gl0 : w.heap.size ≤ gl
 gh0 : w.heap.size ≤ gh
 ne : gl ≠ gh
namespace BG
variable {w W W1 : World} {gp gl gh : Nat} {pv : Array Value} {lo hi : List Int}
theorem step (h : BG w W gp gl gh pv lo hi) (hb : Below W.heap.size W W1) : BG w W1 gp gl gh pv lo hi :=
 ⟨below_step h.below hb, blk_below h.p hb, blk_below h.l hb, blk_below h.h hb, h.gl0, h.gh0, h.ne⟩
theorem nep (h : BG w W gp gl gh pv lo hi) : gp ≠ gl ∧ gp ≠ gh :=
 ⟨fun e => (by have := h.p; rw [e, h.l] at this; injection this with q; injection q with _ q; cases q), fun e => (by have := h.p; rw [e, h.h] at this; injection this with q; injection q with _ q; cases q)⟩
theorem grown (h : BG w W gp gl gh pv lo hi) {row : Option Nat} (hg : W.grownBy W1 row) (hb : Below w.heap.size w W1) (ht : ∀ k, row = some k → ∃ cells, W.heap[k]? = some (.cells cells 3 (0, 0))) : BG w W1 gp gl gh pv lo hi := by
 have hn : ∀ (g : Nat) (t : TypeId) (cs : Array Value), t ≠ 3 → W.heap[g]? = some (.cells cs t (0, 0)) → some g ≠ row := fun g t cs ht3 hc e => by
  obtain ⟨cells, hk⟩ := ht g e.symm
  rw [hc] at hk; injection hk with q; injection q with _ q; exact ht3 q
 exact ⟨hb, blk_grown h.p hg (hn _ _ _ (by decide) h.p), blk_grown h.l hg (hn _ _ _ (by decide) h.l), blk_grown h.h hg (hn _ _ _ (by decide) h.h), h.gl0, h.gh0, h.ne⟩
theorem putl (h : BG w W gp gl gh pv lo hi) (i : Nat) (v : Int) : BG w (W.setCell ⟨gl, i, none⟩ (.int .i64 v)) gp gl gh pv (lo.set i v) hi :=
 ⟨below_set h.below h.gl0, blk_far h.p (p := ⟨gl, i, none⟩) h.nep.1 _, by rw [blk_set h.l i, numsA, set_nums]; rfl, blk_far h.h (p := ⟨gl, i, none⟩) h.ne.symm _, h.gl0, h.gh0, h.ne⟩
theorem puth (h : BG w W gp gl gh pv lo hi) (i : Nat) (v : Int) : BG w (W.setCell ⟨gh, i, none⟩ (.int .i64 v)) gp gl gh pv lo (hi.set i v) :=
 ⟨below_set h.below h.gh0, blk_far h.p (p := ⟨gh, i, none⟩) h.nep.2 _, blk_far h.l (p := ⟨gh, i, none⟩) h.ne _, by rw [blk_set h.h i, numsA, set_nums]; rfl, h.gl0, h.gh0, h.ne⟩
theorem rowl (h : BG w W gp gl gh pv lo hi) : BG w (W.setRow gl (numsA lo)) gp gl gh pv lo hi :=
 ⟨⟨h.below.os, h.below.tape, h.below.output, by rw [size_setRow]; exact h.below.size, fun i hi => by rw [setRow_other W gl i _ (by have := h.gl0; omega)]; exact h.below.block i hi⟩, (setRow_other _ _ _ _ h.nep.1).trans h.p, setRow_heap _ _ _ _ _ _ h.l, (setRow_other _ _ _ _ h.ne.symm).trans h.h, h.gl0, h.gh0, h.ne⟩
theorem rowh (h : BG w W gp gl gh pv lo hi) : BG w (W.setRow gh (numsA hi)) gp gl gh pv lo hi :=
 ⟨⟨h.below.os, h.below.tape, h.below.output, by rw [size_setRow]; exact h.below.size, fun i hi => by rw [setRow_other W gh i _ (by have := h.gh0; omega)]; exact h.below.block i hi⟩, (setRow_other _ _ _ _ h.nep.2).trans h.p, (setRow_other _ _ _ _ h.ne).trans h.l, setRow_heap _ _ _ _ _ _ h.h, h.gl0, h.gh0, h.ne⟩
end BG
theorem begin_calls (W H : Nat) (R : Bool) (A : Option Addr) (c : Nat) (C : List Int) (A1 : Option Addr) (c1 : Nat) (volts : List Int) (w : World) (hr : Kd.C (Kd.int .i64) w A C.length C) (hc : C.length ≤ c) (hr1 : Kd.C (Kd.int .i64) w A1 volts.length volts)
  (hN : C.length ≤ 256) (hV : Volted W H R C volts) (hE : checkErr W H R C = 0) :
  Calls Try.prog 68 #[.agg (planV W H R A C.length c), .slice A1 volts.length c1] w fun e w' => e = .returned (.tuple #[.agg (numsA (laid C volts 256 (minOf (onOf C volts)))), .agg (numsA (laid C volts 256 (maxOf (onOf C volts))))]) ∧ Below w.heap.size w w' := by
 have HR := Aside0.mk hr
 have HC := Aside0.mk hc
 have HR1 := Aside0.mk hr1
 have HV := Aside0.mk hV
 have HN := Aside0.mk hN
 have HM := Aside0.mk (Mem.start w)
 have HEL := Aside0.mk (electrodes_eq (W := W) (H := H) (R := R) (C := C) (by omega) hE)
 have hu24 := Try.underlying24
 have hu22 := Try.underlying22
 have hu83 := Try.underlying83
 have b1 : (C.length : Int) ≤ 256 := by omega
 have vl : (volts.length : Int) ≤ 9223372036854775807 := by have := (Kd.reads_of_C (enc := Value.int .i64) (d := (0 : Int)) (h1 := fun _ => rfl) hr1).2.1; omega
 clear hr hc hr1 hV hN hE
 go_enter Try.func68, Try.ntmps68
 go_wp2_with (first
  | ((with_reducible refine gate_dst (N := 2) rfl ?_); refine ev_box HM.out rfl 24 (.tmp 0) rfl (cs := planV W H R A C.length c) rfl ?_; intro gp w1 hm1 hq1; clear hq1; have HM1 := Aside0.mk hm1; clear hm1 HM)
  | ((with_reducible refine gate_dst (N := 4) rfl ?_); refine ev_new HM1.out rfl 83 rfl info83 ?_; intro gl w2 hm2 hq2; clear hq2; have HM2 := Aside0.mk hm2; clear hm2 HM1)
  | ((with_reducible refine gate_dst (N := 5) rfl ?_); refine ev_new HM2.out rfl 83 rfl info83 ?_; intro gh w3 hm3 hq3; clear hq3; have HM3 := Aside0.mk hm3; clear hm3 HM2)
  | ((with_reducible refine gate_dst (N := 13) rfl ?_); refine ev_load HM3.out.third rfl 24 (.tmp 2) rfl rfl _ Try.underlying24 rfl size24 rfl ?_)
  | (go_at_call 44; refine (field_Electrodes.calls (C.length + 9) W H R A c C (elec C) _ (Kd.C_below HR.out HM3.out.below) HC.out HEL.out).mono ?_; rintro e w4 ⟨ve, rfl, hve, hb4⟩; obtain ⟨A5, c5, rfl⟩ := Kd.R_slice hve; have HEV := Aside0.mk (Kd.R_reads' hve).2.2; clear hve; have HB4 := Aside0.mk hb4; clear hb4))
 have HG4 : Aside0 (BG w w4 gp gl gh (planV W H R A C.length c) (List.replicate 256 0) (List.replicate 256 0)) := ⟨⟨below_step HM3.out.below HB4.out, blk_below HM3.out.third HB4.out, by rw [show numsA (List.replicate 256 0) = _ by unfold numsA nums; rw [List.map_replicate]]; exact blk_below HM3.out.second HB4.out, by rw [show numsA (List.replicate 256 0) = _ by unfold numsA nums; rw [List.map_replicate]]; exact blk_below HM3.out.head HB4.out, HM3.out.drop.geh, HM3.out.geh, (HM3.out.ne _ List.mem_cons_self).symm⟩⟩
 clear HB4 HM3
 have hel := elec_length C
 go_loopg [6, 16] (elec C).length (fun k v6 v16 w' => ∃ j : Nat, v16 = .int .i64 (j : Int) ∧ Aside0 (j + k = (elec C).length) ∧ Aside0 (Kd.R (Kd.int .i64) 3 w' w4.heap.size (fun _ => True) v6 (onTo C volts j)) ∧ Aside0 (Below w4.heap.size w4 w'))
 case atStart => exact ⟨0, rfl, ⟨by omega⟩, ⟨Kd.R_nil _ _ _ _ _⟩, ⟨by repeat (first | exact Below.refl _ _ | apply below_alloc | apply pw_below_drewN | apply below_drew1)⟩⟩
 case round =>
  obtain ⟨j, rfl, HK, HO, HB⟩ := hrel
  by_cases hj : j < (elec C).length
  ·obtain ⟨ad, e0, hx⟩ := at_natM (Kd.C_below HEV.out HB.out) j hj
   cases e0
   have he := elec_get C hj
   have HS := Aside0.mk (onTo_succ C volts hj)
   have HLO := Aside0.mk (onTo_length C volts (Nat.le_of_lt hj))
   have HJ := Aside0.mk hj
   have i1 : (0 : Int) ≤ (j : Int) := by omega
   have i2 : (j : Int) < ((elec C).length : Int) := by omega
   have i3 : (j : Int) ≤ 6 := by omega
   obtain ⟨i, hi, hei⟩ := mem_fn he.2.2
   have hvl := HV.out.vlen i hi
   rw [hei] at hvl
   generalize (elec C).getD j 0 = X at hx he hvl HS
   obtain ⟨n, rfl⟩ : ∃ n : Nat, X = (n : Int) + 1 := ⟨(X - 1).toNat, by omega⟩
   obtain ⟨ad1, e1, hy⟩ := at_natM (Kd.C_below (Kd.C_below HR1.out HG4.out.below) HB.out) n (by omega)
   cases e1
   have n1 : IntKind.i64.wrap ((n : Int) + 1 - 1) = (n : Int) := by rw [Int.add_sub_cancel]; exact IntWalk.i64_in _ (by omega)
   have n2 : IntKind.i64.wrap (n : Int) = (n : Int) := IntWalk.i64_in _ (by omega)
   have k1 : (0 : Int) ≤ (n : Int) := by omega
   have k2 : (n : Int) < (volts.length : Int) := by omega
   rw [show ((n : Int) + 1).toNat - 1 = n by omega] at HS
   have hy' : fn volts n = volts.getD n 0 := rfl
   rw [hy'] at HS
   generalize volts.getD n 0 = Y at hy HS
   clear hy' he hei hi hvl i hj
   go_wp2_with ((with_reducible refine gate_builtin (b := .append) (xs := #[.tmp 20, .tmp 26]) rfl ?_); at_builtin; refine Kd.R_append (Kd.int .i64) (w0 := w4) w4.heap.size rfl (.tmp 20) (.tmp 26) 22 3 (.int .i64 0) 8 rfl Try.underlying22 info3 rfl (by decide) (by omega) _ (onTo C volts j) Y [.int .i64 Y] (fun _ => True) (fun _ => False) rfl rfl ?aP (fun _ hk => hk.elim) ?aF ?aO ?aB ?aS ?aL ?_; (case aP => exact rfl); (case aB => exact (aBl HB).out); (case aF => exact (fun _ _ => trivial)); (case aO => exact (aRk HO).out); (case aS => exact (below_size (aBl HB).out)); (case aL => have := HLO.out; omega); intro v112 w12 ho hb hg hat; rw [← HS.out] at ho; have HB2 := Aside0.mk hb; have HO2 := Aside0.mk ho; clear ho hb hg hat)
   go_roundg ((elec C).length - (j + 1))
   case measure => have := HK.out; have := HJ.out; omega
   case rel => exact ⟨j + 1, by go_num, ⟨by have := HJ.out; omega⟩, HO2, HB2⟩
  ·obtain rfl : j = (elec C).length := by have := HK.out; omega
   rw [onTo_all] at HO
   clear hj
   have i2 : ¬ (((elec C).length : Int) < ((elec C).length : Int)) := Int.lt_irrefl _
   obtain ⟨A6, c6, hv6⟩ := Kd.R_slice HO.out
   subst hv6
   have HO6 := Aside0.mk (Kd.R_reads' HO.out).2
   have hne := on_ne HV.out
   have HMN : Aside0 (slices_Min_int_int.f (onOf C volts) = some (minOf (onOf C volts)) ∧ slices_Max_int_int.f (onOf C volts) = some (maxOf (onOf C volts))) := ⟨⟨if_neg hne, if_neg hne⟩⟩
   have HG5 := Aside0.mk (HG4.out.step HB.out)
   have HRG := Aside0.mk (Kd.C_below HR.out HG5.out.below)
   have q3 : wr.cell? ⟨gp, 3, none⟩ = some (.slice A C.length c) := (blk_cell HG5.out.p 3).trans rfl
   go_wp2_with (first
    | (go_at_call 97; refine (slices_Min_int_int.calls A6 c6 (onOf C volts) _ _ (by (with_reducible repeat (first | apply Kd.C_alloc | apply Kd.C_drewN | apply Kd.C_drew)); exact HO6.out.2) HO6.out.1 HMN.out.1).mono ?_; rintro e w' ⟨rfl, ⟨m1, rfl⟩⟩)
    | (go_at_call 82; refine (slices_Max_int_int.calls A6 c6 (onOf C volts) _ _ (by (with_reducible repeat (first | apply Kd.C_alloc | apply Kd.C_drewN | apply Kd.C_drew)); exact HO6.out.2) HO6.out.1 HMN.out.2).mono ?_; rintro e w' ⟨rfl, ⟨m2, rfl⟩⟩))
   have HLM : Aside0 (∃ x y, minOf (onOf C volts) = x ∧ maxOf (onOf C volts) = y) := ⟨⟨_, _, rfl, rfl⟩⟩
   clear HEL HG4 HEV HK HB HO HO6 HMN i2 q3
   go_loopg [36] C.length (fun k v36 w' => ∃ i : Nat, v36 = .int .i64 (i : Int) ∧ Aside0 (i + k = C.length) ∧ Aside0 (BG w w' gp gl gh (planV W H R A C.length c) (laidTo C volts (minOf (onOf C volts)) i) (laidTo C volts (maxOf (onOf C volts)) i)))
   case atStart => exact ⟨0, rfl, ⟨by omega⟩, ⟨by rw [laidTo_zero, laidTo_zero]; exact HG5.out.step (by repeat (first | exact Below.refl _ _ | apply below_alloc | apply pw_below_drewN | apply below_drew1))⟩⟩
   case round =>
    clear HG5 HRG
    obtain ⟨i, rfl, HK, HL⟩ := hrel
    by_cases hi : i < C.length
    ·obtain ⟨ad, e0, hx⟩ := at_natM (Kd.C_below HR.out HL.out.below) i hi
     cases e0
     have hi256 : i < 256 := by have := HN.out; omega
     have i1 : (0 : Int) ≤ (i : Int) := by omega
     have i2 : (i : Int) < (C.length : Int) := by omega
     have i3 : (i : Int) < 256 := by omega
     have HI := Aside0.mk (And.intro hi hi256)
     have c1 := (blk_cell HL.out.l i).trans (numsA_get (by rw [laidTo_length]; exact hi256))
     have c2 := (blk_cell HL.out.h i).trans (numsA_get (by rw [laidTo_length]; exact hi256))
     have f1 := blk_frozen HL.out.l i
     have f2 := blk_frozen HL.out.h i
     have HSL := Aside0.mk (laidTo_succ C volts (minOf (onOf C volts)) i)
     have HSH := Aside0.mk (laidTo_succ C volts (maxOf (onOf C volts)) i)
     generalize fn (laidTo C volts (minOf (onOf C volts)) i) i = o1 at c1
     generalize fn (laidTo C volts (maxOf (onOf C volts)) i) i = o2 at c2
     by_cases q : 0 < fn C i
     ·have hg : decide (C.getD i 0 > 0) = true := decide_eq_true q
      have HSL2 : Aside0 (laidTo C volts (minOf (onOf C volts)) (i + 1) = (laidTo C volts (minOf (onOf C volts)) i).set i (volt C volts i)) := ⟨by rw [HSL.out, if_pos q]⟩
      have HSH2 : Aside0 (laidTo C volts (maxOf (onOf C volts)) (i + 1) = (laidTo C volts (maxOf (onOf C volts)) i).set i (volt C volts i)) := ⟨by rw [HSH.out, if_pos q]⟩
      have hvl := HV.out.vlen i hi
      have hel6 := (HV.out.elr i hi).2
      have hvv : volt C volts i = fn volts ((C.getD i 0).toNat - 1) := rfl
      rw [show fn C i = C.getD i 0 from rfl] at q hvl hel6
      generalize C.getD i 0 = X at hx hg hvl hel6 hvv q
      obtain ⟨n, rfl⟩ : ∃ n : Nat, X = (n : Int) + 1 := ⟨(X - 1).toNat, by omega⟩
      rw [show ((n : Int) + 1).toNat - 1 = n by omega] at hvv
      obtain ⟨ad1, e1, hy0⟩ := at_natM HR1.out n (by omega)
      cases e1
      have hne1 : (ad1.add n).block ≠ gl := by have h1 := World.block_lt_of_cell? _ _ hy0; have h2 := HL.out.gl0; omega
      have hy : wr.cell? (ad1.add n) = some (.int .i64 (volts.getD n 0)) := pw_cell_below HL.out.below hy0
      rw [hvv, show fn volts n = volts.getD n 0 from rfl] at HSL2 HSH2
      have n1 : IntKind.i64.wrap ((n : Int) + 1 - 1) = (n : Int) := by rw [Int.add_sub_cancel]; exact IntWalk.i64_in _ (by omega)
      have n2 : IntKind.i64.wrap (n : Int) = (n : Int) := IntWalk.i64_in _ (by omega)
      have k1 : (0 : Int) ≤ (n : Int) := by omega
      have k2 : (n : Int) < (volts.length : Int) := by omega
      generalize volts.getD n 0 = Y at hy HSL2 HSH2
      clear hy0 hvv hvl hel6 q HSL HSH hi hi256
      have HNE := Aside0.mk hne1
      clear hne1
      go_upto_region 12 with (fail)
      have HBd := Aside0.mk (below_drew1 (Below.refl wr.heap.size wr))
      refine start_ (n := 16) (S := fun w' => w'.cell? (ad1.add n) = some (.int .i64 Y)) (ds := [15]) #[false, false, false, false, false, false, false, false, false, false, false, false, false, false, false, false] (by kernel_rfl) rfl rfl hy (fun hHeld => ?_); refine with_tabW beginF.tab12 beginF.bits12 (fun HT_ HW_ => ?_)
      generalize wr.drew = wd at HBd hHeld  ⊢
      refine pu_ 0 43 (bS 16 1) HT_ ?_
      refine pu_ 1 44 (bS 16 3) HT_ ?_
      refine pu_ 2 45 (bS 16 7) HT_ ?_
      refine pu_ 3 46 (bS 16 15) HT_ ?_
      refine pu_ 4 47 (bS 16 31) HT_ ?_
      refine pu_ 5 48 (bS 16 63) HT_ ?_
      refine pu_ 7 50 (bS 16 191) HT_ ?_
      refine pu_ 8 51 (bS 16 447) HT_ ?_
      refine pu_ 9 52 (bS 16 959) HT_ ?_
      refine pu_ 10 53 (bS 16 1983) HT_ ?_
      refine ta_ 6 49 (bS 16 2047) HT_ HW_ hHeld ?_
      refine pu_ 12 55 (bS 16 6143) HT_ ?_
      refine ta_ 11 54 (bS 16 8191) HT_ HW_ hHeld ?_
      have hb2 := HBd.out
      have HL2 := Aside0.mk (HL.out.step hb2)
      have c3 : wd.cell? ⟨gl, i, none⟩ = some (.int .i64 o1) := (blk_cell HL2.out.l i).trans ((blk_cell HL.out.l i).symm.trans c1)
      have c4 : wd.cell? ⟨gh, i, none⟩ = some (.int .i64 o2) := (blk_cell HL2.out.h i).trans ((blk_cell HL.out.h i).symm.trans c2)
      have f3 := blk_frozen HL2.out.l i
      have f4 := blk_frozen HL2.out.h i
      have e5 : gl ≠ gh := HL2.out.ne
      have e6 : gh ≠ gl := HL2.out.ne.symm
      clear hb2 HBd HL c1 c2 f1 f2
      refine one_ (i := 13) (N := none) (bS 16 16383) rfl rfl (by kernel_rfl) (by decide) (fun K hK => ?_)
      go_simp
      refine hK.out _ _ (by rw [cell_far (p := ⟨gl, i, none⟩) HNE.out]; exact hHeld) (fun hHeld => ?_)
      clear hK K
      refine pv_ 14 56 (bS 16 32767) ?_
      refine la_ 15 (bS 16 65535) (fun K hK => ?_)
      go_simp
      refine hK.out _ _ ?_
      refine done_ (by kernel_rfl) ?_
      clear hK K hHeld HT_ HW_
      have HL3 := Aside0.mk ((HL2.out.putl i Y).puth i Y)
      rw [← HSL2.out, ← HSH2.out] at HL3
      generalize (wd.setCell ⟨gl, i, none⟩ (.int .i64 Y)).setCell ⟨gh, i, none⟩ (.int .i64 Y) = w9 at HL3 ⊢
      clear c3 c4 f3 f4 HL2
      go_wp2_with fail
      go_roundg (C.length - (i + 1))
      case measure => have := HK.out; have := HI.out; omega
      case rel => exact ⟨i + 1, by go_num, ⟨by have := HI.out; omega⟩, HL3⟩
     ·have hg : decide (C.getD i 0 > 0) = false := decide_eq_false q
      rw [if_neg q] at HSL HSH
      clear q hi hi256
      generalize C.getD i 0 = X at hx hg
      have e5 : gl ≠ gh := HL.out.ne
      have e6 : gh ≠ gl := HL.out.ne.symm
      have HL3 := Aside0.mk ((HL.out.putl i (minOf (onOf C volts))).puth i (maxOf (onOf C volts)))
      rw [← HSL.out, ← HSH.out] at HL3
      go_wp2_with fail
      go_roundg (C.length - (i + 1))
      case measure => have := HK.out; have := HI.out; omega
      case rel => exact ⟨i + 1, by go_num, ⟨by have := HI.out; omega⟩, HL3⟩
    ·obtain rfl : i = C.length := by have := HK.out; omega
     clear hi HK
     rw [laidTo_all, laidTo_all] at HL
     have z1 : (numsA (laid C volts 256 (minOf (onOf C volts)))).size = 256 := size_nums (laid_length _ _)
     have z2 : (numsA (laid C volts 256 (maxOf (onOf C volts)))).size = 256 := size_nums (laid_length _ _)
     have o1 : (numsA (laid C volts 256 (minOf (onOf C volts)))).all (·.oneCell') = true := one_nums _
     have o2 : (numsA (laid C volts 256 (maxOf (onOf C volts)))).all (·.oneCell') = true := one_nums _
     obtain ⟨lo, hlo⟩ : ∃ lo, laid C volts 256 (minOf (onOf C volts)) = lo := ⟨_, rfl⟩
     obtain ⟨hi, hhi⟩ : ∃ hi, laid C volts 256 (maxOf (onOf C volts)) = hi := ⟨_, rfl⟩
     rw [hlo] at HL z1 o1
     rw [hhi] at HL z2 o2
     have HLH := Aside0.mk (And.intro hlo hhi)
     clear hlo hhi
     have HZ := Aside0.mk (And.intro z1 (And.intro z2 (And.intro o1 o2)))
     clear z1 z2 o1 o2
     go_upto_region 15 with (fail)
     have HBd := Aside0.mk (below_drew1 (Below.refl wr.heap.size wr))
     refine start_ (n := 4) (S := fun w' => w'.heap[gl]? = some (.cells (numsA lo) 83 (0, 0)) ∧ w'.heap[gh]? = some (.cells (numsA hi) 83 (0, 0))) (ds := []) #[false, false, false, false] (by kernel_rfl) rfl rfl ⟨blk_below HL.out.l HBd.out, blk_below HL.out.h HBd.out⟩ (fun hHeld => ?_)
     have HL2 := Aside0.mk (HL.out.step HBd.out)
     clear HBd HL
     generalize wr.drew = wd at HL2 hHeld ⊢
     refine with_tabW beginF.tab15 beginF.bits15 (fun HT_ HW_ => ?_)
     refine take_ (i := 0) (N := some 64) (v := .agg (numsA lo)) (a' := ?_) (bS 4 1) rfl rfl (take_ofW HT_.out HW_.out (by kernel_rfl)) (fun _ _ _ h => h) (Or.inl ⟨by rfl, fun w' hS => exec_load_row 83 (.tmp 4) rfl gl rfl 83 _ (0, 0) _ hS.1 hu83 rfl (by rw [size83, HZ.out.1])⟩) hHeld ?_ ?_
     rotate_left
     ·simp only [Act.put, sT, sZ, sS, i64_w, i32_w]
      rfl
     refine take_ (i := 1) (N := some 65) (v := .agg (numsA hi)) (a' := ?_) (bS 4 3) rfl rfl (take_ofW HT_.out HW_.out (by kernel_rfl)) (fun _ _ _ h => h) (Or.inl ⟨by rfl, fun w' hS => exec_load_row 83 (.tmp 5) rfl gh rfl 83 _ (0, 0) _ hS.2 hu83 rfl (by rw [size83, HZ.out.2.1])⟩) hHeld ?_ ?_
     rotate_left
     ·simp only [Act.put, sT, sZ, sS, i64_w, i32_w]
      rfl
     refine one_ (i := 2) (N := none) (bS 4 7) rfl rfl (by kernel_rfl) (by decide) (fun K hK => ?_)
     rw [if_pos (by rfl)]
     refine wp_store_row 83 (.tmp 4) (.tmp 64) rfl gl (numsA lo) rfl rfl 83 (numsA lo) hHeld.1 (by rw [size83, HZ.out.1]) rfl HZ.out.2.2.1 ?_
     refine hK.out _ _ ⟨setRow_heap _ _ _ _ _ _ hHeld.1, (setRow_other _ _ _ _ HL2.out.ne.symm).trans hHeld.2⟩ (fun hHeld => ?_)
     have HL3 := Aside0.mk (HL2.out.rowl)
     clear hK K HL2
     generalize wd.setRow gl (numsA lo) = w7 at HL3 hHeld ⊢
     refine one_ (i := 3) (N := none) (bS 4 15) rfl rfl (by kernel_rfl) (by decide) (fun K hK => ?_)
     rw [if_pos (by rfl)]
     refine wp_store_row 83 (.tmp 5) (.tmp 65) rfl gh (numsA hi) rfl rfl 83 (numsA hi) hHeld.2 (by rw [size83, HZ.out.2.1]) rfl HZ.out.2.2.2 ?_
     refine hK.out _ _ ⟨(setRow_other _ _ _ _ HL3.out.ne).trans hHeld.1, setRow_heap _ _ _ _ _ _ hHeld.2⟩ (fun hHeld => ?_)
     have HL4 := Aside0.mk (HL3.out.rowh)
     clear hK K HL3
     generalize w7.setRow gh (numsA hi) = w8 at HL4 hHeld ⊢
     refine done_ (done_of HT_.out (by kernel_rfl)) ?_
     clear hHeld HT_ HW_
     go_wp2_with fail
     (try simp only [Exit.inBlock, Exit.then])
     exact bodyPost_ret (results_two_row rfl _ _ gl gh 83 83 _ _ (0, 0) (0, 0) _ _ rfl HL4.out.l hu83 rfl (by rw [size83, HZ.out.1]) rfl HL4.out.h hu83 rfl (by rw [size83, HZ.out.2.1])) rfl ⟨by rw [HLH.out.1, HLH.out.2], HL4.out.below⟩
end Go.Proofs.Ytndkkjpgnmahbaa.Print
end

section
namespace Go.Proofs.Ytndkkjpgnmahbaa.Print
open Go.RowKit YtndkkjpgnmahbaaW.PrintWords YtndkkjpgnmahbaaW.PrintLast YtndkkjpgnmahbaaW.PrintMore Ytndkkjpgnmahbaa.H Proofs.Field
def field_CheckVolts.f (W H : Int) (R : Bool) (C volts : List Int) : Option (Int) := some (voltErr W H R C volts)
theorem check_ne {W H : Int} {R : Bool} {C : List Int} (h : checkErr W H R C = 0) : C ≠ [] := by
 intro e
 subst e
 unfold checkErr at h
 by_cases a : W < 1 ∨ 16 < W ∨ H < 1 ∨ 16 < H
 ·rw [if_pos a] at h; omega
 ·rw [if_neg a] at h
  by_cases b : ((([] : List Int).length : Nat) : Int) ≠ W * H
  ·rw [if_pos b] at h; omega
  ·rw [if_neg b, if_neg (by simp), if_pos (by simp)] at h; omega
theorem any_out (l : List Int) : l.any outB = true ↔ ∃ v, v ∈ l ∧ (v < -1000000 ∨ 1000000 < v) := by
 rw [List.any_eq_true]
 constructor
 ·rintro ⟨v, hv, hb⟩; exact ⟨v, hv, of_decide_eq_true hb⟩
 ·rintro ⟨v, hv, hb⟩; exact ⟨v, hv, decide_eq_true hb⟩
theorem field_CheckVolts.calls (W H : Int) (R : Bool) (A : Option Addr) (c : Nat) (C : List Int) (A1 : Option Addr) (c1 : Nat) (l1 : List Int) (r : Int) (w : World) (hr : Kd.C (Kd.int .i64) w A C.length C) (hc : C.length ≤ c) (hr1 : Kd.C (Kd.int .i64) w A1 l1.length l1) (hc1 : l1.length ≤ c1) (h : field_CheckVolts.f W H R C l1 = some r) :
  Calls Try.prog 41 #[.agg (planV W H R A C.length c), .slice A1 l1.length c1] w fun e w' => e = .returned (.int .i64 r) ∧ Below w.heap.size w w' := by
 have HF : Aside0 (voltErr W H R C l1 = r) := ⟨Option.some.inj h⟩
 have HR := Aside0.mk hr
 have HR1 := Aside0.mk hr1
 have HM := Aside0.mk (Mem.start w)
 have HCC : Aside0 (∀ W1, Below w.heap.size w W1 → Calls Try.prog 39 #[.agg (planV W H R A C.length c)] W1 fun e w' => e = .returned (.int .i64 (checkErr W H R C)) ∧ Below W1.heap.size W1 w') := ⟨fun W1 hb => field_Check.calls W H R A c C _ W1 (Kd.C_below HR.out hb) hc rfl⟩
 clear hr hr1 h
 by_cases e0 : checkErr W H R C = 0
 rotate_left
 ·have HE : Aside0 (checkErr W H R C = r) := ⟨by have := HF.out; unfold voltErr at this; rw [if_pos e0] at this; exact this⟩
  rw [HE.out] at HCC e0
  have b0 : (r != 0) = true := by simpa using e0
  clear e0
  go_enter Try.func41, Try.ntmps41
  go_wp2_with (first
   | ((with_reducible refine gate_dst (N := 2) rfl ?_); refine ev_box HM.out rfl 24 (.tmp 0) rfl (cs := planV W H R A C.length c) rfl ?_; intro gp w1 hm1 hq1; clear hq1; have HM1 := Aside0.mk hm1; clear hm1 HM)
   | ((with_reducible refine gate_dst (N := 6) rfl ?_); refine ev_load HM1.out.head rfl 24 (.tmp 2) rfl rfl _ Try.underlying24 rfl size24 rfl ?_)
   | (go_at_call 39; refine (HCC.out _ HM1.out.below).mono ?_; rintro e w' ⟨rfl, hd⟩; have HM2 := Aside0.mk (HM1.out.step hd); clear hd HM1; have q3 : w'.cell? ⟨gp, 3, none⟩ = some (.slice A C.length c) := (HM2.out.cell 3).trans rfl))
  go_ret
  exact ⟨rfl, HM2.out.below⟩
 have hne := check_ne e0
 have HMX : Aside0 (slices_Max_int_int.f C = some (maxOf C)) := ⟨by unfold slices_Max_int_int.f; rw [if_neg hne]⟩
 have HCM := Aside0.mk (fun W1 (hb : Below w.heap.size w W1) => slices_Max_int_int.calls A c C _ W1 (Kd.C_below HR.out hb) hc HMX.out)
 have HCF := Aside0.mk (fun W1 (hb : Below w.heap.size w W1) => containsFunc_calls A1 c1 l1 W1 (Kd.C_below HR1.out hb))
 have HV : Aside0 ((if (l1.length : Int) ≠ maxOf C then 3 else if l1.any outB = true then 2 else 0) = r) := ⟨by
  have := HF.out
  unfold voltErr at this
  rw [if_neg (by rw [e0]; decide)] at this
  rw [← this]
  by_cases q : l1.any outB = true
  ·rw [if_pos q, if_pos ((any_out l1).1 q)]
  ·rw [if_neg q, if_neg (fun s => q ((any_out l1).2 s))]⟩
 rw [e0] at HCC
 generalize maxOf C = mx at HMX HCM HV
 generalize l1.any outB = ob at HCF HV
 clear hne e0 HF
 by_cases m0 : (l1.length : Int) = mx
 rotate_left
 ·have b1 : ((l1.length : Int) != mx) = true := bne_iff_ne.mpr m0
  have HV2 : Aside0 (3 = r) := ⟨by have := HV.out; rw [if_pos m0] at this; exact this⟩
  clear m0 HV
  go_enter Try.func41, Try.ntmps41
  go_wp2_with (first
   | ((with_reducible refine gate_dst (N := 2) rfl ?_); refine ev_box HM.out rfl 24 (.tmp 0) rfl (cs := planV W H R A C.length c) rfl ?_; intro gp w1 hm1 hq1; clear hq1; have HM1 := Aside0.mk hm1; clear hm1 HM)
   | ((with_reducible refine gate_dst (N := 6) rfl ?_); refine ev_load HM1.out.head rfl 24 (.tmp 2) rfl rfl _ Try.underlying24 rfl size24 rfl ?_)
   | (go_at_call 39; refine (HCC.out _ HM1.out.below).mono ?_; rintro e w' ⟨rfl, hd⟩; have HM2 := Aside0.mk (HM1.out.step hd); clear hd HM1; have q3 : w'.cell? ⟨gp, 3, none⟩ = some (.slice A C.length c) := (HM2.out.cell 3).trans rfl)
   | (go_at_call 82; refine (HCM.out _ HM2.out.below).mono ?_; rintro e w2 ⟨rfl, hd⟩; have HM3 := Aside0.mk (HM2.out.step hd.below); clear hd q3))
  go_ret
  exact ⟨by rw [← HV2.out]; rfl, HM3.out.below⟩
 have b1 : ((l1.length : Int) != mx) = false := bne_eq_false_iff_eq.mpr m0
 have HV2 : Aside0 ((if ob = true then 2 else 0) = r) := ⟨by have := HV.out; rw [if_neg (by omega)] at this; exact this⟩
 clear m0 HV
 cases ob
 all_goals (
  go_enter Try.func41, Try.ntmps41
  go_wp2_with (first
   | ((with_reducible refine gate_dst (N := 2) rfl ?_); refine ev_box HM.out rfl 24 (.tmp 0) rfl (cs := planV W H R A C.length c) rfl ?_; intro gp w1 hm1 hq1; clear hq1; have HM1 := Aside0.mk hm1; clear hm1 HM)
   | ((with_reducible refine gate_dst (N := 6) rfl ?_); refine ev_load HM1.out.head rfl 24 (.tmp 2) rfl rfl _ Try.underlying24 rfl size24 rfl ?_)
   | (go_at_call 39; refine (HCC.out _ HM1.out.below).mono ?_; rintro e w' ⟨rfl, hd⟩; have HM2 := Aside0.mk (HM1.out.step hd); clear hd HM1; have q3 : w'.cell? ⟨gp, 3, none⟩ = some (.slice A C.length c) := (HM2.out.cell 3).trans rfl)
   | (go_at_call 82; refine (HCM.out _ HM2.out.below).mono ?_; rintro e w2 ⟨rfl, hd⟩; have HM3 := Aside0.mk (HM2.out.step hd.below); clear hd q3)
   | (go_at_call 85; refine (HCF.out _ HM3.out.below).mono ?_; rintro e w3 ⟨rfl, hd⟩; have HM4 := Aside0.mk (HM3.out.step hd.below); clear hd))
  go_ret
  exact ⟨by rw [← HV2.out]; rfl, HM4.out.below⟩)
theorem check_parts {W H : Int} {R : Bool} {C : List Int} (h : checkErr W H R C = 0) : 1 ≤ W ∧ W ≤ 16 ∧ 1 ≤ H ∧ H ≤ 16 ∧ (C.length : Int) = W * H ∧ (∀ e, e ∈ C → 0 ≤ e ∧ e ≤ 6) ∧ (∃ e, e ∈ C ∧ e ≠ 0) ∧ looseB W.toNat H.toNat R C = false := by
 unfold checkErr at h
 by_cases a : W < 1 ∨ 16 < W ∨ H < 1 ∨ 16 < H
 ·rw [if_pos a] at h; omega
 rw [if_neg a] at h
 by_cases b : (C.length : Int) ≠ W * H
 ·rw [if_pos b] at h; omega
 rw [if_neg b] at h
 by_cases d : ∃ e, e ∈ C ∧ (e < 0 ∨ 6 < e)
 ·rw [if_pos d] at h; omega
 rw [if_neg d] at h
 by_cases f : ∀ e, e ∈ C → e = 0
 ·rw [if_pos f] at h; omega
 rw [if_neg f] at h
 by_cases g : looseB W.toNat H.toNat R C = true
 ·rw [if_pos g] at h; omega
 refine ⟨by omega, by omega, by omega, by omega, by omega, fun e he => ?_, ?_, by simpa using g⟩
 ·have : ¬ (e < 0 ∨ 6 < e) := fun q => d ⟨e, he, q⟩
  omega
 ·exact Classical.byContradiction fun q => f (fun e he => Classical.byContradiction fun r => q ⟨e, he, r⟩)
theorem volt_parts {W H : Int} {R : Bool} {C volts : List Int} (h : voltErr W H R C volts = 0) : checkErr W H R C = 0 ∧ (volts.length : Int) = maxOf C ∧ ∀ v, v ∈ volts → -1000000 ≤ v ∧ v ≤ 1000000 := by
 unfold voltErr at h
 by_cases a : checkErr W H R C ≠ 0
 ·rw [if_pos a] at h; exact absurd h a
 rw [if_neg a] at h
 by_cases b : (volts.length : Int) ≠ maxOf C
 ·rw [if_pos b] at h; omega
 rw [if_neg b] at h
 by_cases d : ∃ v, v ∈ volts ∧ (v < -1000000 ∨ 1000000 < v)
 ·rw [if_pos d] at h; omega
 refine ⟨by omega, by omega, fun v hv => ?_⟩
 have : ¬ (v < -1000000 ∨ 1000000 < v) := fun q => d ⟨v, hv, q⟩
 omega
theorem volted_of {W H : Int} {R : Bool} {C volts : List Int} (h : voltErr W H R C volts = 0) :
  ∃ W' H' : Nat, W = W' ∧ H = H' ∧ W' ≤ 16 ∧ H' ≤ 16 ∧ C.length ≤ 256 ∧ checkErr W H R C = 0 ∧ Volted W' H' R C volts := by
 obtain ⟨h1, h2, h3⟩ := volt_parts h
 obtain ⟨a1, a2, a3, a4, a5, a6, a7, a8⟩ := check_parts h1
 obtain ⟨W', rfl⟩ : ∃ W' : Nat, W = W' := ⟨W.toNat, by omega⟩
 obtain ⟨H', rfl⟩ : ∃ H' : Nat, H = H' := ⟨H.toNat, by omega⟩
 have hlen : C.length = W' * H' := by rw [← Int.natCast_mul] at a5; omega
 have h256 : C.length ≤ 256 := by have := Nat.mul_le_mul (show W' ≤ 16 by omega) (show H' ≤ 16 by omega); omega
 rw [Int.toNat_natCast, Int.toNat_natCast] at a8
 refine ⟨W', H', rfl, rfl, by omega, by omega, h256, h1, hlen, ?_, fun i hi => a6 _ (fn_mem hi), fine_of_loose hlen h256 a8, fun i hi => ?_, fun k hk => h3 _ (fn_mem hk)⟩
 ·obtain ⟨e, he, _⟩ := a7
  exact List.length_pos_of_mem he
 ·rw [h2]
  exact le_maxOf (fn_mem hi)
def LowR (W H : Nat) (R : Bool) (C volts : List Int) (b : List Int) : Prop := Low W H R C (volt C volts) 256 b ∧ ∀ j, j < C.length → -1000000 ≤ fn b j
def HighR (W H : Nat) (R : Bool) (C volts : List Int) (b : List Int) : Prop := High W H R C (volt C volts) 256 b ∧ ∀ j, j < C.length → fn b j ≤ 1000000
section
variable {W H : Nat} {R : Bool} {C volts : List Int}
theorem sweep_all (hV : Volted W H R C volts) : ∀ i, i < C.length → ¬ 0 < fn C i → 0 < allOf (nbs W H R i) := fun i hi hv => by
 have hl : i < W * H := by rw [← hV.len]; exact hi
 rw [← net_T (R := R) (C := C) hl]
 exact T_pos hV.fine hl hv
theorem sweepable_low (hV : Volted W H R C volts) (hW : W ≤ 16) (hH : H ≤ 16) {b : List Int} (hb : LowR W H R C volts b) : Sweepable false W H R C b ∧ LowR W H R C volts (sweep false W H R C b).1 := by
 have key : ∀ i, i ≤ C.length → LowR W H R C volts (sweepTo false W H R C b i).1 := fun i hi => by
  obtain ⟨h1, h2⟩ := sweepTo_low hV.fine hV.len hb.1 i hi
  exact ⟨h1, fun j hj => Int.le_trans (hb.2 j hj) (h2 j hj)⟩
 refine ⟨⟨hV.len, hW, hH, hb.1.1.len, sweep_all hV, fun i hi j hj => ⟨(key i hi).2 j hj, ?_⟩⟩, key _ (Nat.le_refl _)⟩
 have h3 := low_le hV (key i hi).1 hj
 have h4 := least_range hV
 omega
theorem sweepable_high (hV : Volted W H R C volts) (hW : W ≤ 16) (hH : H ≤ 16) {b : List Int} (hb : HighR W H R C volts b) : Sweepable true W H R C b ∧ HighR W H R C volts (sweep true W H R C b).1 := by
 have key : ∀ i, i ≤ C.length → HighR W H R C volts (sweepTo true W H R C b i).1 := fun i hi => by
  obtain ⟨h1, h2⟩ := sweepTo_high hV.fine hV.len hb.1 i hi
  exact ⟨h1, fun j hj => Int.le_trans (h2 j hj) (hb.2 j hj)⟩
 refine ⟨⟨hV.len, hW, hH, hb.1.1.len, sweep_all hV, fun i hi j hj => ⟨?_, (key i hi).2 j hj⟩⟩, key _ (Nat.le_refl _)⟩
 have h3 := high_ge hV (key i hi).1 hj
 have h4 := least_range hV
 omega
theorem lowR_laid (hV : Volted W H R C volts) (hN : C.length ≤ 256) : LowR W H R C volts (laid C volts 256 (minOf (onOf C volts))) :=
 ⟨laid_low hV hN, fun j hj => by
  rw [fn_laid hN hj]
  split
  ·rename_i hp; exact (volt_range hV hj hp).1
  ·exact (least_range hV).1⟩
theorem highR_laid (hV : Volted W H R C volts) (hN : C.length ≤ 256) : HighR W H R C volts (laid C volts 256 (maxOf (onOf C volts))) :=
 ⟨laid_high hV hN, fun j hj => by
  rw [fn_laid hN hj]
  split
  ·rename_i hp; exact (volt_range hV hj hp).2
  ·exact (least_range hV).2.2⟩
end
def field_Solve.f (W H : Int) (R : Bool) (C volts : List Int) (n : Int) : Option (List Int × List Int × Int × Bool × Int) :=
 if voltErr W H R C volts ≠ 0 then some ([], [], 0, false, voltErr W H R C volts) else if n < 0 ∨ 200 < n then some ([], [], 0, false, 2) else
  some ((solveN W.toNat H.toNat R C volts 256 n.toNat).1.take C.length, (solveN W.toNat H.toNat R C volts 256 n.toNat).2.1.take C.length, ((solveN W.toNat H.toNat R C volts 256 n.toNat).2.2.1 : Int), (solveN W.toNat H.toNat R C volts 256 n.toNat).2.2.2, 0)
def slices_Clone_int_int.f (l0 : List Int) : Option (List Int) := if l0.length ≤ 1000000 then some l0 else none
theorem slices_Clone_int_int.calls (A0 : Option Addr) (c0 : Nat) (l0 : List Int) (r : List Int) (w : World) (hr0 : Kd.C (Kd.int .i64) w A0 l0.length l0) (hc0 : l0.length ≤ c0) (h : slices_Clone_int_int.f l0 = some r) :
  Calls Try.prog 72 #[.slice A0 l0.length c0] w fun e w' => ∃ v0_ : Value, e = .returned (v0_) ∧ Kd.R (Kd.int .i64) 3 w' w.heap.size (fun _ => True) v0_ r ∧ Below w.heap.size w w' := by
 unfold slices_Clone_int_int.f at h
 by_cases hl : l0.length ≤ 1000000
 rotate_left
 ·rw [if_neg hl] at h; exact absurd h (by simp)
 rw [if_pos hl] at h
 obtain rfl := Option.some.inj h
 have HR := Aside0.mk hr0
 have HL := Aside0.mk hl
 clear h hl
 cases A0 with
 | none =>
  have hz : l0.length = 0 := by
   rcases Nat.eq_zero_or_pos l0.length with q | q
   ·exact q
   ·obtain ⟨ad, e, _⟩ := at_natM hr0 0 q
    cases e
  obtain rfl := List.eq_nil_of_length_eq_zero hz
  clear hr0 hz
  have h0 : ∀ w, (binOp .eql 22 (.slice none 0 c0) (.slice none 0 0)).run Try.prog w = .ok (.bool true) w := fun w => Lib.run_eql_slice_nil w 22 3 none _ _ _ _ Try.underlying22
  go_enter Try.func72, Try.ntmps72
  go_wp2_with fail
  go_ret
  exact ⟨_, rfl, Kd.R_nil _ _ _ _ _, Below.refl _ _⟩
 | some ad =>
  clear hr0
  have h0 : ∀ w, (binOp .eql 22 (.slice (some ad) l0.length c0) (.slice none 0 0)).run Try.prog w = .ok (.bool false) w := fun w => Lib.run_eql_slice_nil w 22 3 (some ad) _ _ _ _ Try.underlying22
  go_enter Try.func72, Try.ntmps72
  have HO : Aside0 (Kd.R (Kd.int .i64) 3 (w.alloc (.cells #[] 3)) w.heap.size (fun _ => True) (.slice (some ⟨w.heap.size, 0, none⟩) 0 0) []) := ⟨Kd.R_of_own ⟨rfl, .inr ⟨w.heap.size, 0, #[], rfl, Nat.le_refl _, blk_new w _, Nat.le_refl _, by unfold maxLen; omega, rfl, rfl⟩⟩ (fun _ _ => trivial)⟩
  have HC2 := Aside0.mk (Kd.C_below HR.out (below_alloc (Below.refl _ _) (.cells #[] 3)))
  have HB2 : Aside0 (Below w.heap.size w (w.alloc (.cells #[] 3))) := ⟨below_alloc (Below.refl _ _) _⟩
  go_wp2_with ((with_reducible refine gate_dst (N := 7) rfl ?_); refine Kd.R_append_row (Value.int .i64) (0 : Int) (h1 := fun _ => rfl) (w0 := w) w.heap.size rfl (.tmp 5) (.tmp 6) 22 3 (.int .i64 0) 8 rfl Try.underlying22 info3 rfl (by omega) _ [] l0 (some ad) l0.length c0 (fun _ => True) rfl rfl (fun _ _ => trivial) HO.out HC2.out HB2.out HB2.out.size (by have := HL.out; simp only [List.length_nil]; omega) ?_; intro v1 w5 hR5 hB5 hg5 hat5; have HR5 := Aside0.mk hR5; have HB5 := Aside0.mk hB5; clear hR5 hB5 hg5 hat5)
  go_ret
  exact ⟨_, rfl, by have := HR5.out; rw [List.nil_append] at this; exact this, HB5.out⟩
end Go.Proofs.Ytndkkjpgnmahbaa.Print
end

section
namespace Go.Proofs.Ytndkkjpgnmahbaa.Print
open Go.RowKit YtndkkjpgnmahbaaW.PrintWords YtndkkjpgnmahbaaW.PrintLast YtndkkjpgnmahbaaW.PrintMore Ytndkkjpgnmahbaa.H Proofs.Field
def solveF.T13 : Bool × List (List Nat × List Nat) := (true, [([], []), ([0], [0]), ([1], [1]), ([2], [2]), ([3], [3]), ([], []), ([5], [5]), ([6], [6]), ([7], [7]), ([8, 4], [8]), ([0, 1, 2, 3, 4], []), ([10, 4, 9, 0, 1, 2, 3, 4], [4, 10]), ([0, 1, 2, 3, 4, 5, 6, 7, 8, 9, 10, 11], []), ([12, 9, 11, 0, 1, 2, 3, 4, 5, 6, 7, 8, 9, 10, 11], [9, 12])])
def solveF.B13 : List Nat := [0, 1, 3, 7, 15, 0, 32, 96, 224, 511, 31, 2047, 4095, 8191]
theorem solveF.tab13 : rtab .any (opsOf Try.f25 13) = solveF.T13 := by kernel_rfl
theorem solveF.bits13 : waitsOk solveF.T13.2 solveF.B13 = true := by kernel_rfl
theorem info33 : (Try.prog.info? 33).map (fun i => (i.zero, i.size, i.bytes)) = some (some (.agg #[.slice none 0 0, .slice none 0 0, .int .i64 0, .bool false]), 4, 64) := by kernel_rfl
theorem size33 : (Try.prog.info? 33).map (·.size) = some 4 := by kernel_rfl
theorem results_row_tmp {P : Program} {fn : Func} {p q : Tmp} {ty : TypeId} (h : fn.results = #[.cell p ty, .tmp q]) (tmps : Array Value) (w : World) (g : Nat) (t : TypeId) (cs : Array Value) (fr : Nat × Nat) (d : TypeDesc)
  (hp : tmps.getD p undef = .pointer (some ⟨g, 0, none⟩)) (hg : w.heap[g]? = some (.cells cs t fr)) (hu : P.underlying ty = some d) (hd : (match d with | .struct _ | .array _ _ => true | _ => false) = true) (hi : (P.info? ty).map (·.size) = some cs.size) :
  (results fn tmps).run P w = .ok (.tuple #[.agg cs, tmps.getD q undef]) w := by
 have e : tmps[p]?.getD undef = .pointer (some ⟨g, 0, none⟩) := by simpa using hp
 simp [results, h, e, asAddr, run_loadVar_row w g t ty cs fr d hg hu hd hi]
theorem take_len {b : List Int} {n : Nat} (hb : b.length = 256) (hn : n ≤ 256) : (b.take n).length = n := by rw [List.length_take]; omega
theorem C_row {V : World} {g : Nat} {b : List Int} {n : Nat} (hV : V.heap[g]? = some (.cells (numsA b) 83 (0, 0))) (hb : b.length = 256) (hn : n ≤ 256) : Kd.C (Kd.int .i64) V (some ⟨g, 0, none⟩) (b.take n).length (b.take n) := by
 refine Kd.C_of_reads (d := (0 : Int)) (h1 := fun _ => rfl) ⟨rfl, by rw [take_len hb hn]; omega, fun _ => ⟨_, rfl, fun j hj => ?_⟩⟩
 rw [take_len hb hn] at hj
 have h1 := (blk_cell hV j).trans (numsA_get (by omega))
 rw [show (⟨g, 0, none⟩ : Addr).add j = ⟨g, j, none⟩ by unfold Addr.add; split <;> simp_all]
 rw [h1]
 unfold fn
 rw [List.getD_eq_getElem?_getD, List.getD_eq_getElem?_getD, List.getElem?_take_of_lt hj]
theorem clone_row {V : World} {g : Nat} {b : List Int} {n : Nat} (hV : V.heap[g]? = some (.cells (numsA b) 83 (0, 0))) (hb : b.length = 256) (hn : n ≤ 256) :
  Calls Try.prog 72 #[.slice (some ⟨g, 0, none⟩) n 256] V fun e w' => ∃ v0_ : Value, e = .returned (v0_) ∧ Kd.R (Kd.int .i64) 3 w' V.heap.size (fun _ => True) v0_ (b.take n) ∧ Below V.heap.size V w' := by
 have h1 := slices_Clone_int_int.calls (some ⟨g, 0, none⟩) 256 (b.take n) (b.take n) V (C_row hV hb hn) (by rw [take_len hb hn]; exact hn) (by unfold slices_Clone_int_int.f; rw [if_pos (by rw [take_len hb hn]; omega)])
 rw [take_len hb hn] at h1
 exact h1
structure SV (w W : World) (gp g6 g9 g10 g11 : Nat) (pv : Array Value) (lo hi : List Int) (k : Nat) (still : Bool) : Prop where
 below : Below w.heap.size w W
 p : W.heap[gp]? = some (.cells pv 24 (0, 0))
 r : W.heap[g6]? = some (.cells #[.slice none 0 0, .slice none 0 0, .int .i64 0, .bool false] 33 (0, 0))
 l : W.heap[g9]? = some (.cells (numsA lo) 83 (0, 0))
 h : W.heap[g10]? = some (.cells (numsA hi) 83 (0, 0))
 f : W.heap[g11]? = some (.cells #[.slice none 0 0, .slice none 0 0, .int .i64 (k : Int), .bool still] 33 (0, 0))
 g60 : w.heap.size ≤ g6
 g90 : w.heap.size ≤ g9
 g100 : w.heap.size ≤ g10
 g110 : w.heap.size ≤ g11
 ne1 : g9 ≠ g10
 ne2 : g11 ≠ g6
namespace SV
variable {w W W1 : World} {gp g6 g9 g10 g11 : Nat} {pv : Array Value} {lo hi : List Int} {k : Nat} {still : Bool}
theorem start (h : Mem w W [(g11, #[.slice none 0 0, .slice none 0 0, .int .i64 0, .bool false], 33), (g10, numsA hi, 83), (g9, numsA lo, 83), (g6, #[.slice none 0 0, .slice none 0 0, .int .i64 0, .bool false], 33), (gp, pv, 24)]) : SV w W gp g6 g9 g10 g11 pv lo hi 0 false :=
 ⟨h.below, h.blk (gp, pv, 24) (by simp), h.blk (g6, #[.slice none 0 0, .slice none 0 0, .int .i64 0, .bool false], 33) (by simp), h.third, h.second, h.head, h.ge (g6, #[.slice none 0 0, .slice none 0 0, .int .i64 0, .bool false], 33) (by simp), h.drop.drop.geh, h.drop.geh, h.geh, (h.drop.ne _ List.mem_cons_self).symm, h.ne (g6, #[.slice none 0 0, .slice none 0 0, .int .i64 0, .bool false], 33) (by simp)⟩
theorem step (h : SV w W gp g6 g9 g10 g11 pv lo hi k still) (hb : Below W.heap.size W W1) : SV w W1 gp g6 g9 g10 g11 pv lo hi k still :=
 ⟨below_step h.below hb, blk_below h.p hb, blk_below h.r hb, blk_below h.l hb, blk_below h.h hb, blk_below h.f hb, h.g60, h.g90, h.g100, h.g110, h.ne1, h.ne2⟩
theorem below_grown {w W W1 : World} {g : Nat} (h : Below w.heap.size w W) (hg : W.grownBy W1 (some g)) (hw : w.heap.size ≤ g) : Below w.heap.size w W1 :=
 ⟨hg.os.trans h.os, hg.tape.trans h.tape, hg.output.trans h.output, Nat.le_trans h.size hg.size, fun i hi => (hg.block i (by have := h.size; omega) (fun e => by injection e with e; omega)).trans (h.block i hi)⟩
theorem low (h : SV w W gp g6 g9 g10 g11 pv lo hi k still) {lo' : List Int} (hg : W.grownBy W1 (some g9)) (hl : W1.heap[g9]? = some (.cells (numsA lo') 83 (0, 0))) : SV w W1 gp g6 g9 g10 g11 pv lo' hi k still :=
 ⟨below_grown h.below hg h.g90, blk_grown h.p hg (fun e => blk_ne h.p h.l (by decide) (Option.some.inj e)), blk_grown h.r hg (fun e => blk_ne h.r h.l (by decide) (Option.some.inj e)), hl, blk_grown h.h hg (fun e => h.ne1 (Option.some.inj e).symm), blk_grown h.f hg (fun e => blk_ne h.f h.l (by decide) (Option.some.inj e)), h.g60, h.g90, h.g100, h.g110, h.ne1, h.ne2⟩
theorem high (h : SV w W gp g6 g9 g10 g11 pv lo hi k still) {hi' : List Int} (hg : W.grownBy W1 (some g10)) (hl : W1.heap[g10]? = some (.cells (numsA hi') 83 (0, 0))) : SV w W1 gp g6 g9 g10 g11 pv lo hi' k still :=
 ⟨below_grown h.below hg h.g100, blk_grown h.p hg (fun e => blk_ne h.p h.h (by decide) (Option.some.inj e)), blk_grown h.r hg (fun e => blk_ne h.r h.h (by decide) (Option.some.inj e)), blk_grown h.l hg (fun e => h.ne1 (Option.some.inj e)), hl, blk_grown h.f hg (fun e => blk_ne h.f h.h (by decide) (Option.some.inj e)), h.g60, h.g90, h.g100, h.g110, h.ne1, h.ne2⟩
theorem puts (h : SV w W gp g6 g9 g10 g11 pv lo hi k still) (s : Bool) : SV w (W.setCell ⟨g11, 3, none⟩ (.bool s)) gp g6 g9 g10 g11 pv lo hi k s :=
 ⟨below_set h.below h.g110, blk_far h.p (p := ⟨g11, 3, none⟩) (blk_ne h.p h.f (by decide)) _, blk_far h.r (p := ⟨g11, 3, none⟩) h.ne2.symm _, blk_far h.l (p := ⟨g11, 3, none⟩) (blk_ne h.l h.f (by decide)) _, blk_far h.h (p := ⟨g11, 3, none⟩) (blk_ne h.h h.f (by decide)) _, by rw [blk_set h.f 3]; rfl, h.g60, h.g90, h.g100, h.g110, h.ne1, h.ne2⟩
theorem putk (h : SV w W gp g6 g9 g10 g11 pv lo hi k still) : SV w (W.setCell ⟨g11, 2, none⟩ (.int .i64 ((k : Int) + 1))) gp g6 g9 g10 g11 pv lo hi (k + 1) still :=
 ⟨below_set h.below h.g110, blk_far h.p (p := ⟨g11, 2, none⟩) (blk_ne h.p h.f (by decide)) _, blk_far h.r (p := ⟨g11, 2, none⟩) h.ne2.symm _, blk_far h.l (p := ⟨g11, 2, none⟩) (blk_ne h.l h.f (by decide)) _, blk_far h.h (p := ⟨g11, 2, none⟩) (blk_ne h.h h.f (by decide)) _, by rw [blk_set h.f 2]; rfl, h.g60, h.g90, h.g100, h.g110, h.ne1, h.ne2⟩
end SV
theorem solve_end {w wd wc1 wc2 : World} {gp g6 g9 g10 g11 : Nat} {pv : Array Value} {lo hi xs ys : List Int} {k : Nat} {still : Bool} {v9 v10 : Value} (h : SV w wc2 gp g6 g9 g10 g11 pv lo hi k still)
  (r9 : Kd.R (Kd.int .i64) 3 wc1 wd.heap.size (fun _ => True) v9 xs) (r10 : Kd.R (Kd.int .i64) 3 wc2 wc1.heap.size (fun _ => True) v10 ys) (hb2 : Below wc1.heap.size wc1 wc2) (hwd : w.heap.size ≤ wd.heap.size) (hb1 : Below wd.heap.size wd wc1) :
  ((wc2.setCell ⟨g11, 0, none⟩ v9).setCell ⟨g11, 1, none⟩ v10).heap[g11]? = some (.cells #[v9, v10, .int .i64 (k : Int), .bool still] 33 (0, 0)) ∧
  ((wc2.setCell ⟨g11, 0, none⟩ v9).setCell ⟨g11, 1, none⟩ v10).heap[g6]? = some (.cells #[.slice none 0 0, .slice none 0 0, .int .i64 0, .bool false] 33 (0, 0)) ∧
  ∀ cs : Array Value, Kd.R (Kd.int .i64) 3 (((wc2.setCell ⟨g11, 0, none⟩ v9).setCell ⟨g11, 1, none⟩ v10).setRow g6 cs) w.heap.size (fun k_ => some k_ ≠ v10.ownBlock) v9 xs ∧ Kd.R (Kd.int .i64) 3 (((wc2.setCell ⟨g11, 0, none⟩ v9).setCell ⟨g11, 1, none⟩ v10).setRow g6 cs) w.heap.size (fun k_ => some k_ ≠ v9.ownBlock) v10 ys ∧ Below w.heap.size w (((wc2.setCell ⟨g11, 0, none⟩ v9).setCell ⟨g11, 1, none⟩ v10).setRow g6 cs) := by
 have a9 := Kd.R_elder' (Kd.R_lower r9 hwd) (Kd.R_base r10) hb2
 have a10 := Kd.R_lower (Kd.R_new' r10 (Kd.R_lt r9)) (Nat.le_trans hwd hb1.size)
 have e1 : (wc2.setCell ⟨g11, 0, none⟩ v9).heap[g11]? = some (.cells #[v9, .slice none 0 0, .int .i64 (k : Int), .bool still] 33 (0, 0)) := by rw [blk_set h.f 0]; rfl
 have e2 : ((wc2.setCell ⟨g11, 0, none⟩ v9).setCell ⟨g11, 1, none⟩ v10).heap[g11]? = some (.cells #[v9, v10, .int .i64 (k : Int), .bool still] 33 (0, 0)) := by rw [blk_set e1 1]; rfl
 have e3 : ((wc2.setCell ⟨g11, 0, none⟩ v9).setCell ⟨g11, 1, none⟩ v10).heap[g6]? = some (.cells #[.slice none 0 0, .slice none 0 0, .int .i64 0, .bool false] 33 (0, 0)) := blk_far (p := ⟨g11, 1, none⟩) (blk_far (p := ⟨g11, 0, none⟩) h.r h.ne2.symm _) h.ne2.symm _
 have b9 := Kd.R_set (Kd.R_set a9 h.f (by decide) 0 v9) e1 (by decide) 1 v10
 have b10 := Kd.R_set (Kd.R_set a10 h.f (by decide) 0 v9) e1 (by decide) 1 v10
 refine ⟨e2, e3, fun cs => ⟨?_, ?_, ?_⟩⟩
 ·exact Kd.R_mono (Kd.R_step (Kd.R_types b9 e3 (by decide)) (fun k hk _ => setRow_other _ _ _ _ hk.2)) (fun k hk => hk.1.2)
 ·exact Kd.R_mono (Kd.R_step (Kd.R_types b10 e3 (by decide)) (fun k hk _ => setRow_other _ _ _ _ hk.2)) (fun k hk => hk.1.2)
 ·have hb := below_set (below_set h.below h.g110 (v := v9) (j := 0)) h.g110 (v := v10) (j := 1)
  exact ⟨hb.os, hb.tape, hb.output, by rw [size_setRow]; exact hb.size, fun i hi => by rw [setRow_other _ g6 i _ (by have := h.g60; omega)]; exact hb.block i hi⟩
section
variable {P : Program} {ops : Array Oper} {rest : List Oper} {o : Oper} {a : Act} {Q : Exit → Act → World → Prop} {W : World}
theorem ev_storeB {g : Nat} {old cs : Array Value} {t : TypeId} (hb : W.heap[g]? = some (.cells old t (0, 0))) (hgd : o.guard = none) (ty : TypeId) (x y : Operand) (ho : o.op = .store ty x y)
  (hx : a.eval x = .pointer (some ⟨g, 0, none⟩)) (hy : a.eval y = .agg cs) {n : Nat} (hi : (P.info? ty).map (·.size) = some n) (hold : old.size = n) (hs : cs.size = n) (h1 : cs.all (·.oneCell') = true)
  (h : wpList P ops Q rest (a.put o.dst undef) (W.setRow g cs)) : wpList P ops Q (o :: rest) a W :=
 wpList_plain hgd fun _ hK => wp_store_row ty x y ho g cs hx hy t old hb (by rw [hi, hs]) (by rw [hold, hs]) h1 (hK _ _ h)
end
theorem field_Solve.calls (W H : Int) (R : Bool) (A : Option Addr) (c : Nat) (C : List Int) (A1 : Option Addr) (c1 : Nat) (volts : List Int) (a2 : Int) (r1 : List Int) (r2 : List Int) (r3 : Int) (r4 : Bool) (r5 : Int) (w : World) (hr : Kd.C (Kd.int .i64) w A C.length C) (hc : C.length ≤ c) (hr1 : Kd.C (Kd.int .i64) w A1 volts.length volts) (hc1 : volts.length ≤ c1)
  (h : field_Solve.f W H R C volts a2 = some (r1, r2, r3, r4, r5)) :
  Calls Try.prog 25 #[.agg (planV W H R A C.length c), .slice A1 volts.length c1, .int .i64 a2] w fun e w' => ∃ v0_ v1_ : Value, e = .returned (.tuple #[.agg #[v0_, v1_, .int .i64 r3, .bool r4], .int .i64 r5]) ∧ Kd.R (Kd.int .i64) 3 w' w.heap.size (fun k_ => some k_ ≠ (v1_ : Value).ownBlock) v0_ r1 ∧ Kd.R (Kd.int .i64) 3 w' w.heap.size (fun k_ => some k_ ≠ (v0_ : Value).ownBlock) v1_ r2 ∧ Below w.heap.size w w' := by
 have HR := Aside0.mk hr
 have HC := Aside0.mk hc
 have HR1 := Aside0.mk hr1
 have HC1 := Aside0.mk hc1
 have HM := Aside0.mk (Mem.start w)
 have hu24 := Try.underlying24
 have hu22 := Try.underlying22
 have hu83 := Try.underlying83
 have hu33 := Try.underlying33
 have hu87 := Try.underlying87
 clear hr hc hr1 hc1
 unfold field_Solve.f at h
 by_cases g0 : voltErr W H R C volts ≠ 0
 ·rw [if_pos g0] at h
  simp only [Option.some.injEq, Prod.mk.injEq] at h
  obtain ⟨rfl, rfl, rfl, rfl, h5⟩ := h
  rw [h5] at g0
  have HE : Aside0 (field_CheckVolts.f W H R C volts = some r5) := ⟨by unfold field_CheckVolts.f; rw [h5]⟩
  have g1 : (r5 != 0) = true := bne_iff_ne.mpr g0
  clear g0 h5
  go_enter Try.func25, Try.ntmps25
  go_wp2_with (first
   | ((with_reducible refine gate_dst (N := 3) rfl ?_); refine ev_box HM.out rfl 24 (.tmp 0) rfl (cs := planV W H R A C.length c) rfl ?_; intro gp w1 hm1 hq1; clear hq1; have HM1 := Aside0.mk hm1; clear hm1 HM)
   | ((with_reducible refine gate_dst (N := 6) rfl ?_); refine ev_new HM1.out rfl 33 rfl info33 ?_; intro g6 w2 hm2 hq2; clear hq2; have HM2 := Aside0.mk hm2; clear hm2 HM1)
   | ((with_reducible refine gate_dst (N := 14) rfl ?_); refine ev_load HM2.out.second rfl 24 (.tmp 3) rfl rfl _ Try.underlying24 rfl size24 rfl ?_)
   | (go_at_call 41; refine (field_CheckVolts.calls W H R A c C A1 c1 volts _ _ (Kd.C_below HR.out HM2.out.below) HC.out (Kd.C_below HR1.out HM2.out.below) HC1.out HE.out).mono ?_; rintro e w3 ⟨rfl, hb3⟩; have HM3 := Aside0.mk (HM2.out.step hb3); clear hb3 HM2)
   | ((with_reducible refine gate_store (t := 33) (p := 6) rfl ?_); refine ev_store HM3.out rfl 33 (.tmp 6) (.tmp 19) rfl rfl (cs := #[.slice none 0 0, .slice none 0 0, .int .i64 0, .bool false]) rfl size33 rfl rfl (by simp [Value.oneCell']) ?_; intro w4 hm4 hq4; clear hq4; have HM4 := Aside0.mk hm4; clear hm4 HM3))
  (try simp only [Exit.inBlock, Exit.then])
  exact bodyPost_ret (results_row_tmp rfl _ _ g6 33 _ (0, 0) _ rfl HM4.out.head hu33 rfl (by rw [size33]; rfl)) rfl ⟨.slice none 0 0, .slice none 0 0, rfl, Kd.R_nil _ _ _ _ _, Kd.R_nil _ _ _ _ _, HM4.out.below⟩
 rw [if_neg g0] at h
 have g0' : voltErr W H R C volts = 0 := Classical.byContradiction fun q => g0 q
 have HE : Aside0 (field_CheckVolts.f W H R C volts = some 0) := ⟨by unfold field_CheckVolts.f; rw [g0']⟩
 by_cases g2 : a2 < 0 ∨ 200 < a2
 ·rw [if_pos g2] at h
  simp only [Option.some.injEq, Prod.mk.injEq] at h
  obtain ⟨rfl, rfl, rfl, rfl, rfl⟩ := h
  clear g0 g0'
  by_cases g3 : a2 < 0
  ·have b1 := decide_eq_true g3
   clear g2 g3
   go_enter Try.func25, Try.ntmps25
   go_wp2_with (first
   | ((with_reducible refine gate_dst (N := 3) rfl ?_); refine ev_box HM.out rfl 24 (.tmp 0) rfl (cs := planV W H R A C.length c) rfl ?_; intro gp w1 hm1 hq1; clear hq1; have HM1 := Aside0.mk hm1; clear hm1 HM)
   | ((with_reducible refine gate_dst (N := 6) rfl ?_); refine ev_new HM1.out rfl 33 rfl info33 ?_; intro g6 w2 hm2 hq2; clear hq2; have HM2 := Aside0.mk hm2; clear hm2 HM1)
   | ((with_reducible refine gate_dst (N := 14) rfl ?_); refine ev_load HM2.out.second rfl 24 (.tmp 3) rfl rfl _ Try.underlying24 rfl size24 rfl ?_)
   | (go_at_call 41; refine (field_CheckVolts.calls W H R A c C A1 c1 volts _ _ (Kd.C_below HR.out HM2.out.below) HC.out (Kd.C_below HR1.out HM2.out.below) HC1.out HE.out).mono ?_; rintro e w3 ⟨rfl, hb3⟩; have HM3 := Aside0.mk (HM2.out.step hb3); clear hb3 HM2)
   | ((with_reducible refine gate_store (t := 33) (p := 6) rfl ?_); refine ev_store HM3.out rfl 33 (.tmp 6) (.tmp 27) rfl rfl (cs := #[.slice none 0 0, .slice none 0 0, .int .i64 0, .bool false]) rfl size33 rfl rfl (by simp [Value.oneCell']) ?_; intro w4 hm4 hq4; clear hq4; have HM4 := Aside0.mk hm4; clear hm4 HM3))
   (try simp only [Exit.inBlock, Exit.then])
   exact bodyPost_ret (results_row_tmp rfl _ _ g6 33 _ (0, 0) _ rfl HM4.out.head hu33 rfl (by rw [size33]; rfl)) rfl ⟨.slice none 0 0, .slice none 0 0, rfl, Kd.R_nil _ _ _ _ _, Kd.R_nil _ _ _ _ _, HM4.out.below⟩
  ·have b1 := decide_eq_false g3
   have b2 : decide (a2 > 200) = true := decide_eq_true (by omega)
   clear g2 g3
   go_enter Try.func25, Try.ntmps25
   go_wp2_with (first
   | ((with_reducible refine gate_dst (N := 3) rfl ?_); refine ev_box HM.out rfl 24 (.tmp 0) rfl (cs := planV W H R A C.length c) rfl ?_; intro gp w1 hm1 hq1; clear hq1; have HM1 := Aside0.mk hm1; clear hm1 HM)
   | ((with_reducible refine gate_dst (N := 6) rfl ?_); refine ev_new HM1.out rfl 33 rfl info33 ?_; intro g6 w2 hm2 hq2; clear hq2; have HM2 := Aside0.mk hm2; clear hm2 HM1)
   | ((with_reducible refine gate_dst (N := 14) rfl ?_); refine ev_load HM2.out.second rfl 24 (.tmp 3) rfl rfl _ Try.underlying24 rfl size24 rfl ?_)
   | (go_at_call 41; refine (field_CheckVolts.calls W H R A c C A1 c1 volts _ _ (Kd.C_below HR.out HM2.out.below) HC.out (Kd.C_below HR1.out HM2.out.below) HC1.out HE.out).mono ?_; rintro e w3 ⟨rfl, hb3⟩; have HM3 := Aside0.mk (HM2.out.step hb3); clear hb3 HM2)
   | ((with_reducible refine gate_store (t := 33) (p := 6) rfl ?_); refine ev_store HM3.out rfl 33 (.tmp 6) (.tmp 27) rfl rfl (cs := #[.slice none 0 0, .slice none 0 0, .int .i64 0, .bool false]) rfl size33 rfl rfl (by simp [Value.oneCell']) ?_; intro w4 hm4 hq4; clear hq4; have HM4 := Aside0.mk hm4; clear hm4 HM3))
   (try simp only [Exit.inBlock, Exit.then])
   exact bodyPost_ret (results_row_tmp rfl _ _ g6 33 _ (0, 0) _ rfl HM4.out.head hu33 rfl (by rw [size33]; rfl)) rfl ⟨.slice none 0 0, .slice none 0 0, rfl, Kd.R_nil _ _ _ _ _, Kd.R_nil _ _ _ _ _, HM4.out.below⟩
 rw [if_neg g2] at h
 obtain ⟨W', H', rfl, rfl, hW, hH, hN, hCE, hV⟩ := volted_of g0'
 obtain ⟨N, rfl⟩ : ∃ N : Nat, a2 = N := ⟨a2.toNat, by omega⟩
 rw [Int.toNat_natCast, Int.toNat_natCast, Int.toNat_natCast] at h
 have HF : Aside0 ((solveN W' H' R C volts 256 N).1.take C.length = r1 ∧ (solveN W' H' R C volts 256 N).2.1.take C.length = r2 ∧ ((solveN W' H' R C volts 256 N).2.2.1 : Int) = r3 ∧ (solveN W' H' R C volts 256 N).2.2.2 = r4 ∧ (0 : Int) = r5) := ⟨by simpa only [Option.some.injEq, Prod.mk.injEq] using h⟩
 have b1 : decide ((N : Int) < 0) = false := decide_eq_false (by omega)
 have b2 : decide ((N : Int) > 200) = false := decide_eq_false (by omega)
 have HV := Aside0.mk hV
 have HWH := Aside0.mk (And.intro hW (And.intro hH (And.intro hN hCE)))
 have HN2 : Aside0 (N ≤ 200) := ⟨by omega⟩
 have HL0 := Aside0.mk (lowR_laid hV hN)
 have HH0 := Aside0.mk (highR_laid hV hN)
 have HSS : Aside0 (solveN W' H' R C volts 256 N = sweeps W' H' R C N (laid C volts 256 (minOf (onOf C volts))) (laid C volts 256 (maxOf (onOf C volts))) 0 false) := ⟨rfl⟩
 have z1 : (numsA (laid C volts 256 (minOf (onOf C volts)))).size = 256 := size_nums (laid_length _ _)
 have z2 : (numsA (laid C volts 256 (maxOf (onOf C volts)))).size = 256 := size_nums (laid_length _ _)
 have o1 : (numsA (laid C volts 256 (minOf (onOf C volts)))).all (·.oneCell') = true := one_nums _
 have o2 : (numsA (laid C volts 256 (maxOf (onOf C volts)))).all (·.oneCell') = true := one_nums _
 have HBG : Aside0 (∀ (W : World), Below w.heap.size w W → Calls Try.prog 68 #[.agg (planV W' H' R A C.length c), .slice A1 volts.length c1] W fun e w' => e = .returned (.tuple #[.agg (numsA (laid C volts 256 (minOf (onOf C volts)))), .agg (numsA (laid C volts 256 (maxOf (onOf C volts))))]) ∧ Below W.heap.size W w') := ⟨fun V hb => begin_calls W' H' R A c C A1 c1 volts V (Kd.C_below HR.out hb) HC.out (Kd.C_below HR1.out hb) hN hV hCE⟩
 generalize laid C volts 256 (minOf (onOf C volts)) = lo0 at HL0 HSS z1 o1 HBG
 generalize laid C volts 256 (maxOf (onOf C volts)) = hi0 at HH0 HSS z2 o2 HBG
 have HZ := Aside0.mk (And.intro z1 (And.intro z2 (And.intro o1 o2)))
 clear z1 z2 o1 o2 hW hH hN hCE hV g0 g0' g2 h
 go_enter Try.func25, Try.ntmps25
 go_wp2_with (first
   | ((with_reducible refine gate_dst (N := 3) rfl ?_); refine ev_box HM.out rfl 24 (.tmp 0) rfl (cs := planV (W' : Int) (H' : Int) R A C.length c) rfl ?_; intro gp w1 hm1 hq1; clear hq1; have HM1 := Aside0.mk hm1; clear hm1 HM)
   | ((with_reducible refine gate_dst (N := 6) rfl ?_); refine ev_new HM1.out rfl 33 rfl info33 ?_; intro g6 w2 hm2 hq2; clear hq2; have HM2 := Aside0.mk hm2; clear hm2 HM1)
   | ((with_reducible refine gate_dst (N := 14) rfl ?_); refine ev_load HM2.out.second rfl 24 (.tmp 3) rfl rfl _ Try.underlying24 rfl size24 rfl ?_)
   | (go_at_call 41; refine (field_CheckVolts.calls (W' : Int) (H' : Int) R A c C A1 c1 volts _ _ (Kd.C_below HR.out HM2.out.below) HC.out (Kd.C_below HR1.out HM2.out.below) HC1.out HE.out).mono ?_; rintro e w3 ⟨rfl, hb3⟩; have HM3 := Aside0.mk (HM2.out.step hb3); clear hb3 HM2)
   | ((with_reducible refine gate_dst (N := 29) rfl ?_); refine ev_load HM3.out.second rfl 24 (.tmp 3) rfl rfl _ Try.underlying24 rfl size24 rfl ?_)
   | (go_at_call 68; refine (HBG.out _ HM3.out.below).mono ?_; rintro e w4 ⟨rfl, hb4⟩; have HM4 := Aside0.mk (HM3.out.step hb4); clear hb4 HM3)
   | ((with_reducible refine gate_dst (N := 9) rfl ?_); refine ev_new HM4.out rfl 83 rfl info83 ?_; intro g9 w5 hm5 hq5; clear hq5; have HM5 := Aside0.mk hm5; clear hm5 HM4)
   | ((with_reducible refine gate_dst (N := 10) rfl ?_); refine ev_new HM5.out rfl 83 rfl info83 ?_; intro g10 w6 hm6 hq6; clear hq6; have HM6 := Aside0.mk hm6; clear hm6 HM5)
   | ((with_reducible refine gate_store (t := 83) (p := 9) rfl ?_); refine ev_store HM6.out.swap rfl 83 (.tmp 9) (.tmp 32) rfl rfl (cs := numsA lo0) rfl size83 (by rw [List.size_toArray, List.length_replicate]) HZ.out.1 HZ.out.2.2.1 ?_; intro w7 hm7 hq7; clear hq7; have HM7 := Aside0.mk hm7; clear hm7 HM6)
   | ((with_reducible refine gate_store (t := 83) (p := 10) rfl ?_); refine ev_store HM7.out.swap rfl 83 (.tmp 10) (.tmp 33) rfl rfl (cs := numsA hi0) rfl size83 (by rw [List.size_toArray, List.length_replicate]) HZ.out.2.1 HZ.out.2.2.2 ?_; intro w8 hm8 hq8; clear hq8; have HM8 := Aside0.mk hm8; clear hm8 HM7)
   | ((with_reducible refine gate_dst (N := 11) rfl ?_); refine ev_new HM8.out rfl 33 rfl info33 ?_; intro g11 w9 hm9 hq9; clear hq9; have HM9 := Aside0.mk hm9; clear hm9 HM8))
 have HS0 := Aside0.mk (SV.start HM9.out)
 clear HM9
 have HAB : Aside0 (∀ ad, A = some ad → ad.block < w.heap.size) := ⟨fun ad e => by
  obtain ⟨ad', e', hx⟩ := at_natM HR.out 0 HV.out.pos
  obtain rfl : ad = ad' := by rw [e] at e'; exact Option.some.inj e'
  have h1 := World.block_lt_of_cell? _ _ hx
  rw [show (ad.add 0).block = ad.block by unfold Addr.add; split <;> rfl] at h1
  exact h1⟩
 simp only [Act.put, List.setIfInBounds_toArray, List.set_cons_zero, List.set_cons_succ]
 go_loopg [12] N (fun kk v12 w' => ∃ (k : Nat) (lo hi : List Int) (still : Bool), Aside0 (SV w w' gp g6 g9 g10 g11 (planV (W' : Int) (H' : Int) R A C.length c) lo hi k still) ∧ Aside0 (k + kk = N) ∧ Aside0 (sweeps W' H' R C (N - k) lo hi k still = solveN W' H' R C volts 256 N) ∧ Aside0 (LowR W' H' R C volts lo ∧ HighR W' H' R C volts hi))
 case atStart => exact ⟨0, lo0, hi0, false, HS0, ⟨by omega⟩, ⟨HSS.out.symm⟩, ⟨HL0.out, HH0.out⟩⟩
 case round =>
  clear HS0 HSS HL0 HH0 HZ HBG HE b1 b2 HR1 HC1
  obtain ⟨k, lo, hi, still, HS, HK, HSW, HLH⟩ := hrel
  have c2 : wr.cell? ⟨g11, 2, none⟩ = some (.int .i64 (k : Int)) := (blk_cell HS.out.f 2).trans rfl
  have c3 : wr.cell? ⟨g11, 3, none⟩ = some (.bool still) := (blk_cell HS.out.f 3).trans rfl
  by_cases hk : k < N
  ·have h1 : decide (k < N) = true := decide_eq_true hk
   cases still
   ·have HN1 : Aside0 (sweeps W' H' R C (N - (k + 1)) (sweep false W' H' R C lo).1 (sweep true W' H' R C hi).1 (k + 1) (!(sweep false W' H' R C lo).2 && !(sweep true W' H' R C hi).2) = solveN W' H' R C volts 256 N) := ⟨by
     have h2 := HSW.out
     rw [show N - k = (N - (k + 1)) + 1 by omega, sweeps, if_neg (by simp)] at h2
     exact h2⟩
    obtain ⟨sl, hl2⟩ := sweepable_low HV.out HWH.out.1 HWH.out.2.1 HLH.out.1
    obtain ⟨sh, hh2⟩ := sweepable_high HV.out HWH.out.1 HWH.out.2.1 HLH.out.2
    have HLH2 := Aside0.mk (And.intro hl2 hh2)
    have HSA := Aside0.mk sl
    have HSB := Aside0.mk sh
    have HKN : Aside0 (k < N) := ⟨hk⟩
    have n1 : IntKind.i64.wrap ((k : Int) + 1) = (k : Int) + 1 := IntWalk.i64_in _ (by have := HN2.out; omega)
    clear sl sh hl2 hh2 hk HSW HLH
    obtain ⟨lo1, hlo⟩ : ∃ x, (sweep false W' H' R C lo).1 = x := ⟨_, rfl⟩
    obtain ⟨s1, hs1⟩ : ∃ x, (sweep false W' H' R C lo).2 = x := ⟨_, rfl⟩
    obtain ⟨hi1, hhi⟩ : ∃ x, (sweep true W' H' R C hi).1 = x := ⟨_, rfl⟩
    obtain ⟨s2, hs2⟩ : ∃ x, (sweep true W' H' R C hi).2 = x := ⟨_, rfl⟩
    rw [hlo, hs1, hhi, hs2] at HN1
    rw [hlo, hhi] at HLH2
    have HEQ := Aside0.mk (And.intro hlo (And.intro hs1 (And.intro hhi hs2)))
    clear hlo hs1 hhi hs2
    have HTL : Aside0 (∀ V : World, SV w V gp g6 g9 g10 g11 (planV (W' : Int) (H' : Int) R A C.length c) lo hi k false → Calls Try.prog 70 #[.agg (sweeperV W' H' R A C.length c 69), .pointer (some ⟨g9, 0, none⟩)] V fun e w' => e = .returned (.bool s1) ∧ SV w w' gp g6 g9 g10 g11 (planV (W' : Int) (H' : Int) R A C.length c) lo1 hi k false) := ⟨fun V hv =>
     (sweep_calls false 69 rfl W' H' R A c C g9 lo V (Kd.C_below HR.out hv.below) (fun ad e => by have h3 := HAB.out ad e; have h4 := hv.g90; omega) HSA.out hv.l).mono (by
      rintro e w' ⟨rfl, h3, h4⟩
      rw [HEQ.out.2.1]
      rw [HEQ.out.1] at h3
      exact ⟨rfl, hv.low h4 h3⟩)⟩
    have HTH : Aside0 (∀ V : World, SV w V gp g6 g9 g10 g11 (planV (W' : Int) (H' : Int) R A C.length c) lo1 hi k false → Calls Try.prog 70 #[.agg (sweeperV W' H' R A C.length c 71), .pointer (some ⟨g10, 0, none⟩)] V fun e w' => e = .returned (.bool s2) ∧ SV w w' gp g6 g9 g10 g11 (planV (W' : Int) (H' : Int) R A C.length c) lo1 hi1 k false) := ⟨fun V hv =>
     (sweep_calls true 71 rfl W' H' R A c C g10 hi V (Kd.C_below HR.out hv.below) (fun ad e => by have h3 := HAB.out ad e; have h4 := hv.g100; omega) HSB.out hv.h).mono (by
      rintro e w' ⟨rfl, h3, h4⟩
      rw [HEQ.out.2.2.2]
      rw [HEQ.out.2.2.1] at h3
      exact ⟨rfl, hv.high h4 h3⟩)⟩
    clear HSA HSB HEQ
    cases s1
    ·go_wp2_with (first
      | ((with_reducible refine gate_dst (N := 43) rfl ?_); refine ev_load HS.out.p rfl 24 (.tmp 3) rfl rfl _ Try.underlying24 rfl size24 rfl ?_)
      | (go_at_call 70; refine (HTL.out _ (HS.out.step (by repeat (first | exact Below.refl _ _ | apply below_alloc | apply pw_below_drewN | apply below_drew1)))).mono ?_; rintro e w4 ⟨rfl, hv4⟩; have HS4 := Aside0.mk hv4; clear hv4 HTL HS c2 c3)
      | ((with_reducible refine gate_dst (N := 46) rfl ?_); refine ev_load HS4.out.p rfl 24 (.tmp 3) rfl rfl _ Try.underlying24 rfl size24 rfl ?_)
      | (go_at_call 70; refine (HTH.out _ (HS4.out.step (by repeat (first | exact Below.refl _ _ | apply below_alloc | apply pw_below_drewN | apply below_drew1)))).mono ?_; rintro e w5 ⟨rfl, hv5⟩; have HS5 := Aside0.mk hv5; clear hv5 HTH HS4; have c4 : w5.cell? ⟨g11, 2, none⟩ = some (.int .i64 (k : Int)) := (blk_cell HS5.out.f 2).trans rfl; have c5 : w5.cell? ⟨g11, 3, none⟩ = some (.bool false) := (blk_cell HS5.out.f 3).trans rfl; have f5 : w5.frozen? ⟨g11, 3, none⟩ = false := blk_frozen HS5.out.f 3; have f4 : w5.frozen? ⟨g11, 2, none⟩ = false := blk_frozen HS5.out.f 2))
     have HS6 := Aside0.mk ((HS5.out.puts (!s2)).putk)
     go_roundg (N - (k + 1))
     case measure => have := HKN.out; have := HK.out; omega
     case rel => exact ⟨k + 1, lo1, hi1, _, HS6, ⟨by have := HKN.out; omega⟩, HN1, HLH2⟩
    ·go_wp2_with (first
      | ((with_reducible refine gate_dst (N := 43) rfl ?_); refine ev_load HS.out.p rfl 24 (.tmp 3) rfl rfl _ Try.underlying24 rfl size24 rfl ?_)
      | (go_at_call 70; refine (HTL.out _ (HS.out.step (by repeat (first | exact Below.refl _ _ | apply below_alloc | apply pw_below_drewN | apply below_drew1)))).mono ?_; rintro e w4 ⟨rfl, hv4⟩; have HS4 := Aside0.mk hv4; clear hv4 HTL HS c2 c3)
      | ((with_reducible refine gate_dst (N := 46) rfl ?_); refine ev_load HS4.out.p rfl 24 (.tmp 3) rfl rfl _ Try.underlying24 rfl size24 rfl ?_)
      | (go_at_call 70; refine (HTH.out _ (HS4.out.step (by repeat (first | exact Below.refl _ _ | apply below_alloc | apply pw_below_drewN | apply below_drew1)))).mono ?_; rintro e w5 ⟨rfl, hv5⟩; have HS5 := Aside0.mk hv5; clear hv5 HTH HS4; have c4 : w5.cell? ⟨g11, 2, none⟩ = some (.int .i64 (k : Int)) := (blk_cell HS5.out.f 2).trans rfl; have c5 : w5.cell? ⟨g11, 3, none⟩ = some (.bool false) := (blk_cell HS5.out.f 3).trans rfl; have f5 : w5.frozen? ⟨g11, 3, none⟩ = false := blk_frozen HS5.out.f 3; have f4 : w5.frozen? ⟨g11, 2, none⟩ = false := blk_frozen HS5.out.f 2))
     have HS6 := Aside0.mk ((HS5.out.puts (false)).putk)
     go_roundg (N - (k + 1))
     case measure => have := HKN.out; have := HK.out; omega
     case rel => exact ⟨k + 1, lo1, hi1, _, HS6, ⟨by have := HKN.out; omega⟩, HN1, HLH2⟩
   ·have HFF : Aside0 (solveN W' H' R C volts 256 N = (lo, hi, k, true)) := ⟨by rw [← HSW.out, sweeps_done]⟩
    clear hk HSW
    have q3 : wr.cell? ⟨gp, 3, none⟩ = some (.slice A C.length c) := (blk_cell HS.out.p 3).trans rfl
    have HF2 : Aside0 (lo.take C.length = r1 ∧ hi.take C.length = r2 ∧ (k : Int) = r3 ∧ true = r4 ∧ (0 : Int) = r5) := ⟨by have h2 := HF.out; rw [HFF.out] at h2; exact h2⟩
    have HLN : Aside0 (lo.length = 256 ∧ hi.length = 256) := ⟨⟨HLH.out.1.1.1.len, HLH.out.2.1.1.len⟩⟩
    have l1 : (C.length : Int) ≤ 256 := by have := HWH.out.2.2.1; omega
    have l2 : (0 : Int) ≤ (C.length : Int) := by omega
    clear HF HFF HLH
    go_upto_region 13 with (fail)
    have HQ3 : Aside0 (wr.drew.cell? ⟨gp, 3, none⟩ = some (.slice A C.length c)) := ⟨q3⟩
    clear q3 c2 c3
    have HBd := Aside0.mk (below_drew1 (Below.refl wr.heap.size wr))
    refine start_ (n := 14) (S := fun w' => w'.cell? ⟨gp, 3, none⟩ = some (.slice A C.length c)) (ds := [11, 13]) #[false, false, false, false, false, false, false, false, false, false, false, false, false, false] (by kernel_rfl) rfl rfl HQ3.out (fun hHeld => ?_); refine with_tabW solveF.tab13 solveF.bits13 (fun HT_ HW_ => ?_)
    generalize wr.drew = wd at HBd hHeld  ⊢
    refine pu_ 0 60 (bS 14 1) HT_ ?_
    refine pu_ 5 65 (bS 14 33) HT_ ?_
    refine ta_ 1 61 (bS 14 35) HT_ HW_ hHeld ?_
    refine pu_ 2 62 (bS 14 39) HT_ ?_
    refine pu_ 3 63 (bS 14 47) HT_ ?_
    refine ta_ 6 66 (bS 14 111) HT_ HW_ hHeld ?_
    refine pu_ 7 67 (bS 14 239) HT_ ?_
    refine pu_ 8 68 (bS 14 495) HT_ ?_
    refine on_ 4 64 (bS 14 511) (fun K hK => ?_) (one_of HT_.out (by kernel_rfl))
    refine goes_ Try.func72 (by kernel_rfl) rfl #[.slice (some ⟨g9, 0, none⟩) C.length 256] (by rfl) rfl rfl (by (try simp only [List.map_toArray, List.map_cons, List.map_nil]); first | done | rfl) ?_
    with_reducible refine (clone_row (blk_below HS.out.l HBd.out) HLN.out.1 HWH.out.2.2.1).mono ?_
    rintro e wc1 ⟨v9, rfl, hR9, hb⟩
    have HS0_ := cell_later hb (hHeld)
    try (obtain ⟨A9, n9, e9⟩ := Kd.R_slice hR9; rw [take_len HLN.out.1 HWH.out.2.2.1] at e9; subst e9)
    try (have HR9 := Aside0.mk hR9)
    try clear hR9
    try (obtain ⟨A10, n10, e10⟩ := Kd.R_slice hR10; rw [take_len HLN.out.2 HWH.out.2.2.1] at e10; subst e10)
    try (have HR10 := Aside0.mk hR10)
    try clear hR10
    try (have HWD : Aside0 (w.heap.size ≤ wd.heap.size) := ⟨Nat.le_trans HS.out.below.size HBd.out.size⟩)
    try (have HB1_ : Aside0 (Below wd.heap.size wd wc1) := ⟨hb⟩)
    try (have HB2_ : Aside0 (Below wc1.heap.size wc1 wc2) := ⟨hb⟩)
    replace HBd := Aside0.mk (below_step HBd.out hb)
    clear hb hHeld
    refine ⟨_, rfl, ?_⟩
    refine hK.out _ _ HS0_ (fun hHeld => ?_)
    clear hK K HS0_
    refine nm_ ?_
    refine pu_ 10 70 (bS 14 1535) HT_ ?_
    refine on_ 9 69 (bS 14 2047) (fun K hK => ?_) (one_of HT_.out (by kernel_rfl))
    refine goes_ Try.func72 (by kernel_rfl) rfl #[.slice (some ⟨g10, 0, none⟩) C.length 256] (by rfl) rfl rfl (by (try simp only [List.map_toArray, List.map_cons, List.map_nil]); first | done | rfl) ?_
    with_reducible refine (clone_row (blk_below HS.out.h HBd.out) HLN.out.2 HWH.out.2.2.1).mono ?_
    rintro e wc2 ⟨v10, rfl, hR10, hb⟩
    have HS0_ := cell_later hb (hHeld)
    try (obtain ⟨A9, n9, e9⟩ := Kd.R_slice hR9; rw [take_len HLN.out.1 HWH.out.2.2.1] at e9; subst e9)
    try (have HR9 := Aside0.mk hR9)
    try clear hR9
    try (obtain ⟨A10, n10, e10⟩ := Kd.R_slice hR10; rw [take_len HLN.out.2 HWH.out.2.2.1] at e10; subst e10)
    try (have HR10 := Aside0.mk hR10)
    try clear hR10
    try (have HWD : Aside0 (w.heap.size ≤ wd.heap.size) := ⟨Nat.le_trans HS.out.below.size HBd.out.size⟩)
    try (have HB1_ : Aside0 (Below wd.heap.size wd wc1) := ⟨hb⟩)
    try (have HB2_ : Aside0 (Below wc1.heap.size wc1 wc2) := ⟨hb⟩)
    replace HBd := Aside0.mk (below_step HBd.out hb)
    clear hb hHeld
    refine ⟨_, rfl, ?_⟩
    refine hK.out _ _ HS0_ (fun hHeld => ?_)
    clear hK K HS0_
    refine nm_ ?_
    have HS2 := Aside0.mk (HS.out.step HBd.out)
    have d0 : wc2.cell? ⟨g11, 0, none⟩ = some (.slice none 0 0) := (blk_cell HS2.out.f 0).trans rfl
    have d1 : wc2.cell? ⟨g11, 1, none⟩ = some (.slice none 0 0) := (blk_cell HS2.out.f 1).trans rfl
    have f0 := blk_frozen HS2.out.f 0
    have f1 := blk_frozen HS2.out.f 1
    have HEND := Aside0.mk (solve_end HS2.out HR9.out HR10.out HB2_.out HWD.out HB1_.out)
    clear HBd HS HR9 HR10 HB2_ HB1_ HWD hHeld
    refine la_ 11 (bS 14 4095) (fun K hK => ?_)
    go_simp
    refine hK.out _ _ ?_
    clear hK K
    refine pv_ 12 71 (bS 14 8191) ?_
    refine la_ 13 (bS 14 16383) (fun K hK => ?_)
    go_simp
    refine hK.out _ _ ?_
    refine done_ (by kernel_rfl) ?_
    clear hK K HT_ HW_ d0 d1 f0 f1 HS2
    generalize (wc2.setCell ⟨g11, 0, none⟩ (.slice A9 C.length n9)).setCell ⟨g11, 1, none⟩ (.slice A10 C.length n10) = w7 at HEND ⊢
    go_wp2_with (first
     | ((with_reducible refine gate_dst (N := 72) rfl ?_); refine ev_load HEND.out.1 rfl 33 (.tmp 11) rfl rfl _ Try.underlying33 rfl size33 rfl ?_)
     | ((with_reducible refine gate_store (t := 33) (p := 6) rfl ?_); refine ev_storeB HEND.out.2.1 rfl 33 (.tmp 6) (.tmp 72) rfl rfl rfl size33 rfl rfl (by simp [Value.oneCell']) ?_))
    (try simp only [Exit.inBlock, Exit.then])
    obtain ⟨e1, e2, e3, e4, e5⟩ := HF2.out
    subst e1 e2 e3 e4 e5
    exact bodyPost_ret (results_row_tmp rfl _ _ g6 33 _ (0, 0) _ rfl (setRow_heap _ _ _ _ _ _ HEND.out.2.1) hu33 rfl (by rw [size33]; rfl)) rfl ⟨.slice A9 C.length n9, .slice A10 C.length n10, rfl, (HEND.out.2.2 _).1, (HEND.out.2.2 _).2.1, (HEND.out.2.2 _).2.2⟩
  ·obtain rfl : k = N := by have := HK.out; omega
   have h1 : decide (k < k) = false := decide_eq_false (by omega)
   have HFF : Aside0 (solveN W' H' R C volts 256 k = (lo, hi, k, still)) := ⟨by
    have h2 := HSW.out
    rw [Nat.sub_self] at h2
    exact h2.symm⟩
   clear hk HSW
   have q3 : wr.cell? ⟨gp, 3, none⟩ = some (.slice A C.length c) := (blk_cell HS.out.p 3).trans rfl
   have HF2 : Aside0 (lo.take C.length = r1 ∧ hi.take C.length = r2 ∧ (k : Int) = r3 ∧ still = r4 ∧ (0 : Int) = r5) := ⟨by have h2 := HF.out; rw [HFF.out] at h2; exact h2⟩
   have HLN : Aside0 (lo.length = 256 ∧ hi.length = 256) := ⟨⟨HLH.out.1.1.1.len, HLH.out.2.1.1.len⟩⟩
   have l1 : (C.length : Int) ≤ 256 := by have := HWH.out.2.2.1; omega
   have l2 : (0 : Int) ≤ (C.length : Int) := by omega
   clear HF HFF HLH
   go_upto_region 13 with (fail)
   have HQ3 : Aside0 (wr.drew.cell? ⟨gp, 3, none⟩ = some (.slice A C.length c)) := ⟨q3⟩
   clear q3 c2 c3
   have HBd := Aside0.mk (below_drew1 (Below.refl wr.heap.size wr))
   refine start_ (n := 14) (S := fun w' => w'.cell? ⟨gp, 3, none⟩ = some (.slice A C.length c)) (ds := [11, 13]) #[false, false, false, false, false, false, false, false, false, false, false, false, false, false] (by kernel_rfl) rfl rfl HQ3.out (fun hHeld => ?_); refine with_tabW solveF.tab13 solveF.bits13 (fun HT_ HW_ => ?_)
   generalize wr.drew = wd at HBd hHeld  ⊢
   refine pu_ 0 60 (bS 14 1) HT_ ?_
   refine pu_ 5 65 (bS 14 33) HT_ ?_
   refine ta_ 1 61 (bS 14 35) HT_ HW_ hHeld ?_
   refine pu_ 2 62 (bS 14 39) HT_ ?_
   refine pu_ 3 63 (bS 14 47) HT_ ?_
   refine ta_ 6 66 (bS 14 111) HT_ HW_ hHeld ?_
   refine pu_ 7 67 (bS 14 239) HT_ ?_
   refine pu_ 8 68 (bS 14 495) HT_ ?_
   refine on_ 4 64 (bS 14 511) (fun K hK => ?_) (one_of HT_.out (by kernel_rfl))
   refine goes_ Try.func72 (by kernel_rfl) rfl #[.slice (some ⟨g9, 0, none⟩) C.length 256] (by rfl) rfl rfl (by (try simp only [List.map_toArray, List.map_cons, List.map_nil]); first | done | rfl) ?_
   with_reducible refine (clone_row (blk_below HS.out.l HBd.out) HLN.out.1 HWH.out.2.2.1).mono ?_
   rintro e wc1 ⟨v9, rfl, hR9, hb⟩
   have HS0_ := cell_later hb (hHeld)
   try (obtain ⟨A9, n9, e9⟩ := Kd.R_slice hR9; rw [take_len HLN.out.1 HWH.out.2.2.1] at e9; subst e9)
   try (have HR9 := Aside0.mk hR9)
   try clear hR9
   try (obtain ⟨A10, n10, e10⟩ := Kd.R_slice hR10; rw [take_len HLN.out.2 HWH.out.2.2.1] at e10; subst e10)
   try (have HR10 := Aside0.mk hR10)
   try clear hR10
   try (have HWD : Aside0 (w.heap.size ≤ wd.heap.size) := ⟨Nat.le_trans HS.out.below.size HBd.out.size⟩)
   try (have HB1_ : Aside0 (Below wd.heap.size wd wc1) := ⟨hb⟩)
   try (have HB2_ : Aside0 (Below wc1.heap.size wc1 wc2) := ⟨hb⟩)
   replace HBd := Aside0.mk (below_step HBd.out hb)
   clear hb hHeld
   refine ⟨_, rfl, ?_⟩
   refine hK.out _ _ HS0_ (fun hHeld => ?_)
   clear hK K HS0_
   refine nm_ ?_
   refine pu_ 10 70 (bS 14 1535) HT_ ?_
   refine on_ 9 69 (bS 14 2047) (fun K hK => ?_) (one_of HT_.out (by kernel_rfl))
   refine goes_ Try.func72 (by kernel_rfl) rfl #[.slice (some ⟨g10, 0, none⟩) C.length 256] (by rfl) rfl rfl (by (try simp only [List.map_toArray, List.map_cons, List.map_nil]); first | done | rfl) ?_
   with_reducible refine (clone_row (blk_below HS.out.h HBd.out) HLN.out.2 HWH.out.2.2.1).mono ?_
   rintro e wc2 ⟨v10, rfl, hR10, hb⟩
   have HS0_ := cell_later hb (hHeld)
   try (obtain ⟨A9, n9, e9⟩ := Kd.R_slice hR9; rw [take_len HLN.out.1 HWH.out.2.2.1] at e9; subst e9)
   try (have HR9 := Aside0.mk hR9)
   try clear hR9
   try (obtain ⟨A10, n10, e10⟩ := Kd.R_slice hR10; rw [take_len HLN.out.2 HWH.out.2.2.1] at e10; subst e10)
   try (have HR10 := Aside0.mk hR10)
   try clear hR10
   try (have HWD : Aside0 (w.heap.size ≤ wd.heap.size) := ⟨Nat.le_trans HS.out.below.size HBd.out.size⟩)
   try (have HB1_ : Aside0 (Below wd.heap.size wd wc1) := ⟨hb⟩)
   try (have HB2_ : Aside0 (Below wc1.heap.size wc1 wc2) := ⟨hb⟩)
   replace HBd := Aside0.mk (below_step HBd.out hb)
   clear hb hHeld
   refine ⟨_, rfl, ?_⟩
   refine hK.out _ _ HS0_ (fun hHeld => ?_)
   clear hK K HS0_
   refine nm_ ?_
   have HS2 := Aside0.mk (HS.out.step HBd.out)
   have d0 : wc2.cell? ⟨g11, 0, none⟩ = some (.slice none 0 0) := (blk_cell HS2.out.f 0).trans rfl
   have d1 : wc2.cell? ⟨g11, 1, none⟩ = some (.slice none 0 0) := (blk_cell HS2.out.f 1).trans rfl
   have f0 := blk_frozen HS2.out.f 0
   have f1 := blk_frozen HS2.out.f 1
   have HEND := Aside0.mk (solve_end HS2.out HR9.out HR10.out HB2_.out HWD.out HB1_.out)
   clear HBd HS HR9 HR10 HB2_ HB1_ HWD hHeld
   refine la_ 11 (bS 14 4095) (fun K hK => ?_)
   go_simp
   refine hK.out _ _ ?_
   clear hK K
   refine pv_ 12 71 (bS 14 8191) ?_
   refine la_ 13 (bS 14 16383) (fun K hK => ?_)
   go_simp
   refine hK.out _ _ ?_
   refine done_ (by kernel_rfl) ?_
   clear hK K HT_ HW_ d0 d1 f0 f1 HS2
   generalize (wc2.setCell ⟨g11, 0, none⟩ (.slice A9 C.length n9)).setCell ⟨g11, 1, none⟩ (.slice A10 C.length n10) = w7 at HEND ⊢
   go_wp2_with (first
    | ((with_reducible refine gate_dst (N := 72) rfl ?_); refine ev_load HEND.out.1 rfl 33 (.tmp 11) rfl rfl _ Try.underlying33 rfl size33 rfl ?_)
    | ((with_reducible refine gate_store (t := 33) (p := 6) rfl ?_); refine ev_storeB HEND.out.2.1 rfl 33 (.tmp 6) (.tmp 72) rfl rfl rfl size33 rfl rfl (by simp [Value.oneCell']) ?_))
   (try simp only [Exit.inBlock, Exit.then])
   obtain ⟨e1, e2, e3, e4, e5⟩ := HF2.out
   subst e1 e2 e3 e4 e5
   exact bodyPost_ret (results_row_tmp rfl _ _ g6 33 _ (0, 0) _ rfl (setRow_heap _ _ _ _ _ _ HEND.out.2.1) hu33 rfl (by rw [size33]; rfl)) rfl ⟨.slice A9 C.length n9, .slice A10 C.length n10, rfl, (HEND.out.2.2 _).1, (HEND.out.2.2 _).2.1, (HEND.out.2.2 _).2.2⟩
end Go.Proofs.Ytndkkjpgnmahbaa.Print
end

section
namespace Go.Proofs.Ytndkkjpgnmahbaa.Print
open Go.RowKit YtndkkjpgnmahbaaW.PrintWords YtndkkjpgnmahbaaW.PrintLast YtndkkjpgnmahbaaW.PrintMore Ytndkkjpgnmahbaa.H Proofs.Field
def field_has.f (k : Nat) (a0_0 : Int) (a0_1 : Int) (a0_2 : Bool) (l0_3 : List Int) (a1 : Int) : Option (Bool) := if a1 > 0 then ((slices_Contains_int_int.f k l0_3 a1).bind fun t116 => (some t116)) else (some false)
theorem field_has.calls (k : Nat) (a0_0 : Int) (a0_1 : Int) (a0_2 : Bool) (A0_3 : Option Addr) (c0_3 : Nat) (l0_3 : List Int) (a1 : Int) (r : Bool) (w : World) (hr0_3 : Kd.C (Kd.int .i64) w A0_3 l0_3.length l0_3) (hc0_3 : l0_3.length ≤ c0_3) (h : field_has.f k a0_0 a0_1 a0_2 l0_3 a1 = some r) :
  Calls Try.prog 77 #[.agg #[.int .i64 a0_0, .int .i64 a0_1, .bool a0_2, .slice A0_3 l0_3.length c0_3], .int .i64 a1] w fun e w' => e = .returned (.bool r) ∧ Below w.heap.size w w' := by
 have hu24 := Try.underlying24
 have HR0_3 := Aside0.mk hr0_3
 have HC0_3 := Aside0.mk hc0_3
 clear hr0_3 hc0_3
 have HB := Aside0.mk (Below.refl w.heap.size w)
 have H : (if a1 > 0 then ((slices_Contains_int_int.f k l0_3 a1).bind fun t116 => (some t116)) else (some false)) = some r := h
 clear h
 by_cases c3 : a1 > 0
 ·rw [if_pos c3] at H
  have c3b0 := decide_eq_true c3
  clear c3
  replace H := Option.bind_eq_some_iff.mp H
  obtain ⟨t116, A40, H⟩ := H
  replace H : (some t116) = some r := H
  have A4 := Aside0.mk A40
  clear A40
  obtain rfl := Option.some.inj H
  go_enter Try.func77, Try.ntmps77
  go_wp2_with (first | ((with_reducible refine gate_dst (N := 2) rfl ?_); refine box_event ?hg (N := 2) ?hd (cs := #[.int .i64 a0_0, .int .i64 a0_1, .bool a0_2, .slice A0_3 l0_3.length c0_3]) (t := 24) ?hr ?_; (case hd => rfl); (case hg => rfl); (case hr => first | (go_simp; done) | (go_simp; rfl)); intro gb115 hg w5 hbox hb; have n0_ := Aside0.mk (below_step (by repeat (first | (with_reducible first | exact HB.out | apply below_alloc | apply pw_below_drewN | apply below_drew1) | exact HB.out)) hb); have n1_ := Aside0.mk (hbox); have n2_ := Aside0.mk ((by rw [hg]; exact (below_size (by repeat (first | (with_reducible first | exact HB.out | apply below_alloc | apply pw_below_drewN | apply below_drew1) | exact HB.out))) : w.heap.size ≤ gb115)); have n3_ := Aside0.mk ((by rw [hg]; exact (below_size (by repeat (first | (with_reducible first | exact HB.out | apply below_alloc | apply pw_below_drewN | apply below_drew1) | exact HB.out))) : w.heap.size ≤ gb115)); clear HB; have HB := n0_; have BK115 := n1_; have GW115 := n2_; have GE115 := n3_; clear n0_ n1_ n2_ n3_; clear hb hbox hg; have hcz6_0 : w5.cell? ⟨gb115, 0, none⟩ = some (.int .i64 a0_0) := (blk_cell BK115.out 0).trans rfl; have hcz6_1 : w5.cell? ⟨gb115, 1, none⟩ = some (.int .i64 a0_1) := (blk_cell BK115.out 1).trans rfl; have hcz6_2 : w5.cell? ⟨gb115, 2, none⟩ = some (.bool a0_2) := (blk_cell BK115.out 2).trans rfl; have hcz6_3 : w5.cell? ⟨gb115, 3, none⟩ = some (.slice A0_3 l0_3.length c0_3) := (blk_cell BK115.out 3).trans rfl; have hfz6_0 := blk_frozen BK115.out 0; have hfz6_1 := blk_frozen BK115.out 1; have hfz6_2 := blk_frozen BK115.out 2; have hfz6_3 := blk_frozen BK115.out 3) | (go_at_call 88; (with_reducible refine (slices_Contains_int_int.calls k _ _ l0_3 a1 t116 _ ?side1 ?side2 A4.out).mono ?_); (case side1 => repeat (first | exact (Kd.C_below HR0_3.out HB.out) | (with_reducible refine Kd.C_alloc ?_ _) | (with_reducible refine Kd.C_drewN ?_ _) | (with_reducible refine Kd.C_drew ?_))); (case side2 => exact HC0_3.out); rintro e w' ⟨rfl, ⟨nd, rfl⟩⟩))
  go_ret
  exact ⟨by first | rfl | (simp [errW_none, errW_some] <;> rfl) | (simp [*, errW_none, errW_some] <;> rfl), by repeat (first | (with_reducible first | exact HB.out | apply below_alloc | apply pw_below_drewN | apply below_drew1 | refine below_set ?_ GE115.out) | exact HB.out)⟩
 ·rw [if_neg c3] at H
  have c3b0 := decide_eq_false c3
  clear c3
  obtain rfl := Option.some.inj H
  go_enter Try.func77, Try.ntmps77
  go_wp2_with (first | ((with_reducible refine gate_dst (N := 2) rfl ?_); refine box_event ?hg (N := 2) ?hd (cs := #[.int .i64 a0_0, .int .i64 a0_1, .bool a0_2, .slice A0_3 l0_3.length c0_3]) (t := 24) ?hr ?_; (case hd => rfl); (case hg => rfl); (case hr => first | (go_simp; done) | (go_simp; rfl)); intro gb115 hg w7 hbox hb; have n0_ := Aside0.mk (below_step (by repeat (first | (with_reducible first | exact HB.out | apply below_alloc | apply pw_below_drewN | apply below_drew1) | exact HB.out)) hb); have n1_ := Aside0.mk (hbox); have n2_ := Aside0.mk ((by rw [hg]; exact (below_size (by repeat (first | (with_reducible first | exact HB.out | apply below_alloc | apply pw_below_drewN | apply below_drew1) | exact HB.out))) : w.heap.size ≤ gb115)); have n3_ := Aside0.mk ((by rw [hg]; exact (below_size (by repeat (first | (with_reducible first | exact HB.out | apply below_alloc | apply pw_below_drewN | apply below_drew1) | exact HB.out))) : w.heap.size ≤ gb115)); clear HB; have HB := n0_; have BK115 := n1_; have GW115 := n2_; have GE115 := n3_; clear n0_ n1_ n2_ n3_; clear hb hbox hg))
  go_ret
  exact ⟨by first | rfl | (simp [errW_none, errW_some] <;> rfl) | (simp [*, errW_none, errW_some] <;> rfl), by repeat (first | (with_reducible first | exact HB.out | apply below_alloc | apply pw_below_drewN | apply below_drew1 | refine below_set ?_ GE115.out) | exact HB.out)⟩
end Go.Proofs.Ytndkkjpgnmahbaa.Print
end

section
namespace Go.Proofs.Field
def chOne (C : List Int) (e u : Int) (b : List Int) (p : Nat × Int) : Int := if fn C p.1 = e then 0 else p.2 * (u - fn b p.1)
def chSum (C : List Int) (e u : Int) (b : List Int) (l : List (Nat × Int)) : Int := (l.map (chOne C e u b)).sum
def chTo (W H : Nat) (R : Bool) (C : List Int) (e u : Int) (b : List Int) : Nat → Int
 | 0 => 0
 | i + 1 => chTo W H R C e u b i + if fn C i = e then chSum C e u b (nbs W H R i) else 0
theorem chSum_snoc (C : List Int) (e u : Int) (b : List Int) (l : List (Nat × Int)) (p : Nat × Int) : chSum C e u b (l ++ [p]) = chSum C e u b l + chOne C e u b p := by simp [chSum]
theorem chOne_bound {C : List Int} {e u : Int} {b : List Int} {p : Nat × Int} (hu : -1000000 ≤ u ∧ u ≤ 1000000) (hb : -1000000 ≤ fn b p.1 ∧ fn b p.1 ≤ 1000000) (hw : 1 ≤ p.2 ∧ p.2 ≤ 32) : -64000000 ≤ chOne C e u b p ∧ chOne C e u b p ≤ 64000000 := by
 unfold chOne
 split
 ·omega
 ·have a1 := Int.mul_le_mul_of_nonneg_left (show u - fn b p.1 ≤ 2000000 by omega) (show 0 ≤ p.2 by omega)
  have a2 := Int.mul_le_mul_of_nonneg_left (show -2000000 ≤ u - fn b p.1 by omega) (show 0 ≤ p.2 by omega)
  omega
theorem chSum_bound {C : List Int} {e u : Int} {b : List Int} (hu : -1000000 ≤ u ∧ u ≤ 1000000) : ∀ {l : List (Nat × Int)}, (∀ p, p ∈ l → (-1000000 ≤ fn b p.1 ∧ fn b p.1 ≤ 1000000) ∧ 1 ≤ p.2 ∧ p.2 ≤ 32) →
  -64000000 * (l.length : Int) ≤ chSum C e u b l ∧ chSum C e u b l ≤ 64000000 * (l.length : Int)
 | [], _ => by simp [chSum]
 | p :: l, h => by
  have h1 := chSum_bound (C := C) (e := e) (b := b) hu (l := l) (fun q hq => h q (List.mem_cons_of_mem _ hq))
  have h2 := h p List.mem_cons_self
  have h3 := chOne_bound (C := C) (e := e) hu h2.1 h2.2
  have h4 : chSum C e u b (p :: l) = chOne C e u b p + chSum C e u b l := by simp [chSum]
  rw [h4, List.length_cons]
  omega
theorem chTo_bound {W H : Nat} {R : Bool} {C : List Int} {e u : Int} {b : List Int} (hu : -1000000 ≤ u ∧ u ≤ 1000000) (hW : W ≤ 16) (hb : ∀ j, j < W * H → -1000000 ≤ fn b j ∧ fn b j ≤ 1000000) : ∀ i, i ≤ W * H →
  -256000000 * (i : Int) ≤ chTo W H R C e u b i ∧ chTo W H R C e u b i ≤ 256000000 * (i : Int)
 | 0, _ => by simp [chTo]
 | i + 1, hi => by
  have h1 := chTo_bound (R := R) (C := C) (e := e) hu hW hb i (by omega)
  have h2 := chSum_bound (C := C) (e := e) (b := b) (l := nbs W H R i) hu (fun p hp => by
   have h3 := nbs_lt (show i < W * H by omega) hp
   exact ⟨hb _ h3.1, h3.2.2.1, h3.2.2.2 hW⟩)
  have h4 := nbs_length W H R i
  rw [chTo]
  split
  ·omega
  ·omega
theorem solve_range {W H : Nat} {R : Bool} {C volts : List Int} (hV : Volted W H R C volts) (hN : C.length ≤ 256) (n : Nat) {j : Nat} (hj : j < C.length) :
  (-1000000 ≤ fn (solveN W H R C volts 256 n).1 j ∧ fn (solveN W H R C volts 256 n).1 j ≤ 1000000) ∧ (-1000000 ≤ fn (solveN W H R C volts 256 n).2.1 j ∧ fn (solveN W H R C volts 256 n).2.1 j ≤ 1000000) := by
 have hp := solve_pair hV hN n
 obtain ⟨_, h2, h3, _, _⟩ := sweeps_pair hV.fine hV.len n 0 _ _ false ⟨laid_low hV hN, laid_high hV hN⟩
 have a1 := h2 j hj
 have a2 := h3 j hj
 have b1 := low_le hV hp.low hj
 have b2 := high_ge hV hp.high hj
 have r := least_range hV
 have c1 : minOf (onOf C volts) ≤ fn (laid C volts 256 (minOf (onOf C volts))) j := by
  rw [fn_laid hN hj]
  split
  ·rename_i q; exact (least_le hV hj q).1
  ·exact Int.le_refl _
 have c2 : fn (laid C volts 256 (maxOf (onOf C volts))) j ≤ maxOf (onOf C volts) := by
  rw [fn_laid hN hj]
  split
  ·rename_i q; exact (least_le hV hj q).2
  ·exact Int.le_refl _
 unfold solveN at b1 b2 ⊢
 omega
theorem fn_take {b : List Int} {n j : Nat} (h : j < n) : fn (b.take n) j = fn b j := by
 unfold fn
 rw [List.getD_eq_getElem?_getD, List.getD_eq_getElem?_getD, List.getElem?_take_of_lt h]
end Go.Proofs.Field
namespace Go.Proofs.Ytndkkjpgnmahbaa.Print
open Go.RowKit YtndkkjpgnmahbaaW.PrintWords YtndkkjpgnmahbaaW.PrintLast YtndkkjpgnmahbaaW.PrintMore Ytndkkjpgnmahbaa.H Proofs.Field
def hasB (C : List Int) (e : Int) : Bool := decide (0 < e) && C.contains e
theorem has_eq (W H : Int) (R : Bool) (C : List Int) (e : Int) (hl : C.length ≤ 1000000) (d : Nat) : field_has.f (C.length + 1 + d) W H R C e = some (hasB C e) := by
 unfold field_has.f hasB
 by_cases q : e > 0
 ·rw [if_pos q, contains_ge C e hl d, decide_eq_true (show 0 < e from q)]
  rfl
 ·rw [if_neg q, decide_eq_false (show ¬ 0 < e from q)]
  rfl
theorem solve_good {W H : Int} {R : Bool} {C volts : List Int} {n : Int} {r1 r2 : List Int} {r3 : Int} {r4 : Bool} (h : field_Solve.f W H R C volts n = some (r1, r2, r3, r4, 0)) :
  ∃ W' H' N : Nat, W = W' ∧ H = H' ∧ n = N ∧ N ≤ 200 ∧ W' ≤ 16 ∧ H' ≤ 16 ∧ C.length ≤ 256 ∧ Volted W' H' R C volts ∧ (solveN W' H' R C volts 256 N).1.take C.length = r1 ∧ (solveN W' H' R C volts 256 N).2.1.take C.length = r2 ∧ ((solveN W' H' R C volts 256 N).2.2.1 : Int) = r3 ∧ (solveN W' H' R C volts 256 N).2.2.2 = r4 := by
 unfold field_Solve.f at h
 by_cases g0 : voltErr W H R C volts ≠ 0
 ·rw [if_pos g0] at h
  simp only [Option.some.injEq, Prod.mk.injEq] at h
  exact absurd h.2.2.2.2 g0
 rw [if_neg g0] at h
 by_cases g1 : n < 0 ∨ 200 < n
 ·rw [if_pos g1] at h
  simp only [Option.some.injEq, Prod.mk.injEq] at h
  exact absurd h.2.2.2.2 (by decide)
 rw [if_neg g1] at h
 obtain ⟨W', H', rfl, rfl, hW, hH, hN, _, hV⟩ := volted_of (Classical.byContradiction g0)
 obtain ⟨N, rfl⟩ : ∃ N : Nat, n = N := ⟨n.toNat, by omega⟩
 rw [Int.toNat_natCast, Int.toNat_natCast, Int.toNat_natCast] at h
 simp only [Option.some.injEq, Prod.mk.injEq] at h
 exact ⟨W', H', N, rfl, rfl, rfl, by omega, hW, hH, hN, hV, h.1, h.2.1, h.2.2.1, h.2.2.2.1⟩
def field_Charge.f (W H : Int) (R : Bool) (C volts : List Int) (n e : Int) : Option (Int × Int × Int) :=
 (field_Solve.f W H R C volts n).bind fun s => if s.2.2.2.2 ≠ 0 then some (0, 0, s.2.2.2.2) else if hasB C e = false then some (0, 0, 7) else
  some (chTo W.toNat H.toNat R C e (fn volts (e.toNat - 1)) s.2.1 C.length, chTo W.toNat H.toNat R C e (fn volts (e.toNat - 1)) s.1 C.length, 0)
end Go.Proofs.Ytndkkjpgnmahbaa.Print
end

section
namespace Go.Proofs.Field
theorem mem_netM {W H : Nat} {R : Bool} {i : Nat} (hi : i < W * H) {p : Nat × Int} (hp : p ∈ nbs W H R i) : p.2 = netM W H R i p.1 := by
 have hlt := (nbs_lt hi hp).1
 obtain ⟨hW, he, hx, hy⟩ := cell_at hi
 have hr := right_mod (W := W) (i := i) hW
 have hu := up_ge (W := W) (i := i) hW
 unfold netM
 rw [if_pos ⟨hi, hlt⟩]
 unfold nbs at hp
 rcases List.mem_append.1 hp with hp | hp
 ·split at hp
  ·rename_i h
   obtain rfl := List.mem_singleton.1 hp
   obtain ⟨h1, h2⟩ := left_col h
   show wgt R (i % W - 1) false = _
   rw [if_neg (by omega), if_pos ⟨by omega, h⟩, h1]
  ·simp at hp
 rcases List.mem_append.1 hp with hp | hp
 ·split at hp
  ·rename_i h
   obtain rfl := List.mem_singleton.1 hp
   rw [if_pos ⟨rfl, hr.2 h⟩]
  ·simp at hp
 rcases List.mem_append.1 hp with hp | hp
 ·split at hp
  ·rename_i h
   obtain rfl := List.mem_singleton.1 hp
   have hWi := hu.1 h
   have hm : (i - W) % W = i % W := by
    have := Nat.add_mod_right (i - W) W
    rw [show i - W + W = i by omega] at this
    exact this.symm
   show wgt R (i % W) true = _
   have n2 : ¬ (i = i - W + 1 ∧ 0 < i % W) := fun q => by
    have : W = 1 := by omega
    subst this
    have := Nat.mod_one i
    omega
   rw [if_neg (by omega), if_neg n2, if_neg (by omega), if_pos (by omega), hm]
  ·simp at hp
 ·split at hp
  ·rename_i h
   obtain rfl := List.mem_singleton.1 hp
   show wgt R (i % W) true = _
   have n1 : ¬ (i + W = i + 1 ∧ 0 < (i + W) % W) := fun q => by
    have : W = 1 := by omega
    subst this
    have := Nat.mod_one (i + 1)
    omega
   rw [if_neg n1, if_neg (by omega), if_pos rfl]
  ·simp at hp
theorem netM_none {W H : Nat} {R : Bool} {i j : Nat} (hi : i < W * H) (h : ∀ p, p ∈ nbs W H R i → p.1 ≠ j) : netM W H R i j = 0 := by
 by_cases hj : j < W * H
 ·have h1 := under_net (R := R) hi (fun k => if k = j then 1 else 0)
  have h2 : under (fun k => if k = j then 1 else 0) (nbs W H R i) = under (fun _ => 0) (nbs W H R i) := under_congr (fun p hp => if_neg (h p hp))
  rw [h2, sumTo_congr (g := fun k => if k = j then netM W H R i j else 0) (fun k _ => by
   by_cases q : k = j
   ·subst q; rw [if_pos rfl, if_pos rfl]; omega
   ·rw [if_neg q, if_neg q]; omega), sumTo_one _ j hj] at h1
  rw [← h1]
  unfold under
  generalize nbs W H R i = l
  clear h h1 h2
  induction l with
  | nil => rfl
  | cons p l ih => rw [List.map_cons, List.sum_cons, ih]; simp
 ·unfold netM
  rw [if_neg (fun q => hj q.2)]
def weightOf (W H : Int) (R : Bool) (C : List Int) (a b : Int) : Int :=
 if checkErr W H R C ≠ 0 ∨ a < 0 ∨ (C.length : Int) ≤ a ∨ b < 0 then 0 else netM W.toNat H.toNat R a.toNat b.toNat
end Go.Proofs.Field
namespace Go.Proofs.Ytndkkjpgnmahbaa.Print
open Go.RowKit YtndkkjpgnmahbaaW.PrintWords YtndkkjpgnmahbaaW.PrintLast YtndkkjpgnmahbaaW.PrintMore Ytndkkjpgnmahbaa.H Proofs.Field
attribute [local go_sem] Oper.semAt_some
def field_Weight.f (W H : Int) (R : Bool) (C : List Int) (a b : Int) : Option (Int) := some (weightOf W H R C a b)
theorem results_cell_int {fn : Func} {p : Tmp} (h : fn.results = #[.cell p 3]) (tmps : Array Value) (w : World) (g : Nat) (v : Int) (hp : tmps.getD p undef = .pointer (some ⟨g, 0, none⟩)) (hc : w.cell? ⟨g, 0, none⟩ = some (.int .i64 v)) :
  (results fn tmps).run Try.prog w = .ok (.int .i64 v) w := by
 have e : tmps[p]?.getD undef = .pointer (some ⟨g, 0, none⟩) := by simpa using hp
 have hu := Try.underlying3
 simp only [results, h]
 simp [e, asAddr]
 go_simp
def WI (w : World) (g6 g5 : Nat) (b : Int) (N : Prop) (B gi gq : Nat) (ci cq : Array Value) (V : World) : Prop :=
 Below w.heap.size w V ∧ V.heap[g6]? = some (.cells #[.int .i64 0] 3 (0, 0)) ∧ V.heap[g5]? = some (.cells #[.int .i64 b] 3 (0, 0)) ∧ N ∧ B ≤ V.heap.size ∧ V.heap[gi]? = some (.cells ci 3 (0, 0)) ∧ V.heap[gq]? = some (.cells cq 24 (0, 0))
def WX (w : World) (g6 : Nat) (r : Int) (B : Nat) (V : World) : Prop := Below w.heap.size w V ∧ V.heap[g6]? = some (.cells #[.int .i64 r] 3 (0, 0)) ∧ B ≤ V.heap.size
theorem field_Weight.calls (W H : Int) (R : Bool) (A : Option Addr) (c : Nat) (C : List Int) (a1 : Int) (a2 : Int) (r : Int) (w : World) (hr : Kd.C (Kd.int .i64) w A C.length C) (hc : C.length ≤ c) (h : field_Weight.f W H R C a1 a2 = some r) :
  Calls Try.prog 63 #[.agg (planV W H R A C.length c), .int .i64 a1, .int .i64 a2] w fun e w' => e = .returned (.int .i64 r) ∧ Below w.heap.size w w' := by
 have HRES : Aside0 (r = weightOf W H R C a1 a2) := ⟨(Option.some.inj h).symm⟩
 have HR := Aside0.mk hr
 have HCC := Aside0.mk hc
 have HM := Aside0.mk (Mem.start w)
 have hu24 := Try.underlying24
 have hu22 := Try.underlying22
 have HCK : Aside0 (∀ V : World, Below w.heap.size w V → Calls Try.prog 39 #[.agg (planV W H R A C.length c)] V fun e w' => e = .returned (.int .i64 (checkErr W H R C)) ∧ Below V.heap.size V w') := ⟨fun V hb => field_Check.calls W H R A c C (checkErr W H R C) V (Kd.C_below hr hb) hc (by unfold field_Check.f; exact rfl)⟩
 clear hr h
 by_cases g1 : checkErr W H R C ≠ 0
 ·have HRES : Aside0 (r = 0) := ⟨by rw [HRES.out, weightOf, if_pos (.inl g1)]⟩
  have b1 : (checkErr W H R C != 0) = true := bne_iff_ne.mpr g1
  generalize checkErr W H R C = E at HCK b1
  clear g1
  refine (callsIn_wide (n := 5)).1 (callsIn_of_wp_marks Try.func63 rfl trivial ?_)
  simp only [Try.ntmps63, List.size_toArray, List.length_cons, List.length_nil, Nat.reduceAdd, Nat.reduceSub, Array.replicate_succ, Array.replicate_zero, List.push_toArray, List.append_toArray, List.nil_append, List.cons_append]
  refine wpIn_wide.2 ?_
  go_wp2_with (first
   | ((with_reducible refine gate_dst (N := 3) rfl ?_); refine ev_box HM.out rfl 24 (.tmp 0) rfl (cs := planV W H R A C.length c) rfl ?_; intro gp w1 hm1 hq1; clear hq1; have HM1 := Aside0.mk hm1; clear hm1 HM)
   | ((with_reducible refine gate_dst (N := 5) rfl ?_); refine ev_box1 HM1.out rfl 3 (.tmp 2) rfl rfl rfl ?_; intro g5 w2 hm2 hq2; clear hq2; have HM2 := Aside0.mk hm2; clear hm2 HM1)
   | ((with_reducible refine gate_dst (N := 6) rfl ?_); refine ev_var HM2.out rfl 3 rfl info3 rfl ?_; intro g6 w3 hm3 hq3; clear hq3; have HM3 := Aside0.mk hm3; clear hm3 HM2)
   | ((with_reducible refine gate_dst (N := 9) rfl ?_); refine ev_load HM3.out.third rfl 24 (.tmp 3) rfl rfl _ Try.underlying24 rfl size24 rfl ?_)
   | (go_at_call 39; refine (HCK.out _ HM3.out.below).mono ?_; rintro e w4 ⟨rfl, hb4⟩; have HM4 := Aside0.mk (HM3.out.step hb4); clear hb4 HM3; have q3 : w4.cell? ⟨gp, 3, none⟩ = some (.slice A C.length c) := (blk_cell HM4.out.third 3).trans rfl; have q6 : w4.cell? ⟨g6, 0, none⟩ = some (.int .i64 0) := (HM4.out.cell 0).trans rfl; have f6 := HM4.out.frozen 0))
  have HM5 := Aside0.mk (HM4.out.put 0 (.int .i64 0) rfl)
  generalize w4.setCell ⟨g6, 0, none⟩ (.int .i64 0) = w5 at HM5 ⊢
  refine ret_marks HM5.out.below.size (Marks.nil _ _) (fun W' hs => ⟨_, results_cell_int rfl _ _ g6 0 rfl (hs.cell ((HM5.out.cell 0).trans rfl)), ?_, HM5.out.below.trans hs.below⟩)
  rw [HRES.out]
 have g1' : checkErr W H R C = 0 := Classical.byContradiction g1
 obtain ⟨W', H', hW', hH', hW, hH, hN, hl⟩ : ∃ W' H' : Nat, W = W' ∧ H = H' ∧ W' ≤ 16 ∧ H' ≤ 16 ∧ C.length ≤ 256 ∧ C.length = W' * H' := by
  obtain ⟨x1, x2, x3, x4, x5, _⟩ := check_parts g1'
  obtain ⟨W', rfl⟩ : ∃ W' : Nat, W = W' := ⟨W.toNat, by omega⟩
  obtain ⟨H', rfl⟩ : ∃ H' : Nat, H = H' := ⟨H.toNat, by omega⟩
  have hlen : C.length = W' * H' := by rw [← Int.natCast_mul] at x5; omega
  exact ⟨W', H', rfl, rfl, by omega, by omega, by have := Nat.mul_le_mul (show W' ≤ 16 by omega) (show H' ≤ 16 by omega); omega, hlen⟩
 subst hW' hH'
 have HLL := Aside0.mk hl
 clear hl
 have HE0 : Aside0 (field_Check.f (W' : Int) (H' : Int) R C = some 0) := ⟨by unfold field_Check.f; rw [g1']⟩
 clear HCK
 by_cases g2 : a1 < 0
 ·have HRES : Aside0 (r = 0) := ⟨by rw [HRES.out, weightOf, if_pos (.inr (.inl g2))]⟩
  have b1 := decide_eq_true g2
  clear g1 g1' g2
  refine (callsIn_wide (n := 5)).1 (callsIn_of_wp_marks Try.func63 rfl trivial ?_)
  simp only [Try.ntmps63, List.size_toArray, List.length_cons, List.length_nil, Nat.reduceAdd, Nat.reduceSub, Array.replicate_succ, Array.replicate_zero, List.push_toArray, List.append_toArray, List.nil_append, List.cons_append]
  refine wpIn_wide.2 ?_
  go_wp2_with (first
   | ((with_reducible refine gate_dst (N := 3) rfl ?_); refine ev_box HM.out rfl 24 (.tmp 0) rfl (cs := planV (W' : Int) (H' : Int) R A C.length c) rfl ?_; intro gp w1 hm1 hq1; clear hq1; have HM1 := Aside0.mk hm1; clear hm1 HM)
   | ((with_reducible refine gate_dst (N := 5) rfl ?_); refine ev_box1 HM1.out rfl 3 (.tmp 2) rfl rfl rfl ?_; intro g5 w2 hm2 hq2; clear hq2; have HM2 := Aside0.mk hm2; clear hm2 HM1)
   | ((with_reducible refine gate_dst (N := 6) rfl ?_); refine ev_var HM2.out rfl 3 rfl info3 rfl ?_; intro g6 w3 hm3 hq3; clear hq3; have HM3 := Aside0.mk hm3; clear hm3 HM2)
   | ((with_reducible refine gate_dst (N := 9) rfl ?_); refine ev_load HM3.out.third rfl 24 (.tmp 3) rfl rfl _ Try.underlying24 rfl size24 rfl ?_)
   | (go_at_call 39; refine (field_Check.calls (W' : Int) (H' : Int) R A c C 0 _ (Kd.C_below HR.out HM3.out.below) HCC.out HE0.out).mono ?_; rintro e w4 ⟨rfl, hb4⟩; have HM4 := Aside0.mk (HM3.out.step hb4); clear hb4 HM3; have q3 : w4.cell? ⟨gp, 3, none⟩ = some (.slice A C.length c) := (blk_cell HM4.out.third 3).trans rfl; have q6 : w4.cell? ⟨g6, 0, none⟩ = some (.int .i64 0) := (HM4.out.cell 0).trans rfl; have f6 := HM4.out.frozen 0))
  have HM5 := Aside0.mk (HM4.out.put 0 (.int .i64 0) rfl)
  generalize w4.setCell ⟨g6, 0, none⟩ (.int .i64 0) = w5 at HM5 ⊢
  refine ret_marks HM5.out.below.size (Marks.nil _ _) (fun W' hs => ⟨_, results_cell_int rfl _ _ g6 0 rfl (hs.cell ((HM5.out.cell 0).trans rfl)), ?_, HM5.out.below.trans hs.below⟩)
  rw [HRES.out]
 have b2 := decide_eq_false g2
 by_cases g3 : (C.length : Int) ≤ a1
 ·have HRES : Aside0 (r = 0) := ⟨by rw [HRES.out, weightOf, if_pos (.inr (.inr (.inl g3)))]⟩
  have b1 := decide_eq_true g3
  clear g1 g1' g2
  refine (callsIn_wide (n := 5)).1 (callsIn_of_wp_marks Try.func63 rfl trivial ?_)
  simp only [Try.ntmps63, List.size_toArray, List.length_cons, List.length_nil, Nat.reduceAdd, Nat.reduceSub, Array.replicate_succ, Array.replicate_zero, List.push_toArray, List.append_toArray, List.nil_append, List.cons_append]
  refine wpIn_wide.2 ?_
  go_wp2_with (first
   | ((with_reducible refine gate_dst (N := 3) rfl ?_); refine ev_box HM.out rfl 24 (.tmp 0) rfl (cs := planV (W' : Int) (H' : Int) R A C.length c) rfl ?_; intro gp w1 hm1 hq1; clear hq1; have HM1 := Aside0.mk hm1; clear hm1 HM)
   | ((with_reducible refine gate_dst (N := 5) rfl ?_); refine ev_box1 HM1.out rfl 3 (.tmp 2) rfl rfl rfl ?_; intro g5 w2 hm2 hq2; clear hq2; have HM2 := Aside0.mk hm2; clear hm2 HM1)
   | ((with_reducible refine gate_dst (N := 6) rfl ?_); refine ev_var HM2.out rfl 3 rfl info3 rfl ?_; intro g6 w3 hm3 hq3; clear hq3; have HM3 := Aside0.mk hm3; clear hm3 HM2)
   | ((with_reducible refine gate_dst (N := 9) rfl ?_); refine ev_load HM3.out.third rfl 24 (.tmp 3) rfl rfl _ Try.underlying24 rfl size24 rfl ?_)
   | (go_at_call 39; refine (field_Check.calls (W' : Int) (H' : Int) R A c C 0 _ (Kd.C_below HR.out HM3.out.below) HCC.out HE0.out).mono ?_; rintro e w4 ⟨rfl, hb4⟩; have HM4 := Aside0.mk (HM3.out.step hb4); clear hb4 HM3; have q3 : w4.cell? ⟨gp, 3, none⟩ = some (.slice A C.length c) := (blk_cell HM4.out.third 3).trans rfl; have q6 : w4.cell? ⟨g6, 0, none⟩ = some (.int .i64 0) := (HM4.out.cell 0).trans rfl; have f6 := HM4.out.frozen 0))
  have HM5 := Aside0.mk (HM4.out.put 0 (.int .i64 0) rfl)
  generalize w4.setCell ⟨g6, 0, none⟩ (.int .i64 0) = w5 at HM5 ⊢
  refine ret_marks HM5.out.below.size (Marks.nil _ _) (fun W' hs => ⟨_, results_cell_int rfl _ _ g6 0 rfl (hs.cell ((HM5.out.cell 0).trans rfl)), ?_, HM5.out.below.trans hs.below⟩)
  rw [HRES.out]
 obtain ⟨i, rfl⟩ : ∃ i : Nat, a1 = i := ⟨a1.toNat, by omega⟩
 have HI : Aside0 (i < W' * H') := ⟨by have := HLL.out; omega⟩
 have b3 : decide ((i : Int) ≥ (C.length : Int)) = false := decide_eq_false (by omega)
 have b3' : decide (C.length ≤ i) = false := decide_eq_false (by omega)
 have HRES2 : Aside0 ((∀ p, p ∈ nbs W' H' R i → (p.1 : Int) = a2 → r = p.2) ∧ ((∀ p, p ∈ nbs W' H' R i → (p.1 : Int) ≠ a2) → r = 0)) := ⟨by
  have h1 := HRES.out
  unfold weightOf at h1
  by_cases q : a2 < 0
  ·rw [if_pos (.inr (.inr (.inr q)))] at h1
   exact ⟨fun p _ e => by omega, fun _ => h1⟩
  ·rw [if_neg (by omega), Int.toNat_natCast, Int.toNat_natCast, Int.toNat_natCast] at h1
   obtain ⟨j, rfl⟩ : ∃ j : Nat, a2 = j := ⟨a2.toNat, by omega⟩
   rw [Int.toNat_natCast] at h1
   refine ⟨fun p hp e => ?_, fun hn => ?_⟩
   ·have e' : p.1 = j := by omega
    rw [h1, ← e', mem_netM HI.out hp]
   ·rw [h1, netM_none HI.out (fun p hp e => hn p hp (by omega))]⟩
 have HWH := Aside0.mk (And.intro hW hH)
 clear g1 g1' g2 g3 HRES hW hH hN
 refine (callsIn_wide (n := 5)).1 (callsIn_of_wp_marks Try.func63 rfl trivial ?_)
 simp only [Try.ntmps63, List.size_toArray, List.length_cons, List.length_nil, Nat.reduceAdd, Nat.reduceSub, Array.replicate_succ, Array.replicate_zero, List.push_toArray, List.append_toArray, List.nil_append, List.cons_append]
 refine wpIn_wide.2 ?_
 go_wp2_with (first
  | ((with_reducible refine gate_dst (N := 3) rfl ?_); refine ev_box HM.out rfl 24 (.tmp 0) rfl (cs := planV (W' : Int) (H' : Int) R A C.length c) rfl ?_; intro gp w1 hm1 hq1; clear hq1; have HM1 := Aside0.mk hm1; clear hm1 HM)
  | ((with_reducible refine gate_dst (N := 5) rfl ?_); refine ev_box1 HM1.out rfl 3 (.tmp 2) rfl rfl rfl ?_; intro g5 w2 hm2 hq2; clear hq2; have HM2 := Aside0.mk hm2; clear hm2 HM1)
  | ((with_reducible refine gate_dst (N := 6) rfl ?_); refine ev_var HM2.out rfl 3 rfl info3 rfl ?_; intro g6 w3 hm3 hq3; clear hq3; have HM3 := Aside0.mk hm3; clear hm3 HM2)
  | ((with_reducible refine gate_dst (N := 9) rfl ?_); refine ev_load HM3.out.third rfl 24 (.tmp 3) rfl rfl _ Try.underlying24 rfl size24 rfl ?_)
  | (go_at_call 39; refine (field_Check.calls (W' : Int) (H' : Int) R A c C 0 _ (Kd.C_below HR.out HM3.out.below) HCC.out HE0.out).mono ?_; rintro e w4 ⟨rfl, hb4⟩; have HM4 := Aside0.mk (HM3.out.step hb4); clear hb4 HM3; have q3 : w4.cell? ⟨gp, 3, none⟩ = some (.slice A C.length c) := (blk_cell HM4.out.third 3).trans rfl; have q6 : w4.cell? ⟨g6, 0, none⟩ = some (.int .i64 0) := (HM4.out.cell 0).trans rfl; have f6 := HM4.out.frozen 0)
  | ((with_reducible refine gate_dst (N := 23) rfl ?_); refine ev_load HM4.out.third rfl 24 (.tmp 3) rfl rfl _ Try.underlying24 rfl size24 rfl ?_)
  | (go_at_call 78; refine (near_calls _ _ _ _ _ _ _ _).mono ?_; rintro e w6 ⟨gp2, gi2, rfl, hM6, hz6, hgp2, hgi2⟩; have HM6 := Aside0.mk (HM4.out.step hM6.below); have HBX := Aside0.mk (And.intro hM6.head hM6.second); have HGG : Aside0 (g6 < w4.heap.size ∧ g5 < w4.heap.size ∧ gi2 = w4.heap.size + 1 ∧ gp2 = w4.heap.size ∧ w4.heap.size ≤ w6.heap.size) := ⟨⟨blk_lt HM4.out.head, blk_lt HM4.out.second, hgi2, hgp2, hM6.below.size⟩⟩; clear hM6 hz6 hgp2 hgi2 HM4 q3 q6 f6))
 rename_i Ka hKa
 have HKa := Aside0.mk hKa
 clear hKa
 refine (wpIn_wide (n := 5)).1 ?_
 have HBase : Aside0 (w.heap.size ≤ w6.heap.size) := ⟨HM6.out.below.size⟩
 have HGB : Aside0 (gi2 < w6.heap.size ∧ gp2 < w6.heap.size) := ⟨⟨blk_lt HBX.out.1, blk_lt HBX.out.2⟩⟩
 refine wpIn_rangeFunc_ownG rfl (by decide) (gf := 98) (lb := #[.pointer (some ⟨gi2, 0, none⟩), .pointer (some ⟨gp2, 0, none⟩)]) rfl trivial (enters_of Try.func98 (by kernel_rfl) rfl)
  (near1_stops 4 W' H' R A C.length c i gi2 gp2 HI.out HWH.out.1 HWH.out.2 w6 HBX.out) (fun h k => ⟨k.1.trans h.1, k.2.trans h.2⟩) (fun V l o o' hl ho _ _ => ⟨World.putObj_heap_other (by have := HGB.out.1; omega), World.putObj_heap_other (by have := HGB.out.2; omega)⟩) (Below.refl _ _) (fun _ => rfl)
  (fun pre V => WI w g6 g5 a2 (∀ y, y ∈ pre.map (·.1) → (y.1 : Int) ≠ a2) w6.heap.size gi2 gp2 #[.int .i64 i] (planV W' H' R A C.length c) V)
  (fun cd pre V => cd = .ret ∧ WX w g6 r w6.heap.size V) ?hI ?hIx ?h0 (fun x => { tmps := List.toArray (.agg (planV (W' : Int) (H' : Int) R A C.length c) :: .int .i64 (i : Int) :: .int .i64 a2 :: .pointer (some ⟨gp, 0, none⟩) :: undef :: .pointer (some ⟨g5, 0, none⟩) :: .pointer (some ⟨g6, 0, none⟩) :: .int .i64 x.1.1 :: .int .i64 x.1.2 :: .agg (planV (W' : Int) (H' : Int) R A C.length c) :: .int .i64 0 :: .bool false :: .bool false :: .int .i64 (i : Int) :: .bool false :: .bool false :: .bool false :: .int .i64 (i : Int) :: .pointer (some ⟨gp, 3, none⟩) :: .slice A C.length c :: .int .i64 (C.length : Int) :: .bool false :: .bool false :: .agg (planV (W' : Int) (H' : Int) R A C.length c) :: .int .i64 (i : Int) :: .func (.func 98) #[] #[.pointer (some ⟨gi2, 0, none⟩), .pointer (some ⟨gp2, 0, none⟩)] :: .int .i64 x.1.1 :: .int .i64 x.1.2 :: undef :: undef :: undef :: undef :: []), defers := [] }) ?assign ?body ?done ?stop
 case hI =>
  rintro pre V V' row ⟨h1, h2, h3, h4, h5, h6, h7⟩ hg hr
  have ht : Turn w6.heap.size V V' row := ⟨hg, hr⟩
  exact ⟨ht.below h1 HBase.out (Nat.le_trans HBase.out h5), ht.heap h2, ht.heap h3, h4, Nat.le_trans h5 hg.size, ht.heap h6, ht.heap h7⟩
 case hIx =>
  rintro cd pre V V' row ⟨h0, h1, h2, h5⟩ hg hr
  have ht : Turn w6.heap.size V V' row := ⟨hg, hr⟩
  exact ⟨h0, ht.below h1 HBase.out (Nat.le_trans HBase.out h5), ht.heap h2, Nat.le_trans h5 hg.size⟩
 case h0 => exact ⟨HM6.out.below, HM6.out.head, HM6.out.second, fun y hy => by simp at hy, Nat.le_refl _, HBX.out.1, HBX.out.2⟩
 case assign =>
  intro l x V K hK
  gi_wp2
  exact hK
 case body =>
  rintro l pre x V ⟨h1, h2, h3, h4, h5, h6, h7⟩ hlt
  have HX2 := Aside0.mk (HRES2.out.1 x.1 x.2)
  obtain ⟨kx, hkx⟩ : ∃ kx, x.1.1 = kx := ⟨_, rfl⟩
  obtain ⟨wx, hwx⟩ : ∃ wx, x.1.2 = wx := ⟨_, rfl⟩
  show Code.wpIn (Fence.wide.inRound l) (5 - 1 - 1) Try.prog _ (ownPostG w6.heap.size (Boxes gi2 gp2) _ _ (pre ++ [x]) V) _ _
  have HKX := Aside0.mk hkx
  rw [hkx, hwx] at HX2 ⊢
  have e1 : V.cell? ⟨g5, 0, none⟩ = some (.int .i64 a2) := (blk_cell h3 0).trans rfl
  have e2 : V.cell? ⟨g6, 0, none⟩ = some (.int .i64 0) := (blk_cell h2 0).trans rfl
  have f2 := blk_frozen h2 0
  have HVV := Aside0.mk (And.intro h1 (And.intro h2 (And.intro h3 (And.intro h4 (And.intro h5 (And.intro h6 h7))))))
  clear h1 h2 h3 h4 h5 h6 h7 hlt hkx hwx
  by_cases q : (kx : Int) = a2
  ·have HQ : Aside0 (r = wx) := ⟨HX2.out q⟩
   have q1 : ((kx : Int) == a2) = true := beq_iff_eq.mpr q
   have HGN : Aside0 (w.heap.size ≤ g6) := ⟨HM6.out.geh⟩
   clear q HX2
   gi_wp2
   refine ⟨(KeepsOthers.setCell _ _ _).from _, rfl, below_set HVV.out.1 HGN.out, by rw [blk_set HVV.out.2.1 0, HQ.out]; rfl, Nat.le_trans HVV.out.2.2.2.2.1 (KeepsOthers.setCell V ⟨g6, 0, none⟩ (.int .i64 wx)).size⟩
  ·have q1 : ((kx : Int) == a2) = false := beq_eq_false_iff_ne.mpr q
   have HQ : Aside0 ((kx : Int) ≠ a2) := ⟨q⟩
   clear q HX2
   gi_wp2
   obtain ⟨h1, h2, h3, h4, h5, h6, h7⟩ := HVV.out
   refine ⟨KeepsFrom.refl _ _, ⟨rfl, rfl⟩, h1, h2, h3, fun y hy => ?_, h5, h6, h7⟩
   rw [List.map_append, List.map_singleton] at hy
   rcases List.mem_append.1 hy with hy | hy
   ·exact h4 y hy
   ·rw [List.mem_singleton.1 hy, HKX.out]
    exact HQ.out
 case done =>
  rintro D xs V hD hxs ⟨h1, h2, h3, h4, h5, _⟩ hK
  have HR0 : Aside0 (r = 0) := ⟨HRES2.out.2 (fun p hp => h4 p (by rw [hxs]; exact hp))⟩
  have HV := Aside0.mk (And.intro h1 h2)
  have HMV := Aside0.mk ((Marks.nil w.heap.size w6).push (Marks.nil w.heap.size V) HBase.out hD hK)
  have e2 : V.cell? ⟨g6, 0, none⟩ = some (.int .i64 0) := (blk_cell h2 0).trans rfl
  have f2 := blk_frozen h2 0
  have HGN : Aside0 (w.heap.size ≤ g6) := ⟨HM6.out.geh⟩
  clear h1 h2 h3 h4 h5 hK hD hxs
  refine HKa.out _ _ ?_
  clear HKa
  go_wp2_with fail
  refine ret_marks (Nat.le_trans HV.out.1.size (KeepsOthers.setCell V ⟨g6, 0, none⟩ (.int .i64 0)).size) (HMV.out.others (KeepsOthers.setCell _ _ _)) (fun W' hs => ⟨_, results_cell_int rfl _ _ g6 0 rfl (hs.cell (by rw [blk_cell (cs := #[.int .i64 0]) (by rw [blk_set HV.out.2 0]; rfl) 0]; rfl)), ?_, (below_set HV.out.1 HGN.out).trans hs.below⟩)
  rw [HR0.out]
 case stop =>
  rintro D cd pre V hD _ ⟨rfl, h1, h2, h5⟩ hK
  have HMV := Aside0.mk ((Marks.nil w.heap.size w6).push (Marks.nil w.heap.size V) HBase.out hD hK)
  refine wpIn_ret ?_
  (try simp only [Exit.inBlock, Exit.then])
  refine ret_marks (a := { tmps := _, defers := _ }) h1.size HMV.out (fun W' hs => ⟨_, results_cell_int rfl _ _ g6 r rfl (hs.cell ((blk_cell h2 0).trans rfl)), rfl, h1.trans hs.below⟩)
end Go.Proofs.Ytndkkjpgnmahbaa.Print
end

section
namespace Go.Proofs.Ytndkkjpgnmahbaa.Print
open Go.RowKit YtndkkjpgnmahbaaW.PrintWords YtndkkjpgnmahbaaW.PrintLast YtndkkjpgnmahbaaW.PrintMore Ytndkkjpgnmahbaa.H Proofs.Field
attribute [local go_sem] Oper.semAt_some
def chargeF.T14 : Bool × List (List Nat × List Nat) := (true, [([], []), ([0], [0]), ([], []), ([1, 2], [1, 2]), ([3], [3]), ([], []), ([4, 5], [4, 5])])
def chargeF.B14 : List Nat := [0, 1, 0, 7, 15, 0, 63]
theorem chargeF.tab14 : rtab .any (opsOf Try.f30 14) = chargeF.T14 := by kernel_rfl
theorem chargeF.bits14 : waitsOk chargeF.T14.2 chargeF.B14 = true := by kernel_rfl
def chargeF.T15 : Bool × List (List Nat × List Nat) := (true, [([], []), ([0], [0]), ([], []), ([], []), ([], []), ([4], [4]), ([3, 5], [3, 5]), ([6], [6]), ([], []), ([8], [8]), ([], []), ([9, 10], [9, 10]), ([11], [11]), ([7, 12], [7, 12]), ([2, 13], [2, 13]), ([1, 14], [1, 14]), ([0, 1, 2, 3, 4, 5, 6, 7, 8, 9, 10, 11, 12, 13, 14, 15], []), ([16, 15, 0, 1, 2, 3, 4, 5, 6, 7, 8, 9, 10, 11, 12, 13, 14, 15], [15, 16])])
def chargeF.B15 : List Nat := [0, 1, 0, 0, 0, 16, 56, 120, 0, 256, 0, 1792, 3840, 8184, 16380, 32767, 65535, 131071]
theorem chargeF.tab15 : rtab .any (opsOf Try.f30 15) = chargeF.T15 := by kernel_rfl
theorem chargeF.bits15 : waitsOk chargeF.T15.2 chargeF.B15 = true := by kernel_rfl
def chargeF.T16 : Bool × List (List Nat × List Nat) := (true, [([], []), ([0], [0]), ([], []), ([], []), ([], []), ([4], [4]), ([3, 5], [3, 5]), ([6], [6]), ([], []), ([8], [8]), ([], []), ([9, 10], [9, 10]), ([11], [11]), ([7, 12], [7, 12]), ([2, 13], [2, 13]), ([1, 14], [1, 14]), ([0, 1, 2, 3, 4, 5, 6, 7, 8, 9, 10, 11, 12, 13, 14, 15], []), ([16, 15, 0, 1, 2, 3, 4, 5, 6, 7, 8, 9, 10, 11, 12, 13, 14, 15], [15, 16])])
def chargeF.B16 : List Nat := [0, 1, 0, 0, 0, 16, 56, 120, 0, 256, 0, 1792, 3840, 8184, 16380, 32767, 65535, 131071]
theorem chargeF.tab16 : rtab .any (opsOf Try.f30 16) = chargeF.T16 := by kernel_rfl
theorem chargeF.bits16 : waitsOk chargeF.T16.2 chargeF.B16 = true := by kernel_rfl
theorem info42 : (Try.prog.info? 42).map (fun i => (i.zero, i.size, i.bytes)) = some (some (.agg #[.int .i64 0, .int .i64 0]), 2, 16) := by kernel_rfl
theorem size42 : (Try.prog.info? 42).map (·.size) = some 2 := by kernel_rfl
structure CI (wS W : World) (g10 g12 : Nat) (v0 v1 : Value) (r3 : Int) (r4 : Bool) (L M : Int) : Prop where
 below : Below wS.heap.size wS W
 s : W.heap[g10]? = some (.cells #[v0, v1, .int .i64 r3, .bool r4] 33 (0, 0))
 r : W.heap[g12]? = some (.cells #[.int .i64 L, .int .i64 M] 42 (0, 0))
 g120 : wS.heap.size ≤ g12
namespace CI
variable {wS W W1 : World} {g10 g12 : Nat} {v0 v1 : Value} {r3 : Int} {r4 : Bool} {L M : Int}
theorem step (h : CI wS W g10 g12 v0 v1 r3 r4 L M) (hb : Below W.heap.size W W1) : CI wS W1 g10 g12 v0 v1 r3 r4 L M :=
 ⟨below_step h.below hb, blk_below h.s hb, blk_below h.r hb, h.g120⟩
theorem turn {B : Nat} {row : Option Nat} (h : CI wS W g10 g12 v0 v1 r3 r4 L M) (ht : Turn B W W1 row) (hB : wS.heap.size ≤ B) : CI wS W1 g10 g12 v0 v1 r3 r4 L M :=
 ⟨ht.below h.below hB h.below.size, ht.heap h.s, ht.heap h.r, h.g120⟩
theorem put0 (h : CI wS W g10 g12 v0 v1 r3 r4 L M) (L' : Int) : CI wS (W.setCell ⟨g12, 0, none⟩ (.int .i64 L')) g10 g12 v0 v1 r3 r4 L' M :=
 ⟨below_set h.below h.g120, blk_far h.s (p := ⟨g12, 0, none⟩) (blk_ne h.s h.r (by decide)) _, by rw [blk_set h.r 0]; rfl, h.g120⟩
theorem put1 (h : CI wS W g10 g12 v0 v1 r3 r4 L M) (M' : Int) : CI wS (W.setCell ⟨g12, 1, none⟩ (.int .i64 M')) g10 g12 v0 v1 r3 r4 L M' :=
 ⟨below_set h.below h.g120, blk_far h.s (p := ⟨g12, 1, none⟩) (blk_ne h.s h.r (by decide)) _, by rw [blk_set h.r 1]; rfl, h.g120⟩
end CI
def CJ (w wS : World) (g10 g12 : Nat) (v0 v1 : Value) (r3 : Int) (r4 : Bool) (L M : Int) (B : Nat) (ds : List Deferred) (gi gq : Nat) (ci cq : Array Value) (V : World) : Prop :=
 CI wS V g10 g12 v0 v1 r3 r4 L M ∧ MarksTo w.heap.size B V ds ∧ B ≤ V.heap.size ∧ V.heap[gi]? = some (.cells ci 3 (0, 0)) ∧ V.heap[gq]? = some (.cells cq 24 (0, 0))
namespace CJ
variable {w wS : World} {g10 g12 : Nat} {v0 v1 : Value} {r3 : Int} {r4 : Bool} {L M : Int} {B : Nat} {ds : List Deferred} {gi gq : Nat} {ci cq : Array Value} {V V1 : World}
theorem step (h : CJ w wS g10 g12 v0 v1 r3 r4 L M B ds gi gq ci cq V) (hb : Below V.heap.size V V1) : CJ w wS g10 g12 v0 v1 r3 r4 L M B ds gi gq ci cq V1 :=
 ⟨h.1.step hb, h.2.1.others (below_others hb), Nat.le_trans h.2.2.1 hb.size, blk_below h.2.2.2.1 hb, blk_below h.2.2.2.2 hb⟩
theorem put0 (h : CJ w wS g10 g12 v0 v1 r3 r4 L M B ds gi gq ci cq V) (L' : Int) : CJ w wS g10 g12 v0 v1 r3 r4 L' M B ds gi gq ci cq (V.setCell ⟨g12, 0, none⟩ (.int .i64 L')) :=
 ⟨h.1.put0 L', h.2.1.others (KeepsOthers.setCell _ _ _), Nat.le_trans h.2.2.1 (KeepsOthers.setCell V ⟨g12, 0, none⟩ (.int .i64 L')).size, blk_far (p := ⟨g12, 0, none⟩) h.2.2.2.1 (blk_ne h.2.2.2.1 h.1.r (by decide)) _, blk_far (p := ⟨g12, 0, none⟩) h.2.2.2.2 (blk_ne h.2.2.2.2 h.1.r (by decide)) _⟩
theorem put1 (h : CJ w wS g10 g12 v0 v1 r3 r4 L M B ds gi gq ci cq V) (M' : Int) : CJ w wS g10 g12 v0 v1 r3 r4 L M' B ds gi gq ci cq (V.setCell ⟨g12, 1, none⟩ (.int .i64 M')) :=
 ⟨h.1.put1 M', h.2.1.others (KeepsOthers.setCell _ _ _), Nat.le_trans h.2.2.1 (KeepsOthers.setCell V ⟨g12, 1, none⟩ (.int .i64 M')).size, blk_far (p := ⟨g12, 1, none⟩) h.2.2.2.1 (blk_ne h.2.2.2.1 h.1.r (by decide)) _, blk_far (p := ⟨g12, 1, none⟩) h.2.2.2.2 (blk_ne h.2.2.2.2 h.1.r (by decide)) _⟩
end CJ
theorem below_row {w W : World} {g : Nat} {cs : Array Value} (h : Below w.heap.size w W) (hg : w.heap.size ≤ g) : Below w.heap.size w (W.setRow g cs) :=
 ⟨h.os, h.tape, h.output, by rw [size_setRow]; exact h.size, fun i hi => by rw [setRow_other _ g i _ (by omega)]; exact h.block i hi⟩
theorem field_Charge.calls (W H : Int) (R : Bool) (A : Option Addr) (c : Nat) (C : List Int) (A1 : Option Addr) (c1 : Nat) (volts : List Int) (a2 : Int) (a3 : Int) (x1 : Int) (x2 : Int) (x3 : Int) (w : World) (hr : Kd.C (Kd.int .i64) w A C.length C) (hc : C.length ≤ c) (hr1 : Kd.C (Kd.int .i64) w A1 volts.length volts) (hc1 : volts.length ≤ c1)
  (h : field_Charge.f W H R C volts a2 a3 = some (x1, x2, x3)) :
  Calls Try.prog 30 #[.agg (planV W H R A C.length c), .slice A1 volts.length c1, .int .i64 a2, .int .i64 a3] w fun e w' => e = .returned (.tuple #[.agg #[.int .i64 x1, .int .i64 x2], .int .i64 x3]) ∧ Below w.heap.size w w' := by
 have HR := Aside0.mk hr
 have HC := Aside0.mk hc
 have HR1 := Aside0.mk hr1
 have HC1 := Aside0.mk hc1
 have HM := Aside0.mk (Mem.start w)
 have hu24 := Try.underlying24
 have hu22 := Try.underlying22
 have hu33 := Try.underlying33
 have hu42 := Try.underlying42
 have hlen : (C.length : Int) ≤ 9223372036854775807 := by have := (Kd.reads_of_C (enc := Value.int .i64) (d := (0 : Int)) (h1 := fun _ => rfl) hr).2.1; omega
 clear hr hc hr1 hc1
 unfold field_Charge.f at h
 have h0 := Option.bind_eq_some_iff.1 h
 clear h
 obtain ⟨⟨r1, r2, r3, r4, r5⟩, hs, h⟩ := h0
 have HS := Aside0.mk hs
 by_cases g0 : r5 ≠ 0
 ·rw [if_pos g0] at h
  simp only [Option.some.injEq, Prod.mk.injEq] at h
  obtain ⟨rfl, rfl, rfl⟩ := h
  have g1 : (r5 != 0) = true := bne_iff_ne.mpr g0
  clear g0 hs
  refine (callsIn_wide (n := 5)).1 (callsIn_of_wp_marks Try.func30 rfl trivial ?_)
  simp only [Try.ntmps30, List.size_toArray, List.length_cons, List.length_nil, Nat.reduceAdd, Nat.reduceSub, Array.replicate_succ, Array.replicate_zero, List.push_toArray, List.append_toArray, List.nil_append, List.cons_append]
  refine wpIn_wide.2 ?_
  go_wp2_with (first
   | ((with_reducible refine gate_dst (N := 4) rfl ?_); refine ev_box HM.out rfl 24 (.tmp 0) rfl (cs := planV W H R A C.length c) rfl ?_; intro gp w1 hm1 hq1; clear hq1; have HM1 := Aside0.mk hm1; clear hm1 HM)
   | ((with_reducible refine gate_dst (N := 5) rfl ?_); refine ev_box1 HM1.out rfl 22 (.tmp 1) rfl rfl rfl ?_; intro g5 w2 hm2 hq2; clear hq2; have HM2 := Aside0.mk hm2; clear hm2 HM1)
   | ((with_reducible refine gate_dst (N := 7) rfl ?_); refine ev_box1 HM2.out rfl 3 (.tmp 3) rfl rfl rfl ?_; intro g7 w3 hm3 hq3; clear hq3; have HM3 := Aside0.mk hm3; clear hm3 HM2)
   | ((with_reducible refine gate_dst (N := 8) rfl ?_); refine ev_new HM3.out rfl 42 rfl info42 ?_; intro g8 w4 hm4 hq4; clear hq4; have HM4 := Aside0.mk hm4; clear hm4 HM3; have q5 : w4.cell? ⟨g5, 0, none⟩ = some (.slice A1 volts.length c1) := (blk_cell HM4.out.third 0).trans rfl)
   | ((with_reducible refine gate_dst (N := 18) rfl ?_); refine ev_load HM4.out.drop.third rfl 24 (.tmp 4) rfl rfl _ Try.underlying24 rfl size24 rfl ?_)
   | (go_at_call 25; refine (field_Solve.calls W H R A c C A1 c1 volts _ r1 r2 r3 r4 _ _ (Kd.C_below HR.out HM4.out.below) HC.out (Kd.C_below HR1.out HM4.out.below) HC1.out HS.out).mono ?_; rintro e w5 ⟨v0, v1, rfl, hv0, hv1, hb5⟩; obtain ⟨A7, c7, rfl⟩ := Kd.R_slice hv0; obtain ⟨A8, c8, rfl⟩ := Kd.R_slice hv1; have HV0 := Aside0.mk (Kd.R_reads' hv0); have HV1 := Aside0.mk (Kd.R_reads' hv1); have HM5 := Aside0.mk (HM4.out.step hb5); clear hb5 HM4 hv0 hv1 q5)
   | ((with_reducible refine gate_dst (N := 10) rfl ?_); refine ev_new HM5.out rfl 33 rfl info33 ?_; intro g10 w6 hm6 hq6; have HBS0 := Aside0.mk hq6; clear hq6; have HM50 := Aside0.mk hm6; clear hm6)
   | ((with_reducible refine gate_store (t := 33) (p := 10) rfl ?_); refine ev_store HM50.out rfl 33 (.tmp 10) (.tmp 22) rfl rfl (cs := #[.slice A7 r1.length c7, .slice A8 r2.length c8, .int .i64 r3, .bool r4]) rfl size33 rfl rfl (by simp [Value.oneCell']) ?_; intro w7 hm7 hq7; clear hq7; have HM6 := Aside0.mk hm7; clear hm7 HM50; have q7 : w7.cell? ⟨g7, 0, none⟩ = some (.int .i64 a3) := (blk_cell HM6.out.third 0).trans rfl)
   | ((with_reducible refine gate_store (t := 42) (p := 8) rfl ?_); refine ev_storeB HM6.out.second rfl 42 (.tmp 8) (.tmp 26) rfl rfl rfl size42 rfl rfl (by simp [Value.oneCell']) ?_))
  exact ret_marks (by rw [size_setRow]; exact HM6.out.below.size) (Marks.nil _ _) (fun W' hq => ⟨_, results_row_tmp rfl _ _ g8 42 _ (0, 0) _ rfl (hq.cells _ _ (setRow_heap _ _ _ _ _ _ HM6.out.second) rfl) hu42 rfl (by rw [size42]; rfl), rfl, (below_row HM6.out.below HM6.out.drop.geh).trans hq.below⟩)
 obtain rfl : r5 = 0 := Classical.byContradiction g0
 replace h : (if (0 : Int) ≠ 0 then some (0, 0, 0) else if hasB C a3 = false then some (0, 0, 7) else some (chTo W.toNat H.toNat R C a3 (fn volts (a3.toNat - 1)) r2 C.length, chTo W.toNat H.toNat R C a3 (fn volts (a3.toNat - 1)) r1 C.length, 0)) = some (x1, x2, x3) := h
 obtain ⟨W', H', N, rfl, rfl, rfl, hN2, hW, hH, hN, hV, e1, e2, e3, e4⟩ := solve_good hs
 have HHAS := Aside0.mk (has_eq (W' : Int) (H' : Int) R C a3 (by omega) 0)
 rw [if_neg (by simp)] at h
 by_cases g1 : hasB C a3 = false
 ·rw [if_pos g1] at h
  simp only [Option.some.injEq, Prod.mk.injEq] at h
  obtain ⟨rfl, rfl, rfl⟩ := h
  rw [g1] at HHAS
  clear g0 hs g1 hN2 hW hH hN hV e1 e2 e3 e4
  refine (callsIn_wide (n := 5)).1 (callsIn_of_wp_marks Try.func30 rfl trivial ?_)
  simp only [Try.ntmps30, List.size_toArray, List.length_cons, List.length_nil, Nat.reduceAdd, Nat.reduceSub, Array.replicate_succ, Array.replicate_zero, List.push_toArray, List.append_toArray, List.nil_append, List.cons_append]
  refine wpIn_wide.2 ?_
  go_wp2_with (first
   | ((with_reducible refine gate_dst (N := 4) rfl ?_); refine ev_box HM.out rfl 24 (.tmp 0) rfl (cs := planV (W' : Int) (H' : Int) R A C.length c) rfl ?_; intro gp w1 hm1 hq1; clear hq1; have HM1 := Aside0.mk hm1; clear hm1 HM)
   | ((with_reducible refine gate_dst (N := 5) rfl ?_); refine ev_box1 HM1.out rfl 22 (.tmp 1) rfl rfl rfl ?_; intro g5 w2 hm2 hq2; clear hq2; have HM2 := Aside0.mk hm2; clear hm2 HM1)
   | ((with_reducible refine gate_dst (N := 7) rfl ?_); refine ev_box1 HM2.out rfl 3 (.tmp 3) rfl rfl rfl ?_; intro g7 w3 hm3 hq3; clear hq3; have HM3 := Aside0.mk hm3; clear hm3 HM2)
   | ((with_reducible refine gate_dst (N := 8) rfl ?_); refine ev_new HM3.out rfl 42 rfl info42 ?_; intro g8 w4 hm4 hq4; clear hq4; have HM4 := Aside0.mk hm4; clear hm4 HM3; have q5 : w4.cell? ⟨g5, 0, none⟩ = some (.slice A1 volts.length c1) := (blk_cell HM4.out.third 0).trans rfl)
   | ((with_reducible refine gate_dst (N := 18) rfl ?_); refine ev_load HM4.out.drop.third rfl 24 (.tmp 4) rfl rfl _ Try.underlying24 rfl size24 rfl ?_)
   | (go_at_call 25; refine (field_Solve.calls (W' : Int) (H' : Int) R A c C A1 c1 volts _ r1 r2 r3 r4 _ _ (Kd.C_below HR.out HM4.out.below) HC.out (Kd.C_below HR1.out HM4.out.below) HC1.out HS.out).mono ?_; rintro e w5 ⟨v0, v1, rfl, hv0, hv1, hb5⟩; obtain ⟨A7, c7, rfl⟩ := Kd.R_slice hv0; obtain ⟨A8, c8, rfl⟩ := Kd.R_slice hv1; have HV0 := Aside0.mk (Kd.R_reads' hv0); have HV1 := Aside0.mk (Kd.R_reads' hv1); have HM5 := Aside0.mk (HM4.out.step hb5); clear hb5 HM4 hv0 hv1 q5)
   | ((with_reducible refine gate_dst (N := 10) rfl ?_); refine ev_new HM5.out rfl 33 rfl info33 ?_; intro g10 w6 hm6 hq6; have HBS0 := Aside0.mk hq6; clear hq6; have HM50 := Aside0.mk hm6; clear hm6)
   | ((with_reducible refine gate_store (t := 33) (p := 10) rfl ?_); refine ev_store HM50.out rfl 33 (.tmp 10) (.tmp 22) rfl rfl (cs := #[.slice A7 r1.length c7, .slice A8 r2.length c8, .int .i64 r3, .bool r4]) rfl size33 rfl rfl (by simp [Value.oneCell']) ?_; intro w7 hm7 hq7; clear hq7; have HM6 := Aside0.mk hm7; clear hm7 HM50; have q7 : w7.cell? ⟨g7, 0, none⟩ = some (.int .i64 a3) := (blk_cell HM6.out.third 0).trans rfl)
   | ((with_reducible refine gate_dst (N := 28) rfl ?_); refine ev_load HM6.out.drop.drop.third rfl 24 (.tmp 4) rfl rfl _ Try.underlying24 rfl size24 rfl ?_)
   | (go_at_call 77; refine (field_has.calls _ (W' : Int) (H' : Int) R A c C _ _ _ (Kd.C_below HR.out HM6.out.below) HC.out HHAS.out).mono ?_; rintro e w8 ⟨rfl, hb8⟩; have HM7 := Aside0.mk (HM6.out.step hb8); clear hb8 HM6 q7)
   | ((with_reducible refine gate_store (t := 42) (p := 8) rfl ?_); refine ev_storeB HM7.out.second rfl 42 (.tmp 8) (.tmp 32) rfl rfl rfl size42 rfl rfl (by simp [Value.oneCell']) ?_))
  exact ret_marks (by rw [size_setRow]; exact HM7.out.below.size) (Marks.nil _ _) (fun W' hq => ⟨_, results_row_tmp rfl _ _ g8 42 _ (0, 0) _ rfl (hq.cells _ _ (setRow_heap _ _ _ _ _ _ HM7.out.second) rfl) hu42 rfl (by rw [size42]; rfl), rfl, (below_row HM7.out.below HM7.out.drop.geh).trans hq.below⟩)
 rw [if_neg g1] at h
 have g1' : hasB C a3 = true := by simpa using g1
 rw [g1'] at HHAS
 obtain ⟨n, rfl⟩ : ∃ n : Nat, a3 = (n : Int) + 1 := ⟨(a3 - 1).toNat, by
  unfold hasB at g1'
  rw [Bool.and_eq_true, decide_eq_true_eq] at g1'
  omega⟩
 have hel : (n : Int) + 1 ∈ C := by
  unfold hasB at g1'
  rw [Bool.and_eq_true, List.contains_iff_mem] at g1'
  exact g1'.2
 obtain ⟨i0, hi0, hce⟩ := mem_fn hel
 have hvl := hV.vlen i0 hi0
 rw [hce] at hvl
 have hub := volt_range hV hi0 (by rw [hce]; omega)
 have huv : volt C volts i0 = fn volts n := by unfold volt; rw [hce, show ((n : Int) + 1).toNat - 1 = n by omega]
 rw [huv] at hub
 have HUB := Aside0.mk hub
 obtain ⟨adv, ev, hcv⟩ := at_natM HR1.out n (by omega)
 rw [show volts.getD n 0 = fn volts n from rfl] at hcv
 have HNV : Aside0 (n < volts.length) := ⟨by omega⟩
 have HRNG : Aside0 (∀ j, j < W' * H' → (-1000000 ≤ fn r1 j ∧ fn r1 j ≤ 1000000) ∧ (-1000000 ≤ fn r2 j ∧ fn r2 j ≤ 1000000)) := ⟨fun j hj => by
  have hj' : j < C.length := by rw [hV.len]; exact hj
  have h5 := solve_range hV hN N hj'
  rw [← e1, ← e2, fn_take hj', fn_take hj']
  exact h5⟩
 have l1 : r1.length = C.length := by rw [← e1, List.length_take, (solve_pair hV hN N).low.1.len]; omega
 have l2 : r2.length = C.length := by rw [← e2, List.length_take, (solve_pair hV hN N).high.1.len]; omega
 have HEQ : Aside0 (chTo W' H' R C ((n : Int) + 1) (fn volts n) r2 C.length = x1 ∧ chTo W' H' R C ((n : Int) + 1) (fn volts n) r1 C.length = x2 ∧ (0 : Int) = x3) := ⟨by
  rw [Int.toNat_natCast, Int.toNat_natCast, show ((n : Int) + 1).toNat - 1 = n by omega] at h
  simpa only [Option.some.injEq, Prod.mk.injEq] using h⟩
 have HLEN : Aside0 (C.length = W' * H' ∧ W' ≤ 16 ∧ H' ≤ 16 ∧ C.length ≤ 256) := ⟨⟨hV.len, hW, hH, hN⟩⟩
 have HL12 : Aside0 (r1.length = C.length ∧ r2.length = C.length) := ⟨⟨l1, l2⟩⟩
 have b1 : (C.length : Int) ≤ 256 := by omega
 have k1 : (0 : Int) ≤ (n : Int) := by omega
 have k2 : (n : Int) < (volts.length : Int) := by omega
 have n1 : IntKind.i64.wrap ((n : Int) + 1 - 1) = (n : Int) := by rw [Int.add_sub_cancel]; exact IntWalk.i64_in _ (by have := (Kd.reads_of_C (enc := Value.int .i64) (d := (0 : Int)) (h1 := fun _ => rfl) HR1.out).2.1; omega)
 have n2 : IntKind.i64.wrap (n : Int) = (n : Int) := IntWalk.i64_in _ (by have := (Kd.reads_of_C (enc := Value.int .i64) (d := (0 : Int)) (h1 := fun _ => rfl) HR1.out).2.1; omega)
 obtain ⟨u, hu⟩ : ∃ u, fn volts n = u := ⟨_, rfl⟩
 rw [hu] at HUB HEQ hcv
 have HCV := Aside0.mk (And.intro ev hcv)
 clear hs g0 g1 g1' h hN2 hW hH hN hV e1 e2 e3 e4 hel hi0 hce hvl hub huv ev hcv hu l1 l2 i0
 refine (callsIn_wide (n := 5)).1 (callsIn_of_wp_marks Try.func30 rfl trivial ?_)
 simp only [Try.ntmps30, List.size_toArray, List.length_cons, List.length_nil, Nat.reduceAdd, Nat.reduceSub, Array.replicate_succ, Array.replicate_zero, List.push_toArray, List.append_toArray, List.nil_append, List.cons_append]
 refine wpIn_wide.2 ?_
 go_wp2_with (first
  | ((with_reducible refine gate_dst (N := 4) rfl ?_); refine ev_box HM.out rfl 24 (.tmp 0) rfl (cs := planV (W' : Int) (H' : Int) R A C.length c) rfl ?_; intro gp w1 hm1 hq1; clear hq1; have HM1 := Aside0.mk hm1; clear hm1 HM)
  | ((with_reducible refine gate_dst (N := 5) rfl ?_); refine ev_box1 HM1.out rfl 22 (.tmp 1) rfl rfl rfl ?_; intro g5 w2 hm2 hq2; clear hq2; have HM2 := Aside0.mk hm2; clear hm2 HM1)
  | ((with_reducible refine gate_dst (N := 7) rfl ?_); refine ev_box1 HM2.out rfl 3 (.tmp 3) rfl rfl rfl ?_; intro g7 w3 hm3 hq3; clear hq3; have HM3 := Aside0.mk hm3; clear hm3 HM2)
  | ((with_reducible refine gate_dst (N := 8) rfl ?_); refine ev_new HM3.out rfl 42 rfl info42 ?_; intro g8 w4 hm4 hq4; clear hq4; have HM4 := Aside0.mk hm4; clear hm4 HM3; have q5 : w4.cell? ⟨g5, 0, none⟩ = some (.slice A1 volts.length c1) := (blk_cell HM4.out.third 0).trans rfl)
  | ((with_reducible refine gate_dst (N := 18) rfl ?_); refine ev_load HM4.out.drop.third rfl 24 (.tmp 4) rfl rfl _ Try.underlying24 rfl size24 rfl ?_)
  | (go_at_call 25; refine (field_Solve.calls (W' : Int) (H' : Int) R A c C A1 c1 volts _ r1 r2 r3 r4 _ _ (Kd.C_below HR.out HM4.out.below) HC.out (Kd.C_below HR1.out HM4.out.below) HC1.out HS.out).mono ?_; rintro e w5 ⟨v0, v1, rfl, hv0, hv1, hb5⟩; obtain ⟨A7, c7, rfl⟩ := Kd.R_slice hv0; obtain ⟨A8, c8, rfl⟩ := Kd.R_slice hv1; have HV0 := Aside0.mk (Kd.R_reads' hv0); have HV1 := Aside0.mk (Kd.R_reads' hv1); have HM5 := Aside0.mk (HM4.out.step hb5); have HN5 := Aside0.mk (Mem.start w5); clear hb5 HM4 hv0 hv1 q5)
  | ((with_reducible refine gate_dst (N := 10) rfl ?_); refine ev_new HN5.out rfl 33 rfl info33 ?_; intro g10 w6 hm6 hq6; clear hq6; have HN50 := Aside0.mk hm6; clear hm6 HN5)
  | ((with_reducible refine gate_store (t := 33) (p := 10) rfl ?_); refine ev_store HN50.out rfl 33 (.tmp 10) (.tmp 22) rfl rfl (cs := #[.slice A7 r1.length c7, .slice A8 r2.length c8, .int .i64 r3, .bool r4]) rfl size33 rfl rfl (by simp [Value.oneCell']) ?_; intro w7 hm7 hq7; clear hq7; have HN6 := Aside0.mk hm7; clear hm7 HN50; have q7 : w7.cell? ⟨g7, 0, none⟩ = some (.int .i64 ((n : Int) + 1)) := (blk_cell (blk_below HM5.out.second HN6.out.below) 0).trans rfl)
  | ((with_reducible refine gate_dst (N := 28) rfl ?_); refine ev_load (blk_below HM5.out.drop.third HN6.out.below) rfl 24 (.tmp 4) rfl rfl _ Try.underlying24 rfl size24 rfl ?_)
  | (go_at_call 77; refine (field_has.calls _ (W' : Int) (H' : Int) R A c C _ _ _ (Kd.C_below HR.out (below_step HM5.out.below HN6.out.below)) HC.out HHAS.out).mono ?_; rintro e w8 ⟨rfl, hb8⟩; have HN7 := Aside0.mk (HN6.out.step hb8); clear hb8 HN6 q7)
  | ((with_reducible refine gate_dst (N := 12) rfl ?_); refine ev_new HN7.out rfl 42 rfl info42 ?_; intro g12 w9 hm9 hq9; clear hq9; have HN8 := Aside0.mk hm9; clear hm9 HN7; have q3 : w9.cell? ⟨gp, 3, none⟩ = some (.slice A C.length c) := (blk_cell (blk_below HM5.out.drop.third HN8.out.below) 3).trans rfl))
 rename_i Ka hKa
 have HKa := Aside0.mk hKa
 clear hKa
 have HCI0 : Aside0 (CI w5 w9 g10 g12 (.slice A7 r1.length c7) (.slice A8 r2.length c8) r3 r4 (chTo W' H' R C ((n : Int) + 1) u r2 0) (chTo W' H' R C ((n : Int) + 1) u r1 0)) := ⟨⟨HN8.out.below, HN8.out.second, HN8.out.head, HN8.out.geh⟩⟩
 have HG10 : Aside0 (w5.heap.size ≤ g10) := ⟨HN8.out.drop.geh⟩
 clear HN8 q3
 have HE5 : Aside0 (w5.heap[gp]? = some (.cells (planV (W' : Int) (H' : Int) R A C.length c) 24 (0, 0)) ∧ w5.heap[g5]? = some (.cells #[.slice A1 volts.length c1] 22 (0, 0)) ∧ w5.heap[g7]? = some (.cells #[.int .i64 ((n : Int) + 1)] 3 (0, 0)) ∧ w5.heap[g8]? = some (.cells #[.int .i64 0, .int .i64 0] 42 (0, 0)) ∧ w.heap.size ≤ g8 ∧ Below w.heap.size w w5) := ⟨⟨HM5.out.drop.third, HM5.out.third, HM5.out.second, HM5.out.head, HM5.out.geh, HM5.out.below⟩⟩
 clear HM5
 refine (wpIn_wide (n := 5)).1 ?_
 refine loop_ghost (fun k a' Wz => ∃ (i : Nat) (ds : List Deferred), a' = (fun (zs : Nat → Value) => ({ tmps := List.toArray (zs 0 :: zs 1 :: zs 2 :: zs 3 :: .pointer (some ⟨gp, 0, none⟩) :: .pointer (some ⟨g5, 0, none⟩) :: zs 6 :: .pointer (some ⟨g7, 0, none⟩) :: .pointer (some ⟨g8, 0, none⟩) :: zs 9 :: .pointer (some ⟨g10, 0, none⟩) :: zs 11 :: .pointer (some ⟨g12, 0, none⟩) :: zs 13 :: zs 14 :: zs 15 :: zs 16 :: zs 17 :: zs 18 :: zs 19 :: zs 20 :: zs 21 :: zs 22 :: zs 23 :: zs 24 :: zs 25 :: zs 26 :: zs 27 :: zs 28 :: zs 29 :: zs 30 :: zs 31 :: zs 32 :: zs 33 :: .slice A C.length c :: .int .i64 (C.length : Int) :: .int .i64 (i : Int) :: zs 37 :: zs 38 :: zs 39 :: zs 40 :: zs 41 :: zs 42 :: zs 43 :: zs 44 :: zs 45 :: zs 46 :: zs 47 :: zs 48 :: zs 49 :: zs 50 :: zs 51 :: zs 52 :: zs 53 :: zs 54 :: zs 55 :: zs 56 :: zs 57 :: zs 58 :: zs 59 :: zs 60 :: zs 61 :: zs 62 :: zs 63 :: zs 64 :: zs 65 :: zs 66 :: zs 67 :: zs 68 :: zs 69 :: zs 70 :: zs 71 :: zs 72 :: zs 73 :: zs 74 :: zs 75 :: zs 76 :: zs 77 :: zs 78 :: zs 79 :: zs 80 :: zs 81 :: zs 82 :: zs 83 :: zs 84 :: zs 85 :: zs 86 :: zs 87 :: zs 88 :: zs 89 :: zs 90 :: zs 91 :: []), defers := ds } : Act)) (fun q => a'.tmps.getD q undef) ∧ Aside0 (i + k = C.length) ∧ Aside0 (Marks w.heap.size Wz ds) ∧ Aside0 (CI w5 Wz g10 g12 (.slice A7 r1.length c7) (.slice A8 r2.length c8) r3 r4 (chTo W' H' R C ((n : Int) + 1) u r2 i) (chTo W' H' R C ((n : Int) + 1) u r1 i))) C.length ?_ ?_
 ·exact ⟨0, [], rfl, ⟨by omega⟩, ⟨Marks.nil _ _⟩, HCI0⟩
 clear HCI0
 rintro k a1 W1 ⟨i, ds, ha, HK, HMK, HCI⟩
 generalize (fun q => a1.tmps.getD q undef) = zs at ha
 replace ha : a1 = ({ tmps := List.toArray (zs 0 :: zs 1 :: zs 2 :: zs 3 :: .pointer (some ⟨gp, 0, none⟩) :: .pointer (some ⟨g5, 0, none⟩) :: zs 6 :: .pointer (some ⟨g7, 0, none⟩) :: .pointer (some ⟨g8, 0, none⟩) :: zs 9 :: .pointer (some ⟨g10, 0, none⟩) :: zs 11 :: .pointer (some ⟨g12, 0, none⟩) :: zs 13 :: zs 14 :: zs 15 :: zs 16 :: zs 17 :: zs 18 :: zs 19 :: zs 20 :: zs 21 :: zs 22 :: zs 23 :: zs 24 :: zs 25 :: zs 26 :: zs 27 :: zs 28 :: zs 29 :: zs 30 :: zs 31 :: zs 32 :: zs 33 :: .slice A C.length c :: .int .i64 (C.length : Int) :: .int .i64 (i : Int) :: zs 37 :: zs 38 :: zs 39 :: zs 40 :: zs 41 :: zs 42 :: zs 43 :: zs 44 :: zs 45 :: zs 46 :: zs 47 :: zs 48 :: zs 49 :: zs 50 :: zs 51 :: zs 52 :: zs 53 :: zs 54 :: zs 55 :: zs 56 :: zs 57 :: zs 58 :: zs 59 :: zs 60 :: zs 61 :: zs 62 :: zs 63 :: zs 64 :: zs 65 :: zs 66 :: zs 67 :: zs 68 :: zs 69 :: zs 70 :: zs 71 :: zs 72 :: zs 73 :: zs 74 :: zs 75 :: zs 76 :: zs 77 :: zs 78 :: zs 79 :: zs 80 :: zs 81 :: zs 82 :: zs 83 :: zs 84 :: zs 85 :: zs 86 :: zs 87 :: zs 88 :: zs 89 :: zs 90 :: zs 91 :: []), defers := ds } : Act) := ha
 subst ha
 by_cases hi : i < C.length
 rotate_left
 ·obtain rfl : i = C.length := by have := HK.out; omega
  clear hi
  refine wpIn_wide.2 ?_
  have hlt : decide ((C.length : Int) < (C.length : Int)) = false := decide_eq_false (by omega)
  rw [HEQ.out.1, HEQ.out.2.1] at HCI
  go_wp2_with fail
  refine HKa.out _ _ ?_
  go_wp2_with (first
   | ((with_reducible refine gate_dst (N := 91) rfl ?_); refine ev_load HCI.out.r rfl 42 (.tmp 12) rfl rfl _ Try.underlying42 rfl size42 rfl ?_)
   | ((with_reducible refine gate_store (t := 42) (p := 8) rfl ?_); refine ev_storeB (blk_below HE5.out.2.2.2.1 HCI.out.below) rfl 42 (.tmp 8) (.tmp 91) rfl rfl rfl size42 rfl rfl (by simp [Value.oneCell']) ?_))
  exact ret_marks (by rw [size_setRow]; exact Nat.le_trans HE5.out.2.2.2.2.2.size HCI.out.below.size) (HMK.out.keep (fun q o _ ho hcs => by rw [setRow_other _ _ _ _ (fun e => by rw [e, blk_below HE5.out.2.2.2.1 HCI.out.below] at ho; cases ho; cases hcs)]; exact ho)) (fun W' hq => ⟨_, results_row_tmp rfl _ _ g8 42 _ (0, 0) _ rfl (hq.cells _ _ (setRow_heap _ _ _ _ _ _ (blk_below HE5.out.2.2.2.1 HCI.out.below)) rfl) hu42 rfl (by rw [size42]; rfl), by rw [← HEQ.out.2.2]; rfl, (below_row (below_step HE5.out.2.2.2.2.2 HCI.out.below) HE5.out.2.2.2.2.1).trans hq.below⟩)
 have HI := Aside0.mk hi
 obtain ⟨ad, e0, hx⟩ := at_natM (Kd.C_below HR.out (below_step HE5.out.2.2.2.2.2 HCI.out.below)) i hi
 cases e0
 have i1 : (0 : Int) ≤ (i : Int) := by omega
 have i2 : (i : Int) < (C.length : Int) := by omega
 have i3 : (i : Int) < 256 := by omega
 have q7 : W1.cell? ⟨g7, 0, none⟩ = some (.int .i64 ((n : Int) + 1)) := (blk_cell (blk_below HE5.out.2.2.1 HCI.out.below) 0).trans rfl
 obtain ⟨X, hX⟩ : ∃ X, C.getD i 0 = X := ⟨_, rfl⟩
 rw [hX] at hx
 have HX2 : Aside0 (fn C i = X) := ⟨hX⟩
 clear hX hi
 by_cases q : X = (n : Int) + 1
 rotate_left
 ·have hg : (X != (n : Int) + 1) = true := bne_iff_ne.mpr q
  have HN : Aside0 (∀ b, chTo W' H' R C ((n : Int) + 1) u b (i + 1) = chTo W' H' R C ((n : Int) + 1) u b i) := ⟨fun b => by rw [chTo, HX2.out, if_neg q]; omega⟩
  clear q
  refine wpIn_wide.2 ?_
  go_wp2_with fail
  exact ⟨k - 1, by have := HK.out; have := HI.out; omega, i + 1, ds, rfl, ⟨by have := HK.out; have := HI.out; omega⟩, HMK, ⟨by rw [HN.out, HN.out]; exact HCI.out⟩⟩
 have hg : (X != (n : Int) + 1) = false := by rw [q]; simp
 have HNX : Aside0 (∀ b, chTo W' H' R C ((n : Int) + 1) u b (i + 1) = chTo W' H' R C ((n : Int) + 1) u b i + chSum C ((n : Int) + 1) u b (nbs W' H' R i)) := ⟨fun b => by rw [chTo, HX2.out, if_pos q]⟩
 have HCB : Aside0 (∀ b, (∀ j, j < W' * H' → -1000000 ≤ fn b j ∧ fn b j ≤ 1000000) → -256000000 * (i : Int) ≤ chTo W' H' R C ((n : Int) + 1) u b i ∧ chTo W' H' R C ((n : Int) + 1) u b i ≤ 256000000 * (i : Int)) := ⟨fun b hb => chTo_bound HUB.out HLEN.out.2.1 hb i (by have := HI.out; have := HLEN.out.1; omega)⟩
 have HBL := HCB.out r2 (fun j hj => (HRNG.out j hj).2)
 have HBM := HCB.out r1 (fun j hj => (HRNG.out j hj).1)
 have HN2' := HNX.out r2
 have HN1' := HNX.out r1
 have HEND : Aside0 (∀ L M, L = chTo W' H' R C ((n : Int) + 1) u r2 i + chSum C ((n : Int) + 1) u r2 (nbs W' H' R i) → M = chTo W' H' R C ((n : Int) + 1) u r1 i + chSum C ((n : Int) + 1) u r1 (nbs W' H' R i) → L = chTo W' H' R C ((n : Int) + 1) u r2 (i + 1) ∧ M = chTo W' H' R C ((n : Int) + 1) u r1 (i + 1)) := ⟨fun L M h1 h2 => ⟨h1.trans HN2'.symm, h2.trans HN1'.symm⟩⟩
 clear HN2' HN1' HNX HCB q
 generalize chTo W' H' R C ((n : Int) + 1) u r2 i = L at HCI HBL HEND
 generalize chTo W' H' R C ((n : Int) + 1) u r1 i = M at HCI HBM HEND
 have HBLM := Aside0.mk (And.intro HBL HBM)
 clear HBL HBM
 refine wpIn_wide.2 ?_
 go_wp2_with (first
  | ((with_reducible refine gate_dst (N := 44) rfl ?_); refine ev_load (blk_below HE5.out.1 HCI.out.below) rfl 24 (.tmp 4) rfl rfl _ Try.underlying24 rfl size24 rfl ?_)
  | (go_at_call 78; refine (near_calls _ _ _ _ _ _ _ _).mono ?_; rintro e w6 ⟨gp2, gi2, rfl, hM6, hz6, hgp2, hgi2⟩; have HS6 := Aside0.mk (HCI.out.step hM6.below); have HMK6 := Aside0.mk ((HMK.out.others (below_others hM6.below)).to); have HBX := Aside0.mk (And.intro hM6.head hM6.second); clear hM6 hz6 hgp2 hgi2 HCI HMK q7 hx))
 rename_i Kb hKb
 have HKb := Aside0.mk hKb
 clear hKb
 refine (wpIn_wide (n := 5)).1 ?_
 have HBase : Aside0 (w5.heap.size ≤ w6.heap.size ∧ w.heap.size ≤ w6.heap.size) := ⟨⟨HS6.out.below.size, Nat.le_trans HE5.out.2.2.2.2.2.size HS6.out.below.size⟩⟩
 have HGB : Aside0 (gi2 < w6.heap.size ∧ gp2 < w6.heap.size) := ⟨⟨blk_lt HBX.out.1, blk_lt HBX.out.2⟩⟩
 refine wpIn_rangeFunc_ownG rfl (by decide) (gf := 98) (lb := #[.pointer (some ⟨gi2, 0, none⟩), .pointer (some ⟨gp2, 0, none⟩)]) rfl trivial (enters_of Try.func98 (by kernel_rfl) rfl)
  (near1_stops 4 W' H' R (some ad) C.length c i gi2 gp2 (by rw [← HLEN.out.1]; exact HI.out) HLEN.out.2.1 HLEN.out.2.2.1 w6 HBX.out) (fun h k => ⟨k.1.trans h.1, k.2.trans h.2⟩) (fun V l o o' hl ho _ _ => ⟨World.putObj_heap_other (by have := HGB.out.1; omega), World.putObj_heap_other (by have := HGB.out.2; omega)⟩) (Below.refl _ _) (fun _ => rfl)
  (fun pre V => CJ w w5 g10 g12 (.slice A7 r1.length c7) (.slice A8 r2.length c8) r3 r4 (L + chSum C ((n : Int) + 1) u r2 (pre.map (·.1))) (M + chSum C ((n : Int) + 1) u r1 (pre.map (·.1))) w6.heap.size ds gi2 gp2 #[.int .i64 i] (planV W' H' R (some ad) C.length c) V)
  (fun _ _ _ => False) ?hI ?hIx ?h0 (fun x => { tmps := List.toArray (zs 0 :: zs 1 :: zs 2 :: zs 3 :: .pointer (some ⟨gp, 0, none⟩) :: .pointer (some ⟨g5, 0, none⟩) :: zs 6 :: .pointer (some ⟨g7, 0, none⟩) :: .pointer (some ⟨g8, 0, none⟩) :: zs 9 :: .pointer (some ⟨g10, 0, none⟩) :: zs 11 :: .pointer (some ⟨g12, 0, none⟩) :: .int .i64 (i : Int) :: .int .i64 X :: .int .i64 x.1.1 :: .int .i64 x.1.2 :: zs 17 :: zs 18 :: zs 19 :: zs 20 :: zs 21 :: zs 22 :: zs 23 :: zs 24 :: zs 25 :: zs 26 :: zs 27 :: zs 28 :: zs 29 :: zs 30 :: zs 31 :: zs 32 :: zs 33 :: .slice (some ad) C.length c :: .int .i64 (C.length : Int) :: .int .i64 (i : Int) :: .bool true :: .int .i64 (i : Int) :: .pointer (some (ad.add i)) :: .int .i64 X :: .int .i64 X :: .int .i64 ((n : Int) + 1) :: .bool false :: .agg (planV (W' : Int) (H' : Int) R (some ad) C.length c) :: .int .i64 (i : Int) :: .func (.func 98) #[] #[.pointer (some ⟨gi2, 0, none⟩), .pointer (some ⟨gp2, 0, none⟩)] :: .int .i64 x.1.1 :: .int .i64 x.1.2 :: zs 49 :: zs 50 :: zs 51 :: zs 52 :: zs 53 :: zs 54 :: zs 55 :: zs 56 :: zs 57 :: zs 58 :: zs 59 :: zs 60 :: zs 61 :: zs 62 :: zs 63 :: zs 64 :: zs 65 :: zs 66 :: zs 67 :: zs 68 :: zs 69 :: zs 70 :: zs 71 :: zs 72 :: zs 73 :: zs 74 :: zs 75 :: zs 76 :: zs 77 :: zs 78 :: zs 79 :: zs 80 :: zs 81 :: zs 82 :: zs 83 :: zs 84 :: zs 85 :: zs 86 :: zs 87 :: zs 88 :: zs 89 :: zs 90 :: zs 91 :: []), defers := [] }) ?assign ?body ?done ?stop
 case hI =>
  rintro pre V V' row ⟨h1, h4, h5, h6, h7⟩ hg hr
  have ht : Turn w6.heap.size V V' row := ⟨hg, hr⟩
  exact ⟨h1.turn ht HBase.out.1, h4.turn ht h5, Nat.le_trans h5 hg.size, ht.heap h6, ht.heap h7⟩
 case hIx =>
  intro _ _ _ _ _ h
  exact h.elim
 case h0 => exact ⟨by rw [List.map_nil]; show CI _ _ _ _ _ _ _ _ (L + 0) (M + 0); rw [Int.add_zero, Int.add_zero]; exact HS6.out, HMK6.out, Nat.le_refl _, HBX.out.1, HBX.out.2⟩
 case assign =>
  intro l x V K hK
  gi_wp2
  exact hK
 case body =>
  rintro l pre x V hcj hlt
  have hnb := nbs_lt (by rw [← HLEN.out.1]; exact HI.out) x.2
  have hw12 := hnb.2.2.2 HLEN.out.2.1
  have hpre : ∀ p, p ∈ pre.map (·.1) → p.1 < W' * H' ∧ 1 ≤ p.2 ∧ p.2 ≤ 32 := fun p hp => by
   obtain ⟨y, _, rfl⟩ := List.mem_map.1 hp
   have h8 := nbs_lt (by rw [← HLEN.out.1]; exact HI.out) y.2
   exact ⟨h8.1, h8.2.2.1, h8.2.2.2 HLEN.out.2.1⟩
  have hb2 := chSum_bound (C := C) (e := (n : Int) + 1) (b := r2) HUB.out (l := pre.map (·.1)) (fun p hp => ⟨(HRNG.out _ (hpre p hp).1).2, (hpre p hp).2⟩)
  have hb1 := chSum_bound (C := C) (e := (n : Int) + 1) (b := r1) HUB.out (l := pre.map (·.1)) (fun p hp => ⟨(HRNG.out _ (hpre p hp).1).1, (hpre p hp).2⟩)
  rw [List.length_map] at hb1 hb2
  have hr2 := (HRNG.out _ hnb.1).2
  have hr1 := (HRNG.out _ hnb.1).1
  have ho2 := chOne_bound (C := C) (e := (n : Int) + 1) (b := r2) (p := x.1) HUB.out hr2 ⟨hnb.2.2.1, hw12⟩
  have ho1 := chOne_bound (C := C) (e := (n : Int) + 1) (b := r1) (p := x.1) HUB.out hr1 ⟨hnb.2.2.1, hw12⟩
  have HUN : Aside0 (∀ b, chSum C ((n : Int) + 1) u b ((pre ++ [x]).map (·.1)) = chSum C ((n : Int) + 1) u b (pre.map (·.1)) + chOne C ((n : Int) + 1) u b x.1) := ⟨fun b => by rw [List.map_append, List.map_singleton, chSum_snoc]⟩
  have HU2 := HUN.out r2
  have HU1 := HUN.out r1
  have hkC : x.1.1 < C.length := by rw [HLEN.out.1]; exact hnb.1
  have hO2 : chOne C ((n : Int) + 1) u r2 x.1 = if fn C x.1.1 = (n : Int) + 1 then 0 else x.1.2 * (u - fn r2 x.1.1) := rfl
  have hO1 : chOne C ((n : Int) + 1) u r1 x.1 = if fn C x.1.1 = (n : Int) + 1 then 0 else x.1.2 * (u - fn r1 x.1.1) := rfl
  generalize chOne C ((n : Int) + 1) u r2 x.1 = O2 at HU2 hO2 ho2
  generalize chOne C ((n : Int) + 1) u r1 x.1 = O1 at HU1 hO1 ho1
  generalize chSum C ((n : Int) + 1) u r2 (pre.map (·.1)) = P2 at HU2 hb2 hcj
  generalize chSum C ((n : Int) + 1) u r1 (pre.map (·.1)) = P1 at HU1 hb1 hcj
  have HU12 := Aside0.mk (And.intro HU1 HU2)
  have hw11 := hnb.2.2.1
  clear HU1 HU2 HUN hpre hnb
  show Code.wpIn (Fence.wide.inRound l) (5 - 1 - 1) Try.prog _ (ownPostG w6.heap.size (Boxes gi2 gp2) _ _ (pre ++ [x]) V) _ _
  obtain ⟨kx, hkx⟩ : ∃ kx, x.1.1 = kx := ⟨_, rfl⟩
  obtain ⟨wx, hwx⟩ : ∃ wx, x.1.2 = wx := ⟨_, rfl⟩
  rw [hkx] at hkC hO1 hO2 hr1 hr2
  rw [hwx] at hO1 hO2 hw11 hw12
  rw [hkx, hwx]
  clear hkx hwx
  have hsz : -128000000000 ≤ L + P2 ∧ L + P2 ≤ 128000000000 ∧ -128000000000 ≤ M + P1 ∧ M + P1 ≤ 128000000000 := by
   have h1 := HBLM.out
   have h2 := HI.out
   have h3 := HLEN.out.2.2.2
   omega
  clear hb1 hb2 hlt
  obtain ⟨adk, ek, hck0⟩ := at_natM HR.out kx hkC
  cases ek
  obtain ⟨ad7, e7, hc70⟩ := at_natM HV0.out.2.2 kx (by rw [HL12.out.1]; exact hkC)
  cases e7
  obtain ⟨ad8, e8, hc80⟩ := at_natM HV1.out.2.2 kx (by rw [HL12.out.2]; exact hkC)
  cases e8
  rw [show r1.getD kx 0 = fn r1 kx from rfl] at hc70
  rw [show r2.getD kx 0 = fn r2 kx from rfl] at hc80
  obtain ⟨Y, hY⟩ : ∃ Y, C.getD kx 0 = Y := ⟨_, rfl⟩
  rw [hY] at hck0
  rw [show fn C kx = Y from hY] at hO1 hO2
  obtain ⟨hi1, hhi⟩ : ∃ z, fn r2 kx = z := ⟨_, rfl⟩
  obtain ⟨lo1, hlo⟩ : ∃ z, fn r1 kx = z := ⟨_, rfl⟩
  rw [hhi] at hc80 hr2 hO2
  rw [hlo] at hc70 hr1 hO1
  obtain ⟨evv, hcv0⟩ := HCV.out
  subst evv
  have HCELLS : Aside0 (∀ V' : World, Below w5.heap.size w5 V' → V'.cell? ⟨gp, 3, none⟩ = some (.slice (some ad) C.length c) ∧ V'.cell? (ad.add kx) = some (.int .i64 Y) ∧ V'.cell? ⟨g7, 0, none⟩ = some (.int .i64 ((n : Int) + 1)) ∧ V'.cell? ⟨g5, 0, none⟩ = some (.slice (some adv) volts.length c1) ∧ V'.cell? (adv.add n) = some (.int .i64 u) ∧ V'.cell? (ad7.add kx) = some (.int .i64 lo1) ∧ V'.cell? (ad8.add kx) = some (.int .i64 hi1)) := ⟨fun V' hb => ⟨(blk_cell (blk_below HE5.out.1 hb) 3).trans rfl, pw_cell_below (below_step HE5.out.2.2.2.2.2 hb) hck0, (blk_cell (blk_below HE5.out.2.2.1 hb) 0).trans rfl, (blk_cell (blk_below HE5.out.2.1 hb) 0).trans rfl, pw_cell_below (below_step HE5.out.2.2.2.2.2 hb) hcv0, pw_cell_below hb hc70, pw_cell_below hb hc80⟩⟩
  obtain ⟨t1, t2, t3, _⟩ := HCELLS.out V hcj.1.below
  have k3 : (0 : Int) ≤ (kx : Int) := by omega
  have k4 : (kx : Int) < (C.length : Int) := by omega
  have HKR : Aside0 ((kx : Int) < (r1.length : Int) ∧ (kx : Int) < (r2.length : Int)) := ⟨by have := HL12.out; omega⟩
  have HCJ := Aside0.mk hcj
  clear hck0 hc70 hc80 hcv0 hY hhi hlo hcj hkC
  by_cases qy : Y = (n : Int) + 1
  ·have q1 : (Y != (n : Int) + 1) = false := by rw [qy]; simp
   rw [if_pos qy] at hO1 hO2
   have HO := Aside0.mk (And.intro hO1 hO2)
   clear qy hO1 hO2 ho1 ho2 hr1 hr2 hw11 hw12 hsz
   refine wpIn_block (wpIn_seq_k (fun K hK => ?_))
   have HK1 := Aside0.mk hK
   clear hK
   have HBd := Aside0.mk (below_drew1 (Below.refl V.heap.size V))
   refine startIn_ (r := some l) (n := 5 - 1 - 1) (m := 7) (S := fun w' => w'.cell? ⟨gp, 3, none⟩ = some (.slice (some ad) C.length c) ∧ w'.cell? (ad.add kx) = some (.int .i64 Y) ∧ w'.cell? ⟨g7, 0, none⟩ = some (.int .i64 ((n : Int) + 1))) (ds := []) #[false, false, false, false, false, false, false] (by kernel_rfl) (by kernel_rfl) (then_out (block_out ownG_out)) rfl rfl ⟨t1, t2, t3⟩ (fun hHeld => ?_); refine with_tabW chargeF.tab14 chargeF.bits14 (fun HT_ HW_ => ?_)
   generalize V.drew = wd at HBd hHeld  ⊢
   refine pu_ 0 49 (bS 7 1) HT_ ?_
   refine pu_ 2 51 (bS 7 5) HT_ ?_
   refine ta_ 1 50 (bS 7 7) HT_ HW_ hHeld ?_
   refine pu_ 3 52 (bS 7 15) HT_ ?_
   refine ta_ 4 53 (bS 7 31) HT_ HW_ hHeld ?_
   refine ta_ 5 54 (bS 7 63) HT_ HW_ hHeld ?_
   refine pu_ 6 55 (bS 7 127) HT_ ?_
   refine done_ (done_of HT_.out (by kernel_rfl)) ?_
   clear hHeld HT_ HW_
   refine HK1.out _ _ (wpIn_cond_false rfl (wpIn_skip ?_))
   have HCJ2 := Aside0.mk (HCJ.out.step HBd.out)
   exact ⟨(below_others HBd.out).from _, ⟨HCJ2.out.2.2.2.1.trans HCJ.out.2.2.2.1.symm, HCJ2.out.2.2.2.2.trans HCJ.out.2.2.2.2.symm⟩, by show CJ w w5 g10 g12 (.slice (some ad7) r1.length c7) (.slice (some ad8) r2.length c8) r3 r4 (L + chSum C ((n : Int) + 1) u r2 ((pre ++ [x]).map (·.1))) (M + chSum C ((n : Int) + 1) u r1 ((pre ++ [x]).map (·.1))) w6.heap.size ds gi2 gp2 #[.int .i64 i] (planV W' H' R (some ad) C.length c) wd; rw [HU12.out.1, HU12.out.2, HO.out.1, HO.out.2, Int.add_zero, Int.add_zero]; exact HCJ2.out⟩
  ·have q1 : (Y != (n : Int) + 1) = true := bne_iff_ne.mpr qy
   rw [if_neg qy] at hO1 hO2
   clear qy
   obtain ⟨d2, hd2⟩ : ∃ d, u - hi1 = d := ⟨_, rfl⟩
   obtain ⟨d1, hd1⟩ : ∃ d, u - lo1 = d := ⟨_, rfl⟩
   rw [hd2] at hO2
   rw [hd1] at hO1
   have m2 : IntKind.i64.wrap (u - hi1) = d2 := by rw [hd2]; exact IntWalk.i64_in _ (by have := HUB.out; omega)
   have m1 : IntKind.i64.wrap (u - lo1) = d1 := by rw [hd1]; exact IntWalk.i64_in _ (by have := HUB.out; omega)
   have p2 : IntKind.i64.wrap (wx * d2) = O2 := by rw [← hO2]; exact IntWalk.i64_in _ (by omega)
   have p1 : IntKind.i64.wrap (wx * d1) = O1 := by rw [← hO1]; exact IntWalk.i64_in _ (by omega)
   obtain ⟨L2, hL2⟩ : ∃ z, L + P2 = z := ⟨_, rfl⟩
   obtain ⟨M2, hM2⟩ : ∃ z, M + P1 = z := ⟨_, rfl⟩
   rw [hL2, hM2] at HCJ hsz
   have s2 : IntKind.i64.wrap (L2 + O2) = L2 + O2 := IntWalk.i64_in _ (by omega)
   have s1 : IntKind.i64.wrap (M2 + O1) = M2 + O1 := IntWalk.i64_in _ (by omega)
   have HLM : Aside0 (L + (P2 + O2) = L2 + O2 ∧ M + (P1 + O1) = M2 + O1) := ⟨by omega⟩
   clear hd1 hd2 hO1 hO2 ho1 ho2 hr1 hr2 hw11 hw12 hL2 hM2 hsz
   refine wpIn_block (wpIn_seq_k (fun K hK => ?_))
   have HK1 := Aside0.mk hK
   clear hK
   have HBd := Aside0.mk (below_drew1 (Below.refl V.heap.size V))
   refine startIn_ (r := some l) (n := 5 - 1 - 1) (m := 7) (S := fun w' => w'.cell? ⟨gp, 3, none⟩ = some (.slice (some ad) C.length c) ∧ w'.cell? (ad.add kx) = some (.int .i64 Y) ∧ w'.cell? ⟨g7, 0, none⟩ = some (.int .i64 ((n : Int) + 1))) (ds := []) #[false, false, false, false, false, false, false] (by kernel_rfl) (by kernel_rfl) (then_out (block_out ownG_out)) rfl rfl ⟨t1, t2, t3⟩ (fun hHeld => ?_); refine with_tabW chargeF.tab14 chargeF.bits14 (fun HT_ HW_ => ?_)
   generalize V.drew = wd at HBd hHeld  ⊢
   refine pu_ 0 49 (bS 7 1) HT_ ?_
   refine pu_ 2 51 (bS 7 5) HT_ ?_
   refine ta_ 1 50 (bS 7 7) HT_ HW_ hHeld ?_
   refine pu_ 3 52 (bS 7 15) HT_ ?_
   refine ta_ 4 53 (bS 7 31) HT_ HW_ hHeld ?_
   refine ta_ 5 54 (bS 7 63) HT_ HW_ hHeld ?_
   refine pu_ 6 55 (bS 7 127) HT_ ?_
   refine done_ (done_of HT_.out (by kernel_rfl)) ?_
   clear hHeld HT_ HW_
   refine HK1.out _ _ (wpIn_cond_true rfl ?_)
   clear HK1
   have HCJ2 := Aside0.mk (HCJ.out.step HBd.out)
   have HKO := Aside0.mk (below_others HBd.out)
   refine wpIn_seq_k (fun K2 hK2 => ?_)
   have HK2 := Aside0.mk hK2
   clear hK2 t1 t2 t3 HBd
   obtain ⟨_, _, u1, u2, u3, u4, u5⟩ := HCELLS.out wd HCJ2.out.1.below
   have u6 : wd.cell? ⟨g12, 0, none⟩ = some (.int .i64 L2) := (blk_cell HCJ2.out.1.r 0).trans rfl
   have u7 : wd.cell? ⟨g10, 1, none⟩ = some (.slice (some ad8) r2.length c8) := (blk_cell HCJ2.out.1.s 1).trans rfl
   have k5 := HKR.out.2
   have HBwe := Aside0.mk (below_drew1 (Below.refl wd.heap.size wd))
   refine startIn_ (r := some l) (n := 5 - 1 - 1) (m := 18) (S := fun w' => w'.cell? ⟨g12, 0, none⟩ = some (.int .i64 L2) ∧ w'.cell? ⟨g5, 0, none⟩ = some (.slice (some adv) volts.length c1) ∧ w'.cell? ⟨g7, 0, none⟩ = some (.int .i64 ((n : Int) + 1)) ∧ w'.cell? (adv.add n) = some (.int .i64 u) ∧ w'.cell? ⟨g10, 1, none⟩ = some (.slice (some ad8) r2.length c8) ∧ w'.cell? (ad8.add kx) = some (.int .i64 hi1)) (ds := [17]) #[false, false, false, false, false, false, false, false, false, false, false, false, false, false, false, false, false, false] (by kernel_rfl) (by kernel_rfl) (then_out (block_out ownG_out)) rfl rfl ⟨u6, u2, u1, u3, u7, u5⟩ (fun hHeld => ?_); refine with_tabW chargeF.tab15 chargeF.bits15 (fun HT_ HW_ => ?_)
   generalize wd.drew = we at HBwe hHeld  ⊢
   refine pu_ 0 56 (bS 18 1) HT_ ?_
   refine pu_ 2 58 (bS 18 5) HT_ ?_
   refine pu_ 8 64 (bS 18 261) HT_ ?_
   refine pu_ 10 66 (bS 18 1285) HT_ ?_
   refine ta_ 1 57 (bS 18 1287) HT_ HW_ hHeld ?_
   refine ta_ 3 59 (bS 18 1295) HT_ HW_ hHeld ?_
   refine ta_ 4 60 (bS 18 1311) HT_ HW_ hHeld ?_
   refine pu_ 5 61 (bS 18 1343) HT_ ?_
   refine pu_ 6 62 (bS 18 1407) HT_ ?_
   refine ta_ 7 63 (bS 18 1535) HT_ HW_ hHeld ?_
   refine ta_ 9 65 (bS 18 2047) HT_ HW_ hHeld ?_
   refine pu_ 11 67 (bS 18 4095) HT_ ?_
   refine ta_ 12 68 (bS 18 8191) HT_ HW_ hHeld ?_
   refine pu_ 13 69 (bS 18 16383) HT_ ?_
   refine pu_ 14 70 (bS 18 32767) HT_ ?_
   refine pu_ 15 71 (bS 18 65535) HT_ ?_
   refine pu_ 16 72 (bS 18 131071) HT_ ?_
   have HCJ3 := Aside0.mk (HCJ2.out.step HBwe.out)
   have HKO2 := Aside0.mk (HKO.out.trans (below_others HBwe.out))
   have v6 : we.cell? ⟨g12, 0, none⟩ = some (.int .i64 L2) := (blk_cell HCJ3.out.1.r 0).trans rfl
   have w6' := blk_frozen HCJ3.out.1.r 0
   clear u1 u2 u3 u4 u5 u6 u7 k5 HBwe HCJ2 HKO hHeld
   refine la_ 17 (bS 18 262143) (fun K hK => ?_)
   go_simp
   refine hK.out _ _ ?_
   refine done_ (by kernel_rfl) ?_
   clear hK K HT_ HW_ v6 w6'
   refine HK2.out _ _ ?_
   clear HK2
   have HCJ4 := Aside0.mk (HCJ3.out.put0 (L2 + O2))
   have HKO3 := Aside0.mk (HKO2.out.trans (KeepsOthers.setCell _ ⟨g12, 0, none⟩ (.int .i64 (L2 + O2))))
   clear HCJ3 HKO2
   generalize we.setCell ⟨g12, 0, none⟩ (.int .i64 (L2 + O2)) = W8 at HCJ4 HKO3 ⊢
   obtain ⟨_, _, u1, u2, u3, u4, u5⟩ := HCELLS.out W8 HCJ4.out.1.below
   have u6 : W8.cell? ⟨g12, 1, none⟩ = some (.int .i64 M2) := (blk_cell HCJ4.out.1.r 1).trans rfl
   have u7 : W8.cell? ⟨g10, 0, none⟩ = some (.slice (some ad7) r1.length c7) := (blk_cell HCJ4.out.1.s 0).trans rfl
   have k5 := HKR.out.1
   have HBwf := Aside0.mk (below_drew1 (Below.refl W8.heap.size W8))
   refine startIn_ (r := some l) (n := 5 - 1 - 1) (m := 18) (S := fun w' => w'.cell? ⟨g12, 1, none⟩ = some (.int .i64 M2) ∧ w'.cell? ⟨g5, 0, none⟩ = some (.slice (some adv) volts.length c1) ∧ w'.cell? ⟨g7, 0, none⟩ = some (.int .i64 ((n : Int) + 1)) ∧ w'.cell? (adv.add n) = some (.int .i64 u) ∧ w'.cell? ⟨g10, 0, none⟩ = some (.slice (some ad7) r1.length c7) ∧ w'.cell? (ad7.add kx) = some (.int .i64 lo1)) (ds := [17]) #[false, false, false, false, false, false, false, false, false, false, false, false, false, false, false, false, false, false] (by kernel_rfl) (by kernel_rfl) (block_out ownG_out) rfl rfl ⟨u6, u2, u1, u3, u7, u4⟩ (fun hHeld => ?_); refine with_tabW chargeF.tab16 chargeF.bits16 (fun HT_ HW_ => ?_)
   generalize W8.drew = wf at HBwf hHeld  ⊢
   refine pu_ 0 73 (bS 18 1) HT_ ?_
   refine pu_ 2 75 (bS 18 5) HT_ ?_
   refine pu_ 8 81 (bS 18 261) HT_ ?_
   refine pu_ 10 83 (bS 18 1285) HT_ ?_
   refine ta_ 1 74 (bS 18 1287) HT_ HW_ hHeld ?_
   refine ta_ 3 76 (bS 18 1295) HT_ HW_ hHeld ?_
   refine ta_ 4 77 (bS 18 1311) HT_ HW_ hHeld ?_
   refine pu_ 5 78 (bS 18 1343) HT_ ?_
   refine pu_ 6 79 (bS 18 1407) HT_ ?_
   refine ta_ 7 80 (bS 18 1535) HT_ HW_ hHeld ?_
   refine ta_ 9 82 (bS 18 2047) HT_ HW_ hHeld ?_
   refine pu_ 11 84 (bS 18 4095) HT_ ?_
   refine ta_ 12 85 (bS 18 8191) HT_ HW_ hHeld ?_
   refine pu_ 13 86 (bS 18 16383) HT_ ?_
   refine pu_ 14 87 (bS 18 32767) HT_ ?_
   refine pu_ 15 88 (bS 18 65535) HT_ ?_
   refine pu_ 16 89 (bS 18 131071) HT_ ?_
   have HCJ5 := Aside0.mk (HCJ4.out.step HBwf.out)
   have HKO4 := Aside0.mk (HKO3.out.trans (below_others HBwf.out))
   have v6 : wf.cell? ⟨g12, 1, none⟩ = some (.int .i64 M2) := (blk_cell HCJ5.out.1.r 1).trans rfl
   have w6' := blk_frozen HCJ5.out.1.r 1
   clear u1 u2 u3 u4 u5 u6 u7 k5 HBwf HCJ4 HKO3 hHeld
   refine la_ 17 (bS 18 262143) (fun K hK => ?_)
   go_simp
   refine hK.out _ _ ?_
   refine done_ (by kernel_rfl) ?_
   clear hK K HT_ HW_ v6 w6'
   have HCJ6 := Aside0.mk (HCJ5.out.put1 (M2 + O1))
   have HKO5 := Aside0.mk (HKO4.out.trans (KeepsOthers.setCell _ ⟨g12, 1, none⟩ (.int .i64 (M2 + O1))))
   exact ⟨HKO5.out.from _, ⟨HCJ6.out.2.2.2.1.trans HCJ.out.2.2.2.1.symm, HCJ6.out.2.2.2.2.trans HCJ.out.2.2.2.2.symm⟩, by show CJ w w5 g10 g12 (.slice (some ad7) r1.length c7) (.slice (some ad8) r2.length c8) r3 r4 (L + chSum C ((n : Int) + 1) u r2 ((pre ++ [x]).map (·.1))) (M + chSum C ((n : Int) + 1) u r1 ((pre ++ [x]).map (·.1))) w6.heap.size ds gi2 gp2 #[.int .i64 i] (planV W' H' R (some ad) C.length c) _; rw [HU12.out.1, HU12.out.2, HLM.out.1, HLM.out.2]; exact HCJ6.out⟩
 case done =>
  rintro D xs V hD hxs ⟨h1, h4, h5, _⟩ hK
  have HMV := Aside0.mk (h4.push HBase.out.2 hD hK)
  rw [hxs] at h1
  obtain ⟨eL, eM⟩ := HEND.out _ _ rfl rfl
  rw [eL, eM] at h1
  have HV := Aside0.mk h1
  clear h1 h4 h5 hK hD hxs eL eM
  refine HKb.out _ _ ?_
  clear HKb
  go_wp2_with fail
  exact ⟨k - 1, by have := HK.out; have := HI.out; omega, i + 1, _, rfl, ⟨by have := HK.out; have := HI.out; omega⟩, HMV, HV⟩
 case stop =>
  rintro D cd pre V _ _ h _
  exact h.elim
end Go.Proofs.Ytndkkjpgnmahbaa.Print
end

section
namespace Go.Proofs.Ytndkkjpgnmahbaa.H
open Go.RowKit YtndkkjpgnmahbaaW.PrintWords YtndkkjpgnmahbaaW.PrintLast YtndkkjpgnmahbaaW.PrintMore Go.Proofs.Ytndkkjpgnmahbaa.Print
namespace Mem
variable {w W W1 : World} {l : List (Nat × Array Value × TypeId)} {g g1 g2 : Nat} {cs c1 c2 : Array Value} {t t1 t2 : TypeId}
theorem add (h : Mem w W l) (hb : Below W.heap.size W W1) (hg : W1.heap[g]? = some (.cells cs t (0, 0))) (hge : W.heap.size ≤ g) : Mem w W1 ((g, cs, t) :: l) := by
 have h1 := h.step hb
 refine ⟨h1.below, fun p hp => ?_, fun p hp => ?_, .cons (fun p hp => ?_) h.apart⟩
 ·rcases List.mem_cons.1 hp with rfl | hp
  ·exact hg
  ·exact h1.blk p hp
 ·rcases List.mem_cons.1 hp with rfl | hp
  ·exact Nat.le_trans h.below.size hge
  ·exact h.ge p hp
 ·have := blk_lt (h.blk p hp)
  show g ≠ p.1
  omega
theorem add2 (h : Mem w W l) (hb : Below W.heap.size W W1) (hg1 : W1.heap[g1]? = some (.cells c1 t1 (0, 0))) (hge1 : W.heap.size ≤ g1) (hg2 : W1.heap[g2]? = some (.cells c2 t2 (0, 0))) (hge2 : W.heap.size ≤ g2) (hne : g2 ≠ g1) : Mem w W1 ((g2, c2, t2) :: (g1, c1, t1) :: l) := by
 have h1 := h.add hb hg1 hge1
 refine ⟨h1.below, fun p hp => ?_, fun p hp => ?_, .cons (fun p hp => ?_) h1.apart⟩
 ·rcases List.mem_cons.1 hp with rfl | hp
  ·exact hg2
  ·exact h1.blk p hp
 ·rcases List.mem_cons.1 hp with rfl | hp
  ·exact Nat.le_trans h.below.size hge2
  ·exact h1.ge p hp
 ·rcases List.mem_cons.1 hp with rfl | hp
  ·exact hne
  ·have := blk_lt (h.blk p hp)
   show g2 ≠ p.1
   omega
theorem bring {p : Nat × Array Value × TypeId} {l' : List (Nat × Array Value × TypeId)} (h : Mem w W l) (hp : l.Perm (p :: l')) : Mem w W (p :: l') :=
 ⟨h.below, fun q hq => h.blk q (hp.mem_iff.2 hq), fun q hq => h.ge q (hp.mem_iff.2 hq), h.apart.perm hp (fun a => Ne.symm a)⟩
theorem third3 {q r s : Nat × Array Value × TypeId} (h : Mem w W (q :: r :: s :: l)) : Mem w W (s :: q :: r :: l) := h.bring (by
 refine (List.Perm.cons q (List.Perm.swap s r l)).trans ?_
 exact List.Perm.swap s q (r :: l))
theorem blk4 {p1 p2 p3 : Nat × Array Value × TypeId} (h : Mem w W (p1 :: p2 :: p3 :: (g, cs, t) :: l)) : W.heap[g]? = some (.cells cs t (0, 0)) := h.blk (g, cs, t) (by simp)
theorem blk5 {p1 p2 p3 p4 : Nat × Array Value × TypeId} (h : Mem w W (p1 :: p2 :: p3 :: p4 :: (g, cs, t) :: l)) : W.heap[g]? = some (.cells cs t (0, 0)) := h.blk (g, cs, t) (by simp)
theorem blk7 {p1 p2 p3 p4 p5 p6 : Nat × Array Value × TypeId} (h : Mem w W (p1 :: p2 :: p3 :: p4 :: p5 :: p6 :: (g, cs, t) :: l)) : W.heap[g]? = some (.cells cs t (0, 0)) := h.blk (g, cs, t) (by simp)
end Mem
end Go.Proofs.Ytndkkjpgnmahbaa.H
namespace Go.Proofs.Ytndkkjpgnmahbaa.Print
open Go.RowKit YtndkkjpgnmahbaaW.PrintWords YtndkkjpgnmahbaaW.PrintLast YtndkkjpgnmahbaaW.PrintMore Ytndkkjpgnmahbaa.H Proofs.Field
def IsNums (cur : Array Value) (l : List Int) : Prop := l.length ≤ 9223372036854775807 ∧ ∀ i, i < l.length → cur[i]? = some (.int .i64 (fn l i))
theorem R_mem {W : World} {base : Nat} {ok : Nat → Prop} {v : Value} {l : List Int} (h : Kd.R (Kd.int .i64) 3 W base ok v l) (hp : 0 < l.length) :
  ∃ g c cur, v = .slice (some ⟨g, 0, none⟩) l.length c ∧ l.length ≤ c ∧ W.heap[g]? = some (.cells cur 3 (0, 0)) ∧ base ≤ g ∧ ok g ∧ IsNums cur l := by
 obtain ⟨h0, inner, ⟨hl, ho⟩, hr⟩ := h
 rcases ho with ⟨rfl, hn⟩ | ⟨g, c, cur, rfl, hg, hh, hc, hm, hs, ht⟩
 ·omega
 ·refine ⟨g, c, cur, rfl, hc, hh, hg, h0 g rfl, by unfold maxLen at hm; omega, fun i hi => ?_⟩
  have h1 := hr.2 i (fn l i) (by
   unfold fn
   rw [List.getD_eq_getElem?_getD, List.getElem?_eq_getElem hi]
   rfl)
  have h2 : (inner.drop (i * 1)).take 1 = [Value.int .i64 (fn l i)] := h1
  have h3 : inner[i]? = some (Value.int .i64 (fn l i)) := by
   have h4 : ((inner.drop (i * 1)).take 1)[0]? = some (Value.int .i64 (fn l i)) := by rw [h2]; rfl
   rw [List.getElem?_take_of_lt (by omega), List.getElem?_drop] at h4
   simpa using h4
  rw [← ht, List.getElem?_take_of_lt (by show i < l.length * 1; omega), Array.getElem?_toList] at h3
  exact h3
theorem C_mem {W : World} {g : Nat} {cur : Array Value} {l : List Int} {t : TypeId} (hb : W.heap[g]? = some (.cells cur t (0, 0))) (hn : IsNums cur l) : Kd.C (Kd.int .i64) W (some ⟨g, 0, none⟩) l.length l := by
 refine Kd.C_of_reads (d := (0 : Int)) (h1 := fun _ => rfl) ⟨rfl, hn.1, fun _ => ⟨_, rfl, fun j hj => ?_⟩⟩
 have h1 := (blk_cell hb j).trans (hn.2 j hj)
 rw [show (⟨g, 0, none⟩ : Addr).add j = ⟨g, j, none⟩ by unfold Addr.add; split <;> simp_all]
 rw [h1]
 rfl
theorem IsNums.set {cur : Array Value} {l : List Int} (h : IsNums cur l) (i : Nat) (x : Int) : IsNums (cur.setIfInBounds i (.int .i64 x)) (l.set i x) := by
 refine ⟨by rw [List.length_set]; exact h.1, fun j hj => ?_⟩
 rw [List.length_set] at hj
 have h1 := h.2 j hj
 have hs : j < cur.size := (Array.getElem?_eq_some_iff.1 h1).1
 by_cases q : i = j
 ·subst q
  rw [Array.getElem?_setIfInBounds_self_of_lt hs, fn_set hj, if_pos rfl]
 ·rw [Array.getElem?_setIfInBounds_ne q, h1]
  congr 2
  unfold fn
  rw [List.getD_eq_getElem?_getD, List.getD_eq_getElem?_getD, List.getElem?_set_ne q]
theorem two_mem {W W1 : World} {w : World} {l : List (Nat × Array Value × TypeId)} {v0 v1 : Value} {r1 r2 : List Int} (hm : H.Mem w W l) (hb : Below W.heap.size W W1)
  (h1 : Kd.R (Kd.int .i64) 3 W1 W.heap.size (fun k => some k ≠ v1.ownBlock) v0 r1) (h2 : Kd.R (Kd.int .i64) 3 W1 W.heap.size (fun k => some k ≠ v0.ownBlock) v1 r2) (hp1 : 0 < r1.length) (hp2 : 0 < r2.length) :
  ∃ g1 c1 cur1 g2 c2 cur2, v0 = .slice (some ⟨g1, 0, none⟩) r1.length c1 ∧ v1 = .slice (some ⟨g2, 0, none⟩) r2.length c2 ∧ r1.length ≤ c1 ∧ r2.length ≤ c2 ∧ IsNums cur1 r1 ∧ IsNums cur2 r2 ∧ H.Mem w W1 ((g2, cur2, 3) :: (g1, cur1, 3) :: l) := by
 obtain ⟨g1, c1, cur1, rfl, a1, a2, a3, a4, a5⟩ := R_mem h1 hp1
 obtain ⟨g2, c2, cur2, rfl, b1, b2, b3, b4, b5⟩ := R_mem h2 hp2
 exact ⟨g1, c1, cur1, g2, c2, cur2, rfl, rfl, a1, b1, a5, b5, hm.add2 hb a2 a3 b2 b3 (fun e => b4 (by subst e; rfl))⟩
theorem one_mem {W W1 : World} {w : World} {l : List (Nat × Array Value × TypeId)} {v : Value} {ok : Nat → Prop} {r : List Int} (hm : H.Mem w W l) (hb : Below W.heap.size W W1) (h : Kd.R (Kd.int .i64) 3 W1 W.heap.size ok v r) (hp : 0 < r.length) :
  ∃ g c cur, v = .slice (some ⟨g, 0, none⟩) r.length c ∧ r.length ≤ c ∧ IsNums cur r ∧ H.Mem w W1 ((g, cur, 3) :: l) := by
 obtain ⟨g, c, cur, rfl, a1, a2, a3, a4, a5⟩ := R_mem h hp
 exact ⟨g, c, cur, rfl, a1, a5, hm.add hb a2 a3⟩
section
variable {P : Program} {ops : Array Oper} {rest : List Oper} {o : Oper} {a : Act} {Q : Exit → Act → World → Prop} {w W : World} {l : List (Nat × Array Value × TypeId)}
theorem ev_lit (hm : Mem w W l) (hgd : o.guard = none) (inner : List Value) (n : Nat) (e : TypeId)
  (hrun : (execOp a.eval o).run P W = .ok (.value (.slice (some ⟨W.heap.size, 0, none⟩) n n)) (W.alloc (.cells inner.toArray e)))
  (h : ∀ g W1, Mem w W1 ((g, inner.toArray, e) :: l) → Below W.heap.size W W1 → wpList P ops Q rest (a.put o.dst (.slice (some ⟨g, 0, none⟩) n n)) W1) : wpList P ops Q (o :: rest) a W :=
 Kd.event_run hgd hrun (h _ _ (hm.new rfl (blk_new W _) (below_alloc (Below.refl _ _) _)) (below_alloc (Below.refl _ _) _))
end
theorem isnums_map (l : List Int) (h : l.length ≤ 9223372036854775807) : IsNums (l.map (Value.int .i64)).toArray l := by
 refine ⟨h, fun i hi => ?_⟩
 rw [List.getElem?_toArray, List.getElem?_map, List.getElem?_eq_getElem hi]
 unfold fn
 rw [List.getD_eq_getElem?_getD, List.getElem?_eq_getElem hi]
 rfl
end Go.Proofs.Ytndkkjpgnmahbaa.Print
end

section
namespace Go.Proofs.Ytndkkjpgnmahbaa.Print
open Go.RowKit YtndkkjpgnmahbaaW.PrintWords YtndkkjpgnmahbaaW.PrintLast YtndkkjpgnmahbaaW.PrintMore Ytndkkjpgnmahbaa.H Proofs.Field
def IsS79 (w0 W : World) (g : Nat) (f0 : Int) : Prop := W.heap[g]? = some (.cells #[.int .u64 f0] 79 (0, 0)) ∧ w0.heap.size ≤ g
theorem IsS79.grown {w0 W : World} {g : Nat} {f0 : Int} {W1 : World} {row : Option Nat} (h : IsS79 w0 W g f0) (hw : W.grownBy W1 row) (hne : some g ≠ row) : IsS79 w0 W1 g f0 := by
 obtain ⟨hb, hg⟩ := h
 exact ⟨blk_grown hb hw hne, hg⟩
theorem IsS79.fresh {w0 W : World} {g : Nat} {f0 : Int} (h : IsS79 w0 W g f0) : ∀ k, W.heap.size ≤ k → k ≠ g := by
 obtain ⟨hb, hg⟩ := h
 exact Kd.freshB hb
theorem IsS79.kept {w0 W : World} {g : Nat} {f0 : Int} {W1 : World} {S : Nat → Prop} (h : IsS79 w0 W g f0) (hk : Kept W W1 S) (hne : ¬ S g) : IsS79 w0 W1 g f0 := by
 obtain ⟨hb, hg⟩ := h
 exact ⟨blk_kept hb hk hne, hg⟩
theorem IsS79.below {w0 W : World} {g : Nat} {f0 : Int} {W1 : World} (h : IsS79 w0 W g f0) (hw : Below W.heap.size W W1) : IsS79 w0 W1 g f0 := h.grown (grown_of_below hw none) (by simp)
theorem IsS79.alloc {w0 W : World} {g : Nat} {f0 : Int} (h : IsS79 w0 W g f0) (o : Obj) : IsS79 w0 (W.alloc o) g f0 := h.below (below_alloc (Below.refl _ _) o)
theorem IsS79.drewN {w0 W : World} {g : Nat} {f0 : Int} (h : IsS79 w0 W g f0) (m : Nat) : IsS79 w0 (W.drewN m) g f0 := h
theorem IsS79.drew {w0 W : World} {g : Nat} {f0 : Int} (h : IsS79 w0 W g f0) : IsS79 w0 W.drew g f0 := h
theorem IsS79.at_ {w0 W : World} {g : Nat} {f0 : Int} {w' : World} {m : Nat} (hq : W.drewN m = w') (h : IsS79 w0 W g f0) : IsS79 w0 w' g f0 := by subst hq; exact IsS79.drewN h m
theorem IsS79.apart {w0 W : World} {g : Nat} {f0 : Int} {α : Type} {d : Kd α} {e : Nat} {base : Nat} {ok : Nat → Prop} {v : Value} {xs : List α} (h : IsS79 w0 W g f0) (ho : d.R e W base ok v xs) (ht : ∀ q, q ∈ e :: d.E → q ≠ 79) : d.R e W base (fun k => ok k ∧ k ≠ g) v xs := by
 obtain ⟨hb, hg⟩ := h
 exact Kd.R_types ho hb ht
theorem IsS79.own_ne {w0 W : World} {g : Nat} {f0 : Int} {α : Type} {d : Kd α} {e : Nat} {base : Nat} {ok : Nat → Prop} {v : Value} {xs : List α} (h : IsS79 w0 W g f0) (ho : d.R e W base ok v xs) (ht : e ≠ 79) : some g ≠ v.ownBlock := by
 obtain ⟨hb, hg⟩ := h
 exact Kd.R_ne ho hb ht
theorem IsS79.lt {w0 W : World} {g : Nat} {f0 : Int} (h : IsS79 w0 W g f0) : g < W.heap.size := by
 obtain ⟨hb, hg⟩ := h
 exact blk_lt hb
theorem IsS79.ge {w0 W : World} {g : Nat} {f0 : Int} (h : IsS79 w0 W g f0) : w0.heap.size ≤ g := by
 obtain ⟨hb, hg⟩ := h
 exact hg
theorem IsS79.far {w0 W : World} {g : Nat} {f0 : Int} {p : Addr} (h : IsS79 w0 W g f0) (hne : g ≠ p.block) (u : Value) : IsS79 w0 (W.setCell p u) g f0 := by
 obtain ⟨hb, hg⟩ := h
 exact ⟨blk_far hb hne u, hg⟩
theorem cellS79_0 {W : World} {g : Nat} {f0 : Int} (h : W.heap[g]? = some (.cells #[.int .u64 f0] 79 (0, 0))) : W.cell? ⟨g, 0, none⟩ = some (.int .u64 f0) := (blk_cell h 0).trans rfl
theorem IsS79.set_0 {w0 W : World} {g : Nat} {f0 : Int} (h : IsS79 w0 W g f0) (x : Int) : IsS79 w0 (W.setCell ⟨g, 0, none⟩ (.int .u64 x)) g x := by
 obtain ⟨hb, hg⟩ := h
 exact ⟨by simpa using blk_set hb 0 (.int .u64 x), hg⟩
theorem IsS79.new (w0 W : World) (f0 : Int) (hB : Below w0.heap.size w0 W) : IsS79 w0 (W.alloc (.cells #[.int .u64 f0] 79)) W.heap.size f0 := ⟨by simpa using heap_alloc_new W _, hB.size⟩
def thermionkit_Dice_next.f (s0_0 : Int) : Option (Int × Int) := some (Go.bits .xor .u64 (IntKind.u64.wrap ((Go.bits .xor .u64 (IntKind.u64.wrap ((Go.bits .xor .u64 (IntKind.u64.wrap (s0_0 + 11400714819323198485)) ((IntKind.u64.wrap (s0_0 + 11400714819323198485)) / 1073741824)) * 13787848793156543929)) ((IntKind.u64.wrap ((Go.bits .xor .u64 (IntKind.u64.wrap (s0_0 + 11400714819323198485)) ((IntKind.u64.wrap (s0_0 + 11400714819323198485)) / 1073741824)) * 13787848793156543929)) / 134217728)) * 10723151780598845931)) ((IntKind.u64.wrap ((Go.bits .xor .u64 (IntKind.u64.wrap ((Go.bits .xor .u64 (IntKind.u64.wrap (s0_0 + 11400714819323198485)) ((IntKind.u64.wrap (s0_0 + 11400714819323198485)) / 1073741824)) * 13787848793156543929)) ((IntKind.u64.wrap ((Go.bits .xor .u64 (IntKind.u64.wrap (s0_0 + 11400714819323198485)) ((IntKind.u64.wrap (s0_0 + 11400714819323198485)) / 1073741824)) * 13787848793156543929)) / 134217728)) * 10723151780598845931)) / 2147483648), IntKind.u64.wrap (s0_0 + 11400714819323198485))
theorem thermionkit_Dice_next.calls (g : Nat) (s0_0 : Int) (r1 : Int) (r2 : Int) (w0 w : World) (hI : IsS79 w0 w g s0_0) (hB : Below w0.heap.size w0 w) (h : thermionkit_Dice_next.f s0_0 = some (r1, r2)) :
  Calls Try.prog 65 #[.pointer (some ⟨g, 0, none⟩)] w fun e w' => e = .returned (.int .u64 r1) ∧ IsS79 w0 w' g r2 ∧ Below w0.heap.size w0 w' ∧ KeepBut w w' g none := by
 have HI0 := Aside0.mk hI
 have HK := Aside0.mk (KeepBut.refl w g none)
 have HL := Aside0.mk hB.size
 clear hI
 have HW0 := Aside0.mk hB.size
 have HB := Aside0.mk hB
 clear hB
 have H : (some (Go.bits .xor .u64 (IntKind.u64.wrap ((Go.bits .xor .u64 (IntKind.u64.wrap ((Go.bits .xor .u64 (IntKind.u64.wrap (s0_0 + 11400714819323198485)) ((IntKind.u64.wrap (s0_0 + 11400714819323198485)) / 1073741824)) * 13787848793156543929)) ((IntKind.u64.wrap ((Go.bits .xor .u64 (IntKind.u64.wrap (s0_0 + 11400714819323198485)) ((IntKind.u64.wrap (s0_0 + 11400714819323198485)) / 1073741824)) * 13787848793156543929)) / 134217728)) * 10723151780598845931)) ((IntKind.u64.wrap ((Go.bits .xor .u64 (IntKind.u64.wrap ((Go.bits .xor .u64 (IntKind.u64.wrap (s0_0 + 11400714819323198485)) ((IntKind.u64.wrap (s0_0 + 11400714819323198485)) / 1073741824)) * 13787848793156543929)) ((IntKind.u64.wrap ((Go.bits .xor .u64 (IntKind.u64.wrap (s0_0 + 11400714819323198485)) ((IntKind.u64.wrap (s0_0 + 11400714819323198485)) / 1073741824)) * 13787848793156543929)) / 134217728)) * 10723151780598845931)) / 2147483648), IntKind.u64.wrap (s0_0 + 11400714819323198485))) = some (r1, r2) := h
 clear h
 simp only [Option.some.injEq, Prod.mk.injEq] at H
 obtain ⟨rfl, rfl⟩ := H
 obtain ⟨HGz2, hgz2⟩ := HI0.out
 have hcz2_0 := cellS79_0 HGz2
 have hfz2_0 := blk_frozen HGz2 0
 clear HGz2 hgz2
 go_enter Try.func65, Try.ntmps65
 go_wp2
 go_ret
 exact ⟨by first | rfl | (simp [errW_none, errW_some] <;> rfl) | (simp [*, errW_none, errW_some] <;> rfl), by repeat (first | (with_reducible first | exact HI0.out | apply IsS79.alloc | apply IsS79.drewN | apply IsS79.drew | apply IsS79.set_0) | exact HI0.out), by repeat (first | (with_reducible first | exact HB.out | apply below_alloc | apply pw_below_drewN | apply below_drew1 | refine below_set ?_ (IsS79.ge HI0.out)) | exact HB.out), by repeat (first | (with_reducible first | exact HK.out | apply KeepBut.set_ | apply keep_drewN | apply keep_drew | apply keep_alloc) | exact HK.out)⟩
def nextWord (s : Int) : Int := ((thermionkit_Dice_next.f s).getD (0, 0)).2
theorem next_eq (s : Int) : ∃ r, thermionkit_Dice_next.f s = some (r, nextWord s) := ⟨_, rfl⟩
def wordTo (s : Int) : List Int → Int
 | [] => s
 | x :: xs => wordTo (nextWord (Go.bits .xor .u64 s (IntKind.u64.wrap x))) xs
theorem wordTo_snoc (s : Int) (xs : List Int) (x : Int) : wordTo s (xs ++ [x]) = nextWord (Go.bits .xor .u64 (wordTo s xs) (IntKind.u64.wrap x)) := by
 induction xs generalizing s with
 | nil => rfl
 | cons y ys ih => exact ih _
theorem take_snoc (l : List Int) (k : Nat) (h : k < l.length) : l.take (k + 1) = l.take k ++ [l.getD k 0] := by
 rw [List.take_add_one, List.getD_eq_getElem?_getD]
 simp [h]
def thermionkit_NewDice.f (l0 : List Int) : Option (Int) := some (wordTo ((l0.length : Int) + 1374496523) l0)
theorem Mem.one {w W : World} {g : Nat} {cs : Array Value} {t : TypeId} (hb : W.heap[g]? = some (.cells cs t (0, 0))) (hg : w.heap.size ≤ g) (h : Below w.heap.size w W) : Mem w W [(g, cs, t)] :=
 ⟨h, fun p hp => by rcases List.mem_singleton.1 hp with rfl; exact hb, fun p hp => by rcases List.mem_singleton.1 hp with rfl; exact hg, by simp⟩
theorem thermionkit_NewDice.calls (A0 : Option Addr) (c0 : Nat) (l0 : List Int) (r : Int) (w0 w : World) (hB : Below w0.heap.size w0 w) (hr0 : Kd.C (Kd.int .i64) w0 A0 l0.length l0) (hc0 : l0.length ≤ c0) (h : thermionkit_NewDice.f l0 = some r) :
  Calls Try.prog 21 #[.slice A0 l0.length c0] w fun e w' => ∃ g_ : Nat, e = .returned (.pointer (some ⟨g_, 0, none⟩)) ∧ IsS79 w0 w' g_ r ∧ Below w0.heap.size w0 w' ∧ Below w.heap.size w w' := by
 have HR := Aside0.mk (Kd.C_below hr0 hB)
 have HB0 := Aside0.mk hB
 have HF := Aside0.mk (Option.some.inj h)
 have HM := Aside0.mk (Mem.start w)
 have hlen : l0.length ≤ 9223372036854775807 := by have := (Kd.reads_of_C (enc := Value.int .i64) (d := (0 : Int)) (h1 := fun _ => rfl) hr0).2.1; omega
 clear hr0 h hB
 have hu79 := Try.underlying79
 go_enter Try.func21, Try.ntmps21
 go_wp2_with (first
  | ((with_reducible refine gate_dst (N := 10) rfl ?_); refine ev_box HM.out rfl 79 (.tmp 9) rfl (cs := #[.int .u64 ((l0.length : Int) + 1374496523)]) rfl ?_; intro g1 w1 hm1 hq1; clear hq1; have HM1 := Aside0.mk hm1; clear hm1 HM))
 go_loopg [4] l0.length (fun k v4 w' => ∃ (i : Nat) (S : Int), v4 = .int .i64 i ∧ Aside0 (i + k = l0.length) ∧ Aside0 (S = wordTo ((l0.length : Int) + 1374496523) (l0.take i)) ∧ Aside0 (Mem w w' [(g1, #[.int .u64 S], 79)]))
 case atStart => exact ⟨0, _, rfl, ⟨by omega⟩, ⟨rfl⟩, HM1⟩
 case round =>
  clear HM1
  obtain ⟨i, S, rfl, HK, HS, HM⟩ := hrel
  by_cases hi : i < l0.length
  ·obtain ⟨ad, e0, hx⟩ := at_nat (Kd.C_below HR.out HM.out.below) i hi
   cases e0
   generalize hX : l0.getD i 0 = X at hx
   have HX := Aside0.mk hX
   clear hX
   have c1 : wr.cell? ⟨g1, 0, none⟩ = some (.int .u64 S) := by rw [HM.out.cell]; rfl
   have f1 : wr.frozen? ⟨g1, 0, none⟩ = false := HM.out.frozen _
   have i1 : (0 : Int) ≤ (i : Int) := by omega
   have i2 : (i : Int) < (l0.length : Int) := by omega
   go_wp2_with fail
   go_still_tail 13, (by kernel_rfl)
   go_wp2_with fail
   have HM2 := (HM.out.put 0 (.int .u64 (Go.bits .xor .u64 S (IntKind.u64.wrap X))) rfl).drew
   obtain ⟨q, hq⟩ := next_eq (Go.bits .xor .u64 S (IntKind.u64.wrap X))
   refine (thermionkit_Dice_next.calls g1 _ q _ w _ ⟨HM2.head, HM2.geh⟩ HM2.below hq).mono ?_
   rintro e w2 ⟨rfl, ⟨hb2, _⟩, hbl2, _⟩
   have HM3 := Aside0.mk (Mem.one hb2 HM2.geh hbl2)
   clear hb2 hbl2 HM2 hq
   have HS2 : Aside0 (nextWord (Go.bits .xor .u64 S (IntKind.u64.wrap X)) = wordTo ((l0.length : Int) + 1374496523) (l0.take (i + 1))) := ⟨by rw [take_snoc _ _ hi, wordTo_snoc, ← HS.out, HX.out]⟩
   go_wp2_with fail
   go_roundg (l0.length - (i + 1))
   case measure => have := HK.out; omega
   case rel => exact ⟨i + 1, _, by go_num, ⟨by have := HK.out; omega⟩, HS2, HM3⟩
  ·go_wp2
   go_ret
   refine ⟨g1, rfl, ⟨?_, Nat.le_trans HB0.out.size HM.out.geh⟩, below_step HB0.out HM.out.below, HM.out.below⟩
   rw [HM.out.head, ← HF.out, HS.out, List.take_of_length_le (by omega)]
def thermionkit_Dice_Upto.f (s0_0 : Int) (a1 : Int) : Option (Int × Int) := (thermionkit_Dice_next.f s0_0).bind fun bt170 => (if a1 < 1 then (some (0, bt170.2)) else (if (IntKind.u64.wrap (a1)) = 0 then (none) else (some (wrap64 (Int.tmod bt170.1 (IntKind.u64.wrap (a1))), bt170.2))))
theorem thermionkit_Dice_Upto.calls (g : Nat) (s0_0 : Int) (a1 : Int) (r1 : Int) (r2 : Int) (w0 w : World) (hI : IsS79 w0 w g s0_0) (hB : Below w0.heap.size w0 w) (h : thermionkit_Dice_Upto.f s0_0 a1 = some (r1, r2)) :
  Calls Try.prog 49 #[.pointer (some ⟨g, 0, none⟩), .int .i64 a1] w fun e w' => e = .returned (.int .i64 r1) ∧ IsS79 w0 w' g r2 ∧ Below w0.heap.size w0 w' ∧ KeepBut w w' g none := by
 have HI0 := Aside0.mk hI
 have HK := Aside0.mk (KeepBut.refl w g none)
 have HL := Aside0.mk hB.size
 clear hI
 have HW0 := Aside0.mk hB.size
 have HB := Aside0.mk hB
 clear hB
 have H : ((thermionkit_Dice_next.f s0_0).bind fun bt170 => (if a1 < 1 then (some (0, bt170.2)) else (if (IntKind.u64.wrap (a1)) = 0 then (none) else (some (wrap64 (Int.tmod bt170.1 (IntKind.u64.wrap (a1))), bt170.2))))) = some (r1, r2) := h
 clear h
 replace H := Option.bind_eq_some_iff.mp H
 obtain ⟨⟨t170, t171⟩, A30, H⟩ := H
 replace H : (if a1 < 1 then (some (0, t171)) else (if (IntKind.u64.wrap (a1)) = 0 then (none) else (some (wrap64 (Int.tmod t170 (IntKind.u64.wrap (a1))), t171)))) = some (r1, r2) := H
 have A3 := Aside0.mk A30
 clear A30
 by_cases c4 : a1 < 1
 ·rw [if_pos c4] at H
  have c4b0 := decide_eq_true c4
  clear c4
  simp only [Option.some.injEq, Prod.mk.injEq] at H
  obtain ⟨rfl, rfl⟩ := H
  go_enter Try.func49, Try.ntmps49
  go_wp2_with (first | ((with_reducible refine gate_callee (f := 65) rfl ?_); refine goesL_ (some 7) rfl rfl Try.func65 (by kernel_rfl) rfl #[.pointer (some ⟨g, 0, none⟩)] rfl (by (try simp only [List.map_toArray, List.map_cons, List.map_nil]); first | done | rfl | (simp only [List.length_drop, List.length_take]; rfl)) ?_; (with_reducible refine (thermionkit_Dice_next.calls g s0_0 t170 t171 w0 _ ?side1 ?side2 A3.out).mono ?_); (case side1 => repeat (first | (with_reducible first | exact HI0.out | apply IsS79.alloc | apply IsS79.drewN | apply IsS79.drew | apply IsS79.set_0) | exact HI0.out)); (case side2 => repeat (first | (with_reducible first | exact HB.out | apply below_alloc | apply pw_below_drewN | apply below_drew1 | refine below_set ?_ (IsS79.ge HI0.out)) | exact HB.out)); rintro e w5 ⟨rfl, hi, hb, hk⟩; refine ⟨_, rfl, ?_⟩; have n0_ := Aside0.mk (KeepBut.trans (by repeat (first | (with_reducible first | exact HK.out | apply KeepBut.set_ | apply keep_drewN | apply keep_drew | apply keep_alloc) | exact HK.out)) hk (.inl rfl)); have n1_ := Aside0.mk (hb); have n2_ := Aside0.mk (hi); clear HK; clear HB; clear HI0; have HK := n0_; have HB := n1_; have HI0 := n2_; clear n0_ n1_ n2_; (try clear hb hk hi)))
  go_ret
  exact ⟨by first | rfl | (simp [errW_none, errW_some] <;> rfl) | (simp [*, errW_none, errW_some] <;> rfl), by repeat (first | (with_reducible first | exact HI0.out | apply IsS79.alloc | apply IsS79.drewN | apply IsS79.drew | apply IsS79.set_0) | exact HI0.out), by repeat (first | (with_reducible first | exact HB.out | apply below_alloc | apply pw_below_drewN | apply below_drew1 | refine below_set ?_ (IsS79.ge HI0.out)) | exact HB.out), by repeat (first | (with_reducible first | exact HK.out | apply KeepBut.set_ | apply keep_drewN | apply keep_drew | apply keep_alloc) | exact HK.out)⟩
 ·rw [if_neg c4] at H
  have c4b0 := decide_eq_false c4
  clear c4
  by_cases c6 : (IntKind.u64.wrap (a1)) = 0
  ·rw [if_pos c6] at H
   exact absurd H (by simp)
  ·rw [if_neg c6] at H
   have c6b0 : ((IntKind.u64.wrap (a1)) == 0) = false := beq_eq_false_iff_ne.mpr c6
   have c6b1 : ((IntKind.u64.wrap (a1)) != 0) = true := bne_iff_ne.mpr c6
   simp only [Option.some.injEq, Prod.mk.injEq] at H
   obtain ⟨rfl, rfl⟩ := H
   go_enter Try.func49, Try.ntmps49
   go_wp2_with (first | ((with_reducible refine gate_callee (f := 65) rfl ?_); refine goesL_ (some 7) rfl rfl Try.func65 (by kernel_rfl) rfl #[.pointer (some ⟨g, 0, none⟩)] rfl (by (try simp only [List.map_toArray, List.map_cons, List.map_nil]); first | done | rfl | (simp only [List.length_drop, List.length_take]; rfl)) ?_; (with_reducible refine (thermionkit_Dice_next.calls g s0_0 t170 t171 w0 _ ?side1 ?side2 A3.out).mono ?_); (case side1 => repeat (first | (with_reducible first | exact HI0.out | apply IsS79.alloc | apply IsS79.drewN | apply IsS79.drew | apply IsS79.set_0) | exact HI0.out)); (case side2 => repeat (first | (with_reducible first | exact HB.out | apply below_alloc | apply pw_below_drewN | apply below_drew1 | refine below_set ?_ (IsS79.ge HI0.out)) | exact HB.out)); rintro e w7 ⟨rfl, hi, hb, hk⟩; refine ⟨_, rfl, ?_⟩; have n0_ := Aside0.mk (KeepBut.trans (by repeat (first | (with_reducible first | exact HK.out | apply KeepBut.set_ | apply keep_drewN | apply keep_drew | apply keep_alloc) | exact HK.out)) hk (.inl rfl)); have n1_ := Aside0.mk (hb); have n2_ := Aside0.mk (hi); clear HK; clear HB; clear HI0; have HK := n0_; have HB := n1_; have HI0 := n2_; clear n0_ n1_ n2_; (try clear hb hk hi)))
   go_ret
   exact ⟨by first | rfl | (simp [errW_none, errW_some] <;> rfl) | (simp [*, errW_none, errW_some] <;> rfl), by repeat (first | (with_reducible first | exact HI0.out | apply IsS79.alloc | apply IsS79.drewN | apply IsS79.drew | apply IsS79.set_0) | exact HI0.out), by repeat (first | (with_reducible first | exact HB.out | apply below_alloc | apply pw_below_drewN | apply below_drew1 | refine below_set ?_ (IsS79.ge HI0.out)) | exact HB.out), by repeat (first | (with_reducible first | exact HK.out | apply KeepBut.set_ | apply keep_drewN | apply keep_drew | apply keep_alloc) | exact HK.out)⟩
def thermionkit_Dice_Between.f (s0_0 : Int) (a1 : Int) (a2 : Int) : Option (Int × Int) := (thermionkit_Dice_Upto.f s0_0 (wrap64 ((wrap64 (a2 - a1)) + 1))).bind fun bt172 => (some (wrap64 (a1 + bt172.1), bt172.2))
theorem thermionkit_Dice_Between.calls (g : Nat) (s0_0 : Int) (a1 : Int) (a2 : Int) (r1 : Int) (r2 : Int) (w0 w : World) (hI : IsS79 w0 w g s0_0) (hB : Below w0.heap.size w0 w) (h : thermionkit_Dice_Between.f s0_0 a1 a2 = some (r1, r2)) :
  Calls Try.prog 32 #[.pointer (some ⟨g, 0, none⟩), .int .i64 a1, .int .i64 a2] w fun e w' => e = .returned (.int .i64 r1) ∧ IsS79 w0 w' g r2 ∧ Below w0.heap.size w0 w' ∧ KeepBut w w' g none := by
 have HI0 := Aside0.mk hI
 have HK := Aside0.mk (KeepBut.refl w g none)
 have HL := Aside0.mk hB.size
 clear hI
 have HW0 := Aside0.mk hB.size
 have HB := Aside0.mk hB
 clear hB
 have H : ((thermionkit_Dice_Upto.f s0_0 (wrap64 ((wrap64 (a2 - a1)) + 1))).bind fun bt172 => (some (wrap64 (a1 + bt172.1), bt172.2))) = some (r1, r2) := h
 clear h
 replace H := Option.bind_eq_some_iff.mp H
 obtain ⟨⟨t172, t173⟩, A40, H⟩ := H
 replace H : (some (wrap64 (a1 + t172), t173)) = some (r1, r2) := H
 have A4 := Aside0.mk A40
 clear A40
 simp only [Option.some.injEq, Prod.mk.injEq] at H
 obtain ⟨rfl, rfl⟩ := H
 go_enter Try.func32, Try.ntmps32
 go_wp2_with (first | ((with_reducible refine gate_callee (f := 49) rfl ?_); refine goesL_ (some 13) rfl rfl Try.func49 (by kernel_rfl) rfl #[.pointer (some ⟨g, 0, none⟩), .int .i64 (wrap64 ((wrap64 (a2 - a1)) + 1))] rfl (by (try simp only [List.map_toArray, List.map_cons, List.map_nil]); first | done | rfl | (simp only [List.length_drop, List.length_take]; rfl)) ?_; (with_reducible refine (thermionkit_Dice_Upto.calls g s0_0 (wrap64 ((wrap64 (a2 - a1)) + 1)) t172 t173 w0 _ ?side1 ?side2 A4.out).mono ?_); (case side1 => repeat (first | (with_reducible first | exact HI0.out | apply IsS79.alloc | apply IsS79.drewN | apply IsS79.drew | apply IsS79.set_0) | exact HI0.out)); (case side2 => repeat (first | (with_reducible first | exact HB.out | apply below_alloc | apply pw_below_drewN | apply below_drew1 | refine below_set ?_ (IsS79.ge HI0.out)) | exact HB.out)); rintro e w5 ⟨rfl, hi, hb, hk⟩; refine ⟨_, rfl, ?_⟩; have n0_ := Aside0.mk (KeepBut.trans (by repeat (first | (with_reducible first | exact HK.out | apply KeepBut.set_ | apply keep_drewN | apply keep_drew | apply keep_alloc) | exact HK.out)) hk (.inl rfl)); have n1_ := Aside0.mk (hb); have n2_ := Aside0.mk (hi); clear HK; clear HB; clear HI0; have HK := n0_; have HB := n1_; have HI0 := n2_; clear n0_ n1_ n2_; (try clear hb hk hi)))
 go_ret
 exact ⟨by first | rfl | (simp [errW_none, errW_some] <;> rfl) | (simp [*, errW_none, errW_some] <;> rfl), by repeat (first | (with_reducible first | exact HI0.out | apply IsS79.alloc | apply IsS79.drewN | apply IsS79.drew | apply IsS79.set_0) | exact HI0.out), by repeat (first | (with_reducible first | exact HB.out | apply below_alloc | apply pw_below_drewN | apply below_drew1 | refine below_set ?_ (IsS79.ge HI0.out)) | exact HB.out), by repeat (first | (with_reducible first | exact HK.out | apply KeepBut.set_ | apply keep_drewN | apply keep_drew | apply keep_alloc) | exact HK.out)⟩
def thermionkit_Dice_One.f (s0_0 : Int) (a1 : Int) : Option (Bool × Int) := (thermionkit_Dice_Upto.f s0_0 a1).bind fun bt174 => (some ((bt174.1 == 0), bt174.2))
theorem thermionkit_Dice_One.calls (g : Nat) (s0_0 : Int) (a1 : Int) (r1 : Bool) (r2 : Int) (w0 w : World) (hI : IsS79 w0 w g s0_0) (hB : Below w0.heap.size w0 w) (h : thermionkit_Dice_One.f s0_0 a1 = some (r1, r2)) :
  Calls Try.prog 66 #[.pointer (some ⟨g, 0, none⟩), .int .i64 a1] w fun e w' => e = .returned (.bool r1) ∧ IsS79 w0 w' g r2 ∧ Below w0.heap.size w0 w' ∧ KeepBut w w' g none := by
 have HI0 := Aside0.mk hI
 have HK := Aside0.mk (KeepBut.refl w g none)
 have HL := Aside0.mk hB.size
 clear hI
 have HW0 := Aside0.mk hB.size
 have HB := Aside0.mk hB
 clear hB
 have H : ((thermionkit_Dice_Upto.f s0_0 a1).bind fun bt174 => (some ((bt174.1 == 0), bt174.2))) = some (r1, r2) := h
 clear h
 replace H := Option.bind_eq_some_iff.mp H
 obtain ⟨⟨t174, t175⟩, A30, H⟩ := H
 replace H : (some ((t174 == 0), t175)) = some (r1, r2) := H
 have A3 := Aside0.mk A30
 clear A30
 simp only [Option.some.injEq, Prod.mk.injEq] at H
 obtain ⟨rfl, rfl⟩ := H
 go_enter Try.func66, Try.ntmps66
 go_wp2_with (first | ((with_reducible refine gate_callee (f := 49) rfl ?_); refine goesL_ (some 7) rfl rfl Try.func49 (by kernel_rfl) rfl #[.pointer (some ⟨g, 0, none⟩), .int .i64 a1] rfl (by (try simp only [List.map_toArray, List.map_cons, List.map_nil]); first | done | rfl | (simp only [List.length_drop, List.length_take]; rfl)) ?_; (with_reducible refine (thermionkit_Dice_Upto.calls g s0_0 a1 t174 t175 w0 _ ?side1 ?side2 A3.out).mono ?_); (case side1 => repeat (first | (with_reducible first | exact HI0.out | apply IsS79.alloc | apply IsS79.drewN | apply IsS79.drew | apply IsS79.set_0) | exact HI0.out)); (case side2 => repeat (first | (with_reducible first | exact HB.out | apply below_alloc | apply pw_below_drewN | apply below_drew1 | refine below_set ?_ (IsS79.ge HI0.out)) | exact HB.out)); rintro e w4 ⟨rfl, hi, hb, hk⟩; refine ⟨_, rfl, ?_⟩; have n0_ := Aside0.mk (KeepBut.trans (by repeat (first | (with_reducible first | exact HK.out | apply KeepBut.set_ | apply keep_drewN | apply keep_drew | apply keep_alloc) | exact HK.out)) hk (.inl rfl)); have n1_ := Aside0.mk (hb); have n2_ := Aside0.mk (hi); clear HK; clear HB; clear HI0; have HK := n0_; have HB := n1_; have HI0 := n2_; clear n0_ n1_ n2_; (try clear hb hk hi)))
 go_ret
 exact ⟨by first | rfl | (simp [errW_none, errW_some] <;> rfl) | (simp [*, errW_none, errW_some] <;> rfl), by repeat (first | (with_reducible first | exact HI0.out | apply IsS79.alloc | apply IsS79.drewN | apply IsS79.drew | apply IsS79.set_0) | exact HI0.out), by repeat (first | (with_reducible first | exact HB.out | apply below_alloc | apply pw_below_drewN | apply below_drew1 | refine below_set ?_ (IsS79.ge HI0.out)) | exact HB.out), by repeat (first | (with_reducible first | exact HK.out | apply KeepBut.set_ | apply keep_drewN | apply keep_drew | apply keep_alloc) | exact HK.out)⟩
theorem u64_nonneg (x : Int) : 0 ≤ IntKind.u64.wrap x := by
 simp only [IntKind.wrap, IntKind.signed, IntKind.bits]
 simp
 omega
theorem next_two (s : Int) : ∃ v, thermionkit_Dice_next.f s = some (v, nextWord s) ∧ 0 ≤ v := ⟨_, rfl, by unfold Go.bits; exact u64_nonneg _⟩
theorem upto_eq (s n : Int) (h1 : 1 ≤ n) (h2 : n ≤ 9223372036854775807) : ∃ r, thermionkit_Dice_Upto.f s n = some (r, nextWord s) ∧ 0 ≤ r ∧ r < n := by
 obtain ⟨v, hv, h0⟩ := next_two s
 have hw : IntKind.u64.wrap n = n := by
  simp only [IntKind.wrap, IntKind.signed, IntKind.bits]
  simp
  omega
 have ht : Int.tmod v n = v % n := Int.tmod_eq_emod_of_nonneg h0
 have hm0 := Int.emod_nonneg v (show n ≠ 0 by omega)
 have hm1 := Int.emod_lt_of_pos v (show 0 < n by omega)
 refine ⟨v % n, ?_, hm0, hm1⟩
 unfold thermionkit_Dice_Upto.f
 rw [hv]
 simp only [Option.bind_some]
 rw [if_neg (by omega), hw, if_neg (by omega), ht, IntWalk.wrap64_in _ (by omega)]
theorem one_eq (s n : Int) (h1 : 1 ≤ n) (h2 : n ≤ 9223372036854775807) : ∃ b, thermionkit_Dice_One.f s n = some (b, nextWord s) := by
 obtain ⟨r, hr, _, _⟩ := upto_eq s n h1 h2
 unfold thermionkit_Dice_One.f
 rw [hr]
 exact ⟨_, rfl⟩
theorem between_eq (s a b : Int) (h : a ≤ b) (h1 : -4611686018427387904 ≤ a) (h2 : b ≤ 4611686018427387902) : ∃ r, thermionkit_Dice_Between.f s a b = some (r, nextWord s) ∧ a ≤ r ∧ r ≤ b := by
 unfold thermionkit_Dice_Between.f
 rw [IntWalk.wrap64_in (b - a) (by omega), IntWalk.wrap64_in (b - a + 1) (by omega)]
 obtain ⟨r, hr, h3, h4⟩ := upto_eq s (b - a + 1) (by omega) (by omega)
 rw [hr]
 refine ⟨a + r, ?_, by omega, by omega⟩
 simp only [Option.bind_some]
 rw [IntWalk.wrap64_in _ (by omega)]
end Go.Proofs.Ytndkkjpgnmahbaa.Print
end

section
namespace Go.Proofs.Field
def heldAt (W : Nat) (C : List Int) (h : List Bool) (i : Nat) : Bool :=
 h.getD i false || (decide (0 < fn C i) || ((decide (0 < i % W) && h.getD (i - 1) false) || ((decide (i % W + 1 < W) && h.getD (i + 1) false) || ((decide (W ≤ i) && h.getD (i - W) false) || (decide (i + W < C.length) && h.getD (i + W) false)))))
def heldTo (W : Nat) (C : List Int) (h : List Bool) : Nat → List Bool
 | 0 => h
 | i + 1 => (heldTo W C h i).set i (heldAt W C (heldTo W C h i) i)
def heldR (W : Nat) (C : List Int) : Nat → List Bool
 | 0 => List.replicate C.length false
 | r + 1 => heldTo W C (heldR W C r) C.length
def openTo (C : List Int) (h : List Bool) : Nat → List Int
 | 0 => C
 | i + 1 => if h.getD i false = true then openTo C h i else (openTo C h i).set i 1
def opened (W : Nat) (C : List Int) : List Int := openTo C (heldR W C C.length) C.length
theorem heldTo_length (W : Nat) (C : List Int) (h : List Bool) : ∀ i, (heldTo W C h i).length = h.length
 | 0 => rfl
 | i + 1 => by rw [heldTo, List.length_set, heldTo_length W C h i]
theorem heldR_length (W : Nat) (C : List Int) : ∀ r, (heldR W C r).length = C.length
 | 0 => by simp [heldR]
 | r + 1 => by rw [heldR, heldTo_length, heldR_length W C r]
theorem openTo_length (C : List Int) (h : List Bool) : ∀ i, (openTo C h i).length = C.length
 | 0 => rfl
 | i + 1 => by
  rw [openTo]
  split
  ·exact openTo_length C h i
  ·rw [List.length_set, openTo_length C h i]
theorem getD_setB {h : List Bool} {i : Nat} {v : Bool} (hi : i < h.length) (j : Nat) : (h.set i v).getD j false = if j = i then v else h.getD j false := by
 rw [List.getD_eq_getElem?_getD, List.getD_eq_getElem?_getD, List.getElem?_set]
 by_cases q : i = j
 ·subst q; rw [if_pos rfl, if_pos rfl, if_pos hi]; rfl
 ·rw [if_neg q, if_neg (fun e => q e.symm)]
theorem fn_openTo (C : List Int) (h : List Bool) : ∀ i, i ≤ C.length → ∀ j, j < C.length → fn (openTo C h i) j = if j < i ∧ h.getD j false = false then 1 else fn C j
 | 0, _, j, _ => by rw [if_neg (by omega)]; rfl
 | i + 1, hi, j, hj => by
  have ih := fn_openTo C h i (by omega) j hj
  rw [openTo]
  by_cases q : h.getD i false = true
  ·rw [if_pos q, ih]
   by_cases r : j < i ∧ h.getD j false = false
   ·rw [if_pos r, if_pos ⟨by omega, r.2⟩]
   ·rw [if_neg r, if_neg (fun s => r ⟨by
     rcases Nat.lt_or_eq_of_le (Nat.le_of_lt_succ s.1) with t | t
     ·exact t
     ·subst t; rw [q] at s; exact absurd s.2 (by simp), s.2⟩)]
  ·rw [if_neg q, fn_set (by rw [openTo_length]; omega)]
   by_cases r : j = i
   ·subst r; rw [if_pos rfl, if_pos ⟨by omega, by simpa using q⟩]
   ·rw [if_neg r, ih]
    by_cases t : j < i ∧ h.getD j false = false
    ·rw [if_pos t, if_pos ⟨by omega, t.2⟩]
    ·rw [if_neg t, if_neg (fun s => t ⟨by omega, s.2⟩)]
section
variable {W H : Nat} {R : Bool} {C : List Int}
def Sound (W H : Nat) (R : Bool) (C : List Int) (h : List Bool) : Prop := ∀ i, i < C.length → h.getD i false = true → (net W H R C).Reach i
theorem adj_pos (hc : C.length = W * H) {i j : Nat} (hi : i < C.length) (hj : j < C.length) (h : (j = i + 1 ∧ 0 < j % W) ∨ (i = j + 1 ∧ 0 < i % W) ∨ j = i + W ∨ i = j + W) : 0 < (net W H R C).M i j := by
 show 0 < netM W H R i j
 have h1 := wgt_pos R (i % W) false
 have h2 := wgt_pos R (j % W) false
 have h3 := wgt_pos R (i % W) true
 have h4 := wgt_pos R (j % W) true
 unfold netM
 rw [if_pos ⟨by omega, by omega⟩]
 split
 ·omega
 ·split
  ·omega
  ·split
   ·omega
   ·split
    ·omega
    ·omega
theorem heldAt_sound (hc : C.length = W * H) {h : List Bool} (hs : Sound W H R C h) {i : Nat} (hi : i < C.length) (e : heldAt W C h i = true) (hl : h.length = C.length) : (net W H R C).Reach i := by
 have hi' : i < W * H := by omega
 obtain ⟨hW, _, _, _⟩ := cell_at hi'
 have out : ∀ j, h.getD j false = true → j < C.length := fun j hj => by
  rcases Nat.lt_or_ge j C.length with q | q
  ·exact q
  ·rw [List.getD_eq_getElem?_getD, List.getElem?_eq_none (by omega)] at hj
   simp at hj
 unfold heldAt at e
 simp only [Bool.or_eq_true, Bool.and_eq_true, decide_eq_true_eq] at e
 rcases e with e | e | e | e | e | e
 ·exact hs i hi e
 ·exact .el hi' (by simp [net, e])
 ·have hj := out _ e.2
  obtain ⟨h1, h2⟩ := left_col e.1
  exact .step hi' (adj_pos hc hi hj (.inr (.inl ⟨by omega, e.1⟩))) (hs _ hj e.2)
 ·have hj := out _ e.2
  exact .step hi' (adj_pos hc hi hj (.inl ⟨rfl, (right_mod hW).2 e.1⟩)) (hs _ hj e.2)
 ·have hj := out _ e.2
  exact .step hi' (adj_pos hc hi hj (.inr (.inr (.inr (by omega))))) (hs _ hj e.2)
 ·exact .step hi' (adj_pos hc hi e.1 (.inr (.inr (.inl rfl)))) (hs _ e.1 e.2)
theorem heldTo_sound (hc : C.length = W * H) {h : List Bool} (hs : Sound W H R C h) (hl : h.length = C.length) : ∀ i, i ≤ C.length → Sound W H R C (heldTo W C h i)
 | 0, _ => hs
 | i + 1, hi => by
  have ih := heldTo_sound hc hs hl i (by omega)
  have hl' : (heldTo W C h i).length = C.length := by rw [heldTo_length, hl]
  intro j hj e
  rw [heldTo, getD_setB (by omega)] at e
  by_cases q : j = i
  ·subst q
   rw [if_pos rfl] at e
   exact heldAt_sound hc ih hj e hl'
  ·rw [if_neg q] at e
   exact ih j hj e
theorem heldR_sound (hc : C.length = W * H) : ∀ r, Sound W H R C (heldR W C r)
 | 0 => fun i hi e => by
  rw [heldR, List.getD_eq_getElem?_getD, List.getElem?_replicate] at e
  split at e <;> simp at e
 | r + 1 => heldTo_sound hc (heldR_sound hc r) (heldR_length W C r) _ (Nat.le_refl _)
theorem opened_fine (hc : C.length = W * H) (h256 : C.length ≤ 256) : looseB W H R (opened W C) = false := by
 have hlo : (opened W C).length = C.length := openTo_length C _ _
 refine (loose_iff (by rw [hlo, hc]) (by rw [hlo]; exact h256)).2 (fun i hi => ?_)
 rw [hlo] at hi
 have hfn : ∀ j, j < C.length → fn (opened W C) j = if (heldR W C C.length).getD j false = false then 1 else fn C j := fun j hj => by
  unfold opened
  rw [fn_openTo C _ _ (Nat.le_refl _) j hj]
  by_cases q : (heldR W C C.length).getD j false = false
  ·rw [if_pos ⟨hj, q⟩, if_pos q]
  ·rw [if_neg (fun s => q s.2), if_neg q]
 have mono : ∀ k, (net W H R C).Reach k → (net W H R (opened W C)).Reach k := by
  intro k hk
  induction hk with
  | @el i hi he =>
   refine .el hi ?_
   have hi' : i < C.length := by rw [hc]; exact hi
   have he' : 0 < fn C i := by simpa [net] using he
   show decide (0 < fn (opened W C) i) = true
   rw [hfn i hi', decide_eq_true_eq]
   split <;> omega
  | step hi hm _ ih => exact .step hi hm ih
 by_cases q : (heldR W C C.length).getD i false = true
 ·exact mono i (heldR_sound hc _ i hi q)
 ·refine .el (show i < W * H by omega) ?_
  show decide (0 < fn (opened W C) i) = true
  rw [hfn i hi, if_pos (by simpa using q)]
  rfl
end
end Go.Proofs.Field
end

section
namespace Go.Proofs.Ytndkkjpgnmahbaa.Print
open Go.RowKit YtndkkjpgnmahbaaW.PrintWords YtndkkjpgnmahbaaW.PrintLast YtndkkjpgnmahbaaW.PrintMore Ytndkkjpgnmahbaa.H Proofs.Field
def dOne (s k : Int) : Bool × Int := (thermionkit_Dice_One.f s k).getD (false, 0)
def dBtw (s a b : Int) : Int × Int := (thermionkit_Dice_Between.f s a b).getD (0, 0)
theorem dOne_eq (s k : Int) (h1 : 1 ≤ k) (h2 : k ≤ 9223372036854775807) : thermionkit_Dice_One.f s k = some ((dOne s k).1, (dOne s k).2) := by
 obtain ⟨b, hb⟩ := one_eq s k h1 h2
 unfold dOne
 rw [hb]
 rfl
theorem dBtw_eq (s a b : Int) (h : a ≤ b) (h1 : -4611686018427387904 ≤ a) (h2 : b ≤ 4611686018427387902) : thermionkit_Dice_Between.f s a b = some ((dBtw s a b).1, (dBtw s a b).2) ∧ a ≤ (dBtw s a b).1 ∧ (dBtw s a b).1 ≤ b := by
 obtain ⟨r, hr, h3, h4⟩ := between_eq s a b h h1 h2
 unfold dBtw
 rw [hr]
 exact ⟨rfl, h3, h4⟩
def cellStep (s : Int) : Int × Int := if (dOne s 3).1 = true then dBtw (dOne s 3).2 1 3 else (0, (dOne s 3).2)
theorem cellStep_range (s : Int) : 0 ≤ (cellStep s).1 ∧ (cellStep s).1 ≤ 3 := by
 unfold cellStep
 split
 ·have := dBtw_eq (dOne s 3).2 1 3 (by omega) (by omega) (by omega); omega
 ·exact ⟨Int.le_refl _, by show (0 : Int) ≤ 3; omega⟩
def cellsTo (s : Int) : Nat → List Int × Int
 | 0 => ([], s)
 | i + 1 => ((cellsTo s i).1 ++ [(cellStep (cellsTo s i).2).1], (cellStep (cellsTo s i).2).2)
theorem cellsTo_length (s : Int) : ∀ i, (cellsTo s i).1.length = i
 | 0 => rfl
 | i + 1 => by rw [cellsTo, List.length_append, cellsTo_length s i]; rfl
theorem cellsTo_range (s : Int) : ∀ i e, e ∈ (cellsTo s i).1 → 0 ≤ e ∧ e ≤ 3
 | 0, e, h => by simp [cellsTo] at h
 | i + 1, e, h => by
  rw [cellsTo] at h
  rcases List.mem_append.1 h with h | h
  ·exact cellsTo_range s i e h
  ·rw [List.mem_singleton.1 h]
   exact cellStep_range _
def firstOne (C : List Int) : List Int := C.set 0 (max 1 (C.getD 0 0))
def thermionkit_PlanOf.f (s a1 a2 : Int) : Option (Int × Int × Bool × List Int × Int) :=
 if 1 ≤ a1 ∧ a1 ≤ 16 ∧ 1 ≤ a2 ∧ a2 ≤ 16 then
  some ((dBtw s 1 a1).1, (dBtw (dBtw s 1 a1).2 1 a2).1, (dOne (dBtw (dBtw s 1 a1).2 1 a2).2 2).1,
   opened (dBtw s 1 a1).1.toNat (firstOne (cellsTo (dOne (dBtw (dBtw s 1 a1).2 1 a2).2 2).2 ((dBtw s 1 a1).1.toNat * (dBtw (dBtw s 1 a1).2 1 a2).1.toNat)).1),
   (cellsTo (dOne (dBtw (dBtw s 1 a1).2 1 a2).2 2).2 ((dBtw s 1 a1).1.toNat * (dBtw (dBtw s 1 a1).2 1 a2).1.toNat)).2)
 else none
theorem mem_set {C : List Int} {i : Nat} {v e : Int} (h : e ∈ C.set i v) : e = v ∨ e ∈ C := by
 rcases List.mem_or_eq_of_mem_set h with h | h
 ·exact .inr h
 ·exact .inl h
theorem firstOne_range {C : List Int} (h : ∀ e, e ∈ C → 0 ≤ e ∧ e ≤ 3) (hp : 0 < C.length) : ∀ e, e ∈ firstOne C → 0 ≤ e ∧ e ≤ 3 := fun e he => by
 have h0 := h _ (fn_mem hp)
 unfold fn at h0
 unfold firstOne at he
 rcases mem_set he with rfl | he
 ·omega
 ·exact h e he
theorem openTo_range {C : List Int} {h : List Bool} (hr : ∀ e, e ∈ C → 0 ≤ e ∧ e ≤ 3) : ∀ i e, e ∈ openTo C h i → 0 ≤ e ∧ e ≤ 3
 | 0, e, he => hr e he
 | i + 1, e, he => by
  rw [openTo] at he
  split at he
  ·exact openTo_range hr i e he
  ·rcases mem_set he with rfl | he
   ·omega
   ·exact openTo_range hr i e he
theorem planOf_fine {s a1 a2 W H : Int} {R : Bool} {C : List Int} {r : Int} (h : thermionkit_PlanOf.f s a1 a2 = some (W, H, R, C, r)) :
  1 ≤ W ∧ W ≤ a1 ∧ 1 ≤ H ∧ H ≤ a2 ∧ a1 ≤ 16 ∧ a2 ≤ 16 ∧ (C.length : Int) = W * H ∧ (∀ e, e ∈ C → 0 ≤ e ∧ e ≤ 3) ∧ checkErr W H R C = 0 := by
 unfold thermionkit_PlanOf.f at h
 by_cases q : 1 ≤ a1 ∧ a1 ≤ 16 ∧ 1 ≤ a2 ∧ a2 ≤ 16
 ·rw [if_pos q] at h
  simp only [Option.some.injEq, Prod.mk.injEq] at h
  obtain ⟨e1, e2, e3, e4, _⟩ := h
  have hW := (dBtw_eq s 1 a1 q.1 (by omega) (by omega)).2
  have hH := (dBtw_eq (dBtw s 1 a1).2 1 a2 q.2.2.1 (by omega) (by omega)).2
  rw [e1] at hW e4
  rw [e2] at hH e4
  obtain ⟨W', rfl⟩ : ∃ W' : Nat, W = W' := ⟨W.toNat, by omega⟩
  obtain ⟨H', rfl⟩ : ∃ H' : Nat, H = H' := ⟨H.toNat, by omega⟩
  rw [Int.toNat_natCast, Int.toNat_natCast] at e4
  obtain ⟨D, hD⟩ : ∃ D, (cellsTo (dOne (dBtw (dBtw s 1 a1).2 1 a2).2 2).2 (W' * H')).1 = D := ⟨_, rfl⟩
  have hl : D.length = W' * H' := by rw [← hD, cellsTo_length]
  have hr := cellsTo_range (dOne (dBtw (dBtw s 1 a1).2 1 a2).2 2).2 (W' * H')
  rw [hD] at hr e4
  have hpos : 0 < W' * H' := Nat.mul_pos (by omega) (by omega)
  have h256 : W' * H' ≤ 256 := by have := Nat.mul_le_mul (show W' ≤ 16 by omega) (show H' ≤ 16 by omega); omega
  have hf : (firstOne D).length = W' * H' := by unfold firstOne; rw [List.length_set, hl]
  have hlen : C.length = W' * H' := by rw [← e4]; unfold opened; rw [openTo_length, hf]
  have hrC : ∀ e, e ∈ C → 0 ≤ e ∧ e ≤ 3 := fun e he => by
   rw [← e4] at he
   exact openTo_range (firstOne_range hr (by omega)) _ e he
  have hlo : looseB W' H' R C = false := by rw [← e4]; exact opened_fine hf (by omega)
  refine ⟨by omega, by omega, by omega, by omega, by omega, by omega, by rw [hlen, Int.natCast_mul], hrC, ?_⟩
  unfold checkErr
  rw [if_neg (by omega), if_neg (by rw [hlen, Int.natCast_mul]; simp), if_neg (by rintro ⟨e, he, hb⟩; have := hrC e he; omega), if_neg, if_neg]
  ·rw [Int.toNat_natCast, Int.toNat_natCast, hlo]; simp
  ·intro hz
   have hreach := (loose_iff (R := R) hlen (by omega)).1 hlo 0 (by omega)
   have : ∀ i, (net W' H' R C).Reach i → ∃ j, j < C.length ∧ 0 < fn C j := by
    intro i hi
    induction hi with
    | @el i hi he => exact ⟨i, by rw [hlen]; exact hi, by simpa [net] using he⟩
    | step _ _ _ ih => exact ih
   obtain ⟨j, hj, hp⟩ := this 0 hreach
   have := hz _ (fn_mem hj)
   omega
 ·rw [if_neg q] at h
  exact absurd h (by simp)
end Go.Proofs.Ytndkkjpgnmahbaa.Print
end
