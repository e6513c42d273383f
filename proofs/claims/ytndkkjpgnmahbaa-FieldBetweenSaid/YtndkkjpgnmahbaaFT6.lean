/- Part 6 of the texts of a claim about Ytndkkjpgnmahbaa, put together by a program of this work: what the Go functions do, and that their calls do so. -/
import Derived.Test.YtndkkjpgnmahbaaFT3
import Derived.Test.YtndkkjpgnmahbaaFT4
import Derived.Test.YtndkkjpgnmahbaaFT5
import Derived.SizedLaws
import Derived.ChangeSlices
section
namespace Go.Proofs.Ytndkkjpgnmahbaa.Print
open Go.RowKit Go.Proofs.YtndkkjpgnmahbaaW.PrintWords Go.Proofs.YtndkkjpgnmahbaaW.PrintLast Go.Proofs.YtndkkjpgnmahbaaW.PrintMore Go.Proofs.Ytndkkjpgnmahbaa.H Go.Proofs.Field
attribute [local go_sem] Oper.semAt_some
attribute [local go_sem] max2_int min2_int max_two min_two max_three min_three max_four min_four
set_option linter.unusedVariables false
set_option linter.unusedSimpArgs false
def goodF.T8 : Bool × List (List Nat × List Nat) := (true, [([], []), ([], []), ([0, 1], [0, 1]), ([2], [2]), ([], []), ([], []), ([5], [5]), ([4, 6], [4, 6]), ([7], [7]), ([3, 8], [3, 8]), ([9], [9]), ([10], [10]), ([10], [10]), ([11, 12, 10], [10, 11, 12]), ([13, 10], [10, 13]), ([10], [10]), ([10], [10]), ([16, 10], [10, 16]), ([15, 17, 10], [10, 15, 17]), ([18, 10], [10, 18]), ([14, 19, 10], [10, 14, 19]), ([10, 20], [10, 20])])
def goodF.B8 : List Nat := [0, 0, 3, 7, 0, 0, 32, 112, 240, 511, 1023, 2047, 2047, 8191, 16383, 2047, 2047, 67583, 231423, 493567, 1048575, 2097151]
theorem goodF.tab8 : rtab .any (opsOf Try.f50 8) = goodF.T8 := by kernel_rfl
theorem goodF.bits8 : waitsOk goodF.T8.2 goodF.B8 = true := by kernel_rfl
def goodF.T14 : Bool × List (List Nat × List Nat) := (true, [([], []), ([], []), ([0, 1], [0, 1]), ([], []), ([], []), ([], []), ([], []), ([5, 6], [5, 6]), ([7], [7]), ([4, 8], [4, 8]), ([3, 9], [3, 9]), ([], []), ([], []), ([], []), ([], []), ([13, 14], [13, 14]), ([15], [15]), ([12, 16], [12, 16]), ([11, 17], [11, 17]), ([2, 0, 1, 2], [2]), ([10, 19, 0, 1, 2, 3, 4, 5, 6, 7, 8, 9, 10, 19], [10]), ([18, 20, 0, 1, 2, 3, 4, 5, 6, 7, 8, 9, 10, 11, 12, 13, 14, 15, 16, 17, 18, 19, 20], [18])])
def goodF.B14 : List Nat := [0, 0, 3, 0, 0, 0, 0, 96, 224, 496, 1016, 0, 0, 0, 0, 24576, 57344, 126976, 260096, 7, 526335, 2097151]
theorem goodF.tab14 : rtab .any (opsOf Try.f50 14) = goodF.T14 := by kernel_rfl
theorem goodF.bits14 : waitsOk goodF.T14.2 goodF.B14 = true := by kernel_rfl
def goodF.T15 : Bool × List (List Nat × List Nat) := (true, [([], []), ([], []), ([], []), ([1, 2], [1, 2]), ([3], [3]), ([0, 4], [0, 4]), ([], []), ([5, 6], [5, 6]), ([7], [7]), ([8], [8]), ([8], [8]), ([8], [8]), ([10, 11, 8], [8, 10, 11]), ([12, 8], [8, 12]), ([9, 13, 8], [8, 9, 13]), ([8], [8]), ([14, 15, 8], [8, 14, 15]), ([8, 16], [8, 16])])
def goodF.B15 : List Nat := [0, 0, 0, 6, 14, 31, 0, 127, 255, 511, 511, 511, 3583, 7679, 16383, 511, 65535, 131071]
theorem goodF.tab15 : rtab .any (opsOf Try.f50 15) = goodF.T15 := by kernel_rfl
theorem goodF.bits15 : waitsOk goodF.T15.2 goodF.B15 = true := by kernel_rfl
structure GoodFor (W H : Nat) (R : Bool) (C volts lo hi : List Int) : Prop where
  verr : voltErr W H R C volts = 0
  v : Volted W H R C volts
  W16 : W ≤ 16
  H16 : H ≤ 16
  small : C.length ≤ 256
  ll : lo.length = C.length
  lh : hi.length = C.length
  range : ∀ j, j < C.length → (-1000000 ≤ fn lo j ∧ fn lo j ≤ 1000000) ∧ (-1000000 ≤ fn hi j ∧ fn hi j ≤ 1000000)
  el : ∀ i, i < C.length → 0 < fn C i → fn lo i ≤ volt C volts i ∧ volt C volts i ≤ fn hi i
  vac : ∀ i, i < C.length → ¬ 0 < fn C i → allOf (nbs W H R i) * fn lo i ≤ under (fn lo) (nbs W H R i) ∧ under (fn hi) (nbs W H R i) ≤ allOf (nbs W H R i) * fn hi i
structure GI (w W : World) (gp g6 g7 : Nat) (pv : Array Value) (vl vh : Value) : Prop where
  below : Below w.heap.size w W
  p : W.heap[gp]? = some (.cells pv 24 (0, 0))
  l : W.heap[g6]? = some (.cells #[vl] 22 (0, 0))
  h : W.heap[g7]? = some (.cells #[vh] 22 (0, 0))
namespace GI
variable {w W W1 : World} {gp g6 g7 : Nat} {pv : Array Value} {vl vh : Value}
theorem step (h : GI w W gp g6 g7 pv vl vh) (hb : Below W.heap.size W W1) : GI w W1 gp g6 g7 pv vl vh := ⟨below_step h.below hb, blk_below h.p hb, blk_below h.l hb, blk_below h.h hb⟩
theorem turn {B : Nat} {row : Option Nat} (h : GI w W gp g6 g7 pv vl vh) (ht : Turn B W W1 row) (hB : w.heap.size ≤ B) : GI w W1 gp g6 g7 pv vl vh :=
  ⟨ht.below h.below hB h.below.size, ht.heap h.p, ht.heap h.l, ht.heap h.h⟩
theorem far (h : GI w W gp g6 g7 pv vl vh) {k : Nat} {cs : Array Value} (hk : W.heap[k]? = some (.cells cs 3 (0, 0))) (hw : w.heap.size ≤ k) (i : Nat) (v : Value) : GI w (W.setCell ⟨k, i, none⟩ v) gp g6 g7 pv vl vh :=
  ⟨below_set h.below hw, blk_far (p := ⟨k, i, none⟩) h.p (blk_ne h.p hk (by decide)) _, blk_far (p := ⟨k, i, none⟩) h.l (blk_ne h.l hk (by decide)) _, blk_far (p := ⟨k, i, none⟩) h.h (blk_ne h.h hk (by decide)) _⟩
end GI
theorem mul_bound4 {x y : Int} (h1 : 0 ≤ x) (h2 : x ≤ 128) (h3 : -1000000 ≤ y) (h4 : y ≤ 1000000) : -128000000 ≤ x * y ∧ x * y ≤ 128000000 := by
  have a1 := Int.mul_le_mul_of_nonneg_left h4 h1
  have a2 := Int.mul_le_mul_of_nonneg_left h3 h1
  omega
theorem zero3 {W1 W : World} {gt gl gm : Nat} (h : Mem W1 W [(gm, #[.int .i64 0], 3), (gl, #[.int .i64 0], 3), (gt, #[.int .i64 0], 3)]) :
    Below W1.heap.size W1 (((W.setCell ⟨gt, 0, none⟩ (.int .i64 0)).setCell ⟨gl, 0, none⟩ (.int .i64 0)).setCell ⟨gm, 0, none⟩ (.int .i64 0)) ∧ (((W.setCell ⟨gt, 0, none⟩ (.int .i64 0)).setCell ⟨gl, 0, none⟩ (.int .i64 0)).setCell ⟨gm, 0, none⟩ (.int .i64 0)).heap[gt]? = some (.cells #[.int .i64 0] 3 (0, 0)) ∧ (((W.setCell ⟨gt, 0, none⟩ (.int .i64 0)).setCell ⟨gl, 0, none⟩ (.int .i64 0)).setCell ⟨gm, 0, none⟩ (.int .i64 0)).heap[gl]? = some (.cells #[.int .i64 0] 3 (0, 0)) ∧ (((W.setCell ⟨gt, 0, none⟩ (.int .i64 0)).setCell ⟨gl, 0, none⟩ (.int .i64 0)).setCell ⟨gm, 0, none⟩ (.int .i64 0)).heap[gm]? = some (.cells #[.int .i64 0] 3 (0, 0)) := by
  have n1 : gm ≠ gl := h.ne _ List.mem_cons_self
  have n2 : gm ≠ gt := h.ne _ (List.mem_cons_of_mem _ List.mem_cons_self)
  have n3 : gl ≠ gt := h.drop.ne _ List.mem_cons_self
  have b1 := h.third
  have b2 := h.second
  have b3 := h.head
  have c1 : (W.setCell ⟨gt, 0, none⟩ (.int .i64 0)).heap[gt]? = some (.cells #[.int .i64 0] 3 (0, 0)) := by rw [blk_set b1 0]; rfl
  have c2 := blk_far b2 (p := ⟨gt, 0, none⟩) n3 (.int .i64 0)
  have c3 := blk_far b3 (p := ⟨gt, 0, none⟩) n2 (.int .i64 0)
  have d1 := blk_far c1 (p := ⟨gl, 0, none⟩) n3.symm (.int .i64 0)
  have d2 : ((W.setCell ⟨gt, 0, none⟩ (.int .i64 0)).setCell ⟨gl, 0, none⟩ (.int .i64 0)).heap[gl]? = some (.cells #[.int .i64 0] 3 (0, 0)) := by rw [blk_set c2 0]; rfl
  have d3 := blk_far c3 (p := ⟨gl, 0, none⟩) n1 (.int .i64 0)
  refine ⟨below_set (below_set (below_set h.below h.drop.drop.geh) h.drop.geh) h.geh, blk_far d1 (p := ⟨gm, 0, none⟩) n2.symm _, blk_far d2 (p := ⟨gm, 0, none⟩) n1.symm _, ?_⟩
  rw [blk_set d3 0]; rfl
structure Sep (w : World) (gt gl gm gi : Nat) : Prop where
  tl : gt ≠ gl
  tm : gt ≠ gm
  lm : gl ≠ gm
  it : gi ≠ gt
  il : gi ≠ gl
  im : gi ≠ gm
  gt : w.heap.size ≤ gt
  gl : w.heap.size ≤ gl
  gm : w.heap.size ≤ gm
structure GJ (w : World) (gp g6 g7 : Nat) (pv : Array Value) (vl vh : Value) (gt gl gm : Nat) (T L M : Int) (B : Nat) (ds : List Deferred) (gi gq : Nat) (ci cq : Array Value) (V : World) : Prop where
  g : GI w V gp g6 g7 pv vl vh
  t : V.heap[gt]? = some (.cells #[.int .i64 T] 3 (0, 0))
  l : V.heap[gl]? = some (.cells #[.int .i64 L] 3 (0, 0))
  m : V.heap[gm]? = some (.cells #[.int .i64 M] 3 (0, 0))
  marks : MarksTo w.heap.size B V ds
  b : B ≤ V.heap.size
  i : V.heap[gi]? = some (.cells ci 3 (0, 0))
  q : V.heap[gq]? = some (.cells cq 24 (0, 0))
namespace GJ
variable {w V V1 : World} {gp g6 g7 : Nat} {pv : Array Value} {vl vh : Value} {gt gl gm : Nat} {T L M : Int} {B : Nat} {ds : List Deferred} {gi gq : Nat} {ci cq : Array Value}
theorem step (h : GJ w gp g6 g7 pv vl vh gt gl gm T L M B ds gi gq ci cq V) (hb : Below V.heap.size V V1) : GJ w gp g6 g7 pv vl vh gt gl gm T L M B ds gi gq ci cq V1 :=
  ⟨h.g.step hb, blk_below h.t hb, blk_below h.l hb, blk_below h.m hb, h.marks.others (below_others hb), Nat.le_trans h.b hb.size, blk_below h.i hb, blk_below h.q hb⟩
theorem turn {row : Option Nat} (h : GJ w gp g6 g7 pv vl vh gt gl gm T L M B ds gi gq ci cq V) (ht : Turn B V V1 row) (hB : w.heap.size ≤ B) : GJ w gp g6 g7 pv vl vh gt gl gm T L M B ds gi gq ci cq V1 :=
  ⟨h.g.turn ht hB, ht.heap h.t, ht.heap h.l, ht.heap h.m, h.marks.turn ht h.b, Nat.le_trans h.b ht.1.size, ht.heap h.i, ht.heap h.q⟩
theorem putT (h : GJ w gp g6 g7 pv vl vh gt gl gm T L M B ds gi gq ci cq V) (s : Sep w gt gl gm gi) (v : Int) : GJ w gp g6 g7 pv vl vh gt gl gm v L M B ds gi gq ci cq (V.setCell ⟨gt, 0, none⟩ (.int .i64 v)) :=
  ⟨h.g.far h.t s.gt 0 _, by rw [blk_set h.t 0]; rfl, blk_far (p := ⟨gt, 0, none⟩) h.l s.tl.symm _, blk_far (p := ⟨gt, 0, none⟩) h.m s.tm.symm _, h.marks.others (KeepsOthers.setCell _ _ _), Nat.le_trans h.b (KeepsOthers.setCell _ _ _).size, blk_far (p := ⟨gt, 0, none⟩) h.i s.it _, blk_far (p := ⟨gt, 0, none⟩) h.q (blk_ne h.q h.t (by decide)) _⟩
theorem putL (h : GJ w gp g6 g7 pv vl vh gt gl gm T L M B ds gi gq ci cq V) (s : Sep w gt gl gm gi) (v : Int) : GJ w gp g6 g7 pv vl vh gt gl gm T v M B ds gi gq ci cq (V.setCell ⟨gl, 0, none⟩ (.int .i64 v)) :=
  ⟨h.g.far h.l s.gl 0 _, blk_far (p := ⟨gl, 0, none⟩) h.t s.tl _, by rw [blk_set h.l 0]; rfl, blk_far (p := ⟨gl, 0, none⟩) h.m s.lm.symm _, h.marks.others (KeepsOthers.setCell _ _ _), Nat.le_trans h.b (KeepsOthers.setCell _ _ _).size, blk_far (p := ⟨gl, 0, none⟩) h.i s.il _, blk_far (p := ⟨gl, 0, none⟩) h.q (blk_ne h.q h.l (by decide)) _⟩
theorem putM (h : GJ w gp g6 g7 pv vl vh gt gl gm T L M B ds gi gq ci cq V) (s : Sep w gt gl gm gi) (v : Int) : GJ w gp g6 g7 pv vl vh gt gl gm T L v B ds gi gq ci cq (V.setCell ⟨gm, 0, none⟩ (.int .i64 v)) :=
  ⟨h.g.far h.m s.gm 0 _, blk_far (p := ⟨gm, 0, none⟩) h.t s.tm _, blk_far (p := ⟨gm, 0, none⟩) h.l s.lm _, by rw [blk_set h.m 0]; rfl, h.marks.others (KeepsOthers.setCell _ _ _), Nat.le_trans h.b (KeepsOthers.setCell _ _ _).size, blk_far (p := ⟨gm, 0, none⟩) h.i s.im _, blk_far (p := ⟨gm, 0, none⟩) h.q (blk_ne h.q h.m (by decide)) _⟩
end GJ
set_option maxHeartbeats 6400000 in
set_option maxRecDepth 100000 in
theorem good_calls (W H : Nat) (R : Bool) (A : Option Addr) (c : Nat) (C : List Int) (A1 : Option Addr) (c1 : Nat) (volts : List Int) (A2 : Option Addr) (c2 : Nat) (lo : List Int) (A3 : Option Addr) (c3 : Nat) (hi : List Int) (w : World) (hr : Kd.C (Kd.int .i64) w A C.length C) (hc : C.length ≤ c) (hr1 : Kd.C (Kd.int .i64) w A1 volts.length volts) (hc1 : volts.length ≤ c1)
    (hr2 : Kd.C (Kd.int .i64) w A2 lo.length lo) (hr3 : Kd.C (Kd.int .i64) w A3 hi.length hi) (hG : GoodFor W H R C volts lo hi) :
    Calls Try.prog 50 #[.agg (planV W H R A C.length c), .slice A1 volts.length c1, .slice A2 C.length c2, .slice A3 C.length c3] w fun e w' => e = .returned (.bool true) ∧ Below w.heap.size w w' := by
  have HR := Aside0.mk hr
  have HC := Aside0.mk hc
  have HR1 := Aside0.mk hr1
  have HC1 := Aside0.mk hc1
  have HR2 := Aside0.mk hr2
  have HR3 := Aside0.mk hr3
  have HG := Aside0.mk hG
  have HM := Aside0.mk (Mem.start w)
  have hu24 := Try.underlying24
  have hu22 := Try.underlying22
  have hlen : (C.length : Int) ≤ 256 := by have := hG.small; omega
  have HOUT : Aside0 (lo.any outB = false ∧ hi.any outB = false) := ⟨by
    constructor
    · cases q : lo.any outB with
      | false => rfl
      | true =>
        obtain ⟨y, hy, hb⟩ := (any_out lo).1 q
        obtain ⟨j, hj, rfl⟩ := mem_fn hy
        have := (hG.range j (by rw [← hG.ll]; exact hj)).1
        omega
    · cases q : hi.any outB with
      | false => rfl
      | true =>
        obtain ⟨y, hy, hb⟩ := (any_out hi).1 q
        obtain ⟨j, hj, rfl⟩ := mem_fn hy
        have := (hG.range j (by rw [← hG.lh]; exact hj)).2
        omega⟩
  have HCV : Aside0 (∀ V, Below w.heap.size w V → Calls Try.prog 41 #[.agg (planV W H R A C.length c), .slice A1 volts.length c1] V fun e w' => e = .returned (.int .i64 0) ∧ Below V.heap.size V w') := ⟨fun V hb => field_CheckVolts.calls W H R A c C A1 c1 volts 0 V (Kd.C_below HR.out hb) HC.out (Kd.C_below HR1.out hb) HC1.out (by unfold field_CheckVolts.f; rw [HG.out.verr])⟩
  have HCL : Aside0 (∀ V, Below w.heap.size w V → Calls Try.prog 85 #[.slice A2 C.length c2, .func (.func 86) #[] #[]] V fun e w' => e = .returned (.bool false) ∧ Drawn0 V w') := ⟨fun V hb => by
    have := containsFunc_calls A2 c2 lo V (Kd.C_below HR2.out hb)
    rw [HOUT.out.1, HG.out.ll] at this
    exact this⟩
  have HCH : Aside0 (∀ V, Below w.heap.size w V → Calls Try.prog 85 #[.slice A3 C.length c3, .func (.func 86) #[] #[]] V fun e w' => e = .returned (.bool false) ∧ Drawn0 V w') := ⟨fun V hb => by
    have := containsFunc_calls A3 c3 hi V (Kd.C_below HR3.out hb)
    rw [HOUT.out.2, HG.out.lh] at this
    exact this⟩
  clear hr hc hr1 hc1 hr2 hr3 hG
  refine (callsIn_wide (n := 5)).1 (callsIn_of_wp_marks Try.func50 rfl trivial ?_)
  simp only [Try.ntmps50, List.size_toArray, List.length_cons, List.length_nil, Nat.reduceAdd, Nat.reduceSub, Array.replicate_succ, Array.replicate_zero, List.push_toArray, List.append_toArray, List.nil_append, List.cons_append]
  refine wpIn_wide.2 ?_
  go_wp2_with (first
    | ((with_reducible refine gate_dst (N := 4) rfl ?_); refine ev_box HM.out rfl 24 (.tmp 0) rfl (cs := planV W H R A C.length c) rfl ?_; intro gp w1 hm1 hq1; clear hq1; have HM1 := Aside0.mk hm1; clear hm1 HM)
    | ((with_reducible refine gate_dst (N := 6) rfl ?_); refine ev_box1 HM1.out rfl 22 (.tmp 2) rfl rfl rfl ?_; intro g6 w2 hm2 hq2; clear hq2; have HM2 := Aside0.mk hm2; clear hm2 HM1)
    | ((with_reducible refine gate_dst (N := 7) rfl ?_); refine ev_box1 HM2.out rfl 22 (.tmp 3) rfl rfl rfl ?_; intro g7 w3 hm3 hq3; clear hq3; have HM3 := Aside0.mk hm3; clear hm3 HM2; have q3 : w3.cell? ⟨gp, 3, none⟩ = some (.slice A C.length c) := (blk_cell HM3.out.third 3).trans rfl)
    | ((with_reducible refine gate_dst (N := 20) rfl ?_); refine ev_load HM3.out.third rfl 24 (.tmp 4) rfl rfl _ Try.underlying24 rfl size24 rfl ?_)
    | (go_at_call 41; refine (HCV.out _ HM3.out.below).mono ?_; rintro e w4 ⟨rfl, hb⟩; have HM4 := Aside0.mk (HM3.out.step hb); clear hb HM3 q3; have q6 : w4.cell? ⟨g6, 0, none⟩ = some (.slice A2 C.length c2) := (blk_cell HM4.out.second 0).trans rfl; have q7 : w4.cell? ⟨g7, 0, none⟩ = some (.slice A3 C.length c3) := (blk_cell HM4.out.head 0).trans rfl)
    | (go_at_call 85; (with_reducible refine (HCL.out _ HM4.out.below).mono ?_); rintro e w5 ⟨rfl, hb⟩; have HM5 := Aside0.mk (HM4.out.step hb.below); clear hb HM4 q6 q7 HCL; have q7 : w5.cell? ⟨g7, 0, none⟩ = some (.slice A3 C.length c3) := (blk_cell HM5.out.head 0).trans rfl)
    | (go_at_call 85; (with_reducible refine (HCH.out _ HM5.out.below).mono ?_); rintro e w6 ⟨rfl, hb⟩; have HM6 := Aside0.mk (HM5.out.step hb.below); clear hb HM5 q7 HCH; have q3 : w6.cell? ⟨gp, 3, none⟩ = some (.slice A C.length c) := (blk_cell HM6.out.third 3).trans rfl))
  rename_i Ka hKa
  have HKa := Aside0.mk hKa
  clear hKa
  have HGI0 : Aside0 (GI w w6 gp g6 g7 (planV W H R A C.length c) (.slice A2 C.length c2) (.slice A3 C.length c3)) := ⟨⟨HM6.out.below, HM6.out.third, HM6.out.second, HM6.out.head⟩⟩
  clear HM6 q3 HCV
  refine (wpIn_wide (n := 5)).1 ?_
  refine loop_ghost (fun k a' Wz => ∃ (i : Nat) (ds : List Deferred), a' = (fun (zs : Nat → Value) => ({ tmps := List.toArray (zs 0 :: .slice A1 volts.length c1 :: zs 2 :: zs 3 :: .pointer (some ⟨gp, 0, none⟩) :: zs 5 :: .pointer (some ⟨g6, 0, none⟩) :: .pointer (some ⟨g7, 0, none⟩) :: .bool false :: .int .i64 (C.length : Int) :: zs 10 :: zs 11 :: zs 12 :: zs 13 :: zs 14 :: zs 15 :: zs 16 :: zs 17 :: zs 18 :: zs 19 :: zs 20 :: zs 21 :: zs 22 :: zs 23 :: zs 24 :: zs 25 :: zs 26 :: zs 27 :: zs 28 :: zs 29 :: zs 30 :: zs 31 :: zs 32 :: zs 33 :: zs 34 :: zs 35 :: zs 36 :: zs 37 :: zs 38 :: zs 39 :: zs 40 :: zs 41 :: zs 42 :: zs 43 :: zs 44 :: .slice A C.length c :: .int .i64 (C.length : Int) :: .int .i64 (i : Int) :: zs 48 :: zs 49 :: zs 50 :: zs 51 :: zs 52 :: zs 53 :: zs 54 :: zs 55 :: zs 56 :: zs 57 :: zs 58 :: zs 59 :: zs 60 :: zs 61 :: zs 62 :: zs 63 :: zs 64 :: zs 65 :: zs 66 :: zs 67 :: zs 68 :: zs 69 :: zs 70 :: zs 71 :: zs 72 :: zs 73 :: zs 74 :: zs 75 :: zs 76 :: zs 77 :: zs 78 :: zs 79 :: zs 80 :: zs 81 :: zs 82 :: zs 83 :: zs 84 :: zs 85 :: zs 86 :: zs 87 :: zs 88 :: zs 89 :: zs 90 :: zs 91 :: zs 92 :: zs 93 :: zs 94 :: zs 95 :: zs 96 :: zs 97 :: zs 98 :: zs 99 :: zs 100 :: zs 101 :: zs 102 :: zs 103 :: zs 104 :: zs 105 :: zs 106 :: zs 107 :: zs 108 :: zs 109 :: zs 110 :: zs 111 :: zs 112 :: zs 113 :: zs 114 :: zs 115 :: zs 116 :: zs 117 :: zs 118 :: []), defers := ds } : Act)) (fun q => a'.tmps.getD q undef) ∧ Aside0 (i + k = C.length) ∧ Aside0 (Marks w.heap.size Wz ds) ∧ Aside0 (GI w Wz gp g6 g7 (planV W H R A C.length c) (.slice A2 C.length c2) (.slice A3 C.length c3))) C.length ?_ ?_
  · exact ⟨0, [], rfl, ⟨by omega⟩, ⟨Marks.nil _ _⟩, HGI0⟩
  clear HGI0
  rintro k a1 W1 ⟨i, ds, ha, HK, HMK, HGI⟩
  generalize (fun q => a1.tmps.getD q undef) = zs at ha
  replace ha : a1 = ({ tmps := List.toArray (zs 0 :: .slice A1 volts.length c1 :: zs 2 :: zs 3 :: .pointer (some ⟨gp, 0, none⟩) :: zs 5 :: .pointer (some ⟨g6, 0, none⟩) :: .pointer (some ⟨g7, 0, none⟩) :: .bool false :: .int .i64 (C.length : Int) :: zs 10 :: zs 11 :: zs 12 :: zs 13 :: zs 14 :: zs 15 :: zs 16 :: zs 17 :: zs 18 :: zs 19 :: zs 20 :: zs 21 :: zs 22 :: zs 23 :: zs 24 :: zs 25 :: zs 26 :: zs 27 :: zs 28 :: zs 29 :: zs 30 :: zs 31 :: zs 32 :: zs 33 :: zs 34 :: zs 35 :: zs 36 :: zs 37 :: zs 38 :: zs 39 :: zs 40 :: zs 41 :: zs 42 :: zs 43 :: zs 44 :: .slice A C.length c :: .int .i64 (C.length : Int) :: .int .i64 (i : Int) :: zs 48 :: zs 49 :: zs 50 :: zs 51 :: zs 52 :: zs 53 :: zs 54 :: zs 55 :: zs 56 :: zs 57 :: zs 58 :: zs 59 :: zs 60 :: zs 61 :: zs 62 :: zs 63 :: zs 64 :: zs 65 :: zs 66 :: zs 67 :: zs 68 :: zs 69 :: zs 70 :: zs 71 :: zs 72 :: zs 73 :: zs 74 :: zs 75 :: zs 76 :: zs 77 :: zs 78 :: zs 79 :: zs 80 :: zs 81 :: zs 82 :: zs 83 :: zs 84 :: zs 85 :: zs 86 :: zs 87 :: zs 88 :: zs 89 :: zs 90 :: zs 91 :: zs 92 :: zs 93 :: zs 94 :: zs 95 :: zs 96 :: zs 97 :: zs 98 :: zs 99 :: zs 100 :: zs 101 :: zs 102 :: zs 103 :: zs 104 :: zs 105 :: zs 106 :: zs 107 :: zs 108 :: zs 109 :: zs 110 :: zs 111 :: zs 112 :: zs 113 :: zs 114 :: zs 115 :: zs 116 :: zs 117 :: zs 118 :: []), defers := ds } : Act) := ha
  subst ha
  by_cases hci : i < C.length
  rotate_left
  · obtain rfl : i = C.length := by have := HK.out; omega
    clear hci
    refine wpIn_wide.2 ?_
    have hlt : decide ((C.length : Int) < (C.length : Int)) = false := decide_eq_false (by omega)
    go_wp2_with fail
    refine HKa.out _ _ ?_
    go_wp2_with fail
    refine ret_marks HGI.out.below.size HMK.out (fun W' hs => ⟨_, results_tmp rfl _ _ _, rfl, HGI.out.below.trans hs.below⟩)
  have HI := Aside0.mk hci
  have HKN : Aside0 (k - 1 < k ∧ i + 1 + (k - 1) = C.length) := ⟨by have := HK.out; omega⟩
  obtain ⟨ad, e0, hx⟩ := at_natM (Kd.C_below HR.out HGI.out.below) i hci
  cases e0
  have i1 : (0 : Int) ≤ (i : Int) := by omega
  have i2 : (i : Int) < (C.length : Int) := by omega
  have i3 : (i : Int) < 256 := by omega
  obtain ⟨X, hX⟩ : ∃ X, C.getD i 0 = X := ⟨_, rfl⟩
  rw [hX] at hx
  have HX2 : Aside0 (fn C i = X) := ⟨hX⟩
  have q6 : W1.cell? ⟨g6, 0, none⟩ = some (.slice A2 C.length c2) := (blk_cell HGI.out.l 0).trans rfl
  have q7 : W1.cell? ⟨g7, 0, none⟩ = some (.slice A3 C.length c3) := (blk_cell HGI.out.h 0).trans rfl
  clear hX hci
  by_cases q : 0 < X
  · have hg : decide (X > 0) = true := decide_eq_true q
    have hel := HG.out.el i HI.out (by rw [HX2.out]; exact q)
    have hvl := HG.out.v.vlen i HI.out
    obtain ⟨n, rfl⟩ : ∃ n : Nat, X = (n : Int) + 1 := ⟨(X - 1).toNat, by omega⟩
    rw [HX2.out] at hvl
    have hvn : volt C volts i = fn volts n := by unfold volt; rw [HX2.out]; congr 1
    rw [hvn] at hel
    obtain ⟨adv, ev, xv⟩ := at_natM (Kd.C_below HR1.out HGI.out.below) n (by omega)
    obtain ⟨ad2, e2, x2⟩ := at_natM (Kd.C_below HR2.out HGI.out.below) i (by rw [HG.out.ll]; exact HI.out)
    obtain ⟨ad3, e3, x3⟩ := at_natM (Kd.C_below HR3.out HGI.out.below) i (by rw [HG.out.lh]; exact HI.out)
    cases ev
    cases e2
    cases e3
    rw [show volts.getD n 0 = fn volts n from rfl] at xv
    rw [show lo.getD i 0 = fn lo i from rfl] at x2
    rw [show hi.getD i 0 = fn hi i from rfl] at x3
    have k0 : (n : Int) < 7 := by have := HG.out.v.elr i HI.out; rw [HX2.out] at this; omega
    have k1 : (n : Int) < (volts.length : Int) := by omega
    have k2 : n < volts.length := by omega
    generalize fn volts n = y1 at xv hel
    generalize fn lo i = y2 at x2 hel
    generalize fn hi i = y3 at x3 hel
    have h1x : decide (y2 > y1) = false := by simp; omega
    have h2x : decide (y3 < y1) = false := by simp; omega
    have n1 : IntKind.i64.wrap ((n : Int) + 1 - 1) = (n : Int) := by rw [IntWalk.i64_in _ (by have := HG.out.v.elr i HI.out; rw [HX2.out] at this; omega)]; omega
    have n2 : wrap64 (n : Int) = (n : Int) := IntWalk.wrap64_in _ (by omega)
    clear q hvl hel hvn
    refine wpIn_wide.2 ?_
    go_upto_region 8 with fail
    refine wp_region_noPanic ?_
    have HBd := Aside0.mk (below_drew1 (Below.refl W1.heap.size W1))
    refine start_ (n := 22) (S := fun w' => w'.cell? ⟨g6, 0, none⟩ = some (.slice (some ad2) C.length c2) ∧ w'.cell? ⟨g7, 0, none⟩ = some (.slice (some ad3) C.length c3) ∧ w'.cell? (ad2.add i) = some (.int .i64 y2) ∧ w'.cell? (ad3.add i) = some (.int .i64 y3) ∧ w'.cell? (adv.add n) = some (.int .i64 y1)) (ds := []) #[false, false, false, false, false, false, false, false, false, false, false, false, false, false, false, false, false, false, false, false, false, false] (by kernel_rfl) rfl rfl ⟨q6, q7, x2, x3, xv⟩ (fun hHeld => ?_); refine with_tabW goodF.tab8 goodF.bits8 (fun HT_ HW_ => ?_)
    generalize W1.drew = wd at HBd hHeld  ⊢
    refine pure_ (i := 1) (N := some 55) (v := ?_) (a' := ?_) #[false, true, false, false, false, false, false, false, false, false, false, false, false, false, false, false, false, false, false, false, false, false] rfl rfl (any_of HT_.out (by kernel_rfl)) (fun _ _ _ h => h) (Or.inl ⟨by rfl, ?_⟩) ?_ ?_
    rotate_left
    · intro w'
      go_simp
      with_reducible rfl
    rotate_left
    · simp only [Act.put, List.setIfInBounds_toArray, List.set_cons_zero, List.set_cons_succ, i64_w, i32_w]
      rfl
    refine pure_ (i := 4) (N := some 58) (v := ?_) (a' := ?_) #[false, true, false, false, true, false, false, false, false, false, false, false, false, false, false, false, false, false, false, false, false, false] rfl rfl (any_of HT_.out (by kernel_rfl)) (fun _ _ _ h => h) (Or.inl ⟨by rfl, ?_⟩) ?_ ?_
    rotate_left
    · intro w'
      go_simp
      with_reducible rfl
    rotate_left
    · simp only [Act.put, List.setIfInBounds_toArray, List.set_cons_zero, List.set_cons_succ, i64_w, i32_w]
      rfl
    refine pure_ (i := 5) (N := some 59) (v := ?_) (a' := ?_) #[false, true, false, false, true, true, false, false, false, false, false, false, false, false, false, false, false, false, false, false, false, false] rfl rfl (any_of HT_.out (by kernel_rfl)) (fun _ _ _ h => h) (Or.inl ⟨by rfl, ?_⟩) ?_ ?_
    rotate_left
    · intro w'
      go_simp
      with_reducible rfl
    rotate_left
    · simp only [Act.put, List.setIfInBounds_toArray, List.set_cons_zero, List.set_cons_succ, i64_w, i32_w]
      rfl
    refine pure_ (i := 6) (N := some 60) (v := ?_) (a' := ?_) #[false, true, false, false, true, true, true, false, false, false, false, false, false, false, false, false, false, false, false, false, false, false] rfl rfl (any_of HT_.out (by kernel_rfl)) (fun _ _ _ h => h) (Or.inl ⟨by rfl, ?_⟩) ?_ ?_
    rotate_left
    · intro w'
      go_simp
      with_reducible rfl
    rotate_left
    · simp only [Act.put, List.setIfInBounds_toArray, List.set_cons_zero, List.set_cons_succ, i64_w, i32_w]
      rfl
    refine pure_ (i := 7) (N := some 61) (v := ?_) (a' := ?_) #[false, true, false, false, true, true, true, true, false, false, false, false, false, false, false, false, false, false, false, false, false, false] rfl rfl (any_of HT_.out (by kernel_rfl)) (fun _ _ _ h => h) (Or.inl ⟨by rfl, ?_⟩) ?_ ?_
    rotate_left
    · intro w'
      go_simp
      with_reducible rfl
    rotate_left
    · simp only [Act.put, List.setIfInBounds_toArray, List.set_cons_zero, List.set_cons_succ, i64_w, i32_w]
      rfl
    refine take_ (i := 0) (N := some 54) (v := ?_) (a' := ?_) #[true, true, false, false, true, true, true, true, false, false, false, false, false, false, false, false, false, false, false, false, false, false] rfl rfl (take_ofW HT_.out HW_.out (by kernel_rfl)) (fun _ _ _ h => h) (Or.inl ⟨by rfl, ?_⟩) hHeld ?_ ?_
    rotate_left
    · rintro w' ⟨s0, s1, s2, s3, s4⟩
      go_simp
      with_reducible rfl
    rotate_left
    · simp only [Act.put, List.setIfInBounds_toArray, List.set_cons_zero, List.set_cons_succ, i64_w, i32_w]
      rfl
    refine pure_ (i := 2) (N := some 56) (v := ?_) (a' := ?_) #[true, true, true, false, true, true, true, true, false, false, false, false, false, false, false, false, false, false, false, false, false, false] rfl rfl (any_of HT_.out (by kernel_rfl)) (fun _ _ _ h => h) (Or.inl ⟨by rfl, ?_⟩) ?_ ?_
    rotate_left
    · intro w'
      go_simp
      with_reducible rfl
    rotate_left
    · simp only [Act.put, List.setIfInBounds_toArray, List.set_cons_zero, List.set_cons_succ, i64_w, i32_w]
      rfl
    refine take_ (i := 3) (N := some 57) (v := ?_) (a' := ?_) #[true, true, true, true, true, true, true, true, false, false, false, false, false, false, false, false, false, false, false, false, false, false] rfl rfl (take_ofW HT_.out HW_.out (by kernel_rfl)) (fun _ _ _ h => h) (Or.inl ⟨by rfl, ?_⟩) hHeld ?_ ?_
    rotate_left
    · rintro w' ⟨s0, s1, s2, s3, s4⟩
      go_simp
      with_reducible rfl
    rotate_left
    · simp only [Act.put, List.setIfInBounds_toArray, List.set_cons_zero, List.set_cons_succ, i64_w, i32_w]
      rfl
    refine take_ (i := 8) (N := some 62) (v := ?_) (a' := ?_) #[true, true, true, true, true, true, true, true, true, false, false, false, false, false, false, false, false, false, false, false, false, false] rfl rfl (take_ofW HT_.out HW_.out (by kernel_rfl)) (fun _ _ _ h => h) (Or.inl ⟨by rfl, ?_⟩) hHeld ?_ ?_
    rotate_left
    · rintro w' ⟨s0, s1, s2, s3, s4⟩
      go_simp
      with_reducible rfl
    rotate_left
    · simp only [Act.put, List.setIfInBounds_toArray, List.set_cons_zero, List.set_cons_succ, i64_w, i32_w]
      rfl
    refine pure_ (i := 9) (N := some 63) (v := ?_) (a' := ?_) #[true, true, true, true, true, true, true, true, true, true, false, false, false, false, false, false, false, false, false, false, false, false] rfl rfl (any_of HT_.out (by kernel_rfl)) (fun _ _ _ h => h) (Or.inl ⟨by rfl, ?_⟩) ?_ ?_
    rotate_left
    · intro w'
      go_simp
      with_reducible rfl
    rotate_left
    · simp only [Act.put, List.setIfInBounds_toArray, List.set_cons_zero, List.set_cons_succ, i64_w, i32_w]
      rfl
    refine pure_ (i := 10) (N := some 64) (v := ?_) (a' := ?_) #[true, true, true, true, true, true, true, true, true, true, true, false, false, false, false, false, false, false, false, false, false, false] rfl rfl (any_of HT_.out (by kernel_rfl)) (fun _ _ _ h => h) (Or.inl ⟨by rfl, ?_⟩) ?_ ?_
    rotate_left
    · intro w'
      go_simp
      with_reducible rfl
    rotate_left
    · simp only [Act.put, List.setIfInBounds_toArray, List.set_cons_zero, List.set_cons_succ, i64_w, i32_w]
      rfl
    refine pure_ (i := 12) (N := some 66) (v := ?_) (a' := ?_) #[true, true, true, true, true, true, true, true, true, true, true, false, true, false, false, false, false, false, false, false, false, false] rfl rfl (any_of HT_.out (by kernel_rfl)) (fun _ _ _ h => h) (Or.inl ⟨by rfl, ?_⟩) ?_ ?_
    rotate_left
    · intro w'
      go_simp
      with_reducible rfl
    rotate_left
    · simp only [Act.put, List.setIfInBounds_toArray, List.set_cons_zero, List.set_cons_succ, i64_w, i32_w]
      rfl
    refine pure_ (i := 15) (N := some 69) (v := ?_) (a' := ?_) #[true, true, true, true, true, true, true, true, true, true, true, false, true, false, false, true, false, false, false, false, false, false] rfl rfl (any_of HT_.out (by kernel_rfl)) (fun _ _ _ h => h) (Or.inl ⟨by rfl, ?_⟩) ?_ ?_
    rotate_left
    · intro w'
      go_simp
      with_reducible rfl
    rotate_left
    · simp only [Act.put, List.setIfInBounds_toArray, List.set_cons_zero, List.set_cons_succ, i64_w, i32_w]
      rfl
    refine pure_ (i := 16) (N := some 70) (v := ?_) (a' := ?_) #[true, true, true, true, true, true, true, true, true, true, true, false, true, false, false, true, true, false, false, false, false, false] rfl rfl (any_of HT_.out (by kernel_rfl)) (fun _ _ _ h => h) (Or.inl ⟨by rfl, ?_⟩) ?_ ?_
    rotate_left
    · intro w'
      go_simp
      with_reducible rfl
    rotate_left
    · simp only [Act.put, List.setIfInBounds_toArray, List.set_cons_zero, List.set_cons_succ, i64_w, i32_w]
      rfl
    refine pure_ (i := 17) (N := some 71) (v := ?_) (a' := ?_) #[true, true, true, true, true, true, true, true, true, true, true, false, true, false, false, true, true, true, false, false, false, false] rfl rfl (any_of HT_.out (by kernel_rfl)) (fun _ _ _ h => h) (Or.inl ⟨by rfl, ?_⟩) ?_ ?_
    rotate_left
    · intro w'
      go_simp
      with_reducible rfl
    rotate_left
    · simp only [Act.put, List.setIfInBounds_toArray, List.set_cons_zero, List.set_cons_succ, i64_w, i32_w]
      rfl
    refine pure_ (i := 18) (N := some 72) (v := ?_) (a' := ?_) #[true, true, true, true, true, true, true, true, true, true, true, false, true, false, false, true, true, true, true, false, false, false] rfl rfl (any_of HT_.out (by kernel_rfl)) (fun _ _ _ h => h) (Or.inl ⟨by rfl, ?_⟩) ?_ ?_
    rotate_left
    · intro w'
      go_simp
      with_reducible rfl
    rotate_left
    · simp only [Act.put, List.setIfInBounds_toArray, List.set_cons_zero, List.set_cons_succ, i64_w, i32_w]
      rfl
    refine take_ (i := 11) (N := some 65) (v := ?_) (a' := ?_) #[true, true, true, true, true, true, true, true, true, true, true, true, true, false, false, true, true, true, true, false, false, false] rfl rfl (take_ofW HT_.out HW_.out (by kernel_rfl)) (fun _ _ _ h => h) (Or.inl ⟨by rfl, ?_⟩) hHeld ?_ ?_
    rotate_left
    · rintro w' ⟨s0, s1, s2, s3, s4⟩
      go_simp
      with_reducible rfl
    rotate_left
    · simp only [Act.put, List.setIfInBounds_toArray, List.set_cons_zero, List.set_cons_succ, i64_w, i32_w]
      rfl
    refine pure_ (i := 13) (N := some 67) (v := ?_) (a' := ?_) #[true, true, true, true, true, true, true, true, true, true, true, true, true, true, false, true, true, true, true, false, false, false] rfl rfl (any_of HT_.out (by kernel_rfl)) (fun _ _ _ h => h) (Or.inl ⟨by rfl, ?_⟩) ?_ ?_
    rotate_left
    · intro w'
      go_simp
      with_reducible rfl
    rotate_left
    · simp only [Act.put, List.setIfInBounds_toArray, List.set_cons_zero, List.set_cons_succ, i64_w, i32_w]
      rfl
    refine take_ (i := 14) (N := some 68) (v := ?_) (a' := ?_) #[true, true, true, true, true, true, true, true, true, true, true, true, true, true, true, true, true, true, true, false, false, false] rfl rfl (take_ofW HT_.out HW_.out (by kernel_rfl)) (fun _ _ _ h => h) (Or.inl ⟨by rfl, ?_⟩) hHeld ?_ ?_
    rotate_left
    · rintro w' ⟨s0, s1, s2, s3, s4⟩
      go_simp
      with_reducible rfl
    rotate_left
    · simp only [Act.put, List.setIfInBounds_toArray, List.set_cons_zero, List.set_cons_succ, i64_w, i32_w]
      rfl
    refine take_ (i := 19) (N := some 73) (v := ?_) (a' := ?_) #[true, true, true, true, true, true, true, true, true, true, true, true, true, true, true, true, true, true, true, true, false, false] rfl rfl (take_ofW HT_.out HW_.out (by kernel_rfl)) (fun _ _ _ h => h) (Or.inl ⟨by rfl, ?_⟩) hHeld ?_ ?_
    rotate_left
    · rintro w' ⟨s0, s1, s2, s3, s4⟩
      go_simp
      with_reducible rfl
    rotate_left
    · simp only [Act.put, List.setIfInBounds_toArray, List.set_cons_zero, List.set_cons_succ, i64_w, i32_w]
      rfl
    refine pure_ (i := 20) (N := some 74) (v := ?_) (a' := ?_) #[true, true, true, true, true, true, true, true, true, true, true, true, true, true, true, true, true, true, true, true, true, false] rfl rfl (any_of HT_.out (by kernel_rfl)) (fun _ _ _ h => h) (Or.inl ⟨by rfl, ?_⟩) ?_ ?_
    rotate_left
    · intro w'
      go_simp
      with_reducible rfl
    rotate_left
    · simp only [Act.put, List.setIfInBounds_toArray, List.set_cons_zero, List.set_cons_succ, i64_w, i32_w]
      rfl
    refine pure_ (i := 21) (N := some 75) (v := ?_) (a' := ?_) #[true, true, true, true, true, true, true, true, true, true, true, true, true, true, true, true, true, true, true, true, true, true] rfl rfl (any_of HT_.out (by kernel_rfl)) (fun _ _ _ h => h) (Or.inl ⟨by rfl, ?_⟩) ?_ ?_
    rotate_left
    · intro w'
      go_simp
      with_reducible rfl
    rotate_left
    · simp only [Act.put, List.setIfInBounds_toArray, List.set_cons_zero, List.set_cons_succ, i64_w, i32_w]
      rfl
    refine done_ (done_of HT_.out (by kernel_rfl)) ?_
    clear hHeld HT_ HW_
    refine NoPanic.normal ?_
    go_wp2_with fail
    exact ⟨k - 1, HKN.out.1, i + 1, ds, rfl, ⟨HKN.out.2⟩, ⟨HMK.out.others (below_others HBd.out)⟩, ⟨HGI.out.step HBd.out⟩⟩
  have hg : decide (X > 0) = false := decide_eq_false q
  have HVAC := Aside0.mk (HG.out.vac i HI.out (by rw [HX2.out]; exact q))
  have HMM := Aside0.mk (Mem.start W1)
  clear q q6 q7
  refine wpIn_wide.2 ?_
  go_upto_region 11 with (first
    | ((with_reducible refine gate_dst (N := 12) rfl ?_); refine ev_var HMM.out rfl 3 rfl info3 rfl ?_; intro gt v1 hm1 hq1; clear hq1; have HV1 := Aside0.mk hm1; clear hm1 HMM)
    | ((with_reducible refine gate_dst (N := 13) rfl ?_); refine ev_var HV1.out rfl 3 rfl info3 rfl ?_; intro gl v2 hm2 hq2; clear hq2; have HV2 := Aside0.mk hm2; clear hm2 HV1)
    | ((with_reducible refine gate_dst (N := 14) rfl ?_); refine ev_var HV2.out rfl 3 rfl info3 rfl ?_; intro gm v3 hm3 hq3; clear hq3; have HV3 := Aside0.mk hm3; clear hm3 HV2; have e1 : v3.cell? ⟨gt, 0, none⟩ = some (.int .i64 0) := (blk_cell HV3.out.third 0).trans rfl; have e2 : v3.cell? ⟨gl, 0, none⟩ = some (.int .i64 0) := (blk_cell HV3.out.second 0).trans rfl; have e3 : v3.cell? ⟨gm, 0, none⟩ = some (.int .i64 0) := (blk_cell HV3.out.head 0).trans rfl; have e4 : v3.frozen? ⟨gt, 0, none⟩ = false := blk_frozen HV3.out.third 0; have e5 : v3.frozen? ⟨gl, 0, none⟩ = false := blk_frozen HV3.out.second 0; have e6 : v3.frozen? ⟨gm, 0, none⟩ = false := blk_frozen HV3.out.head 0; have f1 : gm ≠ gl := HV3.out.ne _ List.mem_cons_self; have f2 : gm ≠ gt := HV3.out.ne _ (List.mem_cons_of_mem _ List.mem_cons_self); have f3 : gl ≠ gt := HV3.out.drop.ne _ List.mem_cons_self; have f4 := f1.symm; have f5 := f2.symm; have f6 := f3.symm))
  try simp only [Act.put, List.setIfInBounds_toArray, List.set_cons_zero, List.set_cons_succ]
  have HZ := Aside0.mk (zero3 HV3.out)
  have HSEP : Aside0 (gt ≠ gl ∧ gt ≠ gm ∧ gl ≠ gm ∧ w.heap.size ≤ gt ∧ w.heap.size ≤ gl ∧ w.heap.size ≤ gm) := ⟨⟨f6, f5, f4, Nat.le_trans HGI.out.below.size HV3.out.drop.drop.geh, Nat.le_trans HGI.out.below.size HV3.out.drop.geh, Nat.le_trans HGI.out.below.size HV3.out.geh⟩⟩
  generalize ((v3.setCell ⟨gt, 0, none⟩ (.int .i64 0)).setCell ⟨gl, 0, none⟩ (.int .i64 0)).setCell ⟨gm, 0, none⟩ (.int .i64 0) = v4 at HZ ⊢
  clear e1 e2 e3 e4 e5 e6 f1 f2 f3 f4 f5 f6 HV3 hx
  have HG4 := Aside0.mk (HGI.out.step HZ.out.1)
  have HMK4 := Aside0.mk (HMK.out.others (below_others HZ.out.1))
  clear HGI HMK
  go_wp2_with (first
    | ((with_reducible refine gate_dst (N := 76) rfl ?_); refine ev_load HG4.out.p rfl 24 (.tmp 4) rfl rfl _ Try.underlying24 rfl size24 rfl ?_)
    | (go_at_call 78; refine (near_calls _ _ _ _ _ _ _ _).mono ?_; rintro e w6 ⟨gp2, gi2, rfl, hM6, hz6, hgp2, hgi2⟩; have HS6 := Aside0.mk (HG4.out.step hM6.below); have HMK6 := Aside0.mk ((HMK4.out.others (below_others hM6.below)).to); have HBX := Aside0.mk (And.intro hM6.head hM6.second); have HT6 := Aside0.mk (And.intro (blk_below HZ.out.2.1 hM6.below) (And.intro (blk_below HZ.out.2.2.1 hM6.below) (blk_below HZ.out.2.2.2 hM6.below))); have HSEP6 : Aside0 (Sep w gt gl gm gi2) := ⟨⟨HSEP.out.1, HSEP.out.2.1, HSEP.out.2.2.1, (by have := blk_lt HZ.out.2.1; omega), (by have := blk_lt HZ.out.2.2.1; omega), (by have := blk_lt HZ.out.2.2.2; omega), HSEP.out.2.2.2.1, HSEP.out.2.2.2.2.1, HSEP.out.2.2.2.2.2⟩⟩; clear hM6 hz6 hgp2 hgi2 HG4 HMK4 HZ HSEP))
  rename_i Kb hKb
  have HKb := Aside0.mk hKb
  clear hKb
  refine (wpIn_wide (n := 5)).1 ?_
  have HBase : Aside0 (w.heap.size ≤ w6.heap.size) := ⟨HS6.out.below.size⟩
  have HGB : Aside0 (gi2 < w6.heap.size ∧ gp2 < w6.heap.size) := ⟨⟨blk_lt HBX.out.1, blk_lt HBX.out.2⟩⟩
  refine wpIn_rangeFunc_ownG rfl (by decide) (gf := 98) (lb := #[.pointer (some ⟨gi2, 0, none⟩), .pointer (some ⟨gp2, 0, none⟩)]) rfl trivial (enters_of Try.func98 (by kernel_rfl) rfl)
    (near1_stops 4 W H R (some ad) C.length c i gi2 gp2 (by rw [← HG.out.v.len]; exact HI.out) HG.out.W16 HG.out.H16 w6 HBX.out) (fun h k => ⟨k.1.trans h.1, k.2.trans h.2⟩) (fun V l o o' hl ho _ _ => ⟨World.putObj_heap_other (by have := HGB.out.1; omega), World.putObj_heap_other (by have := HGB.out.2; omega)⟩) (Below.refl _ _) (fun _ => rfl)
    (fun pre V => GJ w gp g6 g7 (planV W H R (some ad) C.length c) (.slice A2 C.length c2) (.slice A3 C.length c3) gt gl gm (allOf (pre.map (·.1))) (under (fn lo) (pre.map (·.1))) (under (fn hi) (pre.map (·.1))) w6.heap.size ds gi2 gp2 #[.int .i64 i] (planV W H R (some ad) C.length c) V)
    (fun _ _ _ => False) ?hI ?hIx ?h0 ?fr ?assign ?body ?done ?stop
  case assign =>
    intro l x V K hK
    gi_wp2
    exact hK
  case hI =>
    rintro pre V V' row h hg hr
    exact h.turn ⟨hg, hr⟩ HBase.out
  case hIx =>
    intro _ _ _ _ _ h
    exact h.elim
  case h0 => exact ⟨HS6.out, HT6.out.1, HT6.out.2.1, HT6.out.2.2, HMK6.out, Nat.le_refl _, HBX.out.1, HBX.out.2⟩
  case body =>
    rintro l pre x V hj hlt
    obtain ⟨kx, hkx⟩ : ∃ kx, x.1.1 = kx := ⟨_, rfl⟩
    obtain ⟨wx, hwx⟩ : ∃ wx, x.1.2 = wx := ⟨_, rfl⟩
    have hnb := nbs_lt (by rw [← HG.out.v.len]; exact HI.out) x.2
    have hbr := HG.out.range x.1.1 (by rw [HG.out.v.len]; exact hnb.1)
    have hw1 := hnb.2.2.1
    have hw2 := hnb.2.2.2 HG.out.W16
    have hk0 : x.1.1 < C.length := by rw [HG.out.v.len]; exact hnb.1
    have hpr : ∀ p, p ∈ pre.map (·.1) → 1 ≤ p.2 ∧ p.2 ≤ 32 ∧ p.1 < C.length := fun p hp => by
      obtain ⟨y, _, rfl⟩ := List.mem_map.1 hp
      have h8 := nbs_lt (by rw [← HG.out.v.len]; exact HI.out) y.2
      exact ⟨h8.2.2.1, h8.2.2.2 HG.out.W16, by rw [HG.out.v.len]; exact h8.1⟩
    have hub := under_bound (f := fn lo) (l := pre.map (·.1)) (fun p hp => ⟨(hpr p hp).1, (hpr p hp).2.1, (HG.out.range _ (hpr p hp).2.2).1⟩)
    have hub2 := under_bound (f := fn hi) (l := pre.map (·.1)) (fun p hp => ⟨(hpr p hp).1, (hpr p hp).2.1, (HG.out.range _ (hpr p hp).2.2).2⟩)
    rw [List.length_map] at hub hub2
    have HUN : Aside0 (under (fn lo) ((pre ++ [x]).map (·.1)) = under (fn lo) (pre.map (·.1)) + wx * fn lo kx ∧ under (fn hi) ((pre ++ [x]).map (·.1)) = under (fn hi) (pre.map (·.1)) + wx * fn hi kx ∧ allOf ((pre ++ [x]).map (·.1)) = allOf (pre.map (·.1)) + wx) := ⟨by
      rw [List.map_append, under_append, under_append, List.map_singleton, under_one, under_one, hkx, hwx, allOf_append]
      exact ⟨rfl, rfl, by rw [← hwx]; simp [allOf]⟩⟩
    rw [hkx] at hbr hk0
    rw [hwx] at hw1 hw2
    have hmb := mul_bound hw1 hw2 hbr.1.1 hbr.1.2
    have hmh := mul_bound hw1 hw2 hbr.2.1 hbr.2.2
    obtain ⟨ML, hML⟩ : ∃ M, wx * fn lo kx = M := ⟨_, rfl⟩
    obtain ⟨MH, hMH⟩ : ∃ M, wx * fn hi kx = M := ⟨_, rfl⟩
    rw [hML] at hmb HUN
    rw [hMH] at hmh HUN
    obtain ⟨ad2, ed2, x2⟩ := at_natM (Kd.C_below HR2.out hj.g.below) kx (by rw [HG.out.ll]; exact hk0)
    obtain ⟨ad3, ed3, x3⟩ := at_natM (Kd.C_below HR3.out hj.g.below) kx (by rw [HG.out.lh]; exact hk0)
    cases ed2
    cases ed3
    have HLO : Aside0 (∀ V', Below w.heap.size w V' → V'.cell? (ad2.add kx) = some (.int .i64 (fn lo kx)) ∧ V'.cell? (ad3.add kx) = some (.int .i64 (fn hi kx))) := ⟨fun V' hb => by
      obtain ⟨b2, c2, y2⟩ := at_natM (Kd.C_below HR2.out hb) kx (by rw [HG.out.ll]; exact hk0)
      obtain ⟨b3, c3, y3⟩ := at_natM (Kd.C_below HR3.out hb) kx (by rw [HG.out.lh]; exact hk0)
      cases c2
      cases c3
      exact ⟨y2, y3⟩⟩
    clear x2 x3
    obtain ⟨lk, hlk⟩ : ∃ z, fn lo kx = z := ⟨_, rfl⟩
    obtain ⟨hk, hhk⟩ : ∃ z, fn hi kx = z := ⟨_, rfl⟩
    rw [hlk] at hML HLO
    rw [hhk] at hMH HLO
    generalize under (fn lo) (pre.map (·.1)) = Lx at hj hub HUN
    generalize under (fn hi) (pre.map (·.1)) = Mx at hj hub2 HUN
    generalize allOf (pre.map (·.1)) = Tx at hj hub hub2 HUN
    have HJ := Aside0.mk hj
    have n1 : IntKind.i64.wrap (wx * lk) = ML := by rw [hML]; exact IntWalk.i64_in _ (by omega)
    have n2 : IntKind.i64.wrap (Lx + ML) = Lx + ML := IntWalk.i64_in _ (by omega)
    have n3 : IntKind.i64.wrap (Tx + wx) = Tx + wx := IntWalk.i64_in _ (by omega)
    have n4 : IntKind.i64.wrap (wx * hk) = MH := by rw [hMH]; exact IntWalk.i64_in _ (by omega)
    have n5 : IntKind.i64.wrap (Mx + MH) = Mx + MH := IntWalk.i64_in _ (by omega)
    have i4 : (0 : Int) ≤ (kx : Int) := by omega
    have i5 : (kx : Int) < (C.length : Int) := by omega
    have HSS : Aside0 (∀ V' T' L', GJ w gp g6 g7 (planV W H R (some ad) C.length c) (.slice (some ad2) C.length c2) (.slice (some ad3) C.length c3) gt gl gm T' L' Mx w6.heap.size ds gi2 gp2 #[.int .i64 i] (planV W H R (some ad) C.length c) V' → (V'.cell? ⟨gm, 0, none⟩ = some (.int .i64 Mx) ∧ V'.cell? ⟨g6, 0, none⟩ = some (.slice (some ad2) C.length c2) ∧ V'.cell? ⟨g7, 0, none⟩ = some (.slice (some ad3) C.length c3) ∧ V'.cell? (ad2.add kx) = some (.int .i64 lk) ∧ V'.cell? (ad3.add kx) = some (.int .i64 hk))) := ⟨fun V' T' L' h => ⟨(blk_cell h.m 0).trans rfl, (blk_cell h.g.l 0).trans rfl, (blk_cell h.g.h 0).trans rfl, (HLO.out _ h.g.below).1, (HLO.out _ h.g.below).2⟩⟩
    obtain ⟨s1, s2, s3, s4, s5⟩ := HSS.out _ _ _ hj
    show Code.wpIn (Fence.wide.inRound l) (5 - 1 - 1) Try.prog _ (ownPostG w6.heap.size (Boxes gi2 gp2) _ _ (pre ++ [x]) V) _ _
    rw [hkx, hwx]
    clear hub hub2 hmb hmh hML hMH hbr hw1 hw2 hk0 hnb hkx hwx hj hlt hpr hlk hhk
    refine wpIn_block ?_
    have HBd := Aside0.mk (below_drew1 (Below.refl V.heap.size V))
    refine startIn_ (r := some l) (n := 5 - 1 - 1) (m := 22) (S := fun w' => w'.cell? ⟨gm, 0, none⟩ = some (.int .i64 Mx) ∧ w'.cell? ⟨g6, 0, none⟩ = some (.slice (some ad2) C.length c2) ∧ w'.cell? ⟨g7, 0, none⟩ = some (.slice (some ad3) C.length c3) ∧ w'.cell? (ad2.add kx) = some (.int .i64 lk) ∧ w'.cell? (ad3.add kx) = some (.int .i64 hk)) (ds := [21]) #[false, false, false, false, false, false, false, false, false, false, false, false, false, false, false, false, false, false, false, false, false, false] (by kernel_rfl) (by kernel_rfl) (block_out ownG_out) rfl rfl ⟨s1, s2, s3, s4, s5⟩ (fun hHeld => ?_); refine with_tabW goodF.tab14 goodF.bits14 (fun HT_ HW_ => ?_)
    generalize V.drew = wd at HBd hHeld  ⊢
    refine pure_ (i := 1) (N := some 82) (v := ?_) (a' := ?_) #[false, true, false, false, false, false, false, false, false, false, false, false, false, false, false, false, false, false, false, false, false, false] rfl rfl (any_of HT_.out (by kernel_rfl)) (fun _ _ _ h => h) (Or.inl ⟨by rfl, ?_⟩) ?_ ?_
    rotate_left
    · intro w'
      go_simp
      with_reducible rfl
    rotate_left
    · simp only [Act.put, List.setIfInBounds_toArray, List.set_cons_zero, List.set_cons_succ, i64_w, i32_w]
      rfl
    refine pure_ (i := 4) (N := some 85) (v := ?_) (a' := ?_) #[false, true, false, false, true, false, false, false, false, false, false, false, false, false, false, false, false, false, false, false, false, false] rfl rfl (any_of HT_.out (by kernel_rfl)) (fun _ _ _ h => h) (Or.inl ⟨by rfl, ?_⟩) ?_ ?_
    rotate_left
    · intro w'
      go_simp
      with_reducible rfl
    rotate_left
    · simp only [Act.put, List.setIfInBounds_toArray, List.set_cons_zero, List.set_cons_succ, i64_w, i32_w]
      rfl
    refine pure_ (i := 6) (N := some 87) (v := ?_) (a' := ?_) #[false, true, false, false, true, false, true, false, false, false, false, false, false, false, false, false, false, false, false, false, false, false] rfl rfl (any_of HT_.out (by kernel_rfl)) (fun _ _ _ h => h) (Or.inl ⟨by rfl, ?_⟩) ?_ ?_
    rotate_left
    · intro w'
      go_simp
      with_reducible rfl
    rotate_left
    · simp only [Act.put, List.setIfInBounds_toArray, List.set_cons_zero, List.set_cons_succ, i64_w, i32_w]
      rfl
    refine pure_ (i := 12) (N := some 93) (v := ?_) (a' := ?_) #[false, true, false, false, true, false, true, false, false, false, false, false, true, false, false, false, false, false, false, false, false, false] rfl rfl (any_of HT_.out (by kernel_rfl)) (fun _ _ _ h => h) (Or.inl ⟨by rfl, ?_⟩) ?_ ?_
    rotate_left
    · intro w'
      go_simp
      with_reducible rfl
    rotate_left
    · simp only [Act.put, List.setIfInBounds_toArray, List.set_cons_zero, List.set_cons_succ, i64_w, i32_w]
      rfl
    refine pure_ (i := 14) (N := some 95) (v := ?_) (a' := ?_) #[false, true, false, false, true, false, true, false, false, false, false, false, true, false, true, false, false, false, false, false, false, false] rfl rfl (any_of HT_.out (by kernel_rfl)) (fun _ _ _ h => h) (Or.inl ⟨by rfl, ?_⟩) ?_ ?_
    rotate_left
    · intro w'
      go_simp
      with_reducible rfl
    rotate_left
    · simp only [Act.put, List.setIfInBounds_toArray, List.set_cons_zero, List.set_cons_succ, i64_w, i32_w]
      rfl
    refine take_ (i := 5) (N := some 86) (v := ?_) (a' := ?_) #[false, true, false, false, true, true, true, false, false, false, false, false, true, false, true, false, false, false, false, false, false, false] rfl rfl (take_ofW HT_.out HW_.out (by kernel_rfl)) (fun _ _ _ h => h) (Or.inl ⟨by rfl, ?_⟩) hHeld ?_ ?_
    rotate_left
    · rintro w' ⟨s0, s1, s2, s3, s4⟩
      go_simp
      with_reducible rfl
    rotate_left
    · simp only [Act.put, List.setIfInBounds_toArray, List.set_cons_zero, List.set_cons_succ, i64_w, i32_w]
      rfl
    refine pure_ (i := 7) (N := some 88) (v := ?_) (a' := ?_) #[false, true, false, false, true, true, true, true, false, false, false, false, true, false, true, false, false, false, false, false, false, false] rfl rfl (any_of HT_.out (by kernel_rfl)) (fun _ _ _ h => h) (Or.inl ⟨by rfl, ?_⟩) ?_ ?_
    rotate_left
    · intro w'
      go_simp
      with_reducible rfl
    rotate_left
    · simp only [Act.put, List.setIfInBounds_toArray, List.set_cons_zero, List.set_cons_succ, i64_w, i32_w]
      rfl
    refine take_ (i := 8) (N := some 89) (v := ?_) (a' := ?_) #[false, true, false, false, true, true, true, true, true, false, false, false, true, false, true, false, false, false, false, false, false, false] rfl rfl (take_ofW HT_.out HW_.out (by kernel_rfl)) (fun _ _ _ h => h) (Or.inl ⟨by rfl, ?_⟩) hHeld ?_ ?_
    rotate_left
    · rintro w' ⟨s0, s1, s2, s3, s4⟩
      go_simp
      with_reducible rfl
    rotate_left
    · simp only [Act.put, List.setIfInBounds_toArray, List.set_cons_zero, List.set_cons_succ, i64_w, i32_w]
      rfl
    refine pure_ (i := 9) (N := some 90) (v := ?_) (a' := ?_) #[false, true, false, false, true, true, true, true, true, true, false, false, true, false, true, false, false, false, false, false, false, false] rfl rfl (any_of HT_.out (by kernel_rfl)) (fun _ _ _ h => h) (Or.inl ⟨by rfl, ?_⟩) ?_ ?_
    rotate_left
    · intro w'
      go_simp
      with_reducible rfl
    rotate_left
    · simp only [Act.put, List.setIfInBounds_toArray, List.set_cons_zero, List.set_cons_succ, i64_w, i32_w]
      rfl
    refine take_ (i := 11) (N := some 92) (v := ?_) (a' := ?_) #[false, true, false, false, true, true, true, true, true, true, false, true, true, false, true, false, false, false, false, false, false, false] rfl rfl (take_ofW HT_.out HW_.out (by kernel_rfl)) (fun _ _ _ h => h) (Or.inl ⟨by rfl, ?_⟩) hHeld ?_ ?_
    rotate_left
    · rintro w' ⟨s0, s1, s2, s3, s4⟩
      go_simp
      with_reducible rfl
    rotate_left
    · simp only [Act.put, List.setIfInBounds_toArray, List.set_cons_zero, List.set_cons_succ, i64_w, i32_w]
      rfl
    refine take_ (i := 13) (N := some 94) (v := ?_) (a' := ?_) #[false, true, false, false, true, true, true, true, true, true, false, true, true, true, true, false, false, false, false, false, false, false] rfl rfl (take_ofW HT_.out HW_.out (by kernel_rfl)) (fun _ _ _ h => h) (Or.inl ⟨by rfl, ?_⟩) hHeld ?_ ?_
    rotate_left
    · rintro w' ⟨s0, s1, s2, s3, s4⟩
      go_simp
      with_reducible rfl
    rotate_left
    · simp only [Act.put, List.setIfInBounds_toArray, List.set_cons_zero, List.set_cons_succ, i64_w, i32_w]
      rfl
    refine pure_ (i := 15) (N := some 96) (v := ?_) (a' := ?_) #[false, true, false, false, true, true, true, true, true, true, false, true, true, true, true, true, false, false, false, false, false, false] rfl rfl (any_of HT_.out (by kernel_rfl)) (fun _ _ _ h => h) (Or.inl ⟨by rfl, ?_⟩) ?_ ?_
    rotate_left
    · intro w'
      go_simp
      with_reducible rfl
    rotate_left
    · simp only [Act.put, List.setIfInBounds_toArray, List.set_cons_zero, List.set_cons_succ, i64_w, i32_w]
      rfl
    refine take_ (i := 16) (N := some 97) (v := ?_) (a' := ?_) #[false, true, false, false, true, true, true, true, true, true, false, true, true, true, true, true, true, false, false, false, false, false] rfl rfl (take_ofW HT_.out HW_.out (by kernel_rfl)) (fun _ _ _ h => h) (Or.inl ⟨by rfl, ?_⟩) hHeld ?_ ?_
    rotate_left
    · rintro w' ⟨s0, s1, s2, s3, s4⟩
      go_simp
      with_reducible rfl
    rotate_left
    · simp only [Act.put, List.setIfInBounds_toArray, List.set_cons_zero, List.set_cons_succ, i64_w, i32_w]
      rfl
    refine pure_ (i := 17) (N := some 98) (v := ?_) (a' := ?_) #[false, true, false, false, true, true, true, true, true, true, false, true, true, true, true, true, true, true, false, false, false, false] rfl rfl (any_of HT_.out (by kernel_rfl)) (fun _ _ _ h => h) (Or.inl ⟨by rfl, ?_⟩) ?_ ?_
    rotate_left
    · intro w'
      go_simp
      with_reducible rfl
    rotate_left
    · simp only [Act.put, List.setIfInBounds_toArray, List.set_cons_zero, List.set_cons_succ, i64_w, i32_w]
      rfl
    refine pure_ (i := 18) (N := some 99) (v := ?_) (a' := ?_) #[false, true, false, false, true, true, true, true, true, true, false, true, true, true, true, true, true, true, true, false, false, false] rfl rfl (any_of HT_.out (by kernel_rfl)) (fun _ _ _ h => h) (Or.inl ⟨by rfl, ?_⟩) ?_ ?_
    rotate_left
    · intro w'
      go_simp
      with_reducible rfl
    rotate_left
    · simp only [Act.put, List.setIfInBounds_toArray, List.set_cons_zero, List.set_cons_succ, i64_w, i32_w]
      rfl
    have HB1 := Aside0.mk (HJ.out.step HBd.out)
    have HA1 := Aside0.mk (HB1.out.putT HSEP6.out (Tx + wx))
    have HA2 := Aside0.mk (HA1.out.putL HSEP6.out (Lx + ML))
    have HA3 := Aside0.mk (HA2.out.putM HSEP6.out (Mx + MH))
    have HS1 := Aside0.mk (HSS.out _ _ _ HA1.out)
    have HS2 := Aside0.mk (HSS.out _ _ _ HA2.out)
    have HF : Aside0 (KeepsFrom w6.heap.size V (((wd.setCell ⟨gt, 0, none⟩ (.int .i64 (Tx + wx))).setCell ⟨gl, 0, none⟩ (.int .i64 (Lx + ML))).setCell ⟨gm, 0, none⟩ (.int .i64 (Mx + MH))) ∧ Boxes gi2 gp2 V (((wd.setCell ⟨gt, 0, none⟩ (.int .i64 (Tx + wx))).setCell ⟨gl, 0, none⟩ (.int .i64 (Lx + ML))).setCell ⟨gm, 0, none⟩ (.int .i64 (Mx + MH))) ∧ GJ w gp g6 g7 (planV W H R (some ad) C.length c) (.slice (some ad2) C.length c2) (.slice (some ad3) C.length c3) gt gl gm (allOf ((pre ++ [x]).map (·.1))) (under (fn lo) ((pre ++ [x]).map (·.1))) (under (fn hi) ((pre ++ [x]).map (·.1))) w6.heap.size ds gi2 gp2 #[.int .i64 i] (planV W H R (some ad) C.length c) (((wd.setCell ⟨gt, 0, none⟩ (.int .i64 (Tx + wx))).setCell ⟨gl, 0, none⟩ (.int .i64 (Lx + ML))).setCell ⟨gm, 0, none⟩ (.int .i64 (Mx + MH)))) := ⟨by
      rw [HUN.out.1, HUN.out.2.1, HUN.out.2.2]
      exact ⟨((((below_others HBd.out).trans (KeepsOthers.setCell _ _ _)).trans (KeepsOthers.setCell _ _ _)).trans (KeepsOthers.setCell _ _ _)).from _, ⟨HA3.out.i.trans HJ.out.i.symm, HA3.out.q.trans HJ.out.q.symm⟩, HA3.out⟩⟩
    have t1 : wd.cell? ⟨gt, 0, none⟩ = some (.int .i64 Tx) := (blk_cell HB1.out.t 0).trans rfl
    have t2 : wd.cell? ⟨gl, 0, none⟩ = some (.int .i64 Lx) := (blk_cell HB1.out.l 0).trans rfl
    have t3 : wd.cell? ⟨gm, 0, none⟩ = some (.int .i64 Mx) := (blk_cell HB1.out.m 0).trans rfl
    have z1 : wd.frozen? ⟨gt, 0, none⟩ = false := blk_frozen HB1.out.t 0
    have z2 : wd.frozen? ⟨gl, 0, none⟩ = false := blk_frozen HB1.out.l 0
    have z3 : wd.frozen? ⟨gm, 0, none⟩ = false := blk_frozen HB1.out.m 0
    have f1 := HSEP6.out.tl
    have f2 := HSEP6.out.tm
    have f3 := HSEP6.out.lm
    have f4 := f1.symm
    have f5 := f2.symm
    have f6 := f3.symm
    clear HB1 HA1 HA2 HA3 HBd HJ HSS HLO s1 s2 s3 s4 s5 n1 n4 HT_ HW_
    have HS0 := Aside0.mk hHeld
    clear hHeld
    refine wpAnyLast_ready (rs := [0, 3]) (by kernel_rfl) (by simp) ?_
    refine AllReadyL.cons (i := 0) rfl (by decide) (fun K hK => ?_) (AllReadyL.cons (i := 3) rfl (by decide) (fun K hK => ?_) AllReadyL.nil)
    · go_simp
      refine hK.out _ _ HS0.out (fun hHeld => ?_)
      clear hK K hHeld
      refine pure_ (i := 2) (N := some 83) (v := ?_) (a' := ?_) #[true, true, true, false, true, true, true, true, true, true, false, true, true, true, true, true, true, true, true, false, false, false] rfl rfl (by kernel_rfl) (fun _ _ _ h => h) (Or.inl ⟨by rfl, ?_⟩) ?_ ?_
      rotate_left
      · intro w'
        go_simp
        with_reducible rfl
      rotate_left
      · simp only [Act.put, List.setIfInBounds_toArray, List.set_cons_zero, List.set_cons_succ, i64_w, i32_w]
        rfl
      refine wpAnyLast_ready (rs := [3, 19]) (by kernel_rfl) (by simp) ?_
      refine AllReadyL.cons (i := 3) rfl (by decide) (fun K hK => ?_) (AllReadyL.cons (i := 19) rfl (by decide) (fun K hK => ?_) AllReadyL.nil)
      · go_simp
        refine hK.out _ _ HS0.out (fun hHeld => ?_)
        clear hK K hHeld
        refine pure_ (i := 10) (N := some 91) (v := ?_) (a' := ?_) #[true, true, true, true, true, true, true, true, true, true, true, true, true, true, true, true, true, true, true, false, false, false] rfl rfl (by kernel_rfl) (fun _ _ _ h => h) (Or.inl ⟨by rfl, ?_⟩) ?_ ?_
        rotate_left
        · intro w'
          go_simp
          with_reducible rfl
        rotate_left
        · simp only [Act.put, List.setIfInBounds_toArray, List.set_cons_zero, List.set_cons_succ, i64_w, i32_w]
          rfl
        refine one_ (i := 19) (N := none) #[true, true, true, true, true, true, true, true, true, true, true, true, true, true, true, true, true, true, true, true, false, false] rfl rfl (by kernel_rfl) (by decide) (fun K hK => ?_)
        go_simp
        refine hK.out _ _ HS1.out (fun hHeld => ?_)
        clear hK K hHeld
        refine one_ (i := 20) (N := none) #[true, true, true, true, true, true, true, true, true, true, true, true, true, true, true, true, true, true, true, true, true, false] rfl rfl (by kernel_rfl) (by decide) (fun K hK => ?_)
        go_simp
        refine hK.out _ _ HS2.out (fun hHeld => ?_)
        clear hK K hHeld
        refine last_ (i := 21) (N := none) #[true, true, true, true, true, true, true, true, true, true, true, true, true, true, true, true, true, true, true, true, true, true] rfl rfl (by kernel_rfl) (by decide) (fun K hK => ?_)
        go_simp
        refine hK.out _ _ ?_
        clear hK K
        refine done_ (by kernel_rfl) ?_
        exact HF.out
      · go_simp
        refine hK.out _ _ HS1.out (fun hHeld => ?_)
        clear hK K hHeld
        refine one_ (i := 3) (N := some 84) #[true, true, true, true, true, true, true, true, true, true, false, true, true, true, true, true, true, true, true, true, false, false] rfl rfl (by kernel_rfl) (by decide) (fun K hK => ?_)
        go_simp
        refine hK.out _ _ HS1.out (fun hHeld => ?_)
        clear hK K hHeld
        refine pure_ (i := 10) (N := some 91) (v := ?_) (a' := ?_) #[true, true, true, true, true, true, true, true, true, true, true, true, true, true, true, true, true, true, true, true, false, false] rfl rfl (by kernel_rfl) (fun _ _ _ h => h) (Or.inl ⟨by rfl, ?_⟩) ?_ ?_
        rotate_left
        · intro w'
          go_simp
          with_reducible rfl
        rotate_left
        · simp only [Act.put, List.setIfInBounds_toArray, List.set_cons_zero, List.set_cons_succ, i64_w, i32_w]
          rfl
        refine one_ (i := 20) (N := none) #[true, true, true, true, true, true, true, true, true, true, true, true, true, true, true, true, true, true, true, true, true, false] rfl rfl (by kernel_rfl) (by decide) (fun K hK => ?_)
        go_simp
        refine hK.out _ _ HS2.out (fun hHeld => ?_)
        clear hK K hHeld
        refine last_ (i := 21) (N := none) #[true, true, true, true, true, true, true, true, true, true, true, true, true, true, true, true, true, true, true, true, true, true] rfl rfl (by kernel_rfl) (by decide) (fun K hK => ?_)
        go_simp
        refine hK.out _ _ ?_
        clear hK K
        refine done_ (by kernel_rfl) ?_
        exact HF.out
    · go_simp
      refine hK.out _ _ HS0.out (fun hHeld => ?_)
      clear hK K hHeld
      refine pure_ (i := 10) (N := some 91) (v := ?_) (a' := ?_) #[false, true, false, true, true, true, true, true, true, true, true, true, true, true, true, true, true, true, true, false, false, false] rfl rfl (by kernel_rfl) (fun _ _ _ h => h) (Or.inl ⟨by rfl, ?_⟩) ?_ ?_
      rotate_left
      · intro w'
        go_simp
        with_reducible rfl
      rotate_left
      · simp only [Act.put, List.setIfInBounds_toArray, List.set_cons_zero, List.set_cons_succ, i64_w, i32_w]
        rfl
      refine one_ (i := 0) (N := some 81) #[true, true, false, true, true, true, true, true, true, true, true, true, true, true, true, true, true, true, true, false, false, false] rfl rfl (by kernel_rfl) (by decide) (fun K hK => ?_)
      go_simp
      refine hK.out _ _ HS0.out (fun hHeld => ?_)
      clear hK K hHeld
      refine pure_ (i := 2) (N := some 83) (v := ?_) (a' := ?_) #[true, true, true, true, true, true, true, true, true, true, true, true, true, true, true, true, true, true, true, false, false, false] rfl rfl (by kernel_rfl) (fun _ _ _ h => h) (Or.inl ⟨by rfl, ?_⟩) ?_ ?_
      rotate_left
      · intro w'
        go_simp
        with_reducible rfl
      rotate_left
      · simp only [Act.put, List.setIfInBounds_toArray, List.set_cons_zero, List.set_cons_succ, i64_w, i32_w]
        rfl
      refine one_ (i := 19) (N := none) #[true, true, true, true, true, true, true, true, true, true, true, true, true, true, true, true, true, true, true, true, false, false] rfl rfl (by kernel_rfl) (by decide) (fun K hK => ?_)
      go_simp
      refine hK.out _ _ HS1.out (fun hHeld => ?_)
      clear hK K hHeld
      refine one_ (i := 20) (N := none) #[true, true, true, true, true, true, true, true, true, true, true, true, true, true, true, true, true, true, true, true, true, false] rfl rfl (by kernel_rfl) (by decide) (fun K hK => ?_)
      go_simp
      refine hK.out _ _ HS2.out (fun hHeld => ?_)
      clear hK K hHeld
      refine last_ (i := 21) (N := none) #[true, true, true, true, true, true, true, true, true, true, true, true, true, true, true, true, true, true, true, true, true, true] rfl rfl (by kernel_rfl) (by decide) (fun K hK => ?_)
      go_simp
      refine hK.out _ _ ?_
      clear hK K
      refine done_ (by kernel_rfl) ?_
      exact HF.out
  case done =>
    rintro D xs V hD hxs h hK
    have HMV := Aside0.mk (h.marks.push HBase.out hD hK)
    rw [hxs] at h
    have HV := Aside0.mk h
    obtain ⟨hv1, hv2⟩ := HVAC.out
    have hbr := HG.out.range i HI.out
    have hpr : ∀ p, p ∈ nbs W H R i → 1 ≤ p.2 ∧ p.2 ≤ 32 ∧ p.1 < C.length := fun p hp => by
      have h8 := nbs_lt (by rw [← HG.out.v.len]; exact HI.out) hp
      exact ⟨h8.2.2.1, h8.2.2.2 HG.out.W16, by rw [HG.out.v.len]; exact h8.1⟩
    have hub := (under_bound (f := fn lo) (l := nbs W H R i) (fun p hp => ⟨(hpr p hp).1, (hpr p hp).2.1, (HG.out.range _ (hpr p hp).2.2).1⟩)).2.2
    have hnl := nbs_length W H R i
    have hm1 := mul_bound4 (by omega : 0 ≤ allOf (nbs W H R i)) (by omega) hbr.1.1 hbr.1.2
    have hm2 := mul_bound4 (by omega : 0 ≤ allOf (nbs W H R i)) (by omega) hbr.2.1 hbr.2.2
    obtain ⟨ad2, ed2, x2⟩ := at_natM (Kd.C_below HR2.out h.g.below) i (by rw [HG.out.ll]; exact HI.out)
    obtain ⟨ad3, ed3, x3⟩ := at_natM (Kd.C_below HR3.out h.g.below) i (by rw [HG.out.lh]; exact HI.out)
    cases ed2
    cases ed3
    rw [show lo.getD i 0 = fn lo i from rfl] at x2
    rw [show hi.getD i 0 = fn hi i from rfl] at x3
    have c1 : V.cell? ⟨gt, 0, none⟩ = some (.int .i64 (allOf (nbs W H R i))) := (blk_cell h.t 0).trans rfl
    have c2' : V.cell? ⟨gl, 0, none⟩ = some (.int .i64 (under (fn lo) (nbs W H R i))) := (blk_cell h.l 0).trans rfl
    have c3' : V.cell? ⟨gm, 0, none⟩ = some (.int .i64 (under (fn hi) (nbs W H R i))) := (blk_cell h.m 0).trans rfl
    have c6 : V.cell? ⟨g6, 0, none⟩ = some (.slice (some ad2) C.length c2) := (blk_cell h.g.l 0).trans rfl
    have c7 : V.cell? ⟨g7, 0, none⟩ = some (.slice (some ad3) C.length c3) := (blk_cell h.g.h 0).trans rfl
    have HGV := Aside0.mk h.g
    clear h HV hub hnl hpr hbr hK hD hxs
    generalize under (fn lo) (nbs W H R i) = SL at c2' hv1
    generalize under (fn hi) (nbs W H R i) = SM at c3' hv2
    generalize allOf (nbs W H R i) = AL at c1 hv1 hv2 hm1 hm2
    generalize fn lo i = y2 at x2 hm1 hv1
    generalize fn hi i = y3 at x3 hm2 hv2
    have n1 : IntKind.i64.wrap (AL * y2) = AL * y2 := IntWalk.i64_in _ (by omega)
    have n2 : IntKind.i64.wrap (AL * y3) = AL * y3 := IntWalk.i64_in _ (by omega)
    have h1x : decide (AL * y2 > SL) = false := decide_eq_false (by omega)
    have h2x : decide (AL * y3 < SM) = false := decide_eq_false (by omega)
    clear hv1 hv2 hm1 hm2
    refine HKb.out _ _ ?_
    clear HKb
    go_upto_region 15 with fail
    refine wp_region_noPanic ?_
    have HBd := Aside0.mk (below_drew1 (Below.refl V.heap.size V))
    refine start_ (n := 18) (S := fun w' => w'.cell? ⟨gt, 0, none⟩ = some (.int .i64 AL) ∧ w'.cell? ⟨gl, 0, none⟩ = some (.int .i64 SL) ∧ w'.cell? ⟨gm, 0, none⟩ = some (.int .i64 SM) ∧ w'.cell? ⟨g6, 0, none⟩ = some (.slice (some ad2) C.length c2) ∧ w'.cell? ⟨g7, 0, none⟩ = some (.slice (some ad3) C.length c3) ∧ w'.cell? (ad2.add i) = some (.int .i64 y2) ∧ w'.cell? (ad3.add i) = some (.int .i64 y3)) (ds := []) #[false, false, false, false, false, false, false, false, false, false, false, false, false, false, false, false, false, false] (by kernel_rfl) rfl rfl ⟨c1, c2', c3', c6, c7, x2, x3⟩ (fun hHeld => ?_); refine with_tabW goodF.tab15 goodF.bits15 (fun HT_ HW_ => ?_)
    generalize V.drew = wd at HBd hHeld  ⊢
    refine pure_ (i := 2) (N := some 102) (v := ?_) (a' := ?_) #[false, false, true, false, false, false, false, false, false, false, false, false, false, false, false, false, false, false] rfl rfl (any_of HT_.out (by kernel_rfl)) (fun _ _ _ h => h) (Or.inl ⟨by rfl, ?_⟩) ?_ ?_
    rotate_left
    · intro w'
      go_simp
      with_reducible rfl
    rotate_left
    · simp only [Act.put, List.setIfInBounds_toArray, List.set_cons_zero, List.set_cons_succ, i64_w, i32_w]
      rfl
    refine take_ (i := 0) (N := some 100) (v := ?_) (a' := ?_) #[true, false, true, false, false, false, false, false, false, false, false, false, false, false, false, false, false, false] rfl rfl (take_ofW HT_.out HW_.out (by kernel_rfl)) (fun _ _ _ h => h) (Or.inl ⟨by rfl, ?_⟩) hHeld ?_ ?_
    rotate_left
    · rintro w' ⟨s0, s1, s2, s3, s4, s5, s6⟩
      go_simp
      with_reducible rfl
    rotate_left
    · simp only [Act.put, List.setIfInBounds_toArray, List.set_cons_zero, List.set_cons_succ, i64_w, i32_w]
      rfl
    refine take_ (i := 1) (N := some 101) (v := ?_) (a' := ?_) #[true, true, true, false, false, false, false, false, false, false, false, false, false, false, false, false, false, false] rfl rfl (take_ofW HT_.out HW_.out (by kernel_rfl)) (fun _ _ _ h => h) (Or.inl ⟨by rfl, ?_⟩) hHeld ?_ ?_
    rotate_left
    · rintro w' ⟨s0, s1, s2, s3, s4, s5, s6⟩
      go_simp
      with_reducible rfl
    rotate_left
    · simp only [Act.put, List.setIfInBounds_toArray, List.set_cons_zero, List.set_cons_succ, i64_w, i32_w]
      rfl
    refine pure_ (i := 3) (N := some 103) (v := ?_) (a' := ?_) #[true, true, true, true, false, false, false, false, false, false, false, false, false, false, false, false, false, false] rfl rfl (any_of HT_.out (by kernel_rfl)) (fun _ _ _ h => h) (Or.inl ⟨by rfl, ?_⟩) ?_ ?_
    rotate_left
    · intro w'
      go_simp
      with_reducible rfl
    rotate_left
    · simp only [Act.put, List.setIfInBounds_toArray, List.set_cons_zero, List.set_cons_succ, i64_w, i32_w]
      rfl
    refine take_ (i := 4) (N := some 104) (v := ?_) (a' := ?_) #[true, true, true, true, true, false, false, false, false, false, false, false, false, false, false, false, false, false] rfl rfl (take_ofW HT_.out HW_.out (by kernel_rfl)) (fun _ _ _ h => h) (Or.inl ⟨by rfl, ?_⟩) hHeld ?_ ?_
    rotate_left
    · rintro w' ⟨s0, s1, s2, s3, s4, s5, s6⟩
      go_simp
      with_reducible rfl
    rotate_left
    · simp only [Act.put, List.setIfInBounds_toArray, List.set_cons_zero, List.set_cons_succ, i64_w, i32_w]
      rfl
    refine pure_ (i := 5) (N := some 105) (v := ?_) (a' := ?_) #[true, true, true, true, true, true, false, false, false, false, false, false, false, false, false, false, false, false] rfl rfl (any_of HT_.out (by kernel_rfl)) (fun _ _ _ h => h) (Or.inl ⟨by rfl, ?_⟩) ?_ ?_
    rotate_left
    · intro w'
      go_simp
      with_reducible rfl
    rotate_left
    · simp only [Act.put, List.setIfInBounds_toArray, List.set_cons_zero, List.set_cons_succ, i64_w, i32_w]
      rfl
    refine take_ (i := 6) (N := some 106) (v := ?_) (a' := ?_) #[true, true, true, true, true, true, true, false, false, false, false, false, false, false, false, false, false, false] rfl rfl (take_ofW HT_.out HW_.out (by kernel_rfl)) (fun _ _ _ h => h) (Or.inl ⟨by rfl, ?_⟩) hHeld ?_ ?_
    rotate_left
    · rintro w' ⟨s0, s1, s2, s3, s4, s5, s6⟩
      go_simp
      with_reducible rfl
    rotate_left
    · simp only [Act.put, List.setIfInBounds_toArray, List.set_cons_zero, List.set_cons_succ, i64_w, i32_w]
      rfl
    refine pure_ (i := 7) (N := some 107) (v := ?_) (a' := ?_) #[true, true, true, true, true, true, true, true, false, false, false, false, false, false, false, false, false, false] rfl rfl (any_of HT_.out (by kernel_rfl)) (fun _ _ _ h => h) (Or.inl ⟨by rfl, ?_⟩) ?_ ?_
    rotate_left
    · intro w'
      go_simp
      with_reducible rfl
    rotate_left
    · simp only [Act.put, List.setIfInBounds_toArray, List.set_cons_zero, List.set_cons_succ, i64_w, i32_w]
      rfl
    refine pure_ (i := 8) (N := some 108) (v := ?_) (a' := ?_) #[true, true, true, true, true, true, true, true, true, false, false, false, false, false, false, false, false, false] rfl rfl (any_of HT_.out (by kernel_rfl)) (fun _ _ _ h => h) (Or.inl ⟨by rfl, ?_⟩) ?_ ?_
    rotate_left
    · intro w'
      go_simp
      with_reducible rfl
    rotate_left
    · simp only [Act.put, List.setIfInBounds_toArray, List.set_cons_zero, List.set_cons_succ, i64_w, i32_w]
      rfl
    refine pure_ (i := 11) (N := some 111) (v := ?_) (a' := ?_) #[true, true, true, true, true, true, true, true, true, false, false, true, false, false, false, false, false, false] rfl rfl (any_of HT_.out (by kernel_rfl)) (fun _ _ _ h => h) (Or.inl ⟨by rfl, ?_⟩) ?_ ?_
    rotate_left
    · intro w'
      go_simp
      with_reducible rfl
    rotate_left
    · simp only [Act.put, List.setIfInBounds_toArray, List.set_cons_zero, List.set_cons_succ, i64_w, i32_w]
      rfl
    refine take_ (i := 9) (N := some 109) (v := ?_) (a' := ?_) #[true, true, true, true, true, true, true, true, true, true, false, true, false, false, false, false, false, false] rfl rfl (take_ofW HT_.out HW_.out (by kernel_rfl)) (fun _ _ _ h => h) (Or.inl ⟨by rfl, ?_⟩) hHeld ?_ ?_
    rotate_left
    · rintro w' ⟨s0, s1, s2, s3, s4, s5, s6⟩
      go_simp
      with_reducible rfl
    rotate_left
    · simp only [Act.put, List.setIfInBounds_toArray, List.set_cons_zero, List.set_cons_succ, i64_w, i32_w]
      rfl
    refine take_ (i := 10) (N := some 110) (v := ?_) (a' := ?_) #[true, true, true, true, true, true, true, true, true, true, true, true, false, false, false, false, false, false] rfl rfl (take_ofW HT_.out HW_.out (by kernel_rfl)) (fun _ _ _ h => h) (Or.inl ⟨by rfl, ?_⟩) hHeld ?_ ?_
    rotate_left
    · rintro w' ⟨s0, s1, s2, s3, s4, s5, s6⟩
      go_simp
      with_reducible rfl
    rotate_left
    · simp only [Act.put, List.setIfInBounds_toArray, List.set_cons_zero, List.set_cons_succ, i64_w, i32_w]
      rfl
    refine pure_ (i := 12) (N := some 112) (v := ?_) (a' := ?_) #[true, true, true, true, true, true, true, true, true, true, true, true, true, false, false, false, false, false] rfl rfl (any_of HT_.out (by kernel_rfl)) (fun _ _ _ h => h) (Or.inl ⟨by rfl, ?_⟩) ?_ ?_
    rotate_left
    · intro w'
      go_simp
      with_reducible rfl
    rotate_left
    · simp only [Act.put, List.setIfInBounds_toArray, List.set_cons_zero, List.set_cons_succ, i64_w, i32_w]
      rfl
    refine take_ (i := 13) (N := some 113) (v := ?_) (a' := ?_) #[true, true, true, true, true, true, true, true, true, true, true, true, true, true, false, false, false, false] rfl rfl (take_ofW HT_.out HW_.out (by kernel_rfl)) (fun _ _ _ h => h) (Or.inl ⟨by rfl, ?_⟩) hHeld ?_ ?_
    rotate_left
    · rintro w' ⟨s0, s1, s2, s3, s4, s5, s6⟩
      go_simp
      with_reducible rfl
    rotate_left
    · simp only [Act.put, List.setIfInBounds_toArray, List.set_cons_zero, List.set_cons_succ, i64_w, i32_w]
      rfl
    refine pure_ (i := 14) (N := some 114) (v := ?_) (a' := ?_) #[true, true, true, true, true, true, true, true, true, true, true, true, true, true, true, false, false, false] rfl rfl (any_of HT_.out (by kernel_rfl)) (fun _ _ _ h => h) (Or.inl ⟨by rfl, ?_⟩) ?_ ?_
    rotate_left
    · intro w'
      go_simp
      with_reducible rfl
    rotate_left
    · simp only [Act.put, List.setIfInBounds_toArray, List.set_cons_zero, List.set_cons_succ, i64_w, i32_w]
      rfl
    refine take_ (i := 15) (N := some 115) (v := ?_) (a' := ?_) #[true, true, true, true, true, true, true, true, true, true, true, true, true, true, true, true, false, false] rfl rfl (take_ofW HT_.out HW_.out (by kernel_rfl)) (fun _ _ _ h => h) (Or.inl ⟨by rfl, ?_⟩) hHeld ?_ ?_
    rotate_left
    · rintro w' ⟨s0, s1, s2, s3, s4, s5, s6⟩
      go_simp
      with_reducible rfl
    rotate_left
    · simp only [Act.put, List.setIfInBounds_toArray, List.set_cons_zero, List.set_cons_succ, i64_w, i32_w]
      rfl
    refine pure_ (i := 16) (N := some 116) (v := ?_) (a' := ?_) #[true, true, true, true, true, true, true, true, true, true, true, true, true, true, true, true, true, false] rfl rfl (any_of HT_.out (by kernel_rfl)) (fun _ _ _ h => h) (Or.inl ⟨by rfl, ?_⟩) ?_ ?_
    rotate_left
    · intro w'
      go_simp
      with_reducible rfl
    rotate_left
    · simp only [Act.put, List.setIfInBounds_toArray, List.set_cons_zero, List.set_cons_succ, i64_w, i32_w]
      rfl
    refine pure_ (i := 17) (N := some 117) (v := ?_) (a' := ?_) #[true, true, true, true, true, true, true, true, true, true, true, true, true, true, true, true, true, true] rfl rfl (any_of HT_.out (by kernel_rfl)) (fun _ _ _ h => h) (Or.inl ⟨by rfl, ?_⟩) ?_ ?_
    rotate_left
    · intro w'
      go_simp
      with_reducible rfl
    rotate_left
    · simp only [Act.put, List.setIfInBounds_toArray, List.set_cons_zero, List.set_cons_succ, i64_w, i32_w]
      rfl
    refine done_ (done_of HT_.out (by kernel_rfl)) ?_
    clear hHeld HT_ HW_
    refine NoPanic.normal ?_
    go_wp2_with fail
    exact ⟨k - 1, HKN.out.1, i + 1, _, rfl, ⟨HKN.out.2⟩, ⟨HMV.out.others (below_others HBd.out)⟩, ⟨HGV.out.step HBd.out⟩⟩
  case stop =>
    rintro D cd pre V _ _ h _
    exact h.elim
end Go.Proofs.Ytndkkjpgnmahbaa.Print
end

section
namespace Go.Proofs.Field
section
variable {W H : Nat} {R : Bool} {C v : List Int}
def leastTo (C v : List Int) : Nat → Int
  | 0 => 1000000
  | m + 1 => if 0 < fn C m then min (leastTo C v m) (volt C v m) else leastTo C v m
def mostTo (C v : List Int) : Nat → Int
  | 0 => -1000000
  | m + 1 => if 0 < fn C m then max (mostTo C v m) (volt C v m) else mostTo C v m
theorem leastTo_le : ∀ {m i : Nat}, i < m → 0 < fn C i → leastTo C v m ≤ volt C v i
  | 0, i, h, _ => absurd h (Nat.not_lt_zero i)
  | m + 1, i, h, hp => by
    rw [leastTo]
    by_cases q : i = m
    · subst q; rw [if_pos hp]; omega
    · have := leastTo_le (show i < m by omega) hp
      split <;> omega
theorem mostTo_ge : ∀ {m i : Nat}, i < m → 0 < fn C i → volt C v i ≤ mostTo C v m
  | 0, i, h, _ => absurd h (Nat.not_lt_zero i)
  | m + 1, i, h, hp => by
    rw [mostTo]
    by_cases q : i = m
    · subst q; rw [if_pos hp]; omega
    · have := mostTo_ge (show i < m by omega) hp
      split <;> omega
theorem lowest (hV : Volted W H R C v) : leastTo C v C.length ≤ minOf (onOf C v) := by
  obtain ⟨j, hj, hp, e⟩ := on_volt (minOf_mem (on_ne hV))
  rw [← e]; exact leastTo_le hj hp
theorem highest (hV : Volted W H R C v) : maxOf (onOf C v) ≤ mostTo C v C.length := by
  obtain ⟨j, hj, hp, e⟩ := on_volt (maxOf_mem (on_ne hV))
  rw [← e]; exact mostTo_ge hj hp
theorem solve_within (hV : Volted W H R C v) {N : Nat} (hN : C.length ≤ N) (n : Nat) {i : Nat} (hi : i < C.length) : leastTo C v C.length ≤ fn (solveN W H R C v N n).1 i ∧ fn (solveN W H R C v N n).2.1 i ≤ mostTo C v C.length := by
  obtain ⟨hp, h1, h2, _, _⟩ := sweeps_pair hV.fine hV.len n 0 _ _ false ⟨laid_low hV hN, laid_high hV hN⟩
  have a1 := h1 i hi
  have a2 := h2 i hi
  have b1 : leastTo C v C.length ≤ fn (laid C v N (minOf (onOf C v))) i := by
    rw [fn_laid hN hi]
    split
    · rename_i q; exact leastTo_le hi q
    · exact lowest hV
  have b2 : fn (laid C v N (maxOf (onOf C v))) i ≤ mostTo C v C.length := by
    rw [fn_laid hN hi]
    split
    · rename_i q; exact mostTo_ge hi q
    · exact highest hV
  exact ⟨Int.le_trans b1 a1, Int.le_trans a2 b2⟩
end
end Go.Proofs.Field
namespace Go.Proofs.Ytndkkjpgnmahbaa.Print
open Go.RowKit Go.Proofs.YtndkkjpgnmahbaaW.PrintWords Go.Proofs.YtndkkjpgnmahbaaW.PrintLast Go.Proofs.YtndkkjpgnmahbaaW.PrintMore Go.Proofs.Field
set_option linter.unusedVariables false
theorem good_solve {W H : Nat} {R : Bool} {C v : List Int} (hverr : voltErr W H R C v = 0) (hV : Volted W H R C v) (hs : C.length ≤ 256) (n : Nat) : GoodFor W H R C v ((solveN W H R C v 256 n).1.take C.length) ((solveN W H R C v 256 n).2.1.take C.length) := by
  obtain ⟨W', H', eW, eH, w16, h16, _, _, _⟩ := volted_of hverr
  obtain rfl : W = W' := by omega
  obtain rfl : H = H' := by omega
  obtain ⟨t1, t2⟩ := bounds_len hV hs n
  have hp := solve_pair hV hs n
  refine ⟨hverr, hV, w16, h16, hs, t1, t2, fun j hj => ?_, fun i hi h0 => ?_, fun i hi h0 => ?_⟩
  · rw [fn_take hj, fn_take hj]
    exact solve_range hV hs n hj
  · rw [fn_take hi, fn_take hi, hp.low.1.el i hi h0, hp.high.1.el i hi h0]
    exact ⟨Int.le_refl _, Int.le_refl _⟩
  · have hi' : i < W * H := by rw [← hV.len]; exact hi
    have hu : ∀ b : List Int, under (fn (b.take C.length)) (nbs W H R i) = under (fn b) (nbs W H R i) := fun b => by
      unfold under
      congr 1
      refine List.map_congr_left (fun p hp => ?_)
      rw [fn_take (by rw [hV.len]; exact (nbs_lt hi' hp).1)]
    rw [fn_take hi, fn_take hi, hu, hu, ← net_T (R := R) (C := C) hi', ← net_Sf (C := C) _ hi', ← net_Sf (C := C) _ hi']
    exact ⟨hp.low.2 i hi' ((net_el i).2 h0), hp.high.2 i hi' ((net_el i).2 h0)⟩
theorem between_facts {s a1 a2 : Int} {W H : Nat} {R : Bool} {C v : List Int} {s1 s2 : Int} (D : Dealt s a1 a2 W H R C v s1 s2) (n : Nat) (hn : n ≤ 200) :
    ∃ (lo hi : List Int) (K : Nat) (st : Bool), field_Solve.f W H R C v n = some (lo, hi, (K : Int), st, 0) ∧ GoodFor W H R C v lo hi ∧ (∀ i, i < C.length → fn lo i ≤ fn hi i ∧ leastTo C v C.length ≤ fn lo i ∧ fn hi i ≤ mostTo C v C.length) := by
  have hV := D.volted
  refine ⟨_, _, _, _, solve_eq (n := n) D.verr hn, good_solve D.verr hV D.small n, fun i hi => ?_⟩
  rw [fn_take hi, fn_take hi]
  have hw := solve_within hV D.small n hi
  exact ⟨pair_between hV (solve_pair hV D.small n) hi, hw.1, hw.2⟩
theorem ne_new {w W : World} {g k : Nat} {cs : Array Value} {t : TypeId} {l : List (Nat × Array Value × TypeId)} (h : H.Mem w W ((g, cs, t) :: l)) (hb : W.heap.size ≤ k) : k ≠ g := by
  have := blk_lt h.head
  omega
end Go.Proofs.Ytndkkjpgnmahbaa.Print
end

section
namespace Go.Proofs.Ytndkkjpgnmahbaa.Print
open Go.RowKit Go.Proofs.YtndkkjpgnmahbaaW.PrintWords Go.Proofs.YtndkkjpgnmahbaaW.PrintLast Go.Proofs.YtndkkjpgnmahbaaW.PrintMore Go.Proofs.Ytndkkjpgnmahbaa.H Go.Proofs.Field
attribute [local go_sem] max2_int min2_int max_two min_two max_three min_three max_four min_four
set_option linter.unusedVariables false
set_option linter.unusedSimpArgs false
def betweenF.T12 : Bool × List (List Nat × List Nat) := (true, [([], []), ([], []), ([], []), ([2], [2]), ([], []), ([3, 4], [3, 4]), ([5], [5]), ([6], [6]), ([1, 7], [1, 7]), ([8], [8]), ([0, 9], [0, 9]), ([], []), ([], []), ([], []), ([13], [13]), ([], []), ([14, 15], [14, 15]), ([16], [16]), ([17], [17]), ([12, 18], [12, 18]), ([19], [19]), ([11, 20], [11, 20]), ([10, 0, 1, 2, 3, 4, 5, 6, 7, 8, 9, 10], [0, 10]), ([21, 22, 0, 1, 2, 3, 4, 5, 6, 7, 8, 9, 10, 11, 12, 13, 14, 15, 16, 17, 18, 19, 20, 21, 22], [11, 21])])
def betweenF.B12 : List Nat := [0, 0, 0, 4, 0, 28, 60, 124, 254, 510, 1023, 0, 0, 0, 8192, 0, 57344, 122880, 253952, 520192, 1044480, 2095104, 2047, 8388607]
theorem betweenF.tab12 : rtab .any (opsOf Try.f13 12) = betweenF.T12 := by kernel_rfl
theorem betweenF.bits12 : waitsOk betweenF.T12.2 betweenF.B12 = true := by kernel_rfl
def betweenF.T16 : Bool × List (List Nat × List Nat) := (true, [([], []), ([0], [0]), ([], []), ([1, 2], [1, 2]), ([3], [3]), ([], []), ([5], [5]), ([], []), ([6, 7], [6, 7]), ([8], [8]), ([4, 9], [4, 9]), ([10], [10]), ([11], [11]), ([12, 11], [11, 12]), ([11], [11]), ([13, 14, 11], [11, 13, 14]), ([15, 11], [11, 15]), ([11], [11]), ([16, 17, 11], [11, 16, 17]), ([11, 18], [11, 18]), ([19, 11], [19]), ([20], [20]), ([21, 20], [20, 21]), ([20], [20]), ([22, 23, 20], [20, 22, 23]), ([24, 20], [20, 24]), ([20], [20]), ([25, 26, 20], [20, 25, 26]), ([20, 27], [20, 27])])
def betweenF.B16 : List Nat := [0, 1, 0, 7, 15, 0, 32, 0, 224, 480, 1023, 2047, 4095, 8191, 4095, 32767, 65535, 4095, 262143, 524287, 1048575, 2097151, 4194303, 2097151, 16777215, 33554431, 2097151, 134217727, 268435455]
theorem betweenF.tab16 : rtab .any (opsOf Try.f13 16) = betweenF.T16 := by kernel_rfl
theorem betweenF.bits16 : waitsOk betweenF.T16.2 betweenF.B16 = true := by kernel_rfl
theorem rows_new {W : World} {base g1 c1 n1 g2 c2 n2 : Nat} {l1 l2 : List Int} (h : Row4 W base g1 c1 n1 l1 ∧ Row4 W base g2 c2 n2 l2) (o : Obj) : Rows (W.alloc o) [(some ⟨g2, 0, none⟩, l2), (some ⟨g1, 0, none⟩, l1)] :=
  ((Rows.nil _).cons (h.1.below (below_alloc (Below.refl _ _) o)).reads.1).cons (h.2.below (below_alloc (Below.refl _ _) o)).reads.1
theorem rows_put {W : World} {base g1 c1 n1 g2 c2 n2 g : Nat} {l1 l2 : List Int} (h : Row4 W base g1 c1 n1 l1 ∧ Row4 W base g2 c2 n2 l2) (hn : g1 ≠ g ∧ g2 ≠ g) (a b c d : Value) : Rows ((((W.setCell ⟨g, 0, none⟩ a).setCell ⟨g, 1, none⟩ b).setCell ⟨g, 2, none⟩ c).setCell ⟨g, 3, none⟩ d) [(some ⟨g2, 0, none⟩, l2), (some ⟨g1, 0, none⟩, l1)] :=
  ((Rows.nil _).cons ((((h.1.far (p := ⟨g, 0, none⟩) hn.1 a).far (p := ⟨g, 1, none⟩) hn.1 b).far (p := ⟨g, 2, none⟩) hn.1 c).far (p := ⟨g, 3, none⟩) hn.1 d).reads.1).cons ((((h.2.far (p := ⟨g, 0, none⟩) hn.2 a).far (p := ⟨g, 1, none⟩) hn.2 b).far (p := ⟨g, 2, none⟩) hn.2 c).far (p := ⟨g, 3, none⟩) hn.2 d).reads.1
set_option maxHeartbeats 6400000 in
set_option maxRecDepth 100000 in
theorem between_calls (A0 : Option Addr) (c0 : Nat) (l0 : List Int) (a1 : Int) (w : World) (hr0 : Kd.C (Kd.int .i64) w A0 l0.length l0) (hc0 : l0.length ≤ c0) :
    Calls Try.prog 13 #[.slice A0 l0.length c0, .int .i64 a1] w fun e w' => e = .returned (.bool true) ∧ Below w.heap.size w w' := by
  obtain ⟨s0, hs0⟩ : ∃ s, thermionkit_NewDice.f l0 = some s := ⟨_, rfl⟩
  obtain ⟨W, H, R, C, v, s1, s2, D⟩ := dealt s0 8 6 (by omega) (by omega)
  obtain ⟨n, hn, hn1⟩ := mod_eq a1 61 (by omega) (by omega)
  obtain ⟨lo, hi, K, st, hs1, hgf, hbt⟩ := between_facts D n (by omega)
  obtain ⟨kv, hkv⟩ := D.volts
  have HR0 := Aside0.mk hr0
  have HND := Aside0.mk hs0
  have HD := Aside0.mk D
  have HMD := Aside0.mk hn
  have HVO := Aside0.mk (hkv kv (Nat.le_refl _))
  have HS1 := Aside0.mk hs1
  have HGF := Aside0.mk hgf
  have HBT := Aside0.mk hbt
  have HSM := Aside0.mk D.small
  have HLL : Aside0 (lo.length = C.length ∧ hi.length = C.length) := ⟨⟨hgf.ll, hgf.lh⟩⟩
  have HPL : Aside0 (0 < lo.length ∧ 0 < hi.length) := ⟨by rw [hgf.ll, hgf.lh]; exact ⟨D.volted.pos, D.volted.pos⟩⟩
  have HAW := Aside0.mk awake_true
  have hu24 := Try.underlying24
  have hu22 := Try.underlying22
  have hu33 := Try.underlying33
  clear hr0 hs0 D hn hkv hs1 hgf hbt hn1
  go_enter Try.func13, Try.ntmps13
  go_upto_region 4 with (first
    | (go_at_call 21; refine (thermionkit_NewDice.calls A0 c0 l0 s0 w w (Below.refl _ _) HR0.out hc0 HND.out).mono ?_; rintro e w1 ⟨g, rfl, hI1, hB1, hB1b⟩; have HI1 := Aside0.mk hI1; have HB1 := Aside0.mk hB1; clear hI1 hB1 hB1b HND)
    | (go_at_call 22; refine (thermionkit_PlanOf.calls g s0 8 6 W H R C s1 w w1 HI1.out HB1.out HD.out.plan).mono ?_; rintro e w2 ⟨v3, rfl, hR, hI, hB, hK⟩; obtain ⟨AC, cC, rfl⟩ := Kd.R_slice hR; have HP2 := Aside0.mk (PW.make hI hB hR HB1.out.size); have HN2 := Aside0.mk (Mem.start w2); clear hR hI hB hK HI1 HB1)
    | ((with_reducible refine gate_dst (N := 6) rfl ?_); refine ev_new HN2.out rfl 24 rfl info24 ?_; intro g6 w3 hm3 hq3; have HP3 := Aside0.mk (HP2.out.below hq3); have HN3 := Aside0.mk hm3; clear hm3 hq3 HN2)
    | ((with_reducible refine gate_store (t := 24) (p := 6) rfl ?_); refine ev_store HN3.out rfl 24 (.tmp 6) (.tmp 17) rfl rfl (cs := planV W H R AC C.length cC) rfl size24 rfl rfl (by simp [Value.oneCell']) ?_; intro w4 hm4 hq4; clear hq4; have HN4 := Aside0.mk hm4; have HP4 := Aside0.mk (HP2.out.below hm4.below); clear hm4 HN3 HP3 HP2)
    | ((with_reducible refine gate_dst (N := 19) rfl ?_); refine ev_load HN4.out.head rfl 24 (.tmp 6) rfl rfl _ Try.underlying24 rfl size24 rfl ?_)
    | (go_at_call 23; refine (thermionkit_VoltsOf.calls kv g s1 W H R AC cC C v s2 w w4 HP4.out.dice HP4.out.old HP4.out.reads HP4.out.cap HP4.out.far HVO.out).mono ?_; rintro e wb ⟨vv, rfl, hR, hI, hB, hK⟩; obtain ⟨AV, cV, rfl⟩ := Kd.R_slice hR; have HLB := Aside0.mk (LB.make HP4.out HN4.out hR hB hK); have HM := Aside0.mk (Mem.start wb); clear hR hI hB hK HVO HP4 HN4))
  try simp only [Act.put, List.setIfInBounds_toArray, List.set_cons_zero, List.set_cons_succ]
  go_cut [8, 9] (fun v8 v9 wc => ∃ (g8 : Nat) (B1 B2 : Option Addr) (b1 b2 : Nat), v8 = .pointer (some ⟨g8, 0, none⟩) ∧ v9 = .int .i64 0 ∧ Aside0 (Mem wb wc [(g8, #[.slice B1 C.length b1, .slice B2 C.length b2, .int .i64 (K : Int), .bool st], 33)]) ∧ Aside0 (Rows wc [(B2, hi), (B1, lo)]))
  case first =>
    have HMq := HM
    have HM2 := Aside0.mk HM.out.drew
    clear HM
    have HM := HM2
    clear HM2
    go_region_held3 (fun w' => w'.cell? ⟨g6, 0, none⟩ = some (.int .i64 (W : Int)) ∧ w'.cell? ⟨g6, 1, none⟩ = some (.int .i64 (H : Int)) ∧ w'.cell? ⟨g6, 2, none⟩ = some (.bool R) ∧ w'.cell? ⟨g6, 3, none⟩ = some (.slice AC C.length cC)) (first | exact HLB.out.cells_at HM.out.below | exact HLB.out.cells_at (HM.out.alloc _).below | exact HLB.out.cells_at ((((HM.out.put 0 _ rfl).put 1 _ rfl).put 2 _ rfl).put 3 _ rfl).below) (first
      | (go_at_call 28; refine (thermionkit_Mod.calls a1 61 n _ HMD.out).mono ?_; rintro e1 wq1 ⟨rfl, hb⟩; (first | have HM2 := Aside0.mk (HM.out.step hb.below) | have HM2 := Aside0.mk ((HMq.out.new (g := wb.heap.size) rfl (blk_new _ _) (below_alloc (Below.refl _ _) _)).drew.step hb.below)); clear hb HM; have HM := HM2; clear HM2; (try clear q0 q1 q2 q3 f0 f1 f2 f3); (try (have q0 : _ = some (Value.slice none 0 0) := HM.out.cell 0)); (try (have q1 : _ = some (Value.slice none 0 0) := HM.out.cell 1)); (try (have q2 : _ = some (Value.int .i64 0) := HM.out.cell 2)); (try (have q3 : _ = some (Value.bool false) := HM.out.cell 3)); (try have f0 := HM.out.frozen 0); (try have f1 := HM.out.frozen 1); (try have f2 := HM.out.frozen 2); (try have f3 := HM.out.frozen 3))
      | (go_at_call 25; (first | refine (solve_at W H R AC cC C AV cV v.length v n lo hi K st _ (HLB.out.rc_at HM.out.below) HLB.out.hc rfl (HLB.out.rv_at HM.out.below) HLB.out.hv HS1.out).mono ?_ | refine (solve_at W H R AC cC C AV cV v.length v n lo hi K st _ (HLB.out.rc_at (HM.out.alloc _).below) HLB.out.hc rfl (HLB.out.rv_at (HM.out.alloc _).below) HLB.out.hv HS1.out).mono ?_); rintro e1 wq2 ⟨vl, vh, rfl, hR1, hR2, hb⟩; obtain ⟨gb1, b1, ee, hr1, hg1, _⟩ := row4_of hR1 HPL.out.1; rw [HLL.out.1] at ee; subst ee; obtain ⟨gb2, b2, ee, hr2, hg2, _⟩ := row4_of hR2 HPL.out.2; rw [HLL.out.2] at ee; subst ee; have HRR := Aside0.mk (And.intro hr1 hr2); (first | have HNE := Aside0.mk (And.intro (ne_new HM.out hg1) (ne_new HM.out hg2)) | have HNE := Aside0.mk (And.intro (ne_new (HM.out.new (g := wq1.heap.size) rfl (blk_new _ _) (below_alloc (Below.refl _ _) _)) hg1) (ne_new (HM.out.new (g := wq1.heap.size) rfl (blk_new _ _) (below_alloc (Below.refl _ _) _)) hg2)) | skip); (first | have HM2 := Aside0.mk (HM.out.step hb) | have HM2 := Aside0.mk ((HM.out.new (g := wq1.heap.size) rfl (blk_new _ _) (below_alloc (Below.refl _ _) _)).step hb)); clear hb HM hR1 hR2 hr1 hr2 hg1 hg2; have HM := HM2; clear HM2; (try clear q0 q1 q2 q3 f0 f1 f2 f3); (try (have q0 : _ = some (Value.slice none 0 0) := HM.out.cell 0)); (try (have q1 : _ = some (Value.slice none 0 0) := HM.out.cell 1)); (try (have q2 : _ = some (Value.int .i64 0) := HM.out.cell 2)); (try (have q3 : _ = some (Value.bool false) := HM.out.cell 3)); (try have f0 := HM.out.frozen 0); (try have f1 := HM.out.frozen 1); (try have f2 := HM.out.frozen 2); (try have f3 := HM.out.frozen 3)))
    all_goals try go_wp2
    all_goals go_meet
    all_goals (case rel => exact ⟨_, _, _, _, _, rfl, rfl, ⟨by first | exact HM.out.new rfl (blk_new _ _) (below_alloc (Below.refl _ _) _) | exact (((HM.out.put 0 _ rfl).put 1 _ rfl).put 2 _ rfl).put 3 _ rfl⟩, ⟨by first | exact rows_new HRR.out _ | exact rows_put HRR.out HNE.out _ _ _ _⟩⟩)
  case rest =>
  obtain ⟨g8, B1, B2, b1, b2, rfl, rfl, HN, HRW⟩ := hcut
  clear HM HMD HS1
  obtain ⟨p0, p1, p2, p3⟩ := HLB.out.cells_at HN.out.below
  have qa : wc.cell? ⟨g8, 0, none⟩ = some (.slice B1 C.length b1) := (blk_cell HN.out.head 0).trans rfl
  have qb : wc.cell? ⟨g8, 1, none⟩ = some (.slice B2 C.length b2) := (blk_cell HN.out.head 1).trans rfl
  go_wp2_with (first
    | (go_at_call 50; refine (good_calls W H R AC cC C AV cV v B1 b1 lo B2 b2 hi _ (HLB.out.rc_at HN.out.below) HLB.out.hc (HLB.out.rv_at HN.out.below) HLB.out.hv (HRW.out.all (B1, lo) (by simp)) (HRW.out.all (B2, hi) (by simp)) HGF.out).mono ?_; rintro e1 wd ⟨rfl, hb⟩; have HM1 := Aside0.mk (HN.out.step hb); have HRW1 := Aside0.mk (HRW.out.below hb); clear hb HN HRW qa qb p0 p1 p2 p3; have qa : wd.cell? ⟨g8, 0, none⟩ = some (.slice B1 C.length b1) := (blk_cell HM1.out.head 0).trans rfl; have qb : wd.cell? ⟨g8, 1, none⟩ = some (.slice B2 C.length b2) := (blk_cell HM1.out.head 1).trans rfl; have qp : wd.cell? ⟨g6, 3, none⟩ = some (.slice AC C.length cC) := (HLB.out.cells_at HM1.out.below).2.2.2))
  clear qa qb qp
  go_loopg [10, 11, 12] C.length (fun k v10 v11 v12 w' => ∃ (i : Nat), v10 = .int .i64 (leastTo C v i) ∧ v11 = .int .i64 (mostTo C v i) ∧ v12 = .int .i64 (i : Int) ∧ Aside0 (i + k = C.length) ∧ Aside0 (Mem wb w' [(g8, #[.slice B1 C.length b1, .slice B2 C.length b2, .int .i64 (K : Int), .bool st], 33)]) ∧ Aside0 (Rows w' [(B2, hi), (B1, lo)]))
  case atStart => exact ⟨0, rfl, rfl, by go_num, ⟨by omega⟩, HM1, HRW1⟩
  case round =>
    clear HM1 HRW1
    obtain ⟨i, rfl, rfl, rfl, HK, HM, HRW⟩ := hrel
    have q3 : wr.cell? ⟨g6, 3, none⟩ = some (.slice AC C.length cC) := (HLB.out.cells_at HM.out.below).2.2.2
    by_cases hci : i < C.length
    · have HI := Aside0.mk hci
      have HKN : Aside0 (i + 1 + (C.length - (i + 1)) = C.length) := ⟨by omega⟩
      obtain ⟨ad, ead, x0⟩ := at_row (HLB.out.rc_at HM.out.below) i hci
      subst ead
      have hel := HD.out.volted.elr i hci
      have hvl := HD.out.volted.vlen i hci
      have t1 : decide ((i : Int) < (C.length : Int)) = true := by simp; omega
      have t2 : decide (i < C.length) = true := by simp; omega
      have t3 : wrap64 ((i : Int) + 1) = ((i + 1 : Nat) : Int) := by rw [IntWalk.wrap64_in _ (by have := HSM.out; omega)]; omega
      have HST : Aside0 (leastTo C v (i + 1) = (if 0 < fn C i then min (leastTo C v i) (volt C v i) else leastTo C v i) ∧ mostTo C v (i + 1) = (if 0 < fn C i then max (mostTo C v i) (volt C v i) else mostTo C v i)) := ⟨⟨rfl, rfl⟩⟩
      obtain ⟨X, hX⟩ : ∃ X, fn C i = X := ⟨_, rfl⟩
      rw [hX] at x0 hel hvl HST
      have hvt : volt C v i = fn v (X.toNat - 1) := by unfold volt; rw [hX]
      by_cases q : 0 < X
      · have hg : decide (X > 0) = true := decide_eq_true q
        rw [if_pos q, if_pos q, hvt] at HST
        obtain ⟨m, rfl⟩ : ∃ m : Nat, X = (m : Int) + 1 := ⟨(X - 1).toNat, by omega⟩
        have em : ((m : Int) + 1).toNat - 1 = m := by omega
        rw [em] at HST
        obtain ⟨adv, ev, xv⟩ := at_row (HLB.out.rv_at HM.out.below) m (by omega)
        subst ev
        have k1 : (m : Int) < (v.length : Int) := by omega
        have k2 : m < v.length := by omega
        have n1 : IntKind.i64.wrap ((m : Int) + 1 - 1) = (m : Int) := by rw [IntWalk.i64_in _ (by omega)]; omega
        have n2 : wrap64 (m : Int) = (m : Int) := IntWalk.wrap64_in _ (by omega)
        obtain ⟨y, hy⟩ : ∃ y, fn v m = y := ⟨_, rfl⟩
        rw [hy] at xv HST
        have g1 : (if y < leastTo C v i then y else leastTo C v i) = leastTo C v (i + 1) := by rw [HST.out.1]; split <;> omega
        have g2 : (if mostTo C v i < y then y else mostTo C v i) = mostTo C v (i + 1) := by rw [HST.out.2]; split <;> omega
        clear q hel hvl hvt hy hX em HST
        obtain ⟨l1, hl1⟩ : ∃ l1, leastTo C v (i + 1) = l1 := ⟨_, rfl⟩
        obtain ⟨m1, hm1⟩ : ∃ m1, mostTo C v (i + 1) = m1 := ⟨_, rfl⟩
        rw [hl1] at g1
        rw [hm1] at g2
        have HLM := Aside0.mk (And.intro hl1 hm1)
        clear hl1 hm1
        go_upto_region 12 with fail
        have HBd := Aside0.mk (below_drew1 (Below.refl wr.heap.size wr))
        refine start_ (n := 24) (S := fun w' => w'.cell? ⟨g6, 3, none⟩ = some (.slice (some ad) C.length cC) ∧ w'.cell? (ad.add i) = some (.int .i64 ((m : Int) + 1)) ∧ w'.cell? (adv.add m) = some (.int .i64 y)) (ds := []) #[false, false, false, false, false, false, false, false, false, false, false, false, false, false, false, false, false, false, false, false, false, false, false, false] (by kernel_rfl) rfl rfl ⟨q3, x0, xv⟩ (fun hHeld => ?_); refine with_tabW betweenF.tab12 betweenF.bits12 (fun HT_ HW_ => ?_)
        generalize wr.drew = wd at HBd hHeld  ⊢
        refine pure_ (i := 0) (N := some 72) (v := ?_) (a' := ?_) #[true, false, false, false, false, false, false, false, false, false, false, false, false, false, false, false, false, false, false, false, false, false, false, false] rfl rfl (any_of HT_.out (by kernel_rfl)) (fun _ _ _ h => h) (Or.inl ⟨by rfl, ?_⟩) ?_ ?_
        rotate_left
        · intro w'
          go_simp
          with_reducible rfl
        rotate_left
        · simp only [Act.put, List.setIfInBounds_toArray, List.set_cons_zero, List.set_cons_succ, i64_w, i32_w]
          rfl
        refine pure_ (i := 1) (N := some 73) (v := ?_) (a' := ?_) #[true, true, false, false, false, false, false, false, false, false, false, false, false, false, false, false, false, false, false, false, false, false, false, false] rfl rfl (any_of HT_.out (by kernel_rfl)) (fun _ _ _ h => h) (Or.inl ⟨by rfl, ?_⟩) ?_ ?_
        rotate_left
        · intro w'
          go_simp
          with_reducible rfl
        rotate_left
        · simp only [Act.put, List.setIfInBounds_toArray, List.set_cons_zero, List.set_cons_succ, i64_w, i32_w]
          rfl
        refine pure_ (i := 2) (N := some 74) (v := ?_) (a' := ?_) #[true, true, true, false, false, false, false, false, false, false, false, false, false, false, false, false, false, false, false, false, false, false, false, false] rfl rfl (any_of HT_.out (by kernel_rfl)) (fun _ _ _ h => h) (Or.inl ⟨by rfl, ?_⟩) ?_ ?_
        rotate_left
        · intro w'
          go_simp
          with_reducible rfl
        rotate_left
        · simp only [Act.put, List.setIfInBounds_toArray, List.set_cons_zero, List.set_cons_succ, i64_w, i32_w]
          rfl
        refine pure_ (i := 4) (N := some 76) (v := ?_) (a' := ?_) #[true, true, true, false, true, false, false, false, false, false, false, false, false, false, false, false, false, false, false, false, false, false, false, false] rfl rfl (any_of HT_.out (by kernel_rfl)) (fun _ _ _ h => h) (Or.inl ⟨by rfl, ?_⟩) ?_ ?_
        rotate_left
        · intro w'
          go_simp
          with_reducible rfl
        rotate_left
        · simp only [Act.put, List.setIfInBounds_toArray, List.set_cons_zero, List.set_cons_succ, i64_w, i32_w]
          rfl
        refine pure_ (i := 11) (N := some 83) (v := ?_) (a' := ?_) #[true, true, true, false, true, false, false, false, false, false, false, true, false, false, false, false, false, false, false, false, false, false, false, false] rfl rfl (any_of HT_.out (by kernel_rfl)) (fun _ _ _ h => h) (Or.inl ⟨by rfl, ?_⟩) ?_ ?_
        rotate_left
        · intro w'
          go_simp
          with_reducible rfl
        rotate_left
        · simp only [Act.put, List.setIfInBounds_toArray, List.set_cons_zero, List.set_cons_succ, i64_w, i32_w]
          rfl
        refine pure_ (i := 12) (N := some 84) (v := ?_) (a' := ?_) #[true, true, true, false, true, false, false, false, false, false, false, true, true, false, false, false, false, false, false, false, false, false, false, false] rfl rfl (any_of HT_.out (by kernel_rfl)) (fun _ _ _ h => h) (Or.inl ⟨by rfl, ?_⟩) ?_ ?_
        rotate_left
        · intro w'
          go_simp
          with_reducible rfl
        rotate_left
        · simp only [Act.put, List.setIfInBounds_toArray, List.set_cons_zero, List.set_cons_succ, i64_w, i32_w]
          rfl
        refine pure_ (i := 13) (N := some 85) (v := ?_) (a' := ?_) #[true, true, true, false, true, false, false, false, false, false, false, true, true, true, false, false, false, false, false, false, false, false, false, false] rfl rfl (any_of HT_.out (by kernel_rfl)) (fun _ _ _ h => h) (Or.inl ⟨by rfl, ?_⟩) ?_ ?_
        rotate_left
        · intro w'
          go_simp
          with_reducible rfl
        rotate_left
        · simp only [Act.put, List.setIfInBounds_toArray, List.set_cons_zero, List.set_cons_succ, i64_w, i32_w]
          rfl
        refine pure_ (i := 15) (N := some 87) (v := ?_) (a' := ?_) #[true, true, true, false, true, false, false, false, false, false, false, true, true, true, false, true, false, false, false, false, false, false, false, false] rfl rfl (any_of HT_.out (by kernel_rfl)) (fun _ _ _ h => h) (Or.inl ⟨by rfl, ?_⟩) ?_ ?_
        rotate_left
        · intro w'
          go_simp
          with_reducible rfl
        rotate_left
        · simp only [Act.put, List.setIfInBounds_toArray, List.set_cons_zero, List.set_cons_succ, i64_w, i32_w]
          rfl
        refine take_ (i := 3) (N := some 75) (v := ?_) (a' := ?_) #[true, true, true, true, true, false, false, false, false, false, false, true, true, true, false, true, false, false, false, false, false, false, false, false] rfl rfl (take_ofW HT_.out HW_.out (by kernel_rfl)) (fun _ _ _ h => h) (Or.inl ⟨by rfl, ?_⟩) hHeld ?_ ?_
        rotate_left
        · rintro w' ⟨s0, s1, s2⟩
          go_simp
          with_reducible rfl
        rotate_left
        · simp only [Act.put, List.setIfInBounds_toArray, List.set_cons_zero, List.set_cons_succ, i64_w, i32_w]
          rfl
        refine pure_ (i := 5) (N := some 77) (v := ?_) (a' := ?_) #[true, true, true, true, true, true, false, false, false, false, false, true, true, true, false, true, false, false, false, false, false, false, false, false] rfl rfl (any_of HT_.out (by kernel_rfl)) (fun _ _ _ h => h) (Or.inl ⟨by rfl, ?_⟩) ?_ ?_
        rotate_left
        · intro w'
          go_simp
          with_reducible rfl
        rotate_left
        · simp only [Act.put, List.setIfInBounds_toArray, List.set_cons_zero, List.set_cons_succ, i64_w, i32_w]
          rfl
        refine take_ (i := 6) (N := some 78) (v := ?_) (a' := ?_) #[true, true, true, true, true, true, true, false, false, false, false, true, true, true, false, true, false, false, false, false, false, false, false, false] rfl rfl (take_ofW HT_.out HW_.out (by kernel_rfl)) (fun _ _ _ h => h) (Or.inl ⟨by rfl, ?_⟩) hHeld ?_ ?_
        rotate_left
        · rintro w' ⟨s0, s1, s2⟩
          go_simp
          with_reducible rfl
        rotate_left
        · simp only [Act.put, List.setIfInBounds_toArray, List.set_cons_zero, List.set_cons_succ, i64_w, i32_w]
          rfl
        refine pure_ (i := 7) (N := some 79) (v := ?_) (a' := ?_) #[true, true, true, true, true, true, true, true, false, false, false, true, true, true, false, true, false, false, false, false, false, false, false, false] rfl rfl (any_of HT_.out (by kernel_rfl)) (fun _ _ _ h => h) (Or.inl ⟨by rfl, ?_⟩) ?_ ?_
        rotate_left
        · intro w'
          go_simp
          with_reducible rfl
        rotate_left
        · simp only [Act.put, List.setIfInBounds_toArray, List.set_cons_zero, List.set_cons_succ, i64_w, i32_w]
          rfl
        refine pure_ (i := 8) (N := some 80) (v := ?_) (a' := ?_) #[true, true, true, true, true, true, true, true, true, false, false, true, true, true, false, true, false, false, false, false, false, false, false, false] rfl rfl (any_of HT_.out (by kernel_rfl)) (fun _ _ _ h => h) (Or.inl ⟨by rfl, ?_⟩) ?_ ?_
        rotate_left
        · intro w'
          go_simp
          with_reducible rfl
        rotate_left
        · simp only [Act.put, List.setIfInBounds_toArray, List.set_cons_zero, List.set_cons_succ, i64_w, i32_w]
          rfl
        refine take_ (i := 9) (N := some 81) (v := ?_) (a' := ?_) #[true, true, true, true, true, true, true, true, true, true, false, true, true, true, false, true, false, false, false, false, false, false, false, false] rfl rfl (take_ofW HT_.out HW_.out (by kernel_rfl)) (fun _ _ _ h => h) (Or.inl ⟨by rfl, ?_⟩) hHeld ?_ ?_
        rotate_left
        · rintro w' ⟨s0, s1, s2⟩
          go_simp
          with_reducible rfl
        rotate_left
        · simp only [Act.put, List.setIfInBounds_toArray, List.set_cons_zero, List.set_cons_succ, i64_w, i32_w]
          rfl
        refine pure_ (i := 10) (N := some 82) (v := ?_) (a' := ?_) #[true, true, true, true, true, true, true, true, true, true, true, true, true, true, false, true, false, false, false, false, false, false, false, false] rfl rfl (any_of HT_.out (by kernel_rfl)) (fun _ _ _ h => h) (Or.inl ⟨by rfl, ?_⟩) ?_ ?_
        rotate_left
        · intro w'
          go_simp
          with_reducible rfl
        rotate_left
        · simp only [Act.put, List.setIfInBounds_toArray, List.set_cons_zero, List.set_cons_succ, i64_w, i32_w]
          rfl
        refine pure_ (i := 22) (N := some 10) (v := ?_) (a' := ?_) #[true, true, true, true, true, true, true, true, true, true, true, true, true, true, false, true, false, false, false, false, false, false, true, false] rfl rfl (any_of HT_.out (by kernel_rfl)) (fun _ _ _ h => h) (Or.inl ⟨by rfl, ?_⟩) ?_ ?_
        rotate_left
        · intro w'
          go_simp
          with_reducible rfl
        rotate_left
        · simp only [Act.put, List.setIfInBounds_toArray, List.set_cons_zero, List.set_cons_succ, i64_w, i32_w]
          rfl
        refine take_ (i := 14) (N := some 86) (v := ?_) (a' := ?_) #[true, true, true, true, true, true, true, true, true, true, true, true, true, true, true, true, false, false, false, false, false, false, true, false] rfl rfl (take_ofW HT_.out HW_.out (by kernel_rfl)) (fun _ _ _ h => h) (Or.inl ⟨by rfl, ?_⟩) hHeld ?_ ?_
        rotate_left
        · rintro w' ⟨s0, s1, s2⟩
          go_simp
          with_reducible rfl
        rotate_left
        · simp only [Act.put, List.setIfInBounds_toArray, List.set_cons_zero, List.set_cons_succ, i64_w, i32_w]
          rfl
        refine pure_ (i := 16) (N := some 88) (v := ?_) (a' := ?_) #[true, true, true, true, true, true, true, true, true, true, true, true, true, true, true, true, true, false, false, false, false, false, true, false] rfl rfl (any_of HT_.out (by kernel_rfl)) (fun _ _ _ h => h) (Or.inl ⟨by rfl, ?_⟩) ?_ ?_
        rotate_left
        · intro w'
          go_simp
          with_reducible rfl
        rotate_left
        · simp only [Act.put, List.setIfInBounds_toArray, List.set_cons_zero, List.set_cons_succ, i64_w, i32_w]
          rfl
        refine take_ (i := 17) (N := some 89) (v := ?_) (a' := ?_) #[true, true, true, true, true, true, true, true, true, true, true, true, true, true, true, true, true, true, false, false, false, false, true, false] rfl rfl (take_ofW HT_.out HW_.out (by kernel_rfl)) (fun _ _ _ h => h) (Or.inl ⟨by rfl, ?_⟩) hHeld ?_ ?_
        rotate_left
        · rintro w' ⟨s0, s1, s2⟩
          go_simp
          with_reducible rfl
        rotate_left
        · simp only [Act.put, List.setIfInBounds_toArray, List.set_cons_zero, List.set_cons_succ, i64_w, i32_w]
          rfl
        refine pure_ (i := 18) (N := some 90) (v := ?_) (a' := ?_) #[true, true, true, true, true, true, true, true, true, true, true, true, true, true, true, true, true, true, true, false, false, false, true, false] rfl rfl (any_of HT_.out (by kernel_rfl)) (fun _ _ _ h => h) (Or.inl ⟨by rfl, ?_⟩) ?_ ?_
        rotate_left
        · intro w'
          go_simp
          with_reducible rfl
        rotate_left
        · simp only [Act.put, List.setIfInBounds_toArray, List.set_cons_zero, List.set_cons_succ, i64_w, i32_w]
          rfl
        refine pure_ (i := 19) (N := some 91) (v := ?_) (a' := ?_) #[true, true, true, true, true, true, true, true, true, true, true, true, true, true, true, true, true, true, true, true, false, false, true, false] rfl rfl (any_of HT_.out (by kernel_rfl)) (fun _ _ _ h => h) (Or.inl ⟨by rfl, ?_⟩) ?_ ?_
        rotate_left
        · intro w'
          go_simp
          with_reducible rfl
        rotate_left
        · simp only [Act.put, List.setIfInBounds_toArray, List.set_cons_zero, List.set_cons_succ, i64_w, i32_w]
          rfl
        refine take_ (i := 20) (N := some 92) (v := ?_) (a' := ?_) #[true, true, true, true, true, true, true, true, true, true, true, true, true, true, true, true, true, true, true, true, true, false, true, false] rfl rfl (take_ofW HT_.out HW_.out (by kernel_rfl)) (fun _ _ _ h => h) (Or.inl ⟨by rfl, ?_⟩) hHeld ?_ ?_
        rotate_left
        · rintro w' ⟨s0, s1, s2⟩
          go_simp
          with_reducible rfl
        rotate_left
        · simp only [Act.put, List.setIfInBounds_toArray, List.set_cons_zero, List.set_cons_succ, i64_w, i32_w]
          rfl
        refine pure_ (i := 21) (N := some 93) (v := ?_) (a' := ?_) #[true, true, true, true, true, true, true, true, true, true, true, true, true, true, true, true, true, true, true, true, true, true, true, false] rfl rfl (any_of HT_.out (by kernel_rfl)) (fun _ _ _ h => h) (Or.inl ⟨by rfl, ?_⟩) ?_ ?_
        rotate_left
        · intro w'
          go_simp
          with_reducible rfl
        rotate_left
        · simp only [Act.put, List.setIfInBounds_toArray, List.set_cons_zero, List.set_cons_succ, i64_w, i32_w]
          rfl
        refine pure_ (i := 23) (N := some 11) (v := ?_) (a' := ?_) #[true, true, true, true, true, true, true, true, true, true, true, true, true, true, true, true, true, true, true, true, true, true, true, true] rfl rfl (any_of HT_.out (by kernel_rfl)) (fun _ _ _ h => h) (Or.inl ⟨by rfl, ?_⟩) ?_ ?_
        rotate_left
        · intro w'
          go_simp
          with_reducible rfl
        rotate_left
        · simp only [Act.put, List.setIfInBounds_toArray, List.set_cons_zero, List.set_cons_succ, i64_w, i32_w]
          rfl
        refine done_ (done_of HT_.out (by kernel_rfl)) ?_
        clear hHeld HT_ HW_
        go_wp2_with fail
        go_roundg (C.length - (i + 1))
        case measure =>
          clear hci t1 t2 t3
          have := HK.out
          have := HI.out
          omega
        case rel => exact ⟨i + 1, congrArg (Value.int .i64) HLM.out.1.symm, congrArg (Value.int .i64) HLM.out.2.symm, by first | exact congrArg _ t3 | go_num, HKN, ⟨HM.out.step HBd.out⟩, ⟨HRW.out.below HBd.out⟩⟩
      · have hg : decide (X > 0) = false := decide_eq_false q
        rw [if_neg q, if_neg q] at HST
        clear q hel hvl hvt hX
        go_wp2_with fail
        go_roundg (C.length - (i + 1))
        case measure =>
          clear hci t1 t2 t3
          have := HK.out
          have := HI.out
          omega
        case rel => exact ⟨i + 1, congrArg (Value.int .i64) HST.out.1.symm, congrArg (Value.int .i64) HST.out.2.symm, by first | exact congrArg _ t3 | go_num, HKN, HM, HRW⟩
    · obtain rfl : i = C.length := by have := HK.out; omega
      obtain ⟨wo, rfl⟩ : ∃ wo : World, wo = wr := ⟨_, rfl⟩
      have t1 : decide ((C.length : Int) < (C.length : Int)) = false := by simp
      have t2 : decide (C.length < C.length) = false := by simp
      generalize leastTo C v C.length = L0 at HBT ⊢
      generalize mostTo C v C.length = M0 at HBT ⊢
      go_wp2_with fail
      go_loopg [13] C.length (fun k v13 w' => ∃ (i : Nat), v13 = .int .i64 (i : Int) ∧ Aside0 (i + k = C.length) ∧ Aside0 (Mem wb w' [(g8, #[.slice B1 C.length b1, .slice B2 C.length b2, .int .i64 (K : Int), .bool st], 33)]) ∧ Aside0 (Rows w' [(B2, hi), (B1, lo)]))
      case atStart => exact ⟨0, by go_num, ⟨by omega⟩, HM, HRW⟩
      case round =>
        clear HM HRW HK q3 t1 t2 hci
        obtain ⟨i, rfl, HK, HM, HRW⟩ := hrel
        have q3 : wr.cell? ⟨g6, 3, none⟩ = some (.slice AC C.length cC) := (HLB.out.cells_at HM.out.below).2.2.2
        by_cases hci : i < C.length
        · have HI := Aside0.mk hci
          have HKN : Aside0 (i + 1 + (C.length - (i + 1)) = C.length) := ⟨by omega⟩
          have r1 := HRW.out.all (B1, lo) (by simp)
          have r2 := HRW.out.all (B2, hi) (by simp)
          obtain ⟨d1, e1, x1⟩ := at_row r1 i (by rw [HLL.out.1]; exact hci)
          obtain ⟨d2, e2, x2⟩ := at_row r2 i (by rw [HLL.out.2]; exact hci)
          simp only at e1 e2 x1 x2
          subst e1 e2
          have hR := HBT.out i hci
          generalize fn lo i = y1 at x1 hR
          generalize fn hi i = y2 at x2 hR
          have z1 : decide (y1 > y2) = false := decide_eq_false (by omega)
          have z2 : decide (y1 < L0) = false := decide_eq_false (by omega)
          have z3 : decide (y2 > M0) = false := decide_eq_false (by omega)
          have qa : wr.cell? ⟨g8, 0, none⟩ = some (.slice (some d1) C.length b1) := (blk_cell HM.out.head 0).trans rfl
          have qb : wr.cell? ⟨g8, 1, none⟩ = some (.slice (some d2) C.length b2) := (blk_cell HM.out.head 1).trans rfl
          have t1 : decide ((i : Int) < (C.length : Int)) = true := by simp; omega
          have t2 : decide (i < C.length) = true := by simp; omega
          have t3 : wrap64 ((i : Int) + 1) = ((i + 1 : Nat) : Int) := by rw [IntWalk.wrap64_in _ (by have := HSM.out; omega)]; omega
          clear r1 r2 hR
          go_upto_region 16 with fail
          have HBd := Aside0.mk (below_drew1 (Below.refl wr.heap.size wr))
          refine start_ (n := 29) (S := fun w' => w'.cell? ⟨g8, 0, none⟩ = some (.slice (some d1) C.length b1) ∧ w'.cell? ⟨g8, 1, none⟩ = some (.slice (some d2) C.length b2) ∧ w'.cell? (d1.add i) = some (.int .i64 y1) ∧ w'.cell? (d2.add i) = some (.int .i64 y2)) (ds := []) #[false, false, false, false, false, false, false, false, false, false, false, false, false, false, false, false, false, false, false, false, false, false, false, false, false, false, false, false, false] (by kernel_rfl) rfl rfl ⟨qa, qb, x1, x2⟩ (fun hHeld => ?_); refine with_tabW betweenF.tab16 betweenF.bits16 (fun HT_ HW_ => ?_)
          generalize wr.drew = wd at HBd hHeld  ⊢
          refine pure_ (i := 0) (N := some 101) (v := ?_) (a' := ?_) #[true, false, false, false, false, false, false, false, false, false, false, false, false, false, false, false, false, false, false, false, false, false, false, false, false, false, false, false, false] rfl rfl (any_of HT_.out (by kernel_rfl)) (fun _ _ _ h => h) (Or.inl ⟨by rfl, ?_⟩) ?_ ?_
          rotate_left
          · intro w'
            go_simp
            with_reducible rfl
          rotate_left
          · simp only [Act.put, List.setIfInBounds_toArray, List.set_cons_zero, List.set_cons_succ, i64_w, i32_w]
            rfl
          refine pure_ (i := 2) (N := some 103) (v := ?_) (a' := ?_) #[true, false, true, false, false, false, false, false, false, false, false, false, false, false, false, false, false, false, false, false, false, false, false, false, false, false, false, false, false] rfl rfl (any_of HT_.out (by kernel_rfl)) (fun _ _ _ h => h) (Or.inl ⟨by rfl, ?_⟩) ?_ ?_
          rotate_left
          · intro w'
            go_simp
            with_reducible rfl
          rotate_left
          · simp only [Act.put, List.setIfInBounds_toArray, List.set_cons_zero, List.set_cons_succ, i64_w, i32_w]
            rfl
          refine pure_ (i := 5) (N := some 106) (v := ?_) (a' := ?_) #[true, false, true, false, false, true, false, false, false, false, false, false, false, false, false, false, false, false, false, false, false, false, false, false, false, false, false, false, false] rfl rfl (any_of HT_.out (by kernel_rfl)) (fun _ _ _ h => h) (Or.inl ⟨by rfl, ?_⟩) ?_ ?_
          rotate_left
          · intro w'
            go_simp
            with_reducible rfl
          rotate_left
          · simp only [Act.put, List.setIfInBounds_toArray, List.set_cons_zero, List.set_cons_succ, i64_w, i32_w]
            rfl
          refine pure_ (i := 7) (N := some 108) (v := ?_) (a' := ?_) #[true, false, true, false, false, true, false, true, false, false, false, false, false, false, false, false, false, false, false, false, false, false, false, false, false, false, false, false, false] rfl rfl (any_of HT_.out (by kernel_rfl)) (fun _ _ _ h => h) (Or.inl ⟨by rfl, ?_⟩) ?_ ?_
          rotate_left
          · intro w'
            go_simp
            with_reducible rfl
          rotate_left
          · simp only [Act.put, List.setIfInBounds_toArray, List.set_cons_zero, List.set_cons_succ, i64_w, i32_w]
            rfl
          refine take_ (i := 1) (N := some 102) (v := ?_) (a' := ?_) #[true, true, true, false, false, true, false, true, false, false, false, false, false, false, false, false, false, false, false, false, false, false, false, false, false, false, false, false, false] rfl rfl (take_ofW HT_.out HW_.out (by kernel_rfl)) (fun _ _ _ h => h) (Or.inl ⟨by rfl, ?_⟩) hHeld ?_ ?_
          rotate_left
          · rintro w' ⟨s0, s1, s2, s3⟩
            go_simp
            with_reducible rfl
          rotate_left
          · simp only [Act.put, List.setIfInBounds_toArray, List.set_cons_zero, List.set_cons_succ, i64_w, i32_w]
            rfl
          refine pure_ (i := 3) (N := some 104) (v := ?_) (a' := ?_) #[true, true, true, true, false, true, false, true, false, false, false, false, false, false, false, false, false, false, false, false, false, false, false, false, false, false, false, false, false] rfl rfl (any_of HT_.out (by kernel_rfl)) (fun _ _ _ h => h) (Or.inl ⟨by rfl, ?_⟩) ?_ ?_
          rotate_left
          · intro w'
            go_simp
            with_reducible rfl
          rotate_left
          · simp only [Act.put, List.setIfInBounds_toArray, List.set_cons_zero, List.set_cons_succ, i64_w, i32_w]
            rfl
          refine take_ (i := 4) (N := some 105) (v := ?_) (a' := ?_) #[true, true, true, true, true, true, false, true, false, false, false, false, false, false, false, false, false, false, false, false, false, false, false, false, false, false, false, false, false] rfl rfl (take_ofW HT_.out HW_.out (by kernel_rfl)) (fun _ _ _ h => h) (Or.inl ⟨by rfl, ?_⟩) hHeld ?_ ?_
          rotate_left
          · rintro w' ⟨s0, s1, s2, s3⟩
            go_simp
            with_reducible rfl
          rotate_left
          · simp only [Act.put, List.setIfInBounds_toArray, List.set_cons_zero, List.set_cons_succ, i64_w, i32_w]
            rfl
          refine take_ (i := 6) (N := some 107) (v := ?_) (a' := ?_) #[true, true, true, true, true, true, true, true, false, false, false, false, false, false, false, false, false, false, false, false, false, false, false, false, false, false, false, false, false] rfl rfl (take_ofW HT_.out HW_.out (by kernel_rfl)) (fun _ _ _ h => h) (Or.inl ⟨by rfl, ?_⟩) hHeld ?_ ?_
          rotate_left
          · rintro w' ⟨s0, s1, s2, s3⟩
            go_simp
            with_reducible rfl
          rotate_left
          · simp only [Act.put, List.setIfInBounds_toArray, List.set_cons_zero, List.set_cons_succ, i64_w, i32_w]
            rfl
          refine pure_ (i := 8) (N := some 109) (v := ?_) (a' := ?_) #[true, true, true, true, true, true, true, true, true, false, false, false, false, false, false, false, false, false, false, false, false, false, false, false, false, false, false, false, false] rfl rfl (any_of HT_.out (by kernel_rfl)) (fun _ _ _ h => h) (Or.inl ⟨by rfl, ?_⟩) ?_ ?_
          rotate_left
          · intro w'
            go_simp
            with_reducible rfl
          rotate_left
          · simp only [Act.put, List.setIfInBounds_toArray, List.set_cons_zero, List.set_cons_succ, i64_w, i32_w]
            rfl
          refine take_ (i := 9) (N := some 110) (v := ?_) (a' := ?_) #[true, true, true, true, true, true, true, true, true, true, false, false, false, false, false, false, false, false, false, false, false, false, false, false, false, false, false, false, false] rfl rfl (take_ofW HT_.out HW_.out (by kernel_rfl)) (fun _ _ _ h => h) (Or.inl ⟨by rfl, ?_⟩) hHeld ?_ ?_
          rotate_left
          · rintro w' ⟨s0, s1, s2, s3⟩
            go_simp
            with_reducible rfl
          rotate_left
          · simp only [Act.put, List.setIfInBounds_toArray, List.set_cons_zero, List.set_cons_succ, i64_w, i32_w]
            rfl
          refine pure_ (i := 10) (N := some 111) (v := ?_) (a' := ?_) #[true, true, true, true, true, true, true, true, true, true, true, false, false, false, false, false, false, false, false, false, false, false, false, false, false, false, false, false, false] rfl rfl (any_of HT_.out (by kernel_rfl)) (fun _ _ _ h => h) (Or.inl ⟨by rfl, ?_⟩) ?_ ?_
          rotate_left
          · intro w'
            go_simp
            with_reducible rfl
          rotate_left
          · simp only [Act.put, List.setIfInBounds_toArray, List.set_cons_zero, List.set_cons_succ, i64_w, i32_w]
            rfl
          refine pure_ (i := 11) (N := some 112) (v := ?_) (a' := ?_) #[true, true, true, true, true, true, true, true, true, true, true, true, false, false, false, false, false, false, false, false, false, false, false, false, false, false, false, false, false] rfl rfl (any_of HT_.out (by kernel_rfl)) (fun _ _ _ h => h) (Or.inl ⟨by rfl, ?_⟩) ?_ ?_
          rotate_left
          · intro w'
            go_simp
            with_reducible rfl
          rotate_left
          · simp only [Act.put, List.setIfInBounds_toArray, List.set_cons_zero, List.set_cons_succ, i64_w, i32_w]
            rfl
          refine pure_ (i := 12) (N := some 113) (v := ?_) (a' := ?_) #[true, true, true, true, true, true, true, true, true, true, true, true, true, false, false, false, false, false, false, false, false, false, false, false, false, false, false, false, false] rfl rfl (any_of HT_.out (by kernel_rfl)) (fun _ _ _ h => h) (Or.inl ⟨by rfl, ?_⟩) ?_ ?_
          rotate_left
          · intro w'
            go_simp
            with_reducible rfl
          rotate_left
          · simp only [Act.put, List.setIfInBounds_toArray, List.set_cons_zero, List.set_cons_succ, i64_w, i32_w]
            rfl
          refine pure_ (i := 14) (N := some 115) (v := ?_) (a' := ?_) #[true, true, true, true, true, true, true, true, true, true, true, true, true, false, true, false, false, false, false, false, false, false, false, false, false, false, false, false, false] rfl rfl (any_of HT_.out (by kernel_rfl)) (fun _ _ _ h => h) (Or.inl ⟨by rfl, ?_⟩) ?_ ?_
          rotate_left
          · intro w'
            go_simp
            with_reducible rfl
          rotate_left
          · simp only [Act.put, List.setIfInBounds_toArray, List.set_cons_zero, List.set_cons_succ, i64_w, i32_w]
            rfl
          refine pure_ (i := 17) (N := some 118) (v := ?_) (a' := ?_) #[true, true, true, true, true, true, true, true, true, true, true, true, true, false, true, false, false, true, false, false, false, false, false, false, false, false, false, false, false] rfl rfl (any_of HT_.out (by kernel_rfl)) (fun _ _ _ h => h) (Or.inl ⟨by rfl, ?_⟩) ?_ ?_
          rotate_left
          · intro w'
            go_simp
            with_reducible rfl
          rotate_left
          · simp only [Act.put, List.setIfInBounds_toArray, List.set_cons_zero, List.set_cons_succ, i64_w, i32_w]
            rfl
          refine take_ (i := 13) (N := some 114) (v := ?_) (a' := ?_) #[true, true, true, true, true, true, true, true, true, true, true, true, true, true, true, false, false, true, false, false, false, false, false, false, false, false, false, false, false] rfl rfl (take_ofW HT_.out HW_.out (by kernel_rfl)) (fun _ _ _ h => h) (Or.inl ⟨by rfl, ?_⟩) hHeld ?_ ?_
          rotate_left
          · rintro w' ⟨s0, s1, s2, s3⟩
            go_simp
            with_reducible rfl
          rotate_left
          · simp only [Act.put, List.setIfInBounds_toArray, List.set_cons_zero, List.set_cons_succ, i64_w, i32_w]
            rfl
          refine pure_ (i := 15) (N := some 116) (v := ?_) (a' := ?_) #[true, true, true, true, true, true, true, true, true, true, true, true, true, true, true, true, false, true, false, false, false, false, false, false, false, false, false, false, false] rfl rfl (any_of HT_.out (by kernel_rfl)) (fun _ _ _ h => h) (Or.inl ⟨by rfl, ?_⟩) ?_ ?_
          rotate_left
          · intro w'
            go_simp
            with_reducible rfl
          rotate_left
          · simp only [Act.put, List.setIfInBounds_toArray, List.set_cons_zero, List.set_cons_succ, i64_w, i32_w]
            rfl
          refine take_ (i := 16) (N := some 117) (v := ?_) (a' := ?_) #[true, true, true, true, true, true, true, true, true, true, true, true, true, true, true, true, true, true, false, false, false, false, false, false, false, false, false, false, false] rfl rfl (take_ofW HT_.out HW_.out (by kernel_rfl)) (fun _ _ _ h => h) (Or.inl ⟨by rfl, ?_⟩) hHeld ?_ ?_
          rotate_left
          · rintro w' ⟨s0, s1, s2, s3⟩
            go_simp
            with_reducible rfl
          rotate_left
          · simp only [Act.put, List.setIfInBounds_toArray, List.set_cons_zero, List.set_cons_succ, i64_w, i32_w]
            rfl
          refine pure_ (i := 18) (N := some 119) (v := ?_) (a' := ?_) #[true, true, true, true, true, true, true, true, true, true, true, true, true, true, true, true, true, true, true, false, false, false, false, false, false, false, false, false, false] rfl rfl (any_of HT_.out (by kernel_rfl)) (fun _ _ _ h => h) (Or.inl ⟨by rfl, ?_⟩) ?_ ?_
          rotate_left
          · intro w'
            go_simp
            with_reducible rfl
          rotate_left
          · simp only [Act.put, List.setIfInBounds_toArray, List.set_cons_zero, List.set_cons_succ, i64_w, i32_w]
            rfl
          refine pure_ (i := 19) (N := some 120) (v := ?_) (a' := ?_) #[true, true, true, true, true, true, true, true, true, true, true, true, true, true, true, true, true, true, true, true, false, false, false, false, false, false, false, false, false] rfl rfl (any_of HT_.out (by kernel_rfl)) (fun _ _ _ h => h) (Or.inl ⟨by rfl, ?_⟩) ?_ ?_
          rotate_left
          · intro w'
            go_simp
            with_reducible rfl
          rotate_left
          · simp only [Act.put, List.setIfInBounds_toArray, List.set_cons_zero, List.set_cons_succ, i64_w, i32_w]
            rfl
          refine pure_ (i := 20) (N := some 121) (v := ?_) (a' := ?_) #[true, true, true, true, true, true, true, true, true, true, true, true, true, true, true, true, true, true, true, true, true, false, false, false, false, false, false, false, false] rfl rfl (any_of HT_.out (by kernel_rfl)) (fun _ _ _ h => h) (Or.inl ⟨by rfl, ?_⟩) ?_ ?_
          rotate_left
          · intro w'
            go_simp
            with_reducible rfl
          rotate_left
          · simp only [Act.put, List.setIfInBounds_toArray, List.set_cons_zero, List.set_cons_succ, i64_w, i32_w]
            rfl
          refine pure_ (i := 21) (N := some 122) (v := ?_) (a' := ?_) #[true, true, true, true, true, true, true, true, true, true, true, true, true, true, true, true, true, true, true, true, true, true, false, false, false, false, false, false, false] rfl rfl (any_of HT_.out (by kernel_rfl)) (fun _ _ _ h => h) (Or.inl ⟨by rfl, ?_⟩) ?_ ?_
          rotate_left
          · intro w'
            go_simp
            with_reducible rfl
          rotate_left
          · simp only [Act.put, List.setIfInBounds_toArray, List.set_cons_zero, List.set_cons_succ, i64_w, i32_w]
            rfl
          refine pure_ (i := 23) (N := some 124) (v := ?_) (a' := ?_) #[true, true, true, true, true, true, true, true, true, true, true, true, true, true, true, true, true, true, true, true, true, true, false, true, false, false, false, false, false] rfl rfl (any_of HT_.out (by kernel_rfl)) (fun _ _ _ h => h) (Or.inl ⟨by rfl, ?_⟩) ?_ ?_
          rotate_left
          · intro w'
            go_simp
            with_reducible rfl
          rotate_left
          · simp only [Act.put, List.setIfInBounds_toArray, List.set_cons_zero, List.set_cons_succ, i64_w, i32_w]
            rfl
          refine pure_ (i := 26) (N := some 127) (v := ?_) (a' := ?_) #[true, true, true, true, true, true, true, true, true, true, true, true, true, true, true, true, true, true, true, true, true, true, false, true, false, false, true, false, false] rfl rfl (any_of HT_.out (by kernel_rfl)) (fun _ _ _ h => h) (Or.inl ⟨by rfl, ?_⟩) ?_ ?_
          rotate_left
          · intro w'
            go_simp
            with_reducible rfl
          rotate_left
          · simp only [Act.put, List.setIfInBounds_toArray, List.set_cons_zero, List.set_cons_succ, i64_w, i32_w]
            rfl
          refine take_ (i := 22) (N := some 123) (v := ?_) (a' := ?_) #[true, true, true, true, true, true, true, true, true, true, true, true, true, true, true, true, true, true, true, true, true, true, true, true, false, false, true, false, false] rfl rfl (take_ofW HT_.out HW_.out (by kernel_rfl)) (fun _ _ _ h => h) (Or.inl ⟨by rfl, ?_⟩) hHeld ?_ ?_
          rotate_left
          · rintro w' ⟨s0, s1, s2, s3⟩
            go_simp
            with_reducible rfl
          rotate_left
          · simp only [Act.put, List.setIfInBounds_toArray, List.set_cons_zero, List.set_cons_succ, i64_w, i32_w]
            rfl
          refine pure_ (i := 24) (N := some 125) (v := ?_) (a' := ?_) #[true, true, true, true, true, true, true, true, true, true, true, true, true, true, true, true, true, true, true, true, true, true, true, true, true, false, true, false, false] rfl rfl (any_of HT_.out (by kernel_rfl)) (fun _ _ _ h => h) (Or.inl ⟨by rfl, ?_⟩) ?_ ?_
          rotate_left
          · intro w'
            go_simp
            with_reducible rfl
          rotate_left
          · simp only [Act.put, List.setIfInBounds_toArray, List.set_cons_zero, List.set_cons_succ, i64_w, i32_w]
            rfl
          refine take_ (i := 25) (N := some 126) (v := ?_) (a' := ?_) #[true, true, true, true, true, true, true, true, true, true, true, true, true, true, true, true, true, true, true, true, true, true, true, true, true, true, true, false, false] rfl rfl (take_ofW HT_.out HW_.out (by kernel_rfl)) (fun _ _ _ h => h) (Or.inl ⟨by rfl, ?_⟩) hHeld ?_ ?_
          rotate_left
          · rintro w' ⟨s0, s1, s2, s3⟩
            go_simp
            with_reducible rfl
          rotate_left
          · simp only [Act.put, List.setIfInBounds_toArray, List.set_cons_zero, List.set_cons_succ, i64_w, i32_w]
            rfl
          refine pure_ (i := 27) (N := some 128) (v := ?_) (a' := ?_) #[true, true, true, true, true, true, true, true, true, true, true, true, true, true, true, true, true, true, true, true, true, true, true, true, true, true, true, true, false] rfl rfl (any_of HT_.out (by kernel_rfl)) (fun _ _ _ h => h) (Or.inl ⟨by rfl, ?_⟩) ?_ ?_
          rotate_left
          · intro w'
            go_simp
            with_reducible rfl
          rotate_left
          · simp only [Act.put, List.setIfInBounds_toArray, List.set_cons_zero, List.set_cons_succ, i64_w, i32_w]
            rfl
          refine pure_ (i := 28) (N := some 129) (v := ?_) (a' := ?_) #[true, true, true, true, true, true, true, true, true, true, true, true, true, true, true, true, true, true, true, true, true, true, true, true, true, true, true, true, true] rfl rfl (any_of HT_.out (by kernel_rfl)) (fun _ _ _ h => h) (Or.inl ⟨by rfl, ?_⟩) ?_ ?_
          rotate_left
          · intro w'
            go_simp
            with_reducible rfl
          rotate_left
          · simp only [Act.put, List.setIfInBounds_toArray, List.set_cons_zero, List.set_cons_succ, i64_w, i32_w]
            rfl
          refine done_ (done_of HT_.out (by kernel_rfl)) ?_
          clear hHeld HT_ HW_
          go_wp2_with fail
          go_roundg (C.length - (i + 1))
          case measure =>
            clear hci t1 t2 t3
            have := HK.out
            have := HI.out
            omega
          case rel => exact ⟨i + 1, by first | exact congrArg _ t3 | go_num, HKN, ⟨HM.out.step HBd.out⟩, ⟨HRW.out.below HBd.out⟩⟩
        · have t1 : decide ((i : Int) < (C.length : Int)) = false := by simp; omega
          have t2 : decide (i < C.length) = false := by simp; omega
          go_wp2_with (first
            | (go_at_call 20; refine (thermionlaw01_awake.calls 10 true _ HAW.out).mono ?_; rintro e1 wE ⟨rfl, hb⟩; have HE := Aside0.mk (below_step HLB.out.old (below_step HM.out.below hb)); clear hb))
          go_ret
          exact ⟨rfl, HE.out⟩
end Go.Proofs.Ytndkkjpgnmahbaa.Print
end

section
namespace Go.Proofs.YtndkkjpgnmahbaaW.PrintWords
open Go.ChangeShapes Go.WideShapes
end Go.Proofs.YtndkkjpgnmahbaaW.PrintWords
end
