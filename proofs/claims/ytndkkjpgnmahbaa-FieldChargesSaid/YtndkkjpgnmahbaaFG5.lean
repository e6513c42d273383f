/- Part 5 of the texts of a claim about Ytndkkjpgnmahbaa, put together by a program of this work: what the Go functions do, and that their calls do so. -/
import Derived.Test.YtndkkjpgnmahbaaFG2
import Derived.Test.YtndkkjpgnmahbaaFG4
import Derived.Test.YtndkkjpgnmahbaaFG3
section
namespace Go.Proofs.Ytndkkjpgnmahbaa.Print
open Go.RowKit Go.Proofs.YtndkkjpgnmahbaaW.PrintWords Go.Proofs.YtndkkjpgnmahbaaW.PrintLast Go.Proofs.YtndkkjpgnmahbaaW.PrintMore
attribute [local go_sem] max2_int min2_int max_two min_two max_three min_three max_four min_four
set_option linter.unusedVariables false
set_option linter.unusedSimpArgs false
mutual
def thermionref01_around.j0 : Nat → Int → List Int → Int → Int → Bool → List Int → Option (List Int)
 | 0, _, _, _, _, _, _ => none
 | k + 1, x1, x5, x248000, x248001, x248002, x248003 => thermionref01_around.l0 k x1 x5 ([] : List Int) 0 x248000 x248001 x248002 x248003
def thermionref01_around.l0 : Nat → Int → List Int → List Int → Int → Int → Int → Bool → List Int → Option (List Int)
 | 0, _, _, _, _, _, _, _, _ => none
 | k + 1, x1, x5, x6, x7, x248000, x248001, x248002, x248003 => if x7 < (x5.length : Int) then (if 0 ≤ x7 then ((thermionref01_weight.f k x248000 x248001 x248002 x248003 x1 (rd x5 x7)).bind fun t255 => (if t255 > 0 then (if x6.length < 17592186044416 then (thermionref01_around.l0 k x1 x5 (x6 ++ [rd x5 x7]) (wrap64 (x7 + 1)) x248000 x248001 x248002 x248003) else (none)) else (thermionref01_around.l0 k x1 x5 x6 (wrap64 (x7 + 1)) x248000 x248001 x248002 x248003))) else (none)) else (some x6)
end
def thermionref01_around.f (k : Nat) (a0_0 : Int) (a0_1 : Int) (a0_2 : Bool) (l0_3 : List Int) (a1 : Int) : Option (List Int) := if a0_0 = 1 then (thermionref01_around.j0 k a1 (([wrap64 (a1 - 1), wrap64 (a1 + 1)] : List Int)) a0_0 a0_1 a0_2 l0_3) else (thermionref01_around.j0 k a1 (([wrap64 (a1 - a0_0), wrap64 (a1 - 1), wrap64 (a1 + 1), wrap64 (a1 + a0_0)] : List Int)) a0_0 a0_1 a0_2 l0_3)
def thermionref01_around.T8 : Bool × List (List Nat × List Nat) := (true, [([], []), ([], []), ([], []), ([], []), ([2, 3], [2, 3]), ([4], [4]), ([0, 1, 5], [0, 1, 5]), ([6], [6])])
def thermionref01_around.B8 : List Nat := [0, 0, 0, 0, 12, 28, 63, 127]
theorem thermionref01_around.tab8 : rtab .any (opsOf Try.f100 8) = thermionref01_around.T8 := by kernel_rfl
theorem thermionref01_around.bits8 : waitsOk thermionref01_around.T8.2 thermionref01_around.B8 = true := by kernel_rfl
set_option maxHeartbeats 8000000 in
set_option maxRecDepth 100000 in
theorem thermionref01_around.calls (k : Nat) (a0_0 : Int) (a0_1 : Int) (a0_2 : Bool) (A0_3 : Option Addr) (c0_3 : Nat) (l0_3 : List Int) (a1 : Int) (r : List Int) (w : World) (hr0_3 : Kd.C (Kd.int .i64) w A0_3 l0_3.length l0_3) (hc0_3 : l0_3.length ≤ c0_3) (h : thermionref01_around.f k a0_0 a0_1 a0_2 l0_3 a1 = some r) :
  Calls Try.prog 100 #[.agg #[.int .i64 a0_0, .int .i64 a0_1, .bool a0_2, .slice A0_3 l0_3.length c0_3], .int .i64 a1] w fun e w' => ∃ v0_ : Value, e = .returned (v0_) ∧ Kd.R (Kd.int .i64) 3 w' w.heap.size (fun _ => True) v0_ r ∧ Below w.heap.size w w' := by
 have hu24 := Try.underlying24
 have HR0_3 := Aside0.mk hr0_3
 have HC0_3 := Aside0.mk hc0_3
 clear hr0_3 hc0_3
 have HB := Aside0.mk (Below.refl w.heap.size w)
 have H : (if a0_0 = 1 then (thermionref01_around.j0 k a1 (([wrap64 (a1 - 1), wrap64 (a1 + 1)] : List Int)) a0_0 a0_1 a0_2 l0_3) else (thermionref01_around.j0 k a1 (([wrap64 (a1 - a0_0), wrap64 (a1 - 1), wrap64 (a1 + 1), wrap64 (a1 + a0_0)] : List Int)) a0_0 a0_1 a0_2 l0_3)) = some r := h
 clear h
 obtain ⟨y248, hy248⟩ : ∃ y_ : List Int, y_ = (([wrap64 (a1 - a0_0), wrap64 (a1 - 1), wrap64 (a1 + 1), wrap64 (a1 + a0_0)] : List Int)) := ⟨_, rfl⟩
 replace H : (if a0_0 = 1 then (thermionref01_around.j0 k a1 (([wrap64 (a1 - 1), wrap64 (a1 + 1)] : List Int)) a0_0 a0_1 a0_2 l0_3) else (thermionref01_around.j0 k a1 y248 a0_0 a0_1 a0_2 l0_3)) = some r := by first | (rw [hy248]; with_reducible exact H) | (have H2_ := (Option.bind_some _ _).symm.trans H; rw [hy248]; with_reducible exact H2_) | (have H2_ := (Option.bind_some _ _).symm.trans H; with_reducible exact H2_) | with_reducible exact H | (rw [hy248]; exact H) | exact H
 have Ny248 := Aside0.mk hy248
 clear hy248
 have HC3 := Aside0.mk H
 clear H
 go_enter Try.func100, Try.ntmps100
 go_upto_if 23 with (first | ((with_reducible refine gate_dst (N := 2) rfl ?_); refine box_event ?hg (N := 2) ?hd (cs := #[.int .i64 a0_0, .int .i64 a0_1, .bool a0_2, .slice A0_3 l0_3.length c0_3]) (t := 24) ?hr ?_; (case hd => rfl); (case hg => rfl); (case hr => first | (go_simp; done) | (go_simp; rfl)); intro gb247 hg w4 hbox hb; have n0_ := Aside0.mk (below_step (by repeat (first | (with_reducible first | exact HB.out | apply below_alloc | apply pw_below_drewN | apply below_drew1) | exact HB.out)) hb); have n1_ := Aside0.mk (hbox); have n2_ := Aside0.mk ((by rw [hg]; exact (below_size (by repeat (first | (with_reducible first | exact HB.out | apply below_alloc | apply pw_below_drewN | apply below_drew1) | exact HB.out))) : w.heap.size ≤ gb247)); have n3_ := Aside0.mk ((by rw [hg]; exact (below_size (by repeat (first | (with_reducible first | exact HB.out | apply below_alloc | apply pw_below_drewN | apply below_drew1) | exact HB.out))) : w.heap.size ≤ gb247)); clear HB; have HB := n0_; have BK247 := n1_; have GW247 := n2_; have GE247 := n3_; clear n0_ n1_ n2_ n3_; clear hb hbox hg; have hcz5_0 : w4.cell? ⟨gb247, 0, none⟩ = some (.int .i64 a0_0) := (blk_cell BK247.out 0).trans rfl; have hcz5_1 : w4.cell? ⟨gb247, 1, none⟩ = some (.int .i64 a0_1) := (blk_cell BK247.out 1).trans rfl; have hcz5_2 : w4.cell? ⟨gb247, 2, none⟩ = some (.bool a0_2) := (blk_cell BK247.out 2).trans rfl; have hcz5_3 : w4.cell? ⟨gb247, 3, none⟩ = some (.slice A0_3 l0_3.length c0_3) := (blk_cell BK247.out 3).trans rfl; have hfz5_0 := blk_frozen BK247.out 0; have hfz5_1 := blk_frozen BK247.out 1; have hfz5_2 := blk_frozen BK247.out 2; have hfz5_3 := blk_frozen BK247.out 3) | ((with_reducible refine gate_dst (N := 20) rfl ?_); refine Kd.R_lit (Kd.int .i64) _ 3 ?hg (N := 20) ?hd (xs := ([wrap64 (a1 - a0_0), wrap64 (a1 - 1), wrap64 (a1 + 1), wrap64 (a1 + a0_0)] : List Int)) (inner := [.int .i64 (wrap64 (a1 - a0_0)), .int .i64 (wrap64 (a1 - 1)), .int .i64 (wrap64 (a1 + 1)), .int .i64 (wrap64 (a1 + a0_0))]) (ok := fun _ => True) (okp := fun _ => True) ?hr ?hp (fun _ hk => hk) trivial (Below.refl _ _) (Nat.le_refl _) (by simp) ?_; (case hd => rfl); (case hg => rfl); (case hr => first | (go_simp; done) | (go_simp; rfl)); (case hp => exact (Reps.one (show Kd.M (Kd.int .i64) _ _ _ (wrap64 (a1 - a0_0)) [.int .i64 (wrap64 (a1 - a0_0))] from rfl) (Reps.one (show Kd.M (Kd.int .i64) _ _ _ (wrap64 (a1 - 1)) [.int .i64 (wrap64 (a1 - 1))] from rfl) (Reps.one (show Kd.M (Kd.int .i64) _ _ _ (wrap64 (a1 + 1)) [.int .i64 (wrap64 (a1 + 1))] from rfl) (Reps.one (show Kd.M (Kd.int .i64) _ _ _ (wrap64 (a1 + a0_0)) [.int .i64 (wrap64 (a1 + a0_0))] from rfl) (Reps.none _ _)))))); intro v249 w6 ho7 hb hg_ hnew_; clear hg_ hnew_; (first | rw [← Ny248.out] at ho7 | (simp only [Int.reduceToNat] at ho7; rw [← Ny248.out] at ho7)); have n0_ := Aside0.mk (Kd.R_lower ho7 (below_size (by repeat (first | (with_reducible first | exact HB.out | apply below_alloc | apply pw_below_drewN | apply below_drew1 | refine below_set ?_ GE247.out) | exact HB.out)))); have n1_ := Aside0.mk (blk_below (g := gb247) (o := .cells #[.int .i64 a0_0, .int .i64 a0_1, .bool a0_2, .slice A0_3 l0_3.length c0_3] 24 (0, 0)) (by (with_reducible repeat (first | refine blk_drewN ?_ _ | refine blk_drew ?_ | refine blk_alloc ?_ _)); exact BK247.out) hb); have n2_ := Aside0.mk (below_step (by repeat (first | (with_reducible first | exact HB.out | apply below_alloc | apply pw_below_drewN | apply below_drew1 | refine below_set ?_ GE247.out) | exact HB.out)) hb); clear BK247; clear HB; have HO250 := n0_; have BK247 := n1_; have HB := n2_; clear n0_ n1_ n2_; clear hb ho7; have hcz8_0 : w6.cell? ⟨gb247, 0, none⟩ = some (.int .i64 a0_0) := (blk_cell BK247.out 0).trans rfl; have hcz8_1 : w6.cell? ⟨gb247, 1, none⟩ = some (.int .i64 a0_1) := (blk_cell BK247.out 1).trans rfl; have hcz8_2 : w6.cell? ⟨gb247, 2, none⟩ = some (.bool a0_2) := (blk_cell BK247.out 2).trans rfl; have hcz8_3 : w6.cell? ⟨gb247, 3, none⟩ = some (.slice A0_3 l0_3.length c0_3) := (blk_cell BK247.out 3).trans rfl; have hfz8_0 := blk_frozen BK247.out 0; have hfz8_1 := blk_frozen BK247.out 1; have hfz8_2 := blk_frozen BK247.out 2; have hfz8_3 := blk_frozen BK247.out 3))
 (try simp only [Act.put, List.setIfInBounds_toArray, List.set_cons_zero, List.set_cons_succ])
 go_cut [5] (fun v5 wc => ∃ (kq : Nat) (x5_2 : List Int), Aside0 (thermionref01_around.j0 kq a1 x5_2 a0_0 a0_1 a0_2 l0_3 = some r) ∧ Aside0 (kq ≤ k) ∧ Aside0 (Kd.R (Kd.int .i64) 3 wc w.heap.size (fun _ => True) v5 x5_2) ∧ Aside0 (wc.heap[gb247]? = some (.cells #[.int .i64 a0_0, .int .i64 a0_1, .bool a0_2, (.slice A0_3 l0_3.length c0_3)] 24 (0, 0))) ∧ Aside0 (Below w.heap.size w wc))
 case first =>
  have H := HC3.out
  clear HC3
  by_cases c9 : a0_0 = 1
  ·rw [if_pos c9] at H
   have c9b0 : (a0_0 == 1) = true := beq_iff_eq.mpr c9
   have c9b1 : (a0_0 != 1) = false := bne_eq_false_iff_eq.mpr c9
   clear c9
   (first | rw [c9b0] | (simp only [i64_w, i32_w]; rw [c9b0]) | skip)
   obtain ⟨y251, hy251⟩ : ∃ y_ : List Int, y_ = (([wrap64 (a1 - 1), wrap64 (a1 + 1)] : List Int)) := ⟨_, rfl⟩
   replace H : (thermionref01_around.j0 k a1 y251 a0_0 a0_1 a0_2 l0_3) = some r := by first | (rw [hy251]; with_reducible exact H) | (have H2_ := (Option.bind_some _ _).symm.trans H; rw [hy251]; with_reducible exact H2_) | (have H2_ := (Option.bind_some _ _).symm.trans H; with_reducible exact H2_) | with_reducible exact H | (rw [hy251]; exact H) | exact H
   have Ny251 := Aside0.mk hy251
   clear hy251
   have H' := Aside0.mk H
   clear H
   go_wp2_with (first | ((with_reducible refine gate_dst (N := 28) rfl ?_); refine Kd.R_lit (Kd.int .i64) _ 3 ?hg (N := 28) ?hd (xs := ([wrap64 (a1 - 1), wrap64 (a1 + 1)] : List Int)) (inner := [.int .i64 (wrap64 (a1 - 1)), .int .i64 (wrap64 (a1 + 1))]) (ok := fun _ => True) (okp := fun _ => True) ?hr ?hp (fun _ hk => hk) trivial (Below.refl _ _) (Nat.le_refl _) (by simp) ?_; (case hd => rfl); (case hg => rfl); (case hr => first | (go_simp; done) | (go_simp; rfl)); (case hp => exact (Reps.one (show Kd.M (Kd.int .i64) _ _ _ (wrap64 (a1 - 1)) [.int .i64 (wrap64 (a1 - 1))] from rfl) (Reps.one (show Kd.M (Kd.int .i64) _ _ _ (wrap64 (a1 + 1)) [.int .i64 (wrap64 (a1 + 1))] from rfl) (Reps.none _ _)))); intro v252 w10 ho11 hb hg_ hnew_; clear hg_ hnew_; (first | rw [← Ny251.out] at ho11 | (simp only [Int.reduceToNat] at ho11; rw [← Ny251.out] at ho11)); have n0_ := Aside0.mk (Kd.R_elder' (by (with_reducible repeat (first | apply Kd.R_alloc | apply Kd.R_drewN | apply Kd.R_drew)); exact HO250.out) (Kd.R_base ho11) hb); have n1_ := Aside0.mk (Kd.R_lower (Kd.R_new' ho11 (Kd.R_lt (by (with_reducible repeat (first | apply Kd.R_alloc | apply Kd.R_drewN | apply Kd.R_drew)); exact HO250.out))) (below_size (by repeat (first | (with_reducible first | exact HB.out | apply below_alloc | apply pw_below_drewN | apply below_drew1 | refine below_set ?_ GE247.out) | exact HB.out)))); have n2_ := Aside0.mk (blk_below (g := gb247) (o := .cells #[.int .i64 a0_0, .int .i64 a0_1, .bool a0_2, .slice A0_3 l0_3.length c0_3] 24 (0, 0)) (by (with_reducible repeat (first | refine blk_drewN ?_ _ | refine blk_drew ?_ | refine blk_alloc ?_ _)); exact BK247.out) hb); have n3_ := Aside0.mk (below_step (by repeat (first | (with_reducible first | exact HB.out | apply below_alloc | apply pw_below_drewN | apply below_drew1 | refine below_set ?_ GE247.out) | exact HB.out)) hb); clear HO250; clear BK247; clear HB; have HO250 := n0_; have HO253 := n1_; have BK247 := n2_; have HB := n3_; clear n0_ n1_ n2_ n3_; clear hb ho11))
   go_meet
   case rel => exact ⟨_, (y251), H', ⟨by first | omega | exact Nat.le_refl _⟩, ⟨by (with_reducible repeat (first | apply Kd.R_alloc | apply Kd.R_drewN | apply Kd.R_drew)); exact Kd.R_mono HO253.out (fun _ hk => trivial)⟩, ⟨by (with_reducible repeat (first | refine blk_drewN ?_ _ | refine blk_drew ?_ | refine blk_alloc ?_ _)); exact BK247.out⟩, ⟨by repeat (first | (with_reducible first | exact HB.out | apply below_alloc | apply pw_below_drewN | apply below_drew1 | refine below_set ?_ GE247.out) | exact HB.out)⟩⟩
  ·rw [if_neg c9] at H
   have c9b0 : (a0_0 == 1) = false := beq_eq_false_iff_ne.mpr c9
   have c9b1 : (a0_0 != 1) = true := bne_iff_ne.mpr c9
   (first | rw [c9b0] | (simp only [i64_w, i32_w]; rw [c9b0]) | skip)
   have H' := Aside0.mk H
   clear H
   go_wp2
   go_meet
   case rel => exact ⟨_, (y248), H', ⟨by first | omega | exact Nat.le_refl _⟩, ⟨by (with_reducible repeat (first | apply Kd.R_alloc | apply Kd.R_drewN | apply Kd.R_drew)); exact HO250.out⟩, ⟨by (with_reducible repeat (first | refine blk_drewN ?_ _ | refine blk_drew ?_ | refine blk_alloc ?_ _)); exact BK247.out⟩, ⟨by repeat (first | (with_reducible first | exact HB.out | apply below_alloc | apply pw_below_drewN | apply below_drew1 | refine below_set ?_ GE247.out) | exact HB.out)⟩⟩
 case rest =>
  clear HC3
  try clear c1
  try clear p2
  try clear p6
  try clear c9
  try clear c9b0
  try clear c9b1
  try clear c10
  try clear hcz5_0
  try clear hcz5_1
  try clear hcz5_2
  try clear hcz5_3
  try clear hcz8_0
  try clear hcz8_1
  try clear hcz8_2
  try clear hcz8_3
  try clear hfz5_0
  try clear hfz5_1
  try clear hfz5_2
  try clear hfz5_3
  try clear hfz8_0
  try clear hfz8_1
  try clear hfz8_2
  try clear hfz8_3
  obtain ⟨kq, x5_2, HA, HJ2, HO_5, BK247, HB⟩ := hcut
  cases kq with
  | zero => exact absurd HA.out (by simp [thermionref01_around.j0])
  | succ kj2 =>
   have H := HA.out
   clear HA
   simp only [thermionref01_around.j0] at H
   have H' := Aside0.mk H
   clear H
   go_wp2
   go_loopg [6, 7] kj2 (fun kq v6 v7 w' => ∃ (x6_2 : List Int) (x7_2 : Int), v7 = .int .i64 x7_2 ∧ Aside0 (thermionref01_around.l0 kq a1 x5_2 x6_2 x7_2 a0_0 a0_1 a0_2 l0_3 = some r) ∧ Aside0 (kq ≤ kj2) ∧ Aside0 (Kd.R (Kd.int .i64) 3 w' w.heap.size (fun k_ => some k_ ≠ (v6 : Value).ownBlock) u5 x5_2) ∧ Aside0 (Kd.R (Kd.int .i64) 3 w' w.heap.size (fun k_ => some k_ ≠ (u5 : Value).ownBlock) v6 x6_2) ∧ Aside0 (w'.heap[gb247]? = some (.cells #[.int .i64 a0_0, .int .i64 a0_1, .bool a0_2, (.slice A0_3 l0_3.length c0_3)] 24 (0, 0))) ∧ Aside0 (Below w.heap.size w w'))
   case atStart => exact ⟨(([] : List Int)), (0), (by first | rfl | (simp; done) | (simp [*]; done)), H', ⟨Nat.le_refl _⟩, ⟨by (with_reducible repeat (first | apply Kd.R_alloc | apply Kd.R_drewN | apply Kd.R_drew)); exact Kd.R_mono HO_5.out (fun _ hk => (by simp [Value.ownBlock]))⟩, ⟨by first | exact Kd.R_nil _ _ _ _ _ | exact Kd.N_nil _ _ _ _ _ | exact Kd.V_nil _ _ _ _ _ | exact Kd.Q_nil _ _ _ _ _ | exact Kd.S_nil _ _ _ _ _⟩, ⟨by (with_reducible repeat (first | refine blk_drewN ?_ _ | refine blk_drew ?_ | refine blk_alloc ?_ _)); exact BK247.out⟩, ⟨by repeat (first | (with_reducible first | exact HB.out | apply below_alloc | apply pw_below_drewN | apply below_drew1 | refine below_set ?_ GE247.out) | exact HB.out)⟩⟩
   case round =>
    clear H'
    try clear c1
    try clear p2
    try clear p6
    try clear c9
    try clear c9b0
    try clear c9b1
    try clear c10
    try clear hcz5_0
    try clear hcz5_1
    try clear hcz5_2
    try clear hcz5_3
    try clear hcz8_0
    try clear hcz8_1
    try clear hcz8_2
    try clear hcz8_3
    try clear hfz5_0
    try clear hfz5_1
    try clear hfz5_2
    try clear hfz5_3
    try clear hfz8_0
    try clear hfz8_1
    try clear hfz8_2
    try clear hfz8_3
    try clear p2
    try clear p6
    obtain ⟨x6_2, x7_2, rfl, HA, HK2, HO_5, HO_6, BK247, HB⟩ := hrel
    cases gk with
    | zero => exact absurd HA.out (by simp [thermionref01_around.l0])
    | succ k2 =>
     have H := HA.out
     clear HA
     simp only [thermionref01_around.l0] at H
     by_cases c12 : x7_2 < (x5_2.length : Int)
     ·rw [if_pos c12] at H
      have c12b0 := decide_eq_true c12
      clear c12
      by_cases c13 : 0 ≤ x7_2
      ·rw [if_pos c13] at H
       have c13b0 := decide_eq_true c13
       clear c13
       replace H := Option.bind_eq_some_iff.mp H
       obtain ⟨t255, A140, H⟩ := H
       replace H : (if t255 > 0 then (if x6_2.length < 17592186044416 then (thermionref01_around.l0 k2 a1 x5_2 (x6_2 ++ [rd x5_2 x7_2]) (wrap64 (x7_2 + 1)) a0_0 a0_1 a0_2 l0_3) else (none)) else (thermionref01_around.l0 k2 a1 x5_2 x6_2 (wrap64 (x7_2 + 1)) a0_0 a0_1 a0_2 l0_3)) = some r := H
       have A14 := Aside0.mk A140
       clear A140
       by_cases c15 : t255 > 0
       ·rw [if_pos c15] at H
        have c15b0 := decide_eq_true c15
        clear c15
        by_cases c16 : x6_2.length < 17592186044416
        ·rw [if_pos c16] at H
         have LMc16 := Aside0.mk c16
         clear c16
         obtain ⟨y257, hy257⟩ : ∃ y_ : List Int, y_ = (x6_2 ++ [rd x5_2 x7_2]) := ⟨_, rfl⟩
         replace H : (thermionref01_around.l0 k2 a1 x5_2 y257 (wrap64 (x7_2 + 1)) a0_0 a0_1 a0_2 l0_3) = some r := by first | (rw [hy257]; with_reducible exact H) | (have H2_ := (Option.bind_some _ _).symm.trans H; rw [hy257]; with_reducible exact H2_) | (have H2_ := (Option.bind_some _ _).symm.trans H; with_reducible exact H2_) | with_reducible exact H | (rw [hy257]; exact H) | exact H
         have Ny257 := Aside0.mk hy257
         clear hy257
         have H' := Aside0.mk H
         clear H
         obtain ⟨Ao17, co17, eo17⟩ := Kd.R_slice HO_5.out
         subst eo17
         try go_wp2
         have n0_ := Aside0.mk (Kd.R_drew HO_5.out)
         have n1_ := Aside0.mk (Kd.R_drew HO_6.out)
         have n2_ := Aside0.mk (blk_drew BK247.out)
         have n3_ := Aside0.mk (below_drew1 HB.out)
         clear HO_5 HO_6 BK247 HB
         have HO_5 := n0_
         have HO_6 := n1_
         have BK247 := n2_
         have HB := n3_
         clear n0_ n1_ n2_ n3_
         have p254 : 0 ≤ (x7_2 : Int) := of_decide_eq_true (by first | (with_reducible assumption) | assumption)
         have q254 : x7_2 < (x5_2.length : Int) := of_decide_eq_true (by first | (with_reducible assumption) | assumption)
         obtain ⟨ad254, e254, hx254_0⟩ := Kd.at_int (Kd.R_reads' HO_5.out).2.2 x7_2 p254 q254
         cases e254
         replace p254 := eq_true p254
         replace q254 := eq_true q254
         refine start_ (n := 8) (S := fun w' => w'.cell? ⟨gb247, 0, none⟩ = some (.int .i64 a0_0) ∧ w'.cell? ⟨gb247, 1, none⟩ = some (.int .i64 a0_1) ∧ w'.cell? ⟨gb247, 2, none⟩ = some (.bool a0_2) ∧ w'.cell? ⟨gb247, 3, none⟩ = some (.slice A0_3 l0_3.length c0_3) ∧ w'.cell? (ad254.add (x7_2).toNat) = some (.int .i64 (rd x5_2 x7_2))) (ds := []) #[false, false, false, false, false, false, false, false] (by kernel_rfl) rfl rfl ⟨(blk_cell BK247.out 0).trans rfl, (blk_cell BK247.out 1).trans rfl, (blk_cell BK247.out 2).trans rfl, (blk_cell BK247.out 3).trans rfl, hx254_0⟩ (fun hHeld => ?_); refine with_tabW thermionref01_around.tab8 thermionref01_around.bits8 (fun HT_ HW_ => ?_)
         generalize wr.drew = w18 at HO_5 HO_6 BK247 HB hx254_0 hHeld ⊢
         refine pure_ (i := 1) (N := some 36) (v := ?_) (a' := ?_) #[false, true, false, false, false, false, false, false] rfl rfl (any_of HT_.out (by kernel_rfl)) (fun _ _ _ h => h) (Or.inl ⟨by rfl, ?_⟩) ?_ ?_
         rotate_left
         ·intro w'
          go_simp
          with_reducible rfl
         rotate_left
         ·simp only [Act.put, List.setIfInBounds_toArray, List.set_cons_zero, List.set_cons_succ, i64_w, i32_w]
          rfl
         refine pure_ (i := 2) (N := some 37) (v := ?_) (a' := ?_) #[false, true, true, false, false, false, false, false] rfl rfl (any_of HT_.out (by kernel_rfl)) (fun _ _ _ h => h) (Or.inl ⟨by rfl, ?_⟩) ?_ ?_
         rotate_left
         ·intro w'
          go_simp
          with_reducible rfl
         rotate_left
         ·simp only [Act.put, List.setIfInBounds_toArray, List.set_cons_zero, List.set_cons_succ, i64_w, i32_w]
          rfl
         refine pure_ (i := 3) (N := some 38) (v := ?_) (a' := ?_) #[false, true, true, true, false, false, false, false] rfl rfl (any_of HT_.out (by kernel_rfl)) (fun _ _ _ h => h) (Or.inl ⟨by rfl, ?_⟩) ?_ ?_
         rotate_left
         ·intro w'
          go_simp
          with_reducible rfl
         rotate_left
         ·simp only [Act.put, List.setIfInBounds_toArray, List.set_cons_zero, List.set_cons_succ, i64_w, i32_w]
          rfl
         refine pure_ (i := 4) (N := some 39) (v := ?_) (a' := ?_) #[false, true, true, true, true, false, false, false] rfl rfl (any_of HT_.out (by kernel_rfl)) (fun _ _ _ h => h) (Or.inl ⟨by rfl, ?_⟩) ?_ ?_
         rotate_left
         ·intro w'
          go_simp
          with_reducible rfl
         rotate_left
         ·simp only [Act.put, List.setIfInBounds_toArray, List.set_cons_zero, List.set_cons_succ, i64_w, i32_w]
          rfl
         refine take_ (i := 0) (N := some 35) (v := ?_) (a' := ?_) #[true, true, true, true, true, false, false, false] rfl rfl (take_ofW HT_.out HW_.out (by kernel_rfl)) (fun _ _ _ h => h) (Or.inl ⟨by rfl, ?_⟩) hHeld ?_ ?_
         rotate_left
         ·rintro w' ⟨s0, s1, s2, s3, s4⟩
          go_simp
          with_reducible rfl
         rotate_left
         ·simp only [Act.put, List.setIfInBounds_toArray, List.set_cons_zero, List.set_cons_succ, i64_w, i32_w]
          rfl
         refine take_ (i := 5) (N := some 40) (v := ?_) (a' := ?_) #[true, true, true, true, true, true, false, false] rfl rfl (take_ofW HT_.out HW_.out (by kernel_rfl)) (fun _ _ _ h => h) (Or.inl ⟨by rfl, ?_⟩) hHeld ?_ ?_
         rotate_left
         ·rintro w' ⟨s0, s1, s2, s3, s4⟩
          go_simp
          with_reducible rfl
         rotate_left
         ·simp only [Act.put, List.setIfInBounds_toArray, List.set_cons_zero, List.set_cons_succ, i64_w, i32_w]
          rfl
         refine one_ (i := 6) (N := some 41) #[true, true, true, true, true, true, true, false] rfl rfl (one_of HT_.out (by kernel_rfl)) (by decide) (fun K hK => ?_)
         refine goes_ Try.func81 (by kernel_rfl) rfl #[.agg #[.int .i64 a0_0, .int .i64 a0_1, .bool a0_2, .slice A0_3 l0_3.length c0_3], .int .i64 a1, .int .i64 (rd x5_2 x7_2)] (by rfl) rfl rfl (by (try simp only [List.map_toArray, List.map_cons, List.map_nil]); first | done | rfl | (simp only [List.length_drop, List.length_take]; rfl)) ?_
         with_reducible refine (thermionref01_weight.calls k2 a0_0 a0_1 a0_2 _ _ l0_3 a1 (rd x5_2 x7_2) t255 _ ?side1 ?side2 A14.out).mono ?_
         (case side1 => repeat (first | exact (Kd.C_below HR0_3.out HB.out) | (with_reducible refine Kd.C_alloc ?_ _) | (with_reducible refine Kd.C_drewN ?_ _) | (with_reducible refine Kd.C_drew ?_)))
         (case side2 => exact HC0_3.out)
         rintro e w19 ⟨rfl, hb⟩
         have HS4_ := (hb.cell (World.block_lt_of_cell? _ _ (hHeld.2.2.2.2))).trans (hHeld.2.2.2.2)
         refine ⟨_, rfl, ?_⟩
         have n0_ := Aside0.mk (Kd.R_below (by (with_reducible repeat (first | apply Kd.R_alloc | apply Kd.R_drewN | apply Kd.R_drew)); exact HO_5.out) hb)
         have n1_ := Aside0.mk (Kd.R_below (by (with_reducible repeat (first | apply Kd.R_alloc | apply Kd.R_drewN | apply Kd.R_drew)); exact HO_6.out) hb)
         have n2_ := Aside0.mk (blk_below (g := gb247) (o := .cells #[.int .i64 a0_0, .int .i64 a0_1, .bool a0_2, .slice A0_3 l0_3.length c0_3] 24 (0, 0)) (by (with_reducible repeat (first | refine blk_drewN ?_ _ | refine blk_drew ?_ | refine blk_alloc ?_ _)); exact BK247.out) hb)
         have n3_ := Aside0.mk (below_step (by repeat (first | (with_reducible first | exact HB.out | apply below_alloc | apply pw_below_drewN | apply below_drew1 | refine below_set ?_ GE247.out) | exact HB.out)) hb)
         clear HO_5 HO_6 BK247 HB
         have HO_5 := n0_
         have HO_6 := n1_
         have BK247 := n2_
         have HB := n3_
         clear n0_ n1_ n2_ n3_
         (try clear hb)
         (try clear hb2)
         (try clear hk)
         (try clear hi)
         refine hK.out _ _ ⟨(blk_cell BK247.out 0).trans rfl, (blk_cell BK247.out 1).trans rfl, (blk_cell BK247.out 2).trans rfl, (blk_cell BK247.out 3).trans rfl, HS4_⟩ (fun hHeld => ?_)
         clear hK K
         refine norm_ (a' := ?_) ?_ ?_
         rotate_left
         ·show Act.put _ (some 41) _ = _
          simp only [Act.put, List.setIfInBounds_toArray, List.set_cons_zero, List.set_cons_succ, i64_w, i32_w]
          rfl
         refine pure_ (i := 7) (N := some 42) (v := ?_) (a' := ?_) #[true, true, true, true, true, true, true, true] rfl rfl (any_of HT_.out (by kernel_rfl)) (fun _ _ _ h => h) (Or.inl ⟨by rfl, ?_⟩) ?_ ?_
         rotate_left
         ·intro w'
          go_simp
          with_reducible rfl
         rotate_left
         ·simp only [Act.put, List.setIfInBounds_toArray, List.set_cons_zero, List.set_cons_succ, i64_w, i32_w]
          rfl
         refine done_ (done_of HT_.out (by kernel_rfl)) ?_
         have p256 : 0 ≤ (x7_2 : Int) := of_decide_eq_true (by first | (with_reducible assumption) | assumption)
         have q256 : x7_2 < (x5_2.length : Int) := of_decide_eq_true (by first | (with_reducible assumption) | assumption)
         obtain ⟨ad256, e256, hx256_0⟩ := Kd.at_int (Kd.R_reads' HO_5.out).2.2 x7_2 p256 q256
         obtain rfl : ad254 = ad256 := (by injection e256)
         replace p256 := eq_true p256
         replace q256 := eq_true q256
         try go_wp2_with (first | ((with_reducible refine gate_builtin (b := .append) (xs := #[.tmp 43, .tmp 48]) rfl ?_); at_builtin; refine Kd.R_append (Kd.int .i64) (w0 := w) w.heap.size rfl (.tmp 43) (.tmp 48) 22 3 (.int .i64 0) 8 rfl Try.underlying22 info3 rfl (by decide) (by omega) u6 x6_2 (rd x5_2 x7_2) [.int .i64 (rd x5_2 x7_2)] (fun k_ => some k_ ≠ (.slice (some ad254) x5_2.length co17 : Value).ownBlock) (fun _ => False) rfl rfl ?aP (fun _ hk => hk.elim) ?aF ?aO ?aB ?aS ?aL ?_; (case aP => exact rfl); (case aB => exact (by repeat (first | (with_reducible first | exact HB.out | apply below_alloc | apply pw_below_drewN | apply below_drew1 | refine below_set ?_ GE247.out) | exact HB.out))); (case aF => exact (fun k_ hk => Kd.fresh' (Kd.R_lt (by (with_reducible repeat (first | apply Kd.R_alloc | apply Kd.R_drewN | apply Kd.R_drew)); exact HO_5.out)) k_ hk)); (case aO => exact (by (with_reducible repeat (first | apply Kd.R_alloc | apply Kd.R_drewN | apply Kd.R_drew)); exact HO_6.out)); (case aS => exact (below_size (by repeat (first | (with_reducible first | exact HB.out | apply below_alloc | apply pw_below_drewN | apply below_drew1 | refine below_set ?_ GE247.out) | exact HB.out)))); (case aL => have := LMc16.out; omega); intro v258 w20 ho hb hg hat; rw [← Ny257.out] at ho; have n0_ := Aside0.mk (Kd.R_after (ok := (fun _ => True)) (by (with_reducible repeat (first | apply Kd.R_alloc | apply Kd.R_drewN | apply Kd.R_drew)); exact Kd.R_mono HO_5.out (fun _ hk => ⟨trivial, hk⟩)) hg hat); have n1_ := Aside0.mk (blk_grown (g := gb247) (o := .cells #[.int .i64 a0_0, .int .i64 a0_1, .bool a0_2, .slice A0_3 l0_3.length c0_3] 24 (0, 0)) (by (with_reducible repeat (first | refine blk_drewN ?_ _ | refine blk_drew ?_ | refine blk_alloc ?_ _)); exact BK247.out) hg (Kd.R_ne HO_6.out BK247.out (by decide))); have n2_ := Aside0.mk (hb); have n3_ := Aside0.mk (ho); clear HO_5; clear BK247; clear HB; clear HO_6; have HO_5 := n0_; have BK247 := n1_; have HB := n2_; have HO259 := n3_; clear n0_ n1_ n2_ n3_; clear ho hb hg hat))
         go_roundg k2
         case measure => have := HJ2.out; have := HK2.out; omega
         case rel => exact ⟨(y257), (wrap64 (x7_2 + 1)), (by first | rfl | (simp; done) | (simp [*]; done)), H', ⟨by have := HJ2.out; have := HK2.out; omega⟩, ⟨by (with_reducible repeat (first | apply Kd.R_alloc | apply Kd.R_drewN | apply Kd.R_drew)); exact Kd.R_mono HO_5.out (fun _ hk => hk.2)⟩, ⟨by (with_reducible repeat (first | apply Kd.R_alloc | apply Kd.R_drewN | apply Kd.R_drew)); exact HO259.out⟩, ⟨by (with_reducible repeat (first | refine blk_drewN ?_ _ | refine blk_drew ?_ | refine blk_alloc ?_ _)); exact BK247.out⟩, ⟨by repeat (first | (with_reducible first | exact HB.out | apply below_alloc | apply pw_below_drewN | apply below_drew1 | refine below_set ?_ GE247.out) | exact HB.out)⟩⟩
        ·rw [if_neg c16] at H
         exact absurd H (by simp)
       ·rw [if_neg c15] at H
        have c15b0 := decide_eq_false c15
        clear c15
        have H' := Aside0.mk H
        clear H
        obtain ⟨Ao21, co21, eo21⟩ := Kd.R_slice HO_5.out
        subst eo21
        try go_wp2
        have n0_ := Aside0.mk (Kd.R_drew HO_5.out)
        have n1_ := Aside0.mk (Kd.R_drew HO_6.out)
        have n2_ := Aside0.mk (blk_drew BK247.out)
        have n3_ := Aside0.mk (below_drew1 HB.out)
        clear HO_5 HO_6 BK247 HB
        have HO_5 := n0_
        have HO_6 := n1_
        have BK247 := n2_
        have HB := n3_
        clear n0_ n1_ n2_ n3_
        have p254 : 0 ≤ (x7_2 : Int) := of_decide_eq_true (by first | (with_reducible assumption) | assumption)
        have q254 : x7_2 < (x5_2.length : Int) := of_decide_eq_true (by first | (with_reducible assumption) | assumption)
        obtain ⟨ad254, e254, hx254_0⟩ := Kd.at_int (Kd.R_reads' HO_5.out).2.2 x7_2 p254 q254
        cases e254
        replace p254 := eq_true p254
        replace q254 := eq_true q254
        refine start_ (n := 8) (S := fun w' => w'.cell? ⟨gb247, 0, none⟩ = some (.int .i64 a0_0) ∧ w'.cell? ⟨gb247, 1, none⟩ = some (.int .i64 a0_1) ∧ w'.cell? ⟨gb247, 2, none⟩ = some (.bool a0_2) ∧ w'.cell? ⟨gb247, 3, none⟩ = some (.slice A0_3 l0_3.length c0_3) ∧ w'.cell? (ad254.add (x7_2).toNat) = some (.int .i64 (rd x5_2 x7_2))) (ds := []) #[false, false, false, false, false, false, false, false] (by kernel_rfl) rfl rfl ⟨(blk_cell BK247.out 0).trans rfl, (blk_cell BK247.out 1).trans rfl, (blk_cell BK247.out 2).trans rfl, (blk_cell BK247.out 3).trans rfl, hx254_0⟩ (fun hHeld => ?_); refine with_tabW thermionref01_around.tab8 thermionref01_around.bits8 (fun HT_ HW_ => ?_)
        generalize wr.drew = w22 at HO_5 HO_6 BK247 HB hx254_0 hHeld ⊢
        refine pure_ (i := 1) (N := some 36) (v := ?_) (a' := ?_) #[false, true, false, false, false, false, false, false] rfl rfl (any_of HT_.out (by kernel_rfl)) (fun _ _ _ h => h) (Or.inl ⟨by rfl, ?_⟩) ?_ ?_
        rotate_left
        ·intro w'
         go_simp
         with_reducible rfl
        rotate_left
        ·simp only [Act.put, List.setIfInBounds_toArray, List.set_cons_zero, List.set_cons_succ, i64_w, i32_w]
         rfl
        refine pure_ (i := 2) (N := some 37) (v := ?_) (a' := ?_) #[false, true, true, false, false, false, false, false] rfl rfl (any_of HT_.out (by kernel_rfl)) (fun _ _ _ h => h) (Or.inl ⟨by rfl, ?_⟩) ?_ ?_
        rotate_left
        ·intro w'
         go_simp
         with_reducible rfl
        rotate_left
        ·simp only [Act.put, List.setIfInBounds_toArray, List.set_cons_zero, List.set_cons_succ, i64_w, i32_w]
         rfl
        refine pure_ (i := 3) (N := some 38) (v := ?_) (a' := ?_) #[false, true, true, true, false, false, false, false] rfl rfl (any_of HT_.out (by kernel_rfl)) (fun _ _ _ h => h) (Or.inl ⟨by rfl, ?_⟩) ?_ ?_
        rotate_left
        ·intro w'
         go_simp
         with_reducible rfl
        rotate_left
        ·simp only [Act.put, List.setIfInBounds_toArray, List.set_cons_zero, List.set_cons_succ, i64_w, i32_w]
         rfl
        refine pure_ (i := 4) (N := some 39) (v := ?_) (a' := ?_) #[false, true, true, true, true, false, false, false] rfl rfl (any_of HT_.out (by kernel_rfl)) (fun _ _ _ h => h) (Or.inl ⟨by rfl, ?_⟩) ?_ ?_
        rotate_left
        ·intro w'
         go_simp
         with_reducible rfl
        rotate_left
        ·simp only [Act.put, List.setIfInBounds_toArray, List.set_cons_zero, List.set_cons_succ, i64_w, i32_w]
         rfl
        refine take_ (i := 0) (N := some 35) (v := ?_) (a' := ?_) #[true, true, true, true, true, false, false, false] rfl rfl (take_ofW HT_.out HW_.out (by kernel_rfl)) (fun _ _ _ h => h) (Or.inl ⟨by rfl, ?_⟩) hHeld ?_ ?_
        rotate_left
        ·rintro w' ⟨s0, s1, s2, s3, s4⟩
         go_simp
         with_reducible rfl
        rotate_left
        ·simp only [Act.put, List.setIfInBounds_toArray, List.set_cons_zero, List.set_cons_succ, i64_w, i32_w]
         rfl
        refine take_ (i := 5) (N := some 40) (v := ?_) (a' := ?_) #[true, true, true, true, true, true, false, false] rfl rfl (take_ofW HT_.out HW_.out (by kernel_rfl)) (fun _ _ _ h => h) (Or.inl ⟨by rfl, ?_⟩) hHeld ?_ ?_
        rotate_left
        ·rintro w' ⟨s0, s1, s2, s3, s4⟩
         go_simp
         with_reducible rfl
        rotate_left
        ·simp only [Act.put, List.setIfInBounds_toArray, List.set_cons_zero, List.set_cons_succ, i64_w, i32_w]
         rfl
        refine one_ (i := 6) (N := some 41) #[true, true, true, true, true, true, true, false] rfl rfl (one_of HT_.out (by kernel_rfl)) (by decide) (fun K hK => ?_)
        refine goes_ Try.func81 (by kernel_rfl) rfl #[.agg #[.int .i64 a0_0, .int .i64 a0_1, .bool a0_2, .slice A0_3 l0_3.length c0_3], .int .i64 a1, .int .i64 (rd x5_2 x7_2)] (by rfl) rfl rfl (by (try simp only [List.map_toArray, List.map_cons, List.map_nil]); first | done | rfl | (simp only [List.length_drop, List.length_take]; rfl)) ?_
        with_reducible refine (thermionref01_weight.calls k2 a0_0 a0_1 a0_2 _ _ l0_3 a1 (rd x5_2 x7_2) t255 _ ?side1 ?side2 A14.out).mono ?_
        (case side1 => repeat (first | exact (Kd.C_below HR0_3.out HB.out) | (with_reducible refine Kd.C_alloc ?_ _) | (with_reducible refine Kd.C_drewN ?_ _) | (with_reducible refine Kd.C_drew ?_)))
        (case side2 => exact HC0_3.out)
        rintro e w23 ⟨rfl, hb⟩
        have HS4_ := (hb.cell (World.block_lt_of_cell? _ _ (hHeld.2.2.2.2))).trans (hHeld.2.2.2.2)
        refine ⟨_, rfl, ?_⟩
        have n0_ := Aside0.mk (Kd.R_below (by (with_reducible repeat (first | apply Kd.R_alloc | apply Kd.R_drewN | apply Kd.R_drew)); exact HO_5.out) hb)
        have n1_ := Aside0.mk (Kd.R_below (by (with_reducible repeat (first | apply Kd.R_alloc | apply Kd.R_drewN | apply Kd.R_drew)); exact HO_6.out) hb)
        have n2_ := Aside0.mk (blk_below (g := gb247) (o := .cells #[.int .i64 a0_0, .int .i64 a0_1, .bool a0_2, .slice A0_3 l0_3.length c0_3] 24 (0, 0)) (by (with_reducible repeat (first | refine blk_drewN ?_ _ | refine blk_drew ?_ | refine blk_alloc ?_ _)); exact BK247.out) hb)
        have n3_ := Aside0.mk (below_step (by repeat (first | (with_reducible first | exact HB.out | apply below_alloc | apply pw_below_drewN | apply below_drew1 | refine below_set ?_ GE247.out) | exact HB.out)) hb)
        clear HO_5 HO_6 BK247 HB
        have HO_5 := n0_
        have HO_6 := n1_
        have BK247 := n2_
        have HB := n3_
        clear n0_ n1_ n2_ n3_
        (try clear hb)
        (try clear hb2)
        (try clear hk)
        (try clear hi)
        refine hK.out _ _ ⟨(blk_cell BK247.out 0).trans rfl, (blk_cell BK247.out 1).trans rfl, (blk_cell BK247.out 2).trans rfl, (blk_cell BK247.out 3).trans rfl, HS4_⟩ (fun hHeld => ?_)
        clear hK K
        refine norm_ (a' := ?_) ?_ ?_
        rotate_left
        ·show Act.put _ (some 41) _ = _
         simp only [Act.put, List.setIfInBounds_toArray, List.set_cons_zero, List.set_cons_succ, i64_w, i32_w]
         rfl
        refine pure_ (i := 7) (N := some 42) (v := ?_) (a' := ?_) #[true, true, true, true, true, true, true, true] rfl rfl (any_of HT_.out (by kernel_rfl)) (fun _ _ _ h => h) (Or.inl ⟨by rfl, ?_⟩) ?_ ?_
        rotate_left
        ·intro w'
         go_simp
         with_reducible rfl
        rotate_left
        ·simp only [Act.put, List.setIfInBounds_toArray, List.set_cons_zero, List.set_cons_succ, i64_w, i32_w]
         rfl
        refine done_ (done_of HT_.out (by kernel_rfl)) ?_
        try go_wp2
        go_roundg k2
        case measure => have := HJ2.out; have := HK2.out; omega
        case rel => exact ⟨(x6_2), (wrap64 (x7_2 + 1)), (by first | rfl | (simp; done) | (simp [*]; done)), H', ⟨by have := HJ2.out; have := HK2.out; omega⟩, ⟨by (with_reducible repeat (first | apply Kd.R_alloc | apply Kd.R_drewN | apply Kd.R_drew)); exact HO_5.out⟩, ⟨by (with_reducible repeat (first | apply Kd.R_alloc | apply Kd.R_drewN | apply Kd.R_drew)); exact HO_6.out⟩, ⟨by (with_reducible repeat (first | refine blk_drewN ?_ _ | refine blk_drew ?_ | refine blk_alloc ?_ _)); exact BK247.out⟩, ⟨by repeat (first | (with_reducible first | exact HB.out | apply below_alloc | apply pw_below_drewN | apply below_drew1 | refine below_set ?_ GE247.out) | exact HB.out)⟩⟩
      ·rw [if_neg c13] at H
       exact absurd H (by simp)
     ·rw [if_neg c12] at H
      have c12b0 := decide_eq_false c12
      clear c12
      obtain rfl := Option.some.inj H
      obtain ⟨Ao24, co24, eo24⟩ := Kd.R_slice HO_5.out
      subst eo24
      go_wp2
      go_ret
      exact ⟨_, by first | rfl | (simp [errW_none, errW_some] <;> rfl) | (simp [*, errW_none, errW_some] <;> rfl), by (with_reducible repeat (first | apply Kd.R_alloc | apply Kd.R_drewN | apply Kd.R_drew)); exact Kd.R_mono HO_6.out (fun _ hk => trivial), by repeat (first | (with_reducible first | exact HB.out | apply below_alloc | apply pw_below_drewN | apply below_drew1 | refine below_set ?_ GE247.out) | exact HB.out)⟩
mutual
def thermionref01_charge.l0 : Nat → List Int → Int → Int → Int → Int → Bool → List Int → List Int → List Int → Int → Bool → Int → Int → Option (Int × Int)
 | 0, _, _, _, _, _, _, _, _, _, _, _, _, _ => none
 | k + 1, x1, x3, x10, x440000, x440001, x440002, x440003, x441000, x441001, x441002, x441003, x443000, x443001 => if x10 < (x440003.length : Int) then (if 0 ≤ x10 then (if (rd x440003 x10) = x3 then ((thermionref01_around.f k x440000 x440001 x440002 x440003 x10).bind fun t444 => (thermionref01_charge.l1 k x1 x3 x10 t444 0 x440000 x440001 x440002 x440003 x441000 x441001 x441002 x441003 x443000 x443001)) else (thermionref01_charge.l0 k x1 x3 (wrap64 (x10 + 1)) x440000 x440001 x440002 x440003 x441000 x441001 x441002 x441003 x443000 x443001)) else (none)) else (some (x443000, x443001))
def thermionref01_charge.l1 : Nat → List Int → Int → Int → List Int → Int → Int → Int → Bool → List Int → List Int → List Int → Int → Bool → Int → Int → Option (Int × Int)
 | 0, _, _, _, _, _, _, _, _, _, _, _, _, _, _, _ => none
 | k + 1, x1, x3, x10, x11, x12, x440000, x440001, x440002, x440003, x441000, x441001, x441002, x441003, x443000, x443001 => if x12 < (x11.length : Int) then (if 0 ≤ x12 then (if 0 ≤ (rd x11 x12) then (if (rd x11 x12) < (x440003.length : Int) then (if (rd x440003 (rd x11 x12)) = x3 then (thermionref01_charge.l1 k x1 x3 x10 x11 (wrap64 (x12 + 1)) x440000 x440001 x440002 x440003 x441000 x441001 x441002 x441003 x443000 x443001) else ((thermionref01_weight.f k x440000 x440001 x440002 x440003 x10 (rd x11 x12)).bind fun t449 => (if 0 ≤ (wrap64 (x3 - 1)) then (if (wrap64 (x3 - 1)) < (x1.length : Int) then (if (rd x11 x12) < (x441001.length : Int) then ((thermionref01_weight.f k x440000 x440001 x440002 x440003 x10 (rd x11 x12)).bind fun t452 => (if (rd x11 x12) < (x441000.length : Int) then (thermionref01_charge.l1 k x1 x3 x10 x11 (wrap64 (x12 + 1)) x440000 x440001 x440002 x440003 x441000 x441001 x441002 x441003 (wrap64 (x443000 + (wrap64 (t449 * (wrap64 ((rd x1 (wrap64 (x3 - 1))) - (rd x441001 (rd x11 x12)))))))) (wrap64 (x443001 + (wrap64 (t452 * (wrap64 ((rd x1 (wrap64 (x3 - 1))) - (rd x441000 (rd x11 x12))))))))) else (none))) else (none)) else (none)) else (none)))) else (none)) else (none)) else (none)) else (thermionref01_charge.l0 k x1 x3 (wrap64 (x10 + 1)) x440000 x440001 x440002 x440003 x441000 x441001 x441002 x441003 x443000 x443001)
end
def thermionref01_charge.f (k : Nat) (a0_0 : Int) (a0_1 : Int) (a0_2 : Bool) (l0_3 : List Int) (l1 : List Int) (l2_0 : List Int) (l2_1 : List Int) (a2_2 : Int) (a2_3 : Bool) (a3 : Int) : Option (Int × Int) := thermionref01_charge.l0 k l1 a3 0 a0_0 a0_1 a0_2 l0_3 l2_0 l2_1 a2_2 a2_3 0 0
def thermionref01_charge.T12 : Bool × List (List Nat × List Nat) := (true, [([], []), ([0], [0]), ([], []), ([], []), ([], []), ([2, 3, 4], [2, 3, 4]), ([], []), ([], []), ([7], [7]), ([6, 8], [6, 8]), ([9], [9]), ([], []), ([11], [11]), ([], []), ([12, 13], [12, 13]), ([14], [14]), ([10, 15], [10, 15]), ([5, 16], [5, 16]), ([1, 17], [1, 17]), ([0, 1, 2, 3, 4, 5, 6, 7, 8, 9, 10, 11, 12, 13, 14, 15, 16, 17, 18], []), ([19, 18, 5, 0, 1, 2, 3, 4, 5, 6, 7, 8, 9, 10, 11, 12, 13, 14, 15, 16, 17, 18], [18, 19])])
def thermionref01_charge.B12 : List Nat := [0, 1, 0, 0, 0, 28, 0, 0, 128, 448, 960, 0, 2048, 0, 14336, 30720, 65472, 131068, 262143, 524287, 1048575]
theorem thermionref01_charge.tab12 : rtab .any (opsOf Try.f80 12) = thermionref01_charge.T12 := by kernel_rfl
theorem thermionref01_charge.bits12 : waitsOk thermionref01_charge.T12.2 thermionref01_charge.B12 = true := by kernel_rfl
def thermionref01_charge.T13 : Bool × List (List Nat × List Nat) := (true, [([], []), ([0], [0]), ([], []), ([], []), ([], []), ([2, 3, 4], [2, 3, 4]), ([], []), ([], []), ([7], [7]), ([6, 8], [6, 8]), ([9], [9]), ([], []), ([11], [11]), ([], []), ([12, 13], [12, 13]), ([14], [14]), ([10, 15], [10, 15]), ([5, 16], [5, 16]), ([1, 17], [1, 17]), ([0, 1, 2, 3, 4, 5, 6, 7, 8, 9, 10, 11, 12, 13, 14, 15, 16, 17, 18], []), ([19, 18, 5, 0, 1, 2, 3, 4, 5, 6, 7, 8, 9, 10, 11, 12, 13, 14, 15, 16, 17, 18], [18, 19])])
def thermionref01_charge.B13 : List Nat := [0, 1, 0, 0, 0, 28, 0, 0, 128, 448, 960, 0, 2048, 0, 14336, 30720, 65472, 131068, 262143, 524287, 1048575]
theorem thermionref01_charge.tab13 : rtab .any (opsOf Try.f80 13) = thermionref01_charge.T13 := by kernel_rfl
theorem thermionref01_charge.bits13 : waitsOk thermionref01_charge.T13.2 thermionref01_charge.B13 = true := by kernel_rfl
set_option maxHeartbeats 8000000 in
set_option maxRecDepth 100000 in
theorem thermionref01_charge.calls (k : Nat) (a0_0 : Int) (a0_1 : Int) (a0_2 : Bool) (A0_3 : Option Addr) (c0_3 : Nat) (l0_3 : List Int) (A1 : Option Addr) (c1 : Nat) (l1 : List Int) (A2_0 : Option Addr) (c2_0 : Nat) (l2_0 : List Int) (A2_1 : Option Addr) (c2_1 : Nat) (l2_1 : List Int) (a2_2 : Int) (a2_3 : Bool) (a3 : Int) (r1 : Int) (r2 : Int) (w : World) (hr0_3 : Kd.C (Kd.int .i64) w A0_3 l0_3.length l0_3) (hc0_3 : l0_3.length ≤ c0_3) (hr1 : Kd.C (Kd.int .i64) w A1 l1.length l1) (hc1 : l1.length ≤ c1) (hr2_0 : Kd.C (Kd.int .i64) w A2_0 l2_0.length l2_0) (hc2_0 : l2_0.length ≤ c2_0) (hr2_1 : Kd.C (Kd.int .i64) w A2_1 l2_1.length l2_1) (hc2_1 : l2_1.length ≤ c2_1) (h : thermionref01_charge.f k a0_0 a0_1 a0_2 l0_3 l1 l2_0 l2_1 a2_2 a2_3 a3 = some (r1, r2)) :
  Calls Try.prog 80 #[.agg #[.int .i64 a0_0, .int .i64 a0_1, .bool a0_2, .slice A0_3 l0_3.length c0_3], .slice A1 l1.length c1, .agg #[.slice A2_0 l2_0.length c2_0, .slice A2_1 l2_1.length c2_1, .int .i64 a2_2, .bool a2_3], .int .i64 a3] w fun e w' => e = .returned (.agg #[.int .i64 r1, .int .i64 r2]) ∧ Below w.heap.size w w' := by
 have hu24 := Try.underlying24
 have hu33 := Try.underlying33
 have hu42 := Try.underlying42
 have HR0_3 := Aside0.mk hr0_3
 have HC0_3 := Aside0.mk hc0_3
 clear hr0_3 hc0_3
 have HR1 := Aside0.mk hr1
 have HC1 := Aside0.mk hc1
 clear hr1 hc1
 have HR2_0 := Aside0.mk hr2_0
 have HC2_0 := Aside0.mk hc2_0
 clear hr2_0 hc2_0
 have HR2_1 := Aside0.mk hr2_1
 have HC2_1 := Aside0.mk hc2_1
 clear hr2_1 hc2_1
 have HB := Aside0.mk (Below.refl w.heap.size w)
 have H : (thermionref01_charge.l0 k l1 a3 0 a0_0 a0_1 a0_2 l0_3 l2_0 l2_1 a2_2 a2_3 0 0) = some (r1, r2) := h
 clear h
 have H' := Aside0.mk H
 clear H
 go_enter Try.func80, Try.ntmps80
 go_wp2_with (first | ((with_reducible refine gate_dst (N := 4) rfl ?_); refine box_event ?hg (N := 4) ?hd (cs := #[.int .i64 a0_0, .int .i64 a0_1, .bool a0_2, .slice A0_3 l0_3.length c0_3]) (t := 24) ?hr ?_; (case hd => rfl); (case hg => rfl); (case hr => first | (go_simp; done) | (go_simp; rfl)); intro gb439 hg w5 hbox hb; have n0_ := Aside0.mk (below_step (by repeat (first | (with_reducible first | exact HB.out | apply below_alloc | apply pw_below_drewN | apply below_drew1) | exact HB.out)) hb); have n1_ := Aside0.mk (hbox); have n2_ := Aside0.mk ((by rw [hg]; exact (below_size (by repeat (first | (with_reducible first | exact HB.out | apply below_alloc | apply pw_below_drewN | apply below_drew1) | exact HB.out))) : w.heap.size ≤ gb439)); have n3_ := Aside0.mk ((by rw [hg]; exact (below_size (by repeat (first | (with_reducible first | exact HB.out | apply below_alloc | apply pw_below_drewN | apply below_drew1) | exact HB.out))) : w.heap.size ≤ gb439)); clear HB; have HB := n0_; have BK439 := n1_; have GW439 := n2_; have GE439 := n3_; clear n0_ n1_ n2_ n3_; clear hb hbox hg) | ((with_reducible refine gate_dst (N := 6) rfl ?_); refine box_event ?hg (N := 6) ?hd (cs := #[.slice A2_0 l2_0.length c2_0, .slice A2_1 l2_1.length c2_1, .int .i64 a2_2, .bool a2_3]) (t := 33) ?hr ?_; (case hd => rfl); (case hg => rfl); (case hr => first | (go_simp; done) | (go_simp; rfl)); intro gb440 hg w6 hbox hb; have n0_ := Aside0.mk (blk_below (g := gb439) (o := .cells #[.int .i64 a0_0, .int .i64 a0_1, .bool a0_2, .slice A0_3 l0_3.length c0_3] 24 (0, 0)) (by (with_reducible repeat (first | refine blk_drewN ?_ _ | refine blk_drew ?_ | refine blk_alloc ?_ _)); exact BK439.out) hb); have n1_ := Aside0.mk (below_step (by repeat (first | (with_reducible first | exact HB.out | apply below_alloc | apply pw_below_drewN | apply below_drew1 | refine below_set ?_ GE439.out) | exact HB.out)) hb); have n2_ := Aside0.mk (hbox); have n3_ := Aside0.mk ((by rw [hg]; exact (below_size (by repeat (first | (with_reducible first | exact HB.out | apply below_alloc | apply pw_below_drewN | apply below_drew1 | refine below_set ?_ GE439.out) | exact HB.out))) : w.heap.size ≤ gb440)); have n4_ := Aside0.mk ((by rw [hg]; exact (below_size (by repeat (first | (with_reducible first | exact HB.out | apply below_alloc | apply pw_below_drewN | apply below_drew1 | refine below_set ?_ GE439.out) | exact HB.out))) : w.heap.size ≤ gb440)); have n5_ := Aside0.mk ((by rw [hg]; exact Nat.ne_of_lt (blk_lt (g := gb439) (o := .cells #[.int .i64 a0_0, .int .i64 a0_1, .bool a0_2, .slice A0_3 l0_3.length c0_3] 24 (0, 0)) (by (with_reducible repeat (first | refine blk_drewN ?_ _ | refine blk_drew ?_ | refine blk_alloc ?_ _)); exact BK439.out)) : gb439 ≠ gb440)); have n6_ := Aside0.mk ((by rw [hg]; exact Nat.ne_of_gt (blk_lt (g := gb439) (o := .cells #[.int .i64 a0_0, .int .i64 a0_1, .bool a0_2, .slice A0_3 l0_3.length c0_3] 24 (0, 0)) (by (with_reducible repeat (first | refine blk_drewN ?_ _ | refine blk_drew ?_ | refine blk_alloc ?_ _)); exact BK439.out)) : gb440 ≠ gb439)); clear BK439; clear HB; have BK439 := n0_; have HB := n1_; have BK440 := n2_; have GW440 := n3_; have GE440 := n4_; have NB439_440 := n5_; have NB440_439 := n6_; clear n0_ n1_ n2_ n3_ n4_ n5_ n6_; clear hb hbox hg) | ((with_reducible refine gate_dst (N := 8) rfl ?_); refine box_event ?hg (N := 8) ?hd (cs := #[.int .i64 0, .int .i64 0]) (t := 42) ?hr ?_; (case hd => rfl); (case hg => rfl); (case hr => first | (go_simp; done) | (go_simp; rfl)); intro gb441 hg w7 hbox hb; have n0_ := Aside0.mk (blk_below (g := gb439) (o := .cells #[.int .i64 a0_0, .int .i64 a0_1, .bool a0_2, .slice A0_3 l0_3.length c0_3] 24 (0, 0)) (by (with_reducible repeat (first | refine blk_drewN ?_ _ | refine blk_drew ?_ | refine blk_alloc ?_ _)); exact BK439.out) hb); have n1_ := Aside0.mk (blk_below (g := gb440) (o := .cells #[.slice A2_0 l2_0.length c2_0, .slice A2_1 l2_1.length c2_1, .int .i64 a2_2, .bool a2_3] 33 (0, 0)) (by (with_reducible repeat (first | refine blk_drewN ?_ _ | refine blk_drew ?_ | refine blk_alloc ?_ _)); exact BK440.out) hb); have n2_ := Aside0.mk (below_step (by repeat (first | (with_reducible first | exact HB.out | apply below_alloc | apply pw_below_drewN | apply below_drew1 | refine below_set ?_ GE439.out | refine below_set ?_ GE440.out) | exact HB.out)) hb); have n3_ := Aside0.mk (hbox); have n4_ := Aside0.mk ((by rw [hg]; exact (below_size (by repeat (first | (with_reducible first | exact HB.out | apply below_alloc | apply pw_below_drewN | apply below_drew1 | refine below_set ?_ GE439.out | refine below_set ?_ GE440.out) | exact HB.out))) : w.heap.size ≤ gb441)); have n5_ := Aside0.mk ((by rw [hg]; exact (below_size (by repeat (first | (with_reducible first | exact HB.out | apply below_alloc | apply pw_below_drewN | apply below_drew1 | refine below_set ?_ GE439.out | refine below_set ?_ GE440.out) | exact HB.out))) : w.heap.size ≤ gb441)); have n6_ := Aside0.mk ((by rw [hg]; exact Nat.ne_of_lt (blk_lt (g := gb439) (o := .cells #[.int .i64 a0_0, .int .i64 a0_1, .bool a0_2, .slice A0_3 l0_3.length c0_3] 24 (0, 0)) (by (with_reducible repeat (first | refine blk_drewN ?_ _ | refine blk_drew ?_ | refine blk_alloc ?_ _)); exact BK439.out)) : gb439 ≠ gb441)); have n7_ := Aside0.mk ((by rw [hg]; exact Nat.ne_of_gt (blk_lt (g := gb439) (o := .cells #[.int .i64 a0_0, .int .i64 a0_1, .bool a0_2, .slice A0_3 l0_3.length c0_3] 24 (0, 0)) (by (with_reducible repeat (first | refine blk_drewN ?_ _ | refine blk_drew ?_ | refine blk_alloc ?_ _)); exact BK439.out)) : gb441 ≠ gb439)); have n8_ := Aside0.mk ((by rw [hg]; exact Nat.ne_of_lt (blk_lt (g := gb440) (o := .cells #[.slice A2_0 l2_0.length c2_0, .slice A2_1 l2_1.length c2_1, .int .i64 a2_2, .bool a2_3] 33 (0, 0)) (by (with_reducible repeat (first | refine blk_drewN ?_ _ | refine blk_drew ?_ | refine blk_alloc ?_ _)); exact BK440.out)) : gb440 ≠ gb441)); have n9_ := Aside0.mk ((by rw [hg]; exact Nat.ne_of_gt (blk_lt (g := gb440) (o := .cells #[.slice A2_0 l2_0.length c2_0, .slice A2_1 l2_1.length c2_1, .int .i64 a2_2, .bool a2_3] 33 (0, 0)) (by (with_reducible repeat (first | refine blk_drewN ?_ _ | refine blk_drew ?_ | refine blk_alloc ?_ _)); exact BK440.out)) : gb441 ≠ gb440)); clear BK439; clear BK440; clear HB; have BK439 := n0_; have BK440 := n1_; have HB := n2_; have BK441 := n3_; have GW441 := n4_; have GE441 := n5_; have NB439_441 := n6_; have NB441_439 := n7_; have NB440_441 := n8_; have NB441_440 := n9_; clear n0_ n1_ n2_ n3_ n4_ n5_ n6_ n7_ n8_ n9_; clear hb hbox hg) | ((with_reducible refine gate_dst (N := 9) rfl ?_); refine box_event ?hg (N := 9) ?hd (cs := #[.int .i64 0, .int .i64 0]) (t := 42) ?hr ?_; (case hd => rfl); (case hg => rfl); (case hr => first | (go_simp; done) | (go_simp; rfl)); intro gb442 hg w8 hbox hb; have n0_ := Aside0.mk (blk_below (g := gb439) (o := .cells #[.int .i64 a0_0, .int .i64 a0_1, .bool a0_2, .slice A0_3 l0_3.length c0_3] 24 (0, 0)) (by (with_reducible repeat (first | refine blk_drewN ?_ _ | refine blk_drew ?_ | refine blk_alloc ?_ _)); exact BK439.out) hb); have n1_ := Aside0.mk (blk_below (g := gb440) (o := .cells #[.slice A2_0 l2_0.length c2_0, .slice A2_1 l2_1.length c2_1, .int .i64 a2_2, .bool a2_3] 33 (0, 0)) (by (with_reducible repeat (first | refine blk_drewN ?_ _ | refine blk_drew ?_ | refine blk_alloc ?_ _)); exact BK440.out) hb); have n2_ := Aside0.mk (blk_below (g := gb441) (o := .cells #[.int .i64 0, .int .i64 0] 42 (0, 0)) (by (with_reducible repeat (first | refine blk_drewN ?_ _ | refine blk_drew ?_ | refine blk_alloc ?_ _)); exact BK441.out) hb); have n3_ := Aside0.mk (below_step (by repeat (first | (with_reducible first | exact HB.out | apply below_alloc | apply pw_below_drewN | apply below_drew1 | refine below_set ?_ GE439.out | refine below_set ?_ GE440.out | refine below_set ?_ GE441.out) | exact HB.out)) hb); have n4_ := Aside0.mk (hbox); have n5_ := Aside0.mk ((by rw [hg]; exact (below_size (by repeat (first | (with_reducible first | exact HB.out | apply below_alloc | apply pw_below_drewN | apply below_drew1 | refine below_set ?_ GE439.out | refine below_set ?_ GE440.out | refine below_set ?_ GE441.out) | exact HB.out))) : w.heap.size ≤ gb442)); have n6_ := Aside0.mk ((by rw [hg]; exact (below_size (by repeat (first | (with_reducible first | exact HB.out | apply below_alloc | apply pw_below_drewN | apply below_drew1 | refine below_set ?_ GE439.out | refine below_set ?_ GE440.out | refine below_set ?_ GE441.out) | exact HB.out))) : w.heap.size ≤ gb442)); have n7_ := Aside0.mk ((by rw [hg]; exact Nat.ne_of_lt (blk_lt (g := gb439) (o := .cells #[.int .i64 a0_0, .int .i64 a0_1, .bool a0_2, .slice A0_3 l0_3.length c0_3] 24 (0, 0)) (by (with_reducible repeat (first | refine blk_drewN ?_ _ | refine blk_drew ?_ | refine blk_alloc ?_ _)); exact BK439.out)) : gb439 ≠ gb442)); have n8_ := Aside0.mk ((by rw [hg]; exact Nat.ne_of_gt (blk_lt (g := gb439) (o := .cells #[.int .i64 a0_0, .int .i64 a0_1, .bool a0_2, .slice A0_3 l0_3.length c0_3] 24 (0, 0)) (by (with_reducible repeat (first | refine blk_drewN ?_ _ | refine blk_drew ?_ | refine blk_alloc ?_ _)); exact BK439.out)) : gb442 ≠ gb439)); have n9_ := Aside0.mk ((by rw [hg]; exact Nat.ne_of_lt (blk_lt (g := gb440) (o := .cells #[.slice A2_0 l2_0.length c2_0, .slice A2_1 l2_1.length c2_1, .int .i64 a2_2, .bool a2_3] 33 (0, 0)) (by (with_reducible repeat (first | refine blk_drewN ?_ _ | refine blk_drew ?_ | refine blk_alloc ?_ _)); exact BK440.out)) : gb440 ≠ gb442)); have n10_ := Aside0.mk ((by rw [hg]; exact Nat.ne_of_gt (blk_lt (g := gb440) (o := .cells #[.slice A2_0 l2_0.length c2_0, .slice A2_1 l2_1.length c2_1, .int .i64 a2_2, .bool a2_3] 33 (0, 0)) (by (with_reducible repeat (first | refine blk_drewN ?_ _ | refine blk_drew ?_ | refine blk_alloc ?_ _)); exact BK440.out)) : gb442 ≠ gb440)); have n11_ := Aside0.mk ((by rw [hg]; exact Nat.ne_of_lt (blk_lt (g := gb441) (o := .cells #[.int .i64 0, .int .i64 0] 42 (0, 0)) (by (with_reducible repeat (first | refine blk_drewN ?_ _ | refine blk_drew ?_ | refine blk_alloc ?_ _)); exact BK441.out)) : gb441 ≠ gb442)); have n12_ := Aside0.mk ((by rw [hg]; exact Nat.ne_of_gt (blk_lt (g := gb441) (o := .cells #[.int .i64 0, .int .i64 0] 42 (0, 0)) (by (with_reducible repeat (first | refine blk_drewN ?_ _ | refine blk_drew ?_ | refine blk_alloc ?_ _)); exact BK441.out)) : gb442 ≠ gb441)); clear BK439; clear BK440; clear BK441; clear HB; have BK439 := n0_; have BK440 := n1_; have BK441 := n2_; have HB := n3_; have BK442 := n4_; have GW442 := n5_; have GE442 := n6_; have NB439_442 := n7_; have NB442_439 := n8_; have NB440_442 := n9_; have NB442_440 := n10_; have NB441_442 := n11_; have NB442_441 := n12_; clear n0_ n1_ n2_ n3_ n4_ n5_ n6_ n7_ n8_ n9_ n10_ n11_ n12_; clear hb hbox hg))
 go_loopg [10] k (fun kq v10 w' => ∃ (x10_1 : Int) (x443000_1 : Int) (x443001_1 : Int), v10 = .int .i64 x10_1 ∧ Aside0 (thermionref01_charge.l0 kq l1 a3 x10_1 a0_0 a0_1 a0_2 l0_3 l2_0 l2_1 a2_2 a2_3 x443000_1 x443001_1 = some (r1, r2)) ∧ Aside0 (kq ≤ k) ∧ Aside0 (w'.heap[gb439]? = some (.cells #[.int .i64 a0_0, .int .i64 a0_1, .bool a0_2, (.slice A0_3 l0_3.length c0_3)] 24 (0, 0))) ∧ Aside0 (w'.heap[gb440]? = some (.cells #[(.slice A2_0 l2_0.length c2_0), (.slice A2_1 l2_1.length c2_1), .int .i64 a2_2, .bool a2_3] 33 (0, 0))) ∧ Aside0 (w'.heap[gb441]? = some (.cells #[.int .i64 0, .int .i64 0] 42 (0, 0))) ∧ Aside0 (w'.heap[gb442]? = some (.cells #[.int .i64 x443000_1, .int .i64 x443001_1] 42 (0, 0))) ∧ Aside0 (Below w.heap.size w w'))
 case atStart => exact ⟨(0), (0), (0), (by first | rfl | (simp; done) | (simp [*]; done)), H', ⟨Nat.le_refl _⟩, ⟨by (with_reducible repeat (first | refine blk_drewN ?_ _ | refine blk_drew ?_ | refine blk_alloc ?_ _)); exact BK439.out⟩, ⟨by (with_reducible repeat (first | refine blk_drewN ?_ _ | refine blk_drew ?_ | refine blk_alloc ?_ _)); exact BK440.out⟩, ⟨by (with_reducible repeat (first | refine blk_drewN ?_ _ | refine blk_drew ?_ | refine blk_alloc ?_ _)); exact BK441.out⟩, ⟨by (with_reducible repeat (first | refine blk_drewN ?_ _ | refine blk_drew ?_ | refine blk_alloc ?_ _)); exact BK442.out⟩, ⟨by repeat (first | (with_reducible first | exact HB.out | apply below_alloc | apply pw_below_drewN | apply below_drew1 | refine below_set ?_ GE439.out | refine below_set ?_ GE440.out | refine below_set ?_ GE441.out | refine below_set ?_ GE442.out) | exact HB.out)⟩⟩
 case round =>
  clear H'
  try clear c1
  try clear c2
  try clear p2
  try clear c8
  obtain ⟨x10_1, x443000_1, x443001_1, rfl, HA, HK1, BK439, BK440, BK441, BK442, HB⟩ := hrel
  cases gk with
  | zero => exact absurd HA.out (by simp [thermionref01_charge.l0])
  | succ k1 =>
   have H := HA.out
   clear HA
   simp only [thermionref01_charge.l0] at H
   by_cases c9 : x10_1 < (l0_3.length : Int)
   ·rw [if_pos c9] at H
    have c9b0 := decide_eq_true c9
    clear c9
    by_cases c10 : 0 ≤ x10_1
    ·rw [if_pos c10] at H
     have c10b0 := decide_eq_true c10
     clear c10
     by_cases c11 : (rd l0_3 x10_1) = a3
     ·rw [if_pos c11] at H
      have c11b0 : ((rd l0_3 x10_1) == a3) = true := beq_iff_eq.mpr c11
      have c11b1 : ((rd l0_3 x10_1) != a3) = false := bne_eq_false_iff_eq.mpr c11
      clear c11
      replace H := Option.bind_eq_some_iff.mp H
      obtain ⟨t444, A120, H⟩ := H
      replace H : (thermionref01_charge.l1 k1 l1 a3 x10_1 t444 0 a0_0 a0_1 a0_2 l0_3 l2_0 l2_1 a2_2 a2_3 x443000_1 x443001_1) = some (r1, r2) := H
      have A12 := Aside0.mk A120
      clear A120
      have H' := Aside0.mk H
      clear H
      have hnb13 := NB439_440.out
      have hnc13 := NB440_439.out
      have hnb14 := NB439_441.out
      have hnc14 := NB441_439.out
      have hnb15 := NB439_442.out
      have hnc15 := NB442_439.out
      have hcz16_0 : wr.cell? ⟨gb439, 0, none⟩ = some (.int .i64 a0_0) := (blk_cell BK439.out 0).trans rfl
      have hcz16_1 : wr.cell? ⟨gb439, 1, none⟩ = some (.int .i64 a0_1) := (blk_cell BK439.out 1).trans rfl
      have hcz16_2 : wr.cell? ⟨gb439, 2, none⟩ = some (.bool a0_2) := (blk_cell BK439.out 2).trans rfl
      have hcz16_3 : wr.cell? ⟨gb439, 3, none⟩ = some (.slice A0_3 l0_3.length c0_3) := (blk_cell BK439.out 3).trans rfl
      have hfz16_0 := blk_frozen BK439.out 0
      have hfz16_1 := blk_frozen BK439.out 1
      have hfz16_2 := blk_frozen BK439.out 2
      have hfz16_3 := blk_frozen BK439.out 3
      have p443 : 0 ≤ (x10_1 : Int) := of_decide_eq_true (by first | (with_reducible assumption) | assumption)
      have q443 : x10_1 < (l0_3.length : Int) := of_decide_eq_true (by first | (with_reducible assumption) | assumption)
      obtain ⟨ad443, e443, hx443_0⟩ := Kd.at_int HR0_3.out x10_1 p443 q443
      cases e443
      replace hx443_0 := (HB.out.cell (World.block_lt_of_cell? w _ hx443_0)).trans hx443_0
      replace p443 := eq_true p443
      replace q443 := eq_true q443
      go_wp2_with (first | ((with_reducible refine gate_callee (f := 100) rfl ?_); refine goesL_ (some 30) rfl rfl Try.func100 (by kernel_rfl) rfl #[.agg #[.int .i64 a0_0, .int .i64 a0_1, .bool a0_2, .slice (some ad443) l0_3.length c0_3], .int .i64 x10_1] rfl (by (try simp only [List.map_toArray, List.map_cons, List.map_nil]); first | done | rfl | (simp only [List.length_drop, List.length_take]; rfl)) ?_; (with_reducible refine (thermionref01_around.calls k1 a0_0 a0_1 a0_2 _ _ l0_3 x10_1 t444 _ ?side1 ?side2 A12.out).mono ?_); (case side1 => repeat (first | exact (Kd.C_below HR0_3.out HB.out) | (with_reducible refine Kd.C_alloc ?_ _) | (with_reducible refine Kd.C_drewN ?_ _) | (with_reducible refine Kd.C_drew ?_))); (case side2 => exact HC0_3.out); rintro e w17 ⟨v445, rfl, ho0, hb⟩; refine ⟨_, rfl, ?_⟩; have n0_ := Aside0.mk (Kd.R_lower ho0 (below_size (by repeat (first | (with_reducible first | exact HB.out | apply below_alloc | apply pw_below_drewN | apply below_drew1 | refine below_set ?_ GE439.out | refine below_set ?_ GE440.out | refine below_set ?_ GE441.out | refine below_set ?_ GE442.out) | exact HB.out)))); have n1_ := Aside0.mk (blk_below (g := gb439) (o := .cells #[.int .i64 a0_0, .int .i64 a0_1, .bool a0_2, .slice (some ad443) l0_3.length c0_3] 24 (0, 0)) (by (with_reducible repeat (first | refine blk_drewN ?_ _ | refine blk_drew ?_ | refine blk_alloc ?_ _)); exact BK439.out) hb); have n2_ := Aside0.mk (blk_below (g := gb440) (o := .cells #[.slice A2_0 l2_0.length c2_0, .slice A2_1 l2_1.length c2_1, .int .i64 a2_2, .bool a2_3] 33 (0, 0)) (by (with_reducible repeat (first | refine blk_drewN ?_ _ | refine blk_drew ?_ | refine blk_alloc ?_ _)); exact BK440.out) hb); have n3_ := Aside0.mk (blk_below (g := gb441) (o := .cells #[.int .i64 0, .int .i64 0] 42 (0, 0)) (by (with_reducible repeat (first | refine blk_drewN ?_ _ | refine blk_drew ?_ | refine blk_alloc ?_ _)); exact BK441.out) hb); have n4_ := Aside0.mk (blk_below (g := gb442) (o := .cells #[.int .i64 x443000_1, .int .i64 x443001_1] 42 (0, 0)) (by (with_reducible repeat (first | refine blk_drewN ?_ _ | refine blk_drew ?_ | refine blk_alloc ?_ _)); exact BK442.out) hb); have n5_ := Aside0.mk (below_step (by repeat (first | (with_reducible first | exact HB.out | apply below_alloc | apply pw_below_drewN | apply below_drew1 | refine below_set ?_ GE439.out | refine below_set ?_ GE440.out | refine below_set ?_ GE441.out | refine below_set ?_ GE442.out) | exact HB.out)) hb); clear BK439; clear BK440; clear BK441; clear BK442; clear HB; have HO446 := n0_; have BK439 := n1_; have BK440 := n2_; have BK441 := n3_; have BK442 := n4_; have HB := n5_; clear n0_ n1_ n2_ n3_ n4_ n5_; (try clear hb); (try clear hb2); (try clear hk); (try clear hi); (try clear ho0)))
      go_loopg [12] k1 (fun kq v12 w' => ∃ (x12_2 : Int) (x443000_2 : Int) (x443001_2 : Int), v12 = .int .i64 x12_2 ∧ Aside0 (thermionref01_charge.l1 kq l1 a3 x10_1 t444 x12_2 a0_0 a0_1 a0_2 l0_3 l2_0 l2_1 a2_2 a2_3 x443000_2 x443001_2 = some (r1, r2)) ∧ Aside0 (kq ≤ k1) ∧ Aside0 (Kd.R (Kd.int .i64) 3 w' w.heap.size (fun _ => True) v445 t444) ∧ Aside0 (w'.heap[gb439]? = some (.cells #[.int .i64 a0_0, .int .i64 a0_1, .bool a0_2, (.slice (some ad443) l0_3.length c0_3)] 24 (0, 0))) ∧ Aside0 (w'.heap[gb440]? = some (.cells #[(.slice A2_0 l2_0.length c2_0), (.slice A2_1 l2_1.length c2_1), .int .i64 a2_2, .bool a2_3] 33 (0, 0))) ∧ Aside0 (w'.heap[gb441]? = some (.cells #[.int .i64 0, .int .i64 0] 42 (0, 0))) ∧ Aside0 (w'.heap[gb442]? = some (.cells #[.int .i64 x443000_2, .int .i64 x443001_2] 42 (0, 0))) ∧ Aside0 (Below w.heap.size w w'))
      case atStart => exact ⟨(0), (x443000_1), (x443001_1), (by first | rfl | (simp; done) | (simp [*]; done)), H', ⟨Nat.le_refl _⟩, ⟨by (with_reducible repeat (first | apply Kd.R_alloc | apply Kd.R_drewN | apply Kd.R_drew)); exact HO446.out⟩, ⟨by (with_reducible repeat (first | refine blk_drewN ?_ _ | refine blk_drew ?_ | refine blk_alloc ?_ _)); exact BK439.out⟩, ⟨by (with_reducible repeat (first | refine blk_drewN ?_ _ | refine blk_drew ?_ | refine blk_alloc ?_ _)); exact BK440.out⟩, ⟨by (with_reducible repeat (first | refine blk_drewN ?_ _ | refine blk_drew ?_ | refine blk_alloc ?_ _)); exact BK441.out⟩, ⟨by (with_reducible repeat (first | refine blk_drewN ?_ _ | refine blk_drew ?_ | refine blk_alloc ?_ _)); exact BK442.out⟩, ⟨by repeat (first | (with_reducible first | exact HB.out | apply below_alloc | apply pw_below_drewN | apply below_drew1 | refine below_set ?_ GE439.out | refine below_set ?_ GE440.out | refine below_set ?_ GE441.out | refine below_set ?_ GE442.out) | exact HB.out)⟩⟩
      case round =>
       clear H'
       try clear c1
       try clear c2
       try clear p2
       try clear p4
       try clear q4
       try clear hx4
       try clear c8
       try clear c9
       try clear c9b0
       try clear c10
       try clear c10b0
       try clear c11
       try clear c11b0
       try clear c11b1
       try clear c13
       try clear c14
       try clear c15
       try clear hcz16_0
       try clear hcz16_1
       try clear hcz16_2
       try clear hcz16_3
       try clear hfz16_0
       try clear hfz16_1
       try clear hfz16_2
       try clear hfz16_3
       try clear hx443_0
       try clear p2
       try clear p443
       try clear q443
       obtain ⟨x12_2, x443000_2, x443001_2, rfl, HA, HK2, HO_11, BK439, BK440, BK441, BK442, HB⟩ := hrel
       cases gk with
       | zero => exact absurd HA.out (by simp [thermionref01_charge.l1])
       | succ k2 =>
        have H := HA.out
        clear HA
        simp only [thermionref01_charge.l1] at H
        by_cases c18 : x12_2 < (t444.length : Int)
        ·rw [if_pos c18] at H
         have c18b0 := decide_eq_true c18
         clear c18
         by_cases c19 : 0 ≤ x12_2
         ·rw [if_pos c19] at H
          have c19b0 := decide_eq_true c19
          clear c19
          by_cases c20 : 0 ≤ (rd t444 x12_2)
          ·rw [if_pos c20] at H
           have c20b0 := decide_eq_true c20
           clear c20
           by_cases c21 : (rd t444 x12_2) < (l0_3.length : Int)
           ·rw [if_pos c21] at H
            have c21b0 := decide_eq_true c21
            clear c21
            by_cases c22 : (rd l0_3 (rd t444 x12_2)) = a3
            ·rw [if_pos c22] at H
             have c22b0 : ((rd l0_3 (rd t444 x12_2)) == a3) = true := beq_iff_eq.mpr c22
             have c22b1 : ((rd l0_3 (rd t444 x12_2)) != a3) = false := bne_eq_false_iff_eq.mpr c22
             clear c22
             have H' := Aside0.mk H
             clear H
             obtain ⟨Ao23, co23, eo23⟩ := Kd.R_slice HO_11.out
             subst eo23
             have p447 : 0 ≤ (x12_2 : Int) := of_decide_eq_true (by first | (with_reducible assumption) | assumption)
             have q447 : x12_2 < (t444.length : Int) := of_decide_eq_true (by first | (with_reducible assumption) | assumption)
             obtain ⟨ad447, e447, hx447_0⟩ := Kd.at_int (Kd.R_reads' HO_11.out).2.2 x12_2 p447 q447
             cases e447
             replace p447 := eq_true p447
             replace q447 := eq_true q447
             have hnb24 := NB439_440.out
             have hnc24 := NB440_439.out
             have hnb25 := NB439_441.out
             have hnc25 := NB441_439.out
             have hnb26 := NB439_442.out
             have hnc26 := NB442_439.out
             have hcz27_0 : wr.cell? ⟨gb439, 0, none⟩ = some (.int .i64 a0_0) := (blk_cell BK439.out 0).trans rfl
             have hcz27_1 : wr.cell? ⟨gb439, 1, none⟩ = some (.int .i64 a0_1) := (blk_cell BK439.out 1).trans rfl
             have hcz27_2 : wr.cell? ⟨gb439, 2, none⟩ = some (.bool a0_2) := (blk_cell BK439.out 2).trans rfl
             have hcz27_3 : wr.cell? ⟨gb439, 3, none⟩ = some (.slice (some ad443) l0_3.length c0_3) := (blk_cell BK439.out 3).trans rfl
             have hfz27_0 := blk_frozen BK439.out 0
             have hfz27_1 := blk_frozen BK439.out 1
             have hfz27_2 := blk_frozen BK439.out 2
             have hfz27_3 := blk_frozen BK439.out 3
             have p448 : 0 ≤ ((rd t444 x12_2) : Int) := of_decide_eq_true (by first | (with_reducible assumption) | assumption)
             have q448 : (rd t444 x12_2) < (l0_3.length : Int) := of_decide_eq_true (by first | (with_reducible assumption) | assumption)
             obtain ⟨ad448, e448, hx448_0⟩ := Kd.at_int HR0_3.out (rd t444 x12_2) p448 q448
             obtain rfl : ad443 = ad448 := (by injection e448)
             replace hx448_0 := (HB.out.cell (World.block_lt_of_cell? w _ hx448_0)).trans hx448_0
             replace p448 := eq_true p448
             replace q448 := eq_true q448
             go_wp2
             go_roundg k2
             case measure => have := HK1.out; have := HK2.out; omega
             case rel => exact ⟨(wrap64 (x12_2 + 1)), (x443000_2), (x443001_2), (by first | rfl | (simp; done) | (simp [*]; done)), H', ⟨by have := HK1.out; have := HK2.out; omega⟩, ⟨by (with_reducible repeat (first | apply Kd.R_alloc | apply Kd.R_drewN | apply Kd.R_drew)); exact HO_11.out⟩, ⟨by (with_reducible repeat (first | refine blk_drewN ?_ _ | refine blk_drew ?_ | refine blk_alloc ?_ _)); exact BK439.out⟩, ⟨by (with_reducible repeat (first | refine blk_drewN ?_ _ | refine blk_drew ?_ | refine blk_alloc ?_ _)); exact BK440.out⟩, ⟨by (with_reducible repeat (first | refine blk_drewN ?_ _ | refine blk_drew ?_ | refine blk_alloc ?_ _)); exact BK441.out⟩, ⟨by (with_reducible repeat (first | refine blk_drewN ?_ _ | refine blk_drew ?_ | refine blk_alloc ?_ _)); exact BK442.out⟩, ⟨by repeat (first | (with_reducible first | exact HB.out | apply below_alloc | apply pw_below_drewN | apply below_drew1 | refine below_set ?_ GE439.out | refine below_set ?_ GE440.out | refine below_set ?_ GE441.out | refine below_set ?_ GE442.out) | exact HB.out)⟩⟩
            ·rw [if_neg c22] at H
             have c22b0 : ((rd l0_3 (rd t444 x12_2)) == a3) = false := beq_eq_false_iff_ne.mpr c22
             have c22b1 : ((rd l0_3 (rd t444 x12_2)) != a3) = true := bne_iff_ne.mpr c22
             replace H := Option.bind_eq_some_iff.mp H
             obtain ⟨t449, A280, H⟩ := H
             replace H : (if 0 ≤ (wrap64 (a3 - 1)) then (if (wrap64 (a3 - 1)) < (l1.length : Int) then (if (rd t444 x12_2) < (l2_1.length : Int) then ((thermionref01_weight.f k2 a0_0 a0_1 a0_2 l0_3 x10_1 (rd t444 x12_2)).bind fun t452 => (if (rd t444 x12_2) < (l2_0.length : Int) then (thermionref01_charge.l1 k2 l1 a3 x10_1 t444 (wrap64 (x12_2 + 1)) a0_0 a0_1 a0_2 l0_3 l2_0 l2_1 a2_2 a2_3 (wrap64 (x443000_2 + (wrap64 (t449 * (wrap64 ((rd l1 (wrap64 (a3 - 1))) - (rd l2_1 (rd t444 x12_2)))))))) (wrap64 (x443001_2 + (wrap64 (t452 * (wrap64 ((rd l1 (wrap64 (a3 - 1))) - (rd l2_0 (rd t444 x12_2))))))))) else (none))) else (none)) else (none)) else (none)) = some (r1, r2) := H
             have A28 := Aside0.mk A280
             clear A280
             obtain ⟨ji29, hji29⟩ : ∃ j_ : Int, (wrap64 (a3 - 1)) = j_ := ⟨_, rfl⟩
             replace H : (if 0 ≤ (ji29) then (if (ji29) < (l1.length : Int) then (if (rd t444 x12_2) < (l2_1.length : Int) then ((thermionref01_weight.f k2 a0_0 a0_1 a0_2 l0_3 x10_1 (rd t444 x12_2)).bind fun t452 => (if (rd t444 x12_2) < (l2_0.length : Int) then (thermionref01_charge.l1 k2 l1 a3 x10_1 t444 (wrap64 (x12_2 + 1)) a0_0 a0_1 a0_2 l0_3 l2_0 l2_1 a2_2 a2_3 (wrap64 (x443000_2 + (wrap64 (t449 * (wrap64 ((rd l1 (ji29)) - (rd l2_1 (rd t444 x12_2)))))))) (wrap64 (x443001_2 + (wrap64 (t452 * (wrap64 ((rd l1 (ji29)) - (rd l2_0 (rd t444 x12_2))))))))) else (none))) else (none)) else (none)) else (none)) = some (r1, r2) := by first | (rw [hji29] at H; exact H) | (simp only [hji29] at H ⊢; exact H)
             (try rw [hji29] at A28)
             have hji29w : (IntKind.i64.wrap (a3 - 1)) = ji29 := (i64_w _).trans hji29
             by_cases c30 : 0 ≤ (ji29)
             ·rw [if_pos c30] at H
              have c30b0 := decide_eq_true c30
              clear c30
              by_cases c31 : (ji29) < (l1.length : Int)
              ·rw [if_pos c31] at H
               have c31b0 := decide_eq_true c31
               clear c31
               by_cases c32 : (rd t444 x12_2) < (l2_1.length : Int)
               ·rw [if_pos c32] at H
                have c32b0 := decide_eq_true c32
                clear c32
                replace H := Option.bind_eq_some_iff.mp H
                obtain ⟨t452, A330, H⟩ := H
                replace H : (if (rd t444 x12_2) < (l2_0.length : Int) then (thermionref01_charge.l1 k2 l1 a3 x10_1 t444 (wrap64 (x12_2 + 1)) a0_0 a0_1 a0_2 l0_3 l2_0 l2_1 a2_2 a2_3 (wrap64 (x443000_2 + (wrap64 (t449 * (wrap64 ((rd l1 (ji29)) - (rd l2_1 (rd t444 x12_2)))))))) (wrap64 (x443001_2 + (wrap64 (t452 * (wrap64 ((rd l1 (ji29)) - (rd l2_0 (rd t444 x12_2))))))))) else (none)) = some (r1, r2) := H
                have A33 := Aside0.mk A330
                clear A330
                by_cases c34 : (rd t444 x12_2) < (l2_0.length : Int)
                ·rw [if_pos c34] at H
                 have c34b0 := decide_eq_true c34
                 clear c34
                 have H' := Aside0.mk H
                 clear H
                 obtain ⟨Ao35, co35, eo35⟩ := Kd.R_slice HO_11.out
                 subst eo35
                 have p447 : 0 ≤ (x12_2 : Int) := of_decide_eq_true (by first | (with_reducible assumption) | assumption)
                 have q447 : x12_2 < (t444.length : Int) := of_decide_eq_true (by first | (with_reducible assumption) | assumption)
                 obtain ⟨ad447, e447, hx447_0⟩ := Kd.at_int (Kd.R_reads' HO_11.out).2.2 x12_2 p447 q447
                 cases e447
                 replace p447 := eq_true p447
                 replace q447 := eq_true q447
                 have hnb36 := NB439_440.out
                 have hnc36 := NB440_439.out
                 have hnb37 := NB439_441.out
                 have hnc37 := NB441_439.out
                 have hnb38 := NB439_442.out
                 have hnc38 := NB442_439.out
                 have hcz39_0 : wr.cell? ⟨gb439, 0, none⟩ = some (.int .i64 a0_0) := (blk_cell BK439.out 0).trans rfl
                 have hcz39_1 : wr.cell? ⟨gb439, 1, none⟩ = some (.int .i64 a0_1) := (blk_cell BK439.out 1).trans rfl
                 have hcz39_2 : wr.cell? ⟨gb439, 2, none⟩ = some (.bool a0_2) := (blk_cell BK439.out 2).trans rfl
                 have hcz39_3 : wr.cell? ⟨gb439, 3, none⟩ = some (.slice (some ad443) l0_3.length c0_3) := (blk_cell BK439.out 3).trans rfl
                 have hfz39_0 := blk_frozen BK439.out 0
                 have hfz39_1 := blk_frozen BK439.out 1
                 have hfz39_2 := blk_frozen BK439.out 2
                 have hfz39_3 := blk_frozen BK439.out 3
                 have p448 : 0 ≤ ((rd t444 x12_2) : Int) := of_decide_eq_true (by first | (with_reducible assumption) | assumption)
                 have q448 : (rd t444 x12_2) < (l0_3.length : Int) := of_decide_eq_true (by first | (with_reducible assumption) | assumption)
                 obtain ⟨ad448, e448, hx448_0⟩ := Kd.at_int HR0_3.out (rd t444 x12_2) p448 q448
                 obtain rfl : ad443 = ad448 := (by injection e448)
                 replace hx448_0 := (HB.out.cell (World.block_lt_of_cell? w _ hx448_0)).trans hx448_0
                 replace p448 := eq_true p448
                 replace q448 := eq_true q448
                 try go_wp2
                 have n0_ := Aside0.mk (Kd.R_drew HO_11.out)
                 have n1_ := Aside0.mk (blk_drew BK439.out)
                 have n2_ := Aside0.mk (blk_drew BK440.out)
                 have n3_ := Aside0.mk (blk_drew BK441.out)
                 have n4_ := Aside0.mk (blk_drew BK442.out)
                 have n5_ := Aside0.mk (below_drew1 HB.out)
                 clear HO_11 BK439 BK440 BK441 BK442 HB
                 have HO_11 := n0_
                 have BK439 := n1_
                 have BK440 := n2_
                 have BK441 := n3_
                 have BK442 := n4_
                 have HB := n5_
                 clear n0_ n1_ n2_ n3_ n4_ n5_
                 have p450 : 0 ≤ ((ji29) : Int) := of_decide_eq_true (by first | (with_reducible assumption) | assumption)
                 have q450 : (ji29) < (l1.length : Int) := of_decide_eq_true (by first | (with_reducible assumption) | assumption)
                 obtain ⟨ad450, e450, hx450_0⟩ := Kd.at_int HR1.out (ji29) p450 q450
                 have hw450_0 := hx450_0
                 cases e450
                 replace hx450_0 := (HB.out.cell (World.block_lt_of_cell? w _ hx450_0)).trans hx450_0
                 replace p450 := eq_true p450
                 replace q450 := eq_true q450
                 have p451 : 0 ≤ ((rd t444 x12_2) : Int) := of_decide_eq_true (by first | (with_reducible assumption) | assumption)
                 have q451 : (rd t444 x12_2) < (l2_1.length : Int) := of_decide_eq_true (by first | (with_reducible assumption) | assumption)
                 obtain ⟨ad451, e451, hx451_0⟩ := Kd.at_int HR2_1.out (rd t444 x12_2) p451 q451
                 have hw451_0 := hx451_0
                 cases e451
                 replace hx451_0 := (HB.out.cell (World.block_lt_of_cell? w _ hx451_0)).trans hx451_0
                 replace p451 := eq_true p451
                 replace q451 := eq_true q451
                 refine start_ (n := 21) (S := fun w' => w'.cell? ⟨gb442, 0, none⟩ = some (.int .i64 x443000_2) ∧ w'.cell? ⟨gb442, 1, none⟩ = some (.int .i64 x443001_2) ∧ w'.cell? ⟨gb439, 0, none⟩ = some (.int .i64 a0_0) ∧ w'.cell? ⟨gb439, 1, none⟩ = some (.int .i64 a0_1) ∧ w'.cell? ⟨gb439, 2, none⟩ = some (.bool a0_2) ∧ w'.cell? ⟨gb439, 3, none⟩ = some (.slice (some ad443) l0_3.length c0_3) ∧ w'.cell? ⟨gb440, 0, none⟩ = some (.slice A2_0 l2_0.length c2_0) ∧ w'.cell? ⟨gb440, 1, none⟩ = some (.slice (some ad451) l2_1.length c2_1) ∧ w'.cell? ⟨gb440, 2, none⟩ = some (.int .i64 a2_2) ∧ w'.cell? ⟨gb440, 3, none⟩ = some (.bool a2_3) ∧ w'.cell? (ad450.add ((ji29)).toNat) = some (.int .i64 (rd l1 (ji29))) ∧ w'.cell? (ad451.add ((rd t444 x12_2)).toNat) = some (.int .i64 (rd l2_1 (rd t444 x12_2)))) (ds := [20]) #[false, false, false, false, false, false, false, false, false, false, false, false, false, false, false, false, false, false, false, false, false] (by kernel_rfl) rfl rfl ⟨(blk_cell BK442.out 0).trans rfl, (blk_cell BK442.out 1).trans rfl, (blk_cell BK439.out 0).trans rfl, (blk_cell BK439.out 1).trans rfl, (blk_cell BK439.out 2).trans rfl, (blk_cell BK439.out 3).trans rfl, (blk_cell BK440.out 0).trans rfl, (blk_cell BK440.out 1).trans rfl, (blk_cell BK440.out 2).trans rfl, (blk_cell BK440.out 3).trans rfl, ((HB.out.cell (World.block_lt_of_cell? w _ hw450_0)).trans hw450_0), ((HB.out.cell (World.block_lt_of_cell? w _ hw451_0)).trans hw451_0)⟩ (fun hHeld => ?_); refine with_tabW thermionref01_charge.tab12 thermionref01_charge.bits12 (fun HT_ HW_ => ?_)
                 generalize wr.drew = w40 at HO_11 BK439 BK440 BK441 BK442 HB hx450_0 hx451_0 hHeld ⊢
                 refine pure_ (i := 0) (N := some 48) (v := ?_) (a' := ?_) #[true, false, false, false, false, false, false, false, false, false, false, false, false, false, false, false, false, false, false, false, false] rfl rfl (any_of HT_.out (by kernel_rfl)) (fun _ _ _ h => h) (Or.inl ⟨by rfl, ?_⟩) ?_ ?_
                 rotate_left
                 ·intro w'
                  go_simp
                  with_reducible rfl
                 rotate_left
                 ·simp only [Act.put, List.setIfInBounds_toArray, List.set_cons_zero, List.set_cons_succ, i64_w, i32_w]
                  rfl
                 refine pure_ (i := 3) (N := some 51) (v := ?_) (a' := ?_) #[true, false, false, true, false, false, false, false, false, false, false, false, false, false, false, false, false, false, false, false, false] rfl rfl (any_of HT_.out (by kernel_rfl)) (fun _ _ _ h => h) (Or.inl ⟨by rfl, ?_⟩) ?_ ?_
                 rotate_left
                 ·intro w'
                  go_simp
                  with_reducible rfl
                 rotate_left
                 ·simp only [Act.put, List.setIfInBounds_toArray, List.set_cons_zero, List.set_cons_succ, i64_w, i32_w]
                  rfl
                 refine pure_ (i := 4) (N := some 52) (v := ?_) (a' := ?_) #[true, false, false, true, true, false, false, false, false, false, false, false, false, false, false, false, false, false, false, false, false] rfl rfl (any_of HT_.out (by kernel_rfl)) (fun _ _ _ h => h) (Or.inl ⟨by rfl, ?_⟩) ?_ ?_
                 rotate_left
                 ·intro w'
                  go_simp
                  with_reducible rfl
                 rotate_left
                 ·simp only [Act.put, List.setIfInBounds_toArray, List.set_cons_zero, List.set_cons_succ, i64_w, i32_w]
                  rfl
                 refine pure_ (i := 6) (N := some 54) (v := ?_) (a' := ?_) #[true, false, false, true, true, false, true, false, false, false, false, false, false, false, false, false, false, false, false, false, false] rfl rfl (any_of HT_.out (by kernel_rfl)) (fun _ _ _ h => h) (Or.inl ⟨by rfl, ?_⟩) ?_ ?_
                 rotate_left
                 ·intro w'
                  go_simp
                  with_reducible rfl
                 rotate_left
                 ·simp only [Act.put, List.setIfInBounds_toArray, List.set_cons_zero, List.set_cons_succ, i64_w, i32_w]
                  rfl
                 refine pure_ (i := 7) (N := some 55) (v := ?_) (a' := ?_) #[true, false, false, true, true, false, true, true, false, false, false, false, false, false, false, false, false, false, false, false, false] rfl rfl (any_of HT_.out (by kernel_rfl)) (fun _ _ _ h => h) (Or.inl ⟨by rfl, ?_⟩) ?_ ?_
                 rotate_left
                 ·intro w'
                  go_simp
                  with_reducible rfl
                 rotate_left
                 ·simp only [Act.put, List.setIfInBounds_toArray, List.set_cons_zero, List.set_cons_succ, i64_w, i32_w]
                  rfl
                 refine pure_ (i := 8) (N := some 56) (v := ?_) (a' := ?_) #[true, false, false, true, true, false, true, true, true, false, false, false, false, false, false, false, false, false, false, false, false] rfl rfl (any_of HT_.out (by kernel_rfl)) (fun _ _ _ h => h) (Or.inl ⟨by rfl, ?_⟩) ?_ ?_
                 rotate_left
                 ·intro w'
                  go_simp
                  with_reducible rfl
                 rotate_left
                 ·simp only [Act.put, List.setIfInBounds_toArray, List.set_cons_zero, List.set_cons_succ, i64_w, i32_w]
                  rfl
                 refine pure_ (i := 9) (N := some 57) (v := ?_) (a' := ?_) #[true, false, false, true, true, false, true, true, true, true, false, false, false, false, false, false, false, false, false, false, false] rfl rfl (any_of HT_.out (by kernel_rfl)) (fun _ _ _ h => h) (Or.inl ⟨by rfl, ?_⟩) ?_ ?_
                 rotate_left
                 ·intro w'
                  go_simp
                  with_reducible rfl
                 rotate_left
                 ·simp only [Act.put, List.setIfInBounds_toArray, List.set_cons_zero, List.set_cons_succ, i64_w, i32_w]
                  rfl
                 refine pure_ (i := 11) (N := some 59) (v := ?_) (a' := ?_) #[true, false, false, true, true, false, true, true, true, true, false, true, false, false, false, false, false, false, false, false, false] rfl rfl (any_of HT_.out (by kernel_rfl)) (fun _ _ _ h => h) (Or.inl ⟨by rfl, ?_⟩) ?_ ?_
                 rotate_left
                 ·intro w'
                  go_simp
                  with_reducible rfl
                 rotate_left
                 ·simp only [Act.put, List.setIfInBounds_toArray, List.set_cons_zero, List.set_cons_succ, i64_w, i32_w]
                  rfl
                 refine pure_ (i := 13) (N := some 61) (v := ?_) (a' := ?_) #[true, false, false, true, true, false, true, true, true, true, false, true, false, true, false, false, false, false, false, false, false] rfl rfl (any_of HT_.out (by kernel_rfl)) (fun _ _ _ h => h) (Or.inl ⟨by rfl, ?_⟩) ?_ ?_
                 rotate_left
                 ·intro w'
                  go_simp
                  with_reducible rfl
                 rotate_left
                 ·simp only [Act.put, List.setIfInBounds_toArray, List.set_cons_zero, List.set_cons_succ, i64_w, i32_w]
                  rfl
                 refine take_ (i := 1) (N := some 49) (v := ?_) (a' := ?_) #[true, true, false, true, true, false, true, true, true, true, false, true, false, true, false, false, false, false, false, false, false] rfl rfl (take_ofW HT_.out HW_.out (by kernel_rfl)) (fun _ _ _ h => h) (Or.inl ⟨by rfl, ?_⟩) hHeld ?_ ?_
                 rotate_left
                 ·rintro w' ⟨s0, s1, s2, s3, s4, s5, s6, s7, s8, s9, s10, s11⟩
                  go_simp
                  with_reducible rfl
                 rotate_left
                 ·simp only [Act.put, List.setIfInBounds_toArray, List.set_cons_zero, List.set_cons_succ, i64_w, i32_w]
                  rfl
                 refine take_ (i := 2) (N := some 50) (v := ?_) (a' := ?_) #[true, true, true, true, true, false, true, true, true, true, false, true, false, true, false, false, false, false, false, false, false] rfl rfl (take_ofW HT_.out HW_.out (by kernel_rfl)) (fun _ _ _ h => h) (Or.inl ⟨by rfl, ?_⟩) hHeld ?_ ?_
                 rotate_left
                 ·rintro w' ⟨s0, s1, s2, s3, s4, s5, s6, s7, s8, s9, s10, s11⟩
                  go_simp
                  with_reducible rfl
                 rotate_left
                 ·simp only [Act.put, List.setIfInBounds_toArray, List.set_cons_zero, List.set_cons_succ, i64_w, i32_w]
                  rfl
                 refine take_ (i := 10) (N := some 58) (v := ?_) (a' := ?_) #[true, true, true, true, true, false, true, true, true, true, true, true, false, true, false, false, false, false, false, false, false] rfl rfl (take_ofW HT_.out HW_.out (by kernel_rfl)) (fun _ _ _ h => h) (Or.inl ⟨by rfl, ?_⟩) hHeld ?_ ?_
                 rotate_left
                 ·rintro w' ⟨s0, s1, s2, s3, s4, s5, s6, s7, s8, s9, s10, s11⟩
                  go_simp
                  with_reducible rfl
                 rotate_left
                 ·simp only [Act.put, List.setIfInBounds_toArray, List.set_cons_zero, List.set_cons_succ, i64_w, i32_w]
                  rfl
                 refine take_ (i := 12) (N := some 60) (v := ?_) (a' := ?_) #[true, true, true, true, true, false, true, true, true, true, true, true, true, true, false, false, false, false, false, false, false] rfl rfl (take_ofW HT_.out HW_.out (by kernel_rfl)) (fun _ _ _ h => h) (Or.inl ⟨by rfl, ?_⟩) hHeld ?_ ?_
                 rotate_left
                 ·rintro w' ⟨s0, s1, s2, s3, s4, s5, s6, s7, s8, s9, s10, s11⟩
                  go_simp
                  with_reducible rfl
                 rotate_left
                 ·simp only [Act.put, List.setIfInBounds_toArray, List.set_cons_zero, List.set_cons_succ, i64_w, i32_w]
                  rfl
                 refine pure_ (i := 14) (N := some 62) (v := ?_) (a' := ?_) #[true, true, true, true, true, false, true, true, true, true, true, true, true, true, true, false, false, false, false, false, false] rfl rfl (any_of HT_.out (by kernel_rfl)) (fun _ _ _ h => h) (Or.inl ⟨by rfl, ?_⟩) ?_ ?_
                 rotate_left
                 ·intro w'
                  go_simp
                  with_reducible rfl
                 rotate_left
                 ·simp only [Act.put, List.setIfInBounds_toArray, List.set_cons_zero, List.set_cons_succ, i64_w, i32_w]
                  rfl
                 refine take_ (i := 15) (N := some 63) (v := ?_) (a' := ?_) #[true, true, true, true, true, false, true, true, true, true, true, true, true, true, true, true, false, false, false, false, false] rfl rfl (take_ofW HT_.out HW_.out (by kernel_rfl)) (fun _ _ _ h => h) (Or.inl ⟨by rfl, ?_⟩) hHeld ?_ ?_
                 rotate_left
                 ·rintro w' ⟨s0, s1, s2, s3, s4, s5, s6, s7, s8, s9, s10, s11⟩
                  go_simp
                  with_reducible rfl
                 rotate_left
                 ·simp only [Act.put, List.setIfInBounds_toArray, List.set_cons_zero, List.set_cons_succ, i64_w, i32_w]
                  rfl
                 refine pure_ (i := 16) (N := some 64) (v := ?_) (a' := ?_) #[true, true, true, true, true, false, true, true, true, true, true, true, true, true, true, true, true, false, false, false, false] rfl rfl (any_of HT_.out (by kernel_rfl)) (fun _ _ _ h => h) (Or.inl ⟨by rfl, ?_⟩) ?_ ?_
                 rotate_left
                 ·intro w'
                  go_simp
                  with_reducible rfl
                 rotate_left
                 ·simp only [Act.put, List.setIfInBounds_toArray, List.set_cons_zero, List.set_cons_succ, i64_w, i32_w]
                  rfl
                 refine one_ (i := 5) (N := some 53) #[true, true, true, true, true, true, true, true, true, true, true, true, true, true, true, true, true, false, false, false, false] rfl rfl (one_of HT_.out (by kernel_rfl)) (by decide) (fun K hK => ?_)
                 refine goes_ Try.func81 (by kernel_rfl) rfl #[.agg #[.int .i64 a0_0, .int .i64 a0_1, .bool a0_2, .slice (some ad443) l0_3.length c0_3], .int .i64 x10_1, .int .i64 (rd t444 x12_2)] (by rfl) rfl rfl (by (try simp only [List.map_toArray, List.map_cons, List.map_nil]); first | done | rfl | (simp only [List.length_drop, List.length_take]; rfl)) ?_
                 with_reducible refine (thermionref01_weight.calls k2 a0_0 a0_1 a0_2 _ _ l0_3 x10_1 (rd t444 x12_2) t449 _ ?side1 ?side2 A28.out).mono ?_
                 (case side1 => repeat (first | exact (Kd.C_below HR0_3.out HB.out) | (with_reducible refine Kd.C_alloc ?_ _) | (with_reducible refine Kd.C_drewN ?_ _) | (with_reducible refine Kd.C_drew ?_)))
                 (case side2 => exact HC0_3.out)
                 rintro e w41 ⟨rfl, hb⟩
                 refine ⟨_, rfl, ?_⟩
                 have n0_ := Aside0.mk (Kd.R_below (by (with_reducible repeat (first | apply Kd.R_alloc | apply Kd.R_drewN | apply Kd.R_drew)); exact HO_11.out) hb)
                 have n1_ := Aside0.mk (blk_below (g := gb439) (o := .cells #[.int .i64 a0_0, .int .i64 a0_1, .bool a0_2, .slice (some ad443) l0_3.length c0_3] 24 (0, 0)) (by (with_reducible repeat (first | refine blk_drewN ?_ _ | refine blk_drew ?_ | refine blk_alloc ?_ _)); exact BK439.out) hb)
                 have n2_ := Aside0.mk (blk_below (g := gb440) (o := .cells #[.slice A2_0 l2_0.length c2_0, .slice (some ad451) l2_1.length c2_1, .int .i64 a2_2, .bool a2_3] 33 (0, 0)) (by (with_reducible repeat (first | refine blk_drewN ?_ _ | refine blk_drew ?_ | refine blk_alloc ?_ _)); exact BK440.out) hb)
                 have n3_ := Aside0.mk (blk_below (g := gb441) (o := .cells #[.int .i64 0, .int .i64 0] 42 (0, 0)) (by (with_reducible repeat (first | refine blk_drewN ?_ _ | refine blk_drew ?_ | refine blk_alloc ?_ _)); exact BK441.out) hb)
                 have n4_ := Aside0.mk (blk_below (g := gb442) (o := .cells #[.int .i64 x443000_2, .int .i64 x443001_2] 42 (0, 0)) (by (with_reducible repeat (first | refine blk_drewN ?_ _ | refine blk_drew ?_ | refine blk_alloc ?_ _)); exact BK442.out) hb)
                 have n5_ := Aside0.mk (below_step (by repeat (first | (with_reducible first | exact HB.out | apply below_alloc | apply pw_below_drewN | apply below_drew1 | refine below_set ?_ GE439.out | refine below_set ?_ GE440.out | refine below_set ?_ GE441.out | refine below_set ?_ GE442.out) | exact HB.out)) hb)
                 clear HO_11 BK439 BK440 BK441 BK442 HB
                 have HO_11 := n0_
                 have BK439 := n1_
                 have BK440 := n2_
                 have BK441 := n3_
                 have BK442 := n4_
                 have HB := n5_
                 clear n0_ n1_ n2_ n3_ n4_ n5_
                 (try clear hb)
                 (try clear hb2)
                 (try clear hk)
                 (try clear hi)
                 refine hK.out _ _ ⟨(blk_cell BK442.out 0).trans rfl, (blk_cell BK442.out 1).trans rfl, (blk_cell BK439.out 0).trans rfl, (blk_cell BK439.out 1).trans rfl, (blk_cell BK439.out 2).trans rfl, (blk_cell BK439.out 3).trans rfl, (blk_cell BK440.out 0).trans rfl, (blk_cell BK440.out 1).trans rfl, (blk_cell BK440.out 2).trans rfl, (blk_cell BK440.out 3).trans rfl, ((HB.out.cell (World.block_lt_of_cell? w _ hw450_0)).trans hw450_0), ((HB.out.cell (World.block_lt_of_cell? w _ hw451_0)).trans hw451_0)⟩ (fun hHeld => ?_)
                 clear hK K
                 refine norm_ (a' := ?_) ?_ ?_
                 rotate_left
                 ·show Act.put _ (some 53) _ = _
                  simp only [Act.put, List.setIfInBounds_toArray, List.set_cons_zero, List.set_cons_succ, i64_w, i32_w]
                  rfl
                 refine pure_ (i := 17) (N := some 65) (v := ?_) (a' := ?_) #[true, true, true, true, true, true, true, true, true, true, true, true, true, true, true, true, true, true, false, false, false] rfl rfl (any_of HT_.out (by kernel_rfl)) (fun _ _ _ h => h) (Or.inl ⟨by rfl, ?_⟩) ?_ ?_
                 rotate_left
                 ·intro w'
                  go_simp
                  with_reducible rfl
                 rotate_left
                 ·simp only [Act.put, List.setIfInBounds_toArray, List.set_cons_zero, List.set_cons_succ, i64_w, i32_w]
                  rfl
                 refine pure_ (i := 18) (N := some 66) (v := ?_) (a' := ?_) #[true, true, true, true, true, true, true, true, true, true, true, true, true, true, true, true, true, true, true, false, false] rfl rfl (any_of HT_.out (by kernel_rfl)) (fun _ _ _ h => h) (Or.inl ⟨by rfl, ?_⟩) ?_ ?_
                 rotate_left
                 ·intro w'
                  go_simp
                  with_reducible rfl
                 rotate_left
                 ·simp only [Act.put, List.setIfInBounds_toArray, List.set_cons_zero, List.set_cons_succ, i64_w, i32_w]
                  rfl
                 refine pure_ (i := 19) (N := some 67) (v := ?_) (a' := ?_) #[true, true, true, true, true, true, true, true, true, true, true, true, true, true, true, true, true, true, true, true, false] rfl rfl (any_of HT_.out (by kernel_rfl)) (fun _ _ _ h => h) (Or.inl ⟨by rfl, ?_⟩) ?_ ?_
                 rotate_left
                 ·intro w'
                  go_simp
                  with_reducible rfl
                 rotate_left
                 ·simp only [Act.put, List.setIfInBounds_toArray, List.set_cons_zero, List.set_cons_succ, i64_w, i32_w]
                  rfl
                 refine last_ (i := 20) (N := none) #[true, true, true, true, true, true, true, true, true, true, true, true, true, true, true, true, true, true, true, true, true] rfl rfl (one_of HT_.out (by kernel_rfl)) (by decide) (fun K hK => ?_)
                 have hs42 : w41.cell? ⟨gb442, 0, none⟩ = some (.int .i64 x443000_2) := (blk_cell BK442.out 0).trans rfl
                 have hfs42 := blk_frozen BK442.out 0
                 have hns42_0 := NB439_442.out
                 have hns42_1 := NB440_442.out
                 have hns42_2 := NB441_442.out
                 have hms42_0 := NB442_439.out
                 have hms42_1 := NB442_440.out
                 have hms42_2 := NB442_441.out
                 refine skip_ (w1 := ?_) (by rfl) rfl ?_ ?_
                 rotate_left
                 ·go_simp
                  rfl
                 refine hK.out _ _ ?_
                 clear hK K
                 refine done_ (done_of HT_.out (by kernel_rfl)) ?_
                 try go_wp2
                 have n0_ : Aside0 (Kd.R (Kd.int .i64) 3 (w41.setCell ⟨gb442, 0, none⟩ (.int .i64 (wrap64 (x443000_2 + (wrap64 (t449 * (wrap64 ((rd l1 (ji29)) - (rd l2_1 (rd t444 x12_2)))))))))) w.heap.size (fun _ => True) (.slice (some ad447) t444.length co35) t444) := ⟨by (with_reducible repeat (first | apply Kd.R_alloc | apply Kd.R_drewN | apply Kd.R_drew)); exact Kd.R_mono (Kd.R_far (p := ⟨gb442, 0, none⟩) (Kd.R_types HO_11.out BK442.out (by decide)) (fun _ hk => hk.2) (.int .i64 (wrap64 (x443000_2 + (wrap64 (t449 * (wrap64 ((rd l1 (ji29)) - (rd l2_1 (rd t444 x12_2)))))))))) (fun _ hk => trivial)⟩
                 have n1_ : Aside0 ((w41.setCell ⟨gb442, 0, none⟩ (.int .i64 (wrap64 (x443000_2 + (wrap64 (t449 * (wrap64 ((rd l1 (ji29)) - (rd l2_1 (rd t444 x12_2)))))))))).heap[gb439]? = some (.cells #[.int .i64 a0_0, .int .i64 a0_1, .bool a0_2, .slice (some ad443) l0_3.length c0_3] 24 (0, 0))) := ⟨by (with_reducible repeat (first | refine blk_drewN ?_ _ | refine blk_drew ?_ | refine blk_alloc ?_ _)); refine blk_far ?_ NB439_442.out _; (with_reducible repeat (first | refine blk_drewN ?_ _ | refine blk_drew ?_ | refine blk_alloc ?_ _)); exact BK439.out⟩
                 have n2_ : Aside0 ((w41.setCell ⟨gb442, 0, none⟩ (.int .i64 (wrap64 (x443000_2 + (wrap64 (t449 * (wrap64 ((rd l1 (ji29)) - (rd l2_1 (rd t444 x12_2)))))))))).heap[gb440]? = some (.cells #[.slice A2_0 l2_0.length c2_0, .slice (some ad451) l2_1.length c2_1, .int .i64 a2_2, .bool a2_3] 33 (0, 0))) := ⟨by (with_reducible repeat (first | refine blk_drewN ?_ _ | refine blk_drew ?_ | refine blk_alloc ?_ _)); refine blk_far ?_ NB440_442.out _; (with_reducible repeat (first | refine blk_drewN ?_ _ | refine blk_drew ?_ | refine blk_alloc ?_ _)); exact BK440.out⟩
                 have n3_ : Aside0 ((w41.setCell ⟨gb442, 0, none⟩ (.int .i64 (wrap64 (x443000_2 + (wrap64 (t449 * (wrap64 ((rd l1 (ji29)) - (rd l2_1 (rd t444 x12_2)))))))))).heap[gb441]? = some (.cells #[.int .i64 0, .int .i64 0] 42 (0, 0))) := ⟨by (with_reducible repeat (first | refine blk_drewN ?_ _ | refine blk_drew ?_ | refine blk_alloc ?_ _)); refine blk_far ?_ NB441_442.out _; (with_reducible repeat (first | refine blk_drewN ?_ _ | refine blk_drew ?_ | refine blk_alloc ?_ _)); exact BK441.out⟩
                 have n4_ : Aside0 ((w41.setCell ⟨gb442, 0, none⟩ (.int .i64 (wrap64 (x443000_2 + (wrap64 (t449 * (wrap64 ((rd l1 (ji29)) - (rd l2_1 (rd t444 x12_2)))))))))).heap[gb442]? = some (.cells #[.int .i64 (wrap64 (x443000_2 + (wrap64 (t449 * (wrap64 ((rd l1 (ji29)) - (rd l2_1 (rd t444 x12_2)))))))), .int .i64 x443001_2] 42 (0, 0))) := ⟨by (with_reducible repeat (first | refine blk_drewN ?_ _ | refine blk_drew ?_ | refine blk_alloc ?_ _)); refine blk_put (cs := #[.int .i64 x443000_2, .int .i64 x443001_2]) ?_ 0 _ rfl; (with_reducible repeat (first | refine blk_drewN ?_ _ | refine blk_drew ?_ | refine blk_alloc ?_ _)); exact BK442.out⟩
                 have n5_ : Aside0 (Below w.heap.size w (w41.setCell ⟨gb442, 0, none⟩ (.int .i64 (wrap64 (x443000_2 + (wrap64 (t449 * (wrap64 ((rd l1 (ji29)) - (rd l2_1 (rd t444 x12_2))))))))))) := ⟨by repeat (first | (with_reducible first | exact HB.out | apply below_alloc | apply pw_below_drewN | apply below_drew1 | refine below_set ?_ GE439.out | refine below_set ?_ GE440.out | refine below_set ?_ GE441.out | refine below_set ?_ GE442.out) | exact HB.out)⟩
                 (try clear HO_11)
                 (try clear BK439)
                 (try clear BK440)
                 (try clear BK441)
                 (try clear BK442)
                 (try clear HB)
                 generalize (w41.setCell ⟨gb442, 0, none⟩ (.int .i64 (wrap64 (x443000_2 + (wrap64 (t449 * (wrap64 ((rd l1 (ji29)) - (rd l2_1 (rd t444 x12_2)))))))))) = w43 at n0_ n1_ n2_ n3_ n4_ n5_ ⊢
                 have HO_11 := n0_
                 have BK439 := n1_
                 have BK440 := n2_
                 have BK441 := n3_
                 have BK442 := n4_
                 have HB := n5_
                 clear n0_ n1_ n2_ n3_ n4_ n5_
                 have n0_ := Aside0.mk (Kd.R_drew HO_11.out)
                 have n1_ := Aside0.mk (blk_drew BK439.out)
                 have n2_ := Aside0.mk (blk_drew BK440.out)
                 have n3_ := Aside0.mk (blk_drew BK441.out)
                 have n4_ := Aside0.mk (blk_drew BK442.out)
                 have n5_ := Aside0.mk (below_drew1 HB.out)
                 clear HO_11 BK439 BK440 BK441 BK442 HB
                 have HO_11 := n0_
                 have BK439 := n1_
                 have BK440 := n2_
                 have BK441 := n3_
                 have BK442 := n4_
                 have HB := n5_
                 clear n0_ n1_ n2_ n3_ n4_ n5_
                 have p453 : 0 ≤ ((ji29) : Int) := of_decide_eq_true (by first | (with_reducible assumption) | assumption)
                 have q453 : (ji29) < (l1.length : Int) := of_decide_eq_true (by first | (with_reducible assumption) | assumption)
                 obtain ⟨ad453, e453, hx453_0⟩ := Kd.at_int HR1.out (ji29) p453 q453
                 have hw453_0 := hx453_0
                 obtain rfl : ad450 = ad453 := (by injection e453)
                 replace hx453_0 := (HB.out.cell (World.block_lt_of_cell? w _ hx453_0)).trans hx453_0
                 replace p453 := eq_true p453
                 replace q453 := eq_true q453
                 have p454 : 0 ≤ ((rd t444 x12_2) : Int) := of_decide_eq_true (by first | (with_reducible assumption) | assumption)
                 have q454 : (rd t444 x12_2) < (l2_0.length : Int) := of_decide_eq_true (by first | (with_reducible assumption) | assumption)
                 obtain ⟨ad454, e454, hx454_0⟩ := Kd.at_int HR2_0.out (rd t444 x12_2) p454 q454
                 have hw454_0 := hx454_0
                 cases e454
                 replace hx454_0 := (HB.out.cell (World.block_lt_of_cell? w _ hx454_0)).trans hx454_0
                 replace p454 := eq_true p454
                 replace q454 := eq_true q454
                 refine start_ (n := 21) (S := fun w' => w'.cell? ⟨gb442, 0, none⟩ = some (.int .i64 (wrap64 (x443000_2 + (wrap64 (t449 * (wrap64 ((rd l1 (ji29)) - (rd l2_1 (rd t444 x12_2))))))))) ∧ w'.cell? ⟨gb442, 1, none⟩ = some (.int .i64 x443001_2) ∧ w'.cell? ⟨gb439, 0, none⟩ = some (.int .i64 a0_0) ∧ w'.cell? ⟨gb439, 1, none⟩ = some (.int .i64 a0_1) ∧ w'.cell? ⟨gb439, 2, none⟩ = some (.bool a0_2) ∧ w'.cell? ⟨gb439, 3, none⟩ = some (.slice (some ad443) l0_3.length c0_3) ∧ w'.cell? ⟨gb440, 0, none⟩ = some (.slice (some ad454) l2_0.length c2_0) ∧ w'.cell? ⟨gb440, 1, none⟩ = some (.slice (some ad451) l2_1.length c2_1) ∧ w'.cell? ⟨gb440, 2, none⟩ = some (.int .i64 a2_2) ∧ w'.cell? ⟨gb440, 3, none⟩ = some (.bool a2_3) ∧ w'.cell? (ad450.add ((ji29)).toNat) = some (.int .i64 (rd l1 (ji29))) ∧ w'.cell? (ad454.add ((rd t444 x12_2)).toNat) = some (.int .i64 (rd l2_0 (rd t444 x12_2)))) (ds := [20]) #[false, false, false, false, false, false, false, false, false, false, false, false, false, false, false, false, false, false, false, false, false] (by kernel_rfl) rfl rfl ⟨(blk_cell BK442.out 0).trans rfl, (blk_cell BK442.out 1).trans rfl, (blk_cell BK439.out 0).trans rfl, (blk_cell BK439.out 1).trans rfl, (blk_cell BK439.out 2).trans rfl, (blk_cell BK439.out 3).trans rfl, (blk_cell BK440.out 0).trans rfl, (blk_cell BK440.out 1).trans rfl, (blk_cell BK440.out 2).trans rfl, (blk_cell BK440.out 3).trans rfl, ((HB.out.cell (World.block_lt_of_cell? w _ hw453_0)).trans hw453_0), ((HB.out.cell (World.block_lt_of_cell? w _ hw454_0)).trans hw454_0)⟩ (fun hHeld => ?_); refine with_tabW thermionref01_charge.tab13 thermionref01_charge.bits13 (fun HT_ HW_ => ?_)
                 generalize w43.drew = w44 at HO_11 BK439 BK440 BK441 BK442 HB hx453_0 hx454_0 hHeld ⊢
                 refine pure_ (i := 0) (N := some 68) (v := ?_) (a' := ?_) #[true, false, false, false, false, false, false, false, false, false, false, false, false, false, false, false, false, false, false, false, false] rfl rfl (any_of HT_.out (by kernel_rfl)) (fun _ _ _ h => h) (Or.inl ⟨by rfl, ?_⟩) ?_ ?_
                 rotate_left
                 ·intro w'
                  go_simp
                  with_reducible rfl
                 rotate_left
                 ·simp only [Act.put, List.setIfInBounds_toArray, List.set_cons_zero, List.set_cons_succ, i64_w, i32_w]
                  rfl
                 refine pure_ (i := 3) (N := some 71) (v := ?_) (a' := ?_) #[true, false, false, true, false, false, false, false, false, false, false, false, false, false, false, false, false, false, false, false, false] rfl rfl (any_of HT_.out (by kernel_rfl)) (fun _ _ _ h => h) (Or.inl ⟨by rfl, ?_⟩) ?_ ?_
                 rotate_left
                 ·intro w'
                  go_simp
                  with_reducible rfl
                 rotate_left
                 ·simp only [Act.put, List.setIfInBounds_toArray, List.set_cons_zero, List.set_cons_succ, i64_w, i32_w]
                  rfl
                 refine pure_ (i := 4) (N := some 72) (v := ?_) (a' := ?_) #[true, false, false, true, true, false, false, false, false, false, false, false, false, false, false, false, false, false, false, false, false] rfl rfl (any_of HT_.out (by kernel_rfl)) (fun _ _ _ h => h) (Or.inl ⟨by rfl, ?_⟩) ?_ ?_
                 rotate_left
                 ·intro w'
                  go_simp
                  with_reducible rfl
                 rotate_left
                 ·simp only [Act.put, List.setIfInBounds_toArray, List.set_cons_zero, List.set_cons_succ, i64_w, i32_w]
                  rfl
                 refine pure_ (i := 6) (N := some 74) (v := ?_) (a' := ?_) #[true, false, false, true, true, false, true, false, false, false, false, false, false, false, false, false, false, false, false, false, false] rfl rfl (any_of HT_.out (by kernel_rfl)) (fun _ _ _ h => h) (Or.inl ⟨by rfl, ?_⟩) ?_ ?_
                 rotate_left
                 ·intro w'
                  go_simp
                  with_reducible rfl
                 rotate_left
                 ·simp only [Act.put, List.setIfInBounds_toArray, List.set_cons_zero, List.set_cons_succ, i64_w, i32_w]
                  rfl
                 refine pure_ (i := 7) (N := some 75) (v := ?_) (a' := ?_) #[true, false, false, true, true, false, true, true, false, false, false, false, false, false, false, false, false, false, false, false, false] rfl rfl (any_of HT_.out (by kernel_rfl)) (fun _ _ _ h => h) (Or.inl ⟨by rfl, ?_⟩) ?_ ?_
                 rotate_left
                 ·intro w'
                  go_simp
                  with_reducible rfl
                 rotate_left
                 ·simp only [Act.put, List.setIfInBounds_toArray, List.set_cons_zero, List.set_cons_succ, i64_w, i32_w]
                  rfl
                 refine pure_ (i := 8) (N := some 76) (v := ?_) (a' := ?_) #[true, false, false, true, true, false, true, true, true, false, false, false, false, false, false, false, false, false, false, false, false] rfl rfl (any_of HT_.out (by kernel_rfl)) (fun _ _ _ h => h) (Or.inl ⟨by rfl, ?_⟩) ?_ ?_
                 rotate_left
                 ·intro w'
                  go_simp
                  with_reducible rfl
                 rotate_left
                 ·simp only [Act.put, List.setIfInBounds_toArray, List.set_cons_zero, List.set_cons_succ, i64_w, i32_w]
                  rfl
                 refine pure_ (i := 9) (N := some 77) (v := ?_) (a' := ?_) #[true, false, false, true, true, false, true, true, true, true, false, false, false, false, false, false, false, false, false, false, false] rfl rfl (any_of HT_.out (by kernel_rfl)) (fun _ _ _ h => h) (Or.inl ⟨by rfl, ?_⟩) ?_ ?_
                 rotate_left
                 ·intro w'
                  go_simp
                  with_reducible rfl
                 rotate_left
                 ·simp only [Act.put, List.setIfInBounds_toArray, List.set_cons_zero, List.set_cons_succ, i64_w, i32_w]
                  rfl
                 refine pure_ (i := 11) (N := some 79) (v := ?_) (a' := ?_) #[true, false, false, true, true, false, true, true, true, true, false, true, false, false, false, false, false, false, false, false, false] rfl rfl (any_of HT_.out (by kernel_rfl)) (fun _ _ _ h => h) (Or.inl ⟨by rfl, ?_⟩) ?_ ?_
                 rotate_left
                 ·intro w'
                  go_simp
                  with_reducible rfl
                 rotate_left
                 ·simp only [Act.put, List.setIfInBounds_toArray, List.set_cons_zero, List.set_cons_succ, i64_w, i32_w]
                  rfl
                 refine pure_ (i := 13) (N := some 81) (v := ?_) (a' := ?_) #[true, false, false, true, true, false, true, true, true, true, false, true, false, true, false, false, false, false, false, false, false] rfl rfl (any_of HT_.out (by kernel_rfl)) (fun _ _ _ h => h) (Or.inl ⟨by rfl, ?_⟩) ?_ ?_
                 rotate_left
                 ·intro w'
                  go_simp
                  with_reducible rfl
                 rotate_left
                 ·simp only [Act.put, List.setIfInBounds_toArray, List.set_cons_zero, List.set_cons_succ, i64_w, i32_w]
                  rfl
                 refine take_ (i := 1) (N := some 69) (v := ?_) (a' := ?_) #[true, true, false, true, true, false, true, true, true, true, false, true, false, true, false, false, false, false, false, false, false] rfl rfl (take_ofW HT_.out HW_.out (by kernel_rfl)) (fun _ _ _ h => h) (Or.inl ⟨by rfl, ?_⟩) hHeld ?_ ?_
                 rotate_left
                 ·rintro w' ⟨s0, s1, s2, s3, s4, s5, s6, s7, s8, s9, s10, s11⟩
                  go_simp
                  with_reducible rfl
                 rotate_left
                 ·simp only [Act.put, List.setIfInBounds_toArray, List.set_cons_zero, List.set_cons_succ, i64_w, i32_w]
                  rfl
                 refine take_ (i := 2) (N := some 70) (v := ?_) (a' := ?_) #[true, true, true, true, true, false, true, true, true, true, false, true, false, true, false, false, false, false, false, false, false] rfl rfl (take_ofW HT_.out HW_.out (by kernel_rfl)) (fun _ _ _ h => h) (Or.inl ⟨by rfl, ?_⟩) hHeld ?_ ?_
                 rotate_left
                 ·rintro w' ⟨s0, s1, s2, s3, s4, s5, s6, s7, s8, s9, s10, s11⟩
                  go_simp
                  with_reducible rfl
                 rotate_left
                 ·simp only [Act.put, List.setIfInBounds_toArray, List.set_cons_zero, List.set_cons_succ, i64_w, i32_w]
                  rfl
                 refine take_ (i := 10) (N := some 78) (v := ?_) (a' := ?_) #[true, true, true, true, true, false, true, true, true, true, true, true, false, true, false, false, false, false, false, false, false] rfl rfl (take_ofW HT_.out HW_.out (by kernel_rfl)) (fun _ _ _ h => h) (Or.inl ⟨by rfl, ?_⟩) hHeld ?_ ?_
                 rotate_left
                 ·rintro w' ⟨s0, s1, s2, s3, s4, s5, s6, s7, s8, s9, s10, s11⟩
                  go_simp
                  with_reducible rfl
                 rotate_left
                 ·simp only [Act.put, List.setIfInBounds_toArray, List.set_cons_zero, List.set_cons_succ, i64_w, i32_w]
                  rfl
                 refine take_ (i := 12) (N := some 80) (v := ?_) (a' := ?_) #[true, true, true, true, true, false, true, true, true, true, true, true, true, true, false, false, false, false, false, false, false] rfl rfl (take_ofW HT_.out HW_.out (by kernel_rfl)) (fun _ _ _ h => h) (Or.inl ⟨by rfl, ?_⟩) hHeld ?_ ?_
                 rotate_left
                 ·rintro w' ⟨s0, s1, s2, s3, s4, s5, s6, s7, s8, s9, s10, s11⟩
                  go_simp
                  with_reducible rfl
                 rotate_left
                 ·simp only [Act.put, List.setIfInBounds_toArray, List.set_cons_zero, List.set_cons_succ, i64_w, i32_w]
                  rfl
                 refine pure_ (i := 14) (N := some 82) (v := ?_) (a' := ?_) #[true, true, true, true, true, false, true, true, true, true, true, true, true, true, true, false, false, false, false, false, false] rfl rfl (any_of HT_.out (by kernel_rfl)) (fun _ _ _ h => h) (Or.inl ⟨by rfl, ?_⟩) ?_ ?_
                 rotate_left
                 ·intro w'
                  go_simp
                  with_reducible rfl
                 rotate_left
                 ·simp only [Act.put, List.setIfInBounds_toArray, List.set_cons_zero, List.set_cons_succ, i64_w, i32_w]
                  rfl
                 refine take_ (i := 15) (N := some 83) (v := ?_) (a' := ?_) #[true, true, true, true, true, false, true, true, true, true, true, true, true, true, true, true, false, false, false, false, false] rfl rfl (take_ofW HT_.out HW_.out (by kernel_rfl)) (fun _ _ _ h => h) (Or.inl ⟨by rfl, ?_⟩) hHeld ?_ ?_
                 rotate_left
                 ·rintro w' ⟨s0, s1, s2, s3, s4, s5, s6, s7, s8, s9, s10, s11⟩
                  go_simp
                  with_reducible rfl
                 rotate_left
                 ·simp only [Act.put, List.setIfInBounds_toArray, List.set_cons_zero, List.set_cons_succ, i64_w, i32_w]
                  rfl
                 refine pure_ (i := 16) (N := some 84) (v := ?_) (a' := ?_) #[true, true, true, true, true, false, true, true, true, true, true, true, true, true, true, true, true, false, false, false, false] rfl rfl (any_of HT_.out (by kernel_rfl)) (fun _ _ _ h => h) (Or.inl ⟨by rfl, ?_⟩) ?_ ?_
                 rotate_left
                 ·intro w'
                  go_simp
                  with_reducible rfl
                 rotate_left
                 ·simp only [Act.put, List.setIfInBounds_toArray, List.set_cons_zero, List.set_cons_succ, i64_w, i32_w]
                  rfl
                 refine one_ (i := 5) (N := some 73) #[true, true, true, true, true, true, true, true, true, true, true, true, true, true, true, true, true, false, false, false, false] rfl rfl (one_of HT_.out (by kernel_rfl)) (by decide) (fun K hK => ?_)
                 refine goes_ Try.func81 (by kernel_rfl) rfl #[.agg #[.int .i64 a0_0, .int .i64 a0_1, .bool a0_2, .slice (some ad443) l0_3.length c0_3], .int .i64 x10_1, .int .i64 (rd t444 x12_2)] (by rfl) rfl rfl (by (try simp only [List.map_toArray, List.map_cons, List.map_nil]); first | done | rfl | (simp only [List.length_drop, List.length_take]; rfl)) ?_
                 with_reducible refine (thermionref01_weight.calls k2 a0_0 a0_1 a0_2 _ _ l0_3 x10_1 (rd t444 x12_2) t452 _ ?side1 ?side2 A33.out).mono ?_
                 (case side1 => repeat (first | exact (Kd.C_below HR0_3.out HB.out) | (with_reducible refine Kd.C_alloc ?_ _) | (with_reducible refine Kd.C_drewN ?_ _) | (with_reducible refine Kd.C_drew ?_)))
                 (case side2 => exact HC0_3.out)
                 rintro e w45 ⟨rfl, hb⟩
                 refine ⟨_, rfl, ?_⟩
                 have n0_ := Aside0.mk (Kd.R_below (by (with_reducible repeat (first | apply Kd.R_alloc | apply Kd.R_drewN | apply Kd.R_drew)); exact HO_11.out) hb)
                 have n1_ := Aside0.mk (blk_below (g := gb439) (o := .cells #[.int .i64 a0_0, .int .i64 a0_1, .bool a0_2, .slice (some ad443) l0_3.length c0_3] 24 (0, 0)) (by (with_reducible repeat (first | refine blk_drewN ?_ _ | refine blk_drew ?_ | refine blk_alloc ?_ _)); exact BK439.out) hb)
                 have n2_ := Aside0.mk (blk_below (g := gb440) (o := .cells #[.slice (some ad454) l2_0.length c2_0, .slice (some ad451) l2_1.length c2_1, .int .i64 a2_2, .bool a2_3] 33 (0, 0)) (by (with_reducible repeat (first | refine blk_drewN ?_ _ | refine blk_drew ?_ | refine blk_alloc ?_ _)); exact BK440.out) hb)
                 have n3_ := Aside0.mk (blk_below (g := gb441) (o := .cells #[.int .i64 0, .int .i64 0] 42 (0, 0)) (by (with_reducible repeat (first | refine blk_drewN ?_ _ | refine blk_drew ?_ | refine blk_alloc ?_ _)); exact BK441.out) hb)
                 have n4_ := Aside0.mk (blk_below (g := gb442) (o := .cells #[.int .i64 (wrap64 (x443000_2 + (wrap64 (t449 * (wrap64 ((rd l1 (ji29)) - (rd l2_1 (rd t444 x12_2)))))))), .int .i64 x443001_2] 42 (0, 0)) (by (with_reducible repeat (first | refine blk_drewN ?_ _ | refine blk_drew ?_ | refine blk_alloc ?_ _)); exact BK442.out) hb)
                 have n5_ := Aside0.mk (below_step (by repeat (first | (with_reducible first | exact HB.out | apply below_alloc | apply pw_below_drewN | apply below_drew1 | refine below_set ?_ GE439.out | refine below_set ?_ GE440.out | refine below_set ?_ GE441.out | refine below_set ?_ GE442.out) | exact HB.out)) hb)
                 clear HO_11 BK439 BK440 BK441 BK442 HB
                 have HO_11 := n0_
                 have BK439 := n1_
                 have BK440 := n2_
                 have BK441 := n3_
                 have BK442 := n4_
                 have HB := n5_
                 clear n0_ n1_ n2_ n3_ n4_ n5_
                 (try clear hb)
                 (try clear hb2)
                 (try clear hk)
                 (try clear hi)
                 refine hK.out _ _ ⟨(blk_cell BK442.out 0).trans rfl, (blk_cell BK442.out 1).trans rfl, (blk_cell BK439.out 0).trans rfl, (blk_cell BK439.out 1).trans rfl, (blk_cell BK439.out 2).trans rfl, (blk_cell BK439.out 3).trans rfl, (blk_cell BK440.out 0).trans rfl, (blk_cell BK440.out 1).trans rfl, (blk_cell BK440.out 2).trans rfl, (blk_cell BK440.out 3).trans rfl, ((HB.out.cell (World.block_lt_of_cell? w _ hw453_0)).trans hw453_0), ((HB.out.cell (World.block_lt_of_cell? w _ hw454_0)).trans hw454_0)⟩ (fun hHeld => ?_)
                 clear hK K
                 refine norm_ (a' := ?_) ?_ ?_
                 rotate_left
                 ·show Act.put _ (some 73) _ = _
                  simp only [Act.put, List.setIfInBounds_toArray, List.set_cons_zero, List.set_cons_succ, i64_w, i32_w]
                  rfl
                 refine pure_ (i := 17) (N := some 85) (v := ?_) (a' := ?_) #[true, true, true, true, true, true, true, true, true, true, true, true, true, true, true, true, true, true, false, false, false] rfl rfl (any_of HT_.out (by kernel_rfl)) (fun _ _ _ h => h) (Or.inl ⟨by rfl, ?_⟩) ?_ ?_
                 rotate_left
                 ·intro w'
                  go_simp
                  with_reducible rfl
                 rotate_left
                 ·simp only [Act.put, List.setIfInBounds_toArray, List.set_cons_zero, List.set_cons_succ, i64_w, i32_w]
                  rfl
                 refine pure_ (i := 18) (N := some 86) (v := ?_) (a' := ?_) #[true, true, true, true, true, true, true, true, true, true, true, true, true, true, true, true, true, true, true, false, false] rfl rfl (any_of HT_.out (by kernel_rfl)) (fun _ _ _ h => h) (Or.inl ⟨by rfl, ?_⟩) ?_ ?_
                 rotate_left
                 ·intro w'
                  go_simp
                  with_reducible rfl
                 rotate_left
                 ·simp only [Act.put, List.setIfInBounds_toArray, List.set_cons_zero, List.set_cons_succ, i64_w, i32_w]
                  rfl
                 refine pure_ (i := 19) (N := some 87) (v := ?_) (a' := ?_) #[true, true, true, true, true, true, true, true, true, true, true, true, true, true, true, true, true, true, true, true, false] rfl rfl (any_of HT_.out (by kernel_rfl)) (fun _ _ _ h => h) (Or.inl ⟨by rfl, ?_⟩) ?_ ?_
                 rotate_left
                 ·intro w'
                  go_simp
                  with_reducible rfl
                 rotate_left
                 ·simp only [Act.put, List.setIfInBounds_toArray, List.set_cons_zero, List.set_cons_succ, i64_w, i32_w]
                  rfl
                 refine last_ (i := 20) (N := none) #[true, true, true, true, true, true, true, true, true, true, true, true, true, true, true, true, true, true, true, true, true] rfl rfl (one_of HT_.out (by kernel_rfl)) (by decide) (fun K hK => ?_)
                 have hs46 : w45.cell? ⟨gb442, 1, none⟩ = some (.int .i64 x443001_2) := (blk_cell BK442.out 1).trans rfl
                 have hfs46 := blk_frozen BK442.out 1
                 have hns46_0 := NB439_442.out
                 have hns46_1 := NB440_442.out
                 have hns46_2 := NB441_442.out
                 have hms46_0 := NB442_439.out
                 have hms46_1 := NB442_440.out
                 have hms46_2 := NB442_441.out
                 refine skip_ (w1 := ?_) (by rfl) rfl ?_ ?_
                 rotate_left
                 ·go_simp
                  rfl
                 refine hK.out _ _ ?_
                 clear hK K
                 refine done_ (done_of HT_.out (by kernel_rfl)) ?_
                 try go_wp2
                 go_roundg k2
                 case measure => have := HK1.out; have := HK2.out; omega
                 case rel => exact ⟨(wrap64 (x12_2 + 1)), (wrap64 (x443000_2 + (wrap64 (t449 * (wrap64 ((rd l1 (ji29)) - (rd l2_1 (rd t444 x12_2)))))))), (wrap64 (x443001_2 + (wrap64 (t452 * (wrap64 ((rd l1 (ji29)) - (rd l2_0 (rd t444 x12_2)))))))), (by first | rfl | (simp; done) | (simp [*]; done)), H', ⟨by have := HK1.out; have := HK2.out; omega⟩, ⟨by (with_reducible repeat (first | apply Kd.R_alloc | apply Kd.R_drewN | apply Kd.R_drew)); exact Kd.R_mono (Kd.R_far (p := ⟨gb442, 1, none⟩) (Kd.R_types HO_11.out BK442.out (by decide)) (fun _ hk => hk.2) (.int .i64 (wrap64 (x443001_2 + (wrap64 (t452 * (wrap64 ((rd l1 (ji29)) - (rd l2_0 (rd t444 x12_2)))))))))) (fun _ hk => trivial)⟩, ⟨by (with_reducible repeat (first | refine blk_drewN ?_ _ | refine blk_drew ?_ | refine blk_alloc ?_ _)); refine blk_far ?_ NB439_442.out _; (with_reducible repeat (first | refine blk_drewN ?_ _ | refine blk_drew ?_ | refine blk_alloc ?_ _)); exact BK439.out⟩, ⟨by (with_reducible repeat (first | refine blk_drewN ?_ _ | refine blk_drew ?_ | refine blk_alloc ?_ _)); refine blk_far ?_ NB440_442.out _; (with_reducible repeat (first | refine blk_drewN ?_ _ | refine blk_drew ?_ | refine blk_alloc ?_ _)); exact BK440.out⟩, ⟨by (with_reducible repeat (first | refine blk_drewN ?_ _ | refine blk_drew ?_ | refine blk_alloc ?_ _)); refine blk_far ?_ NB441_442.out _; (with_reducible repeat (first | refine blk_drewN ?_ _ | refine blk_drew ?_ | refine blk_alloc ?_ _)); exact BK441.out⟩, ⟨by (with_reducible repeat (first | refine blk_drewN ?_ _ | refine blk_drew ?_ | refine blk_alloc ?_ _)); refine blk_put (cs := #[.int .i64 (wrap64 (x443000_2 + (wrap64 (t449 * (wrap64 ((rd l1 (ji29)) - (rd l2_1 (rd t444 x12_2)))))))), .int .i64 x443001_2]) ?_ 1 _ rfl; (with_reducible repeat (first | refine blk_drewN ?_ _ | refine blk_drew ?_ | refine blk_alloc ?_ _)); exact BK442.out⟩, ⟨by repeat (first | (with_reducible first | exact HB.out | apply below_alloc | apply pw_below_drewN | apply below_drew1 | refine below_set ?_ GE439.out | refine below_set ?_ GE440.out | refine below_set ?_ GE441.out | refine below_set ?_ GE442.out) | exact HB.out)⟩⟩
                ·rw [if_neg c34] at H
                 exact absurd H (by simp)
               ·rw [if_neg c32] at H
                exact absurd H (by simp)
              ·rw [if_neg c31] at H
               exact absurd H (by simp)
             ·rw [if_neg c30] at H
              exact absurd H (by simp)
           ·rw [if_neg c21] at H
            exact absurd H (by simp)
          ·rw [if_neg c20] at H
           exact absurd H (by simp)
         ·rw [if_neg c19] at H
          exact absurd H (by simp)
        ·rw [if_neg c18] at H
         have c18b0 := decide_eq_false c18
         clear c18
         have H' := Aside0.mk H
         clear H
         obtain ⟨Ao47, co47, eo47⟩ := Kd.R_slice HO_11.out
         subst eo47
         go_wp2
         go_roundg k2
         case measure => have := HK1.out; have := HK2.out; omega
         case rel => exact ⟨(wrap64 (x10_1 + 1)), (x443000_2), (x443001_2), (by first | rfl | (simp; done) | (simp [*]; done)), H', ⟨by have := HK1.out; have := HK2.out; omega⟩, ⟨by (with_reducible repeat (first | refine blk_drewN ?_ _ | refine blk_drew ?_ | refine blk_alloc ?_ _)); exact BK439.out⟩, ⟨by (with_reducible repeat (first | refine blk_drewN ?_ _ | refine blk_drew ?_ | refine blk_alloc ?_ _)); exact BK440.out⟩, ⟨by (with_reducible repeat (first | refine blk_drewN ?_ _ | refine blk_drew ?_ | refine blk_alloc ?_ _)); exact BK441.out⟩, ⟨by (with_reducible repeat (first | refine blk_drewN ?_ _ | refine blk_drew ?_ | refine blk_alloc ?_ _)); exact BK442.out⟩, ⟨by repeat (first | (with_reducible first | exact HB.out | apply below_alloc | apply pw_below_drewN | apply below_drew1 | refine below_set ?_ GE439.out | refine below_set ?_ GE440.out | refine below_set ?_ GE441.out | refine below_set ?_ GE442.out) | exact HB.out)⟩⟩
     ·rw [if_neg c11] at H
      have c11b0 : ((rd l0_3 x10_1) == a3) = false := beq_eq_false_iff_ne.mpr c11
      have c11b1 : ((rd l0_3 x10_1) != a3) = true := bne_iff_ne.mpr c11
      have H' := Aside0.mk H
      clear H
      have hnb48 := NB439_440.out
      have hnc48 := NB440_439.out
      have hnb49 := NB439_441.out
      have hnc49 := NB441_439.out
      have hnb50 := NB439_442.out
      have hnc50 := NB442_439.out
      have hcz51_0 : wr.cell? ⟨gb439, 0, none⟩ = some (.int .i64 a0_0) := (blk_cell BK439.out 0).trans rfl
      have hcz51_1 : wr.cell? ⟨gb439, 1, none⟩ = some (.int .i64 a0_1) := (blk_cell BK439.out 1).trans rfl
      have hcz51_2 : wr.cell? ⟨gb439, 2, none⟩ = some (.bool a0_2) := (blk_cell BK439.out 2).trans rfl
      have hcz51_3 : wr.cell? ⟨gb439, 3, none⟩ = some (.slice A0_3 l0_3.length c0_3) := (blk_cell BK439.out 3).trans rfl
      have hfz51_0 := blk_frozen BK439.out 0
      have hfz51_1 := blk_frozen BK439.out 1
      have hfz51_2 := blk_frozen BK439.out 2
      have hfz51_3 := blk_frozen BK439.out 3
      have p443 : 0 ≤ (x10_1 : Int) := of_decide_eq_true (by first | (with_reducible assumption) | assumption)
      have q443 : x10_1 < (l0_3.length : Int) := of_decide_eq_true (by first | (with_reducible assumption) | assumption)
      obtain ⟨ad443, e443, hx443_0⟩ := Kd.at_int HR0_3.out x10_1 p443 q443
      cases e443
      replace hx443_0 := (HB.out.cell (World.block_lt_of_cell? w _ hx443_0)).trans hx443_0
      replace p443 := eq_true p443
      replace q443 := eq_true q443
      go_wp2
      go_roundg k1
      case measure => have := HK1.out; omega
      case rel => exact ⟨(wrap64 (x10_1 + 1)), (x443000_1), (x443001_1), (by first | rfl | (simp; done) | (simp [*]; done)), H', ⟨by have := HK1.out; omega⟩, ⟨by (with_reducible repeat (first | refine blk_drewN ?_ _ | refine blk_drew ?_ | refine blk_alloc ?_ _)); exact BK439.out⟩, ⟨by (with_reducible repeat (first | refine blk_drewN ?_ _ | refine blk_drew ?_ | refine blk_alloc ?_ _)); exact BK440.out⟩, ⟨by (with_reducible repeat (first | refine blk_drewN ?_ _ | refine blk_drew ?_ | refine blk_alloc ?_ _)); exact BK441.out⟩, ⟨by (with_reducible repeat (first | refine blk_drewN ?_ _ | refine blk_drew ?_ | refine blk_alloc ?_ _)); exact BK442.out⟩, ⟨by repeat (first | (with_reducible first | exact HB.out | apply below_alloc | apply pw_below_drewN | apply below_drew1 | refine below_set ?_ GE439.out | refine below_set ?_ GE440.out | refine below_set ?_ GE441.out | refine below_set ?_ GE442.out) | exact HB.out)⟩⟩
    ·rw [if_neg c10] at H
     exact absurd H (by simp)
   ·rw [if_neg c9] at H
    have c9b0 := decide_eq_false c9
    clear c9
    simp only [Option.some.injEq, Prod.mk.injEq] at H
    obtain ⟨rfl, rfl⟩ := H
    have hnb52 := NB439_440.out
    have hnc52 := NB440_439.out
    have hnb53 := NB439_441.out
    have hnc53 := NB441_439.out
    have hnb54 := NB439_442.out
    have hnc54 := NB442_439.out
    have hcz55_0 : wr.cell? ⟨gb439, 0, none⟩ = some (.int .i64 a0_0) := (blk_cell BK439.out 0).trans rfl
    have hcz55_1 : wr.cell? ⟨gb439, 1, none⟩ = some (.int .i64 a0_1) := (blk_cell BK439.out 1).trans rfl
    have hcz55_2 : wr.cell? ⟨gb439, 2, none⟩ = some (.bool a0_2) := (blk_cell BK439.out 2).trans rfl
    have hcz55_3 : wr.cell? ⟨gb439, 3, none⟩ = some (.slice A0_3 l0_3.length c0_3) := (blk_cell BK439.out 3).trans rfl
    have hfz55_0 := blk_frozen BK439.out 0
    have hfz55_1 := blk_frozen BK439.out 1
    have hfz55_2 := blk_frozen BK439.out 2
    have hfz55_3 := blk_frozen BK439.out 3
    have hnb56 := NB442_440.out
    have hnc56 := NB440_442.out
    have hnb57 := NB442_441.out
    have hnc57 := NB441_442.out
    have hcz58_0 : wr.cell? ⟨gb442, 0, none⟩ = some (.int .i64 x443000_1) := (blk_cell BK442.out 0).trans rfl
    have hcz58_1 : wr.cell? ⟨gb442, 1, none⟩ = some (.int .i64 x443001_1) := (blk_cell BK442.out 1).trans rfl
    have hfz58_0 := blk_frozen BK442.out 0
    have hfz58_1 := blk_frozen BK442.out 1
    have hnb59 := NB441_440.out
    have hnc59 := NB440_441.out
    have hcz60_0 : wr.cell? ⟨gb441, 0, none⟩ = some (.int .i64 0) := (blk_cell BK441.out 0).trans rfl
    have hcz60_1 : wr.cell? ⟨gb441, 1, none⟩ = some (.int .i64 0) := (blk_cell BK441.out 1).trans rfl
    have hfz60_0 := blk_frozen BK441.out 0
    have hfz60_1 := blk_frozen BK441.out 1
    go_wp2
    refine bodyPost_ret (results_cell_row rfl _ _ gb441 42 #[.int .i64 x443000_1, .int .i64 x443001_1] (0, 0) _ rfl (by (with_reducible repeat (first | refine blk_drewN ?_ _ | refine blk_drew ?_ | refine blk_alloc ?_ _)); refine blk_put (cs := #[.int .i64 x443000_1, .int .i64 0]) ?_ 1 _ rfl; (with_reducible repeat (first | refine blk_drewN ?_ _ | refine blk_drew ?_ | refine blk_alloc ?_ _)); refine blk_put (cs := #[.int .i64 0, .int .i64 0]) ?_ 0 _ rfl; (with_reducible repeat (first | refine blk_drewN ?_ _ | refine blk_drew ?_ | refine blk_alloc ?_ _)); exact BK441.out) Try.underlying42 rfl (by kernel_rfl)) rfl ?_
    exact ⟨by first | rfl | (simp [errW_none, errW_some] <;> rfl) | (simp [*, errW_none, errW_some] <;> rfl), by repeat (first | (with_reducible first | exact HB.out | apply below_alloc | apply pw_below_drewN | apply below_drew1 | refine below_set ?_ GE439.out | refine below_set ?_ GE440.out | refine below_set ?_ GE441.out | refine below_set ?_ GE442.out) | exact HB.out)⟩
def thermionref01_sums.l0 : Nat → List Int → Int → Int → Int → List Int → Int → Int → Int → Bool → List Int → Option (Int × Int)
 | 0, _, _, _, _, _, _, _, _, _, _ => none
 | k + 1, x1, x2, x8, x9, x10, x11, x391000, x391001, x391002, x391003 => if x11 < (x10.length : Int) then (if 0 ≤ x11 then ((thermionref01_weight.f k x391000 x391001 x391002 x391003 x2 (rd x10 x11)).bind fun t395 => (if 0 ≤ (rd x10 x11) then (if (rd x10 x11) < (x1.length : Int) then (thermionref01_sums.l0 k x1 x2 (wrap64 (x8 + t395)) (wrap64 (x9 + (wrap64 (t395 * (rd x1 (rd x10 x11)))))) x10 (wrap64 (x11 + 1)) x391000 x391001 x391002 x391003) else (none)) else (none))) else (none)) else (some (x8, x9))
def thermionref01_sums.f (k : Nat) (a0_0 : Int) (a0_1 : Int) (a0_2 : Bool) (l0_3 : List Int) (l1 : List Int) (a2 : Int) : Option (Int × Int) := (thermionref01_around.f k a0_0 a0_1 a0_2 l0_3 a2).bind fun t391 => (thermionref01_sums.l0 k l1 a2 0 0 t391 0 a0_0 a0_1 a0_2 l0_3)
def thermionref01_sums.T6 : Bool × List (List Nat × List Nat) := (true, [([], []), ([], []), ([], []), ([], []), ([2, 3], [2, 3]), ([4], [4]), ([0, 1, 5], [0, 1, 5]), ([6, 6, 0, 1, 2, 3, 4, 5, 6], [6])])
def thermionref01_sums.B6 : List Nat := [0, 0, 0, 0, 12, 28, 63, 127]
theorem thermionref01_sums.tab6 : rtab .any (opsOf Try.f90 6) = thermionref01_sums.T6 := by kernel_rfl
theorem thermionref01_sums.bits6 : waitsOk thermionref01_sums.T6.2 thermionref01_sums.B6 = true := by kernel_rfl
def thermionref01_sums.T7 : Bool × List (List Nat × List Nat) := (true, [([], []), ([], []), ([0, 1], [0, 1]), ([], []), ([], []), ([], []), ([], []), ([], []), ([6, 7], [6, 7]), ([8], [8]), ([5, 9], [5, 9]), ([10], [10]), ([4, 11], [4, 11]), ([3, 12], [3, 12]), ([2, 0, 1, 2], [0, 2]), ([13, 14, 0, 1, 2, 3, 4, 5, 6, 7, 8, 9, 10, 11, 12, 13, 14], [3, 13])])
def thermionref01_sums.B7 : List Nat := [0, 0, 3, 0, 0, 0, 0, 0, 192, 448, 992, 2016, 4080, 8184, 7, 32767]
theorem thermionref01_sums.tab7 : rtab .any (opsOf Try.f90 7) = thermionref01_sums.T7 := by kernel_rfl
theorem thermionref01_sums.bits7 : waitsOk thermionref01_sums.T7.2 thermionref01_sums.B7 = true := by kernel_rfl
set_option maxHeartbeats 8000000 in
set_option maxRecDepth 100000 in
theorem thermionref01_sums.calls (k : Nat) (a0_0 : Int) (a0_1 : Int) (a0_2 : Bool) (A0_3 : Option Addr) (c0_3 : Nat) (l0_3 : List Int) (A1 : Option Addr) (c1 : Nat) (l1 : List Int) (a2 : Int) (r1 : Int) (r2 : Int) (w : World) (hr0_3 : Kd.C (Kd.int .i64) w A0_3 l0_3.length l0_3) (hc0_3 : l0_3.length ≤ c0_3) (hr1 : Kd.C (Kd.int .i64) w A1 l1.length l1) (hc1 : l1.length ≤ c1) (h : thermionref01_sums.f k a0_0 a0_1 a0_2 l0_3 l1 a2 = some (r1, r2)) :
  Calls Try.prog 90 #[.agg #[.int .i64 a0_0, .int .i64 a0_1, .bool a0_2, .slice A0_3 l0_3.length c0_3], .slice A1 l1.length c1, .int .i64 a2] w fun e w' => e = .returned (.tuple #[.int .i64 r1, .int .i64 r2]) ∧ Below w.heap.size w w' := by
 have hu24 := Try.underlying24
 have HR0_3 := Aside0.mk hr0_3
 have HC0_3 := Aside0.mk hc0_3
 clear hr0_3 hc0_3
 have HR1 := Aside0.mk hr1
 have HC1 := Aside0.mk hc1
 clear hr1 hc1
 have HB := Aside0.mk (Below.refl w.heap.size w)
 have H : ((thermionref01_around.f k a0_0 a0_1 a0_2 l0_3 a2).bind fun t391 => (thermionref01_sums.l0 k l1 a2 0 0 t391 0 a0_0 a0_1 a0_2 l0_3)) = some (r1, r2) := h
 clear h
 replace H := Option.bind_eq_some_iff.mp H
 obtain ⟨t391, A40, H⟩ := H
 replace H : (thermionref01_sums.l0 k l1 a2 0 0 t391 0 a0_0 a0_1 a0_2 l0_3) = some (r1, r2) := H
 have A4 := Aside0.mk A40
 clear A40
 have H' := Aside0.mk H
 clear H
 go_enter Try.func90, Try.ntmps90
 go_wp2_with (first | ((with_reducible refine gate_dst (N := 3) rfl ?_); refine box_event ?hg (N := 3) ?hd (cs := #[.int .i64 a0_0, .int .i64 a0_1, .bool a0_2, .slice A0_3 l0_3.length c0_3]) (t := 24) ?hr ?_; (case hd => rfl); (case hg => rfl); (case hr => first | (go_simp; done) | (go_simp; rfl)); intro gb390 hg w5 hbox hb; have n0_ := Aside0.mk (below_step (by repeat (first | (with_reducible first | exact HB.out | apply below_alloc | apply pw_below_drewN | apply below_drew1) | exact HB.out)) hb); have n1_ := Aside0.mk (hbox); have n2_ := Aside0.mk ((by rw [hg]; exact (below_size (by repeat (first | (with_reducible first | exact HB.out | apply below_alloc | apply pw_below_drewN | apply below_drew1) | exact HB.out))) : w.heap.size ≤ gb390)); have n3_ := Aside0.mk ((by rw [hg]; exact (below_size (by repeat (first | (with_reducible first | exact HB.out | apply below_alloc | apply pw_below_drewN | apply below_drew1) | exact HB.out))) : w.heap.size ≤ gb390)); clear HB; have HB := n0_; have BK390 := n1_; have GW390 := n2_; have GE390 := n3_; clear n0_ n1_ n2_ n3_; clear hb hbox hg; have hcz6_0 : w5.cell? ⟨gb390, 0, none⟩ = some (.int .i64 a0_0) := (blk_cell BK390.out 0).trans rfl; have hcz6_1 : w5.cell? ⟨gb390, 1, none⟩ = some (.int .i64 a0_1) := (blk_cell BK390.out 1).trans rfl; have hcz6_2 : w5.cell? ⟨gb390, 2, none⟩ = some (.bool a0_2) := (blk_cell BK390.out 2).trans rfl; have hcz6_3 : w5.cell? ⟨gb390, 3, none⟩ = some (.slice A0_3 l0_3.length c0_3) := (blk_cell BK390.out 3).trans rfl; have hfz6_0 := blk_frozen BK390.out 0; have hfz6_1 := blk_frozen BK390.out 1; have hfz6_2 := blk_frozen BK390.out 2; have hfz6_3 := blk_frozen BK390.out 3) | ((with_reducible refine gate_callee (f := 100) rfl ?_); refine goesL_ (some 15) rfl rfl Try.func100 (by kernel_rfl) rfl #[.agg #[.int .i64 a0_0, .int .i64 a0_1, .bool a0_2, .slice A0_3 l0_3.length c0_3], .int .i64 a2] rfl (by (try simp only [List.map_toArray, List.map_cons, List.map_nil]); first | done | rfl | (simp only [List.length_drop, List.length_take]; rfl)) ?_; (with_reducible refine (thermionref01_around.calls k a0_0 a0_1 a0_2 _ _ l0_3 a2 t391 _ ?side1 ?side2 A4.out).mono ?_); (case side1 => repeat (first | exact (Kd.C_below HR0_3.out HB.out) | (with_reducible refine Kd.C_alloc ?_ _) | (with_reducible refine Kd.C_drewN ?_ _) | (with_reducible refine Kd.C_drew ?_))); (case side2 => exact HC0_3.out); rintro e w7 ⟨v392, rfl, ho0, hb⟩; refine ⟨_, rfl, ?_⟩; have n0_ := Aside0.mk (Kd.R_lower ho0 (below_size (by repeat (first | (with_reducible first | exact HB.out | apply below_alloc | apply pw_below_drewN | apply below_drew1 | refine below_set ?_ GE390.out) | exact HB.out)))); have n1_ := Aside0.mk (blk_below (g := gb390) (o := .cells #[.int .i64 a0_0, .int .i64 a0_1, .bool a0_2, .slice A0_3 l0_3.length c0_3] 24 (0, 0)) (by (with_reducible repeat (first | refine blk_drewN ?_ _ | refine blk_drew ?_ | refine blk_alloc ?_ _)); exact BK390.out) hb); have n2_ := Aside0.mk (below_step (by repeat (first | (with_reducible first | exact HB.out | apply below_alloc | apply pw_below_drewN | apply below_drew1 | refine below_set ?_ GE390.out) | exact HB.out)) hb); clear BK390; clear HB; have HO393 := n0_; have BK390 := n1_; have HB := n2_; clear n0_ n1_ n2_; (try clear hb); (try clear hb2); (try clear hk); (try clear hi); (try clear ho0)))
 go_loopg [8, 9, 11] k (fun kq v8 v9 v11 w' => ∃ (x8_1 : Int) (x9_1 : Int) (x11_1 : Int), v8 = .int .i64 x8_1 ∧ v9 = .int .i64 x9_1 ∧ v11 = .int .i64 x11_1 ∧ Aside0 (thermionref01_sums.l0 kq l1 a2 x8_1 x9_1 t391 x11_1 a0_0 a0_1 a0_2 l0_3 = some (r1, r2)) ∧ Aside0 (kq ≤ k) ∧ Aside0 (Kd.R (Kd.int .i64) 3 w' w.heap.size (fun _ => True) v392 t391) ∧ Aside0 (w'.heap[gb390]? = some (.cells #[.int .i64 a0_0, .int .i64 a0_1, .bool a0_2, (.slice A0_3 l0_3.length c0_3)] 24 (0, 0))) ∧ Aside0 (Below w.heap.size w w'))
 case atStart => exact ⟨(0), (0), (0), (by first | rfl | (simp; done) | (simp [*]; done)), (by first | rfl | (simp; done) | (simp [*]; done)), (by first | rfl | (simp; done) | (simp [*]; done)), H', ⟨Nat.le_refl _⟩, ⟨by (with_reducible repeat (first | apply Kd.R_alloc | apply Kd.R_drewN | apply Kd.R_drew)); exact HO393.out⟩, ⟨by (with_reducible repeat (first | refine blk_drewN ?_ _ | refine blk_drew ?_ | refine blk_alloc ?_ _)); exact BK390.out⟩, ⟨by repeat (first | (with_reducible first | exact HB.out | apply below_alloc | apply pw_below_drewN | apply below_drew1 | refine below_set ?_ GE390.out) | exact HB.out)⟩⟩
 case round =>
  clear H'
  try clear c1
  try clear p2
  try clear hcz6_0
  try clear hcz6_1
  try clear hcz6_2
  try clear hcz6_3
  try clear hfz6_0
  try clear hfz6_1
  try clear hfz6_2
  try clear hfz6_3
  obtain ⟨x8_1, x9_1, x11_1, rfl, rfl, rfl, HA, HK1, HO_10, BK390, HB⟩ := hrel
  cases gk with
  | zero => exact absurd HA.out (by simp [thermionref01_sums.l0])
  | succ k1 =>
   have H := HA.out
   clear HA
   simp only [thermionref01_sums.l0] at H
   by_cases c8 : x11_1 < (t391.length : Int)
   ·rw [if_pos c8] at H
    have c8b0 := decide_eq_true c8
    clear c8
    by_cases c9 : 0 ≤ x11_1
    ·rw [if_pos c9] at H
     have c9b0 := decide_eq_true c9
     clear c9
     replace H := Option.bind_eq_some_iff.mp H
     obtain ⟨t395, A100, H⟩ := H
     replace H : (if 0 ≤ (rd t391 x11_1) then (if (rd t391 x11_1) < (l1.length : Int) then (thermionref01_sums.l0 k1 l1 a2 (wrap64 (x8_1 + t395)) (wrap64 (x9_1 + (wrap64 (t395 * (rd l1 (rd t391 x11_1)))))) t391 (wrap64 (x11_1 + 1)) a0_0 a0_1 a0_2 l0_3) else (none)) else (none)) = some (r1, r2) := H
     have A10 := Aside0.mk A100
     clear A100
     by_cases c11 : 0 ≤ (rd t391 x11_1)
     ·rw [if_pos c11] at H
      have c11b0 := decide_eq_true c11
      clear c11
      by_cases c12 : (rd t391 x11_1) < (l1.length : Int)
      ·rw [if_pos c12] at H
       have c12b0 := decide_eq_true c12
       clear c12
       have H' := Aside0.mk H
       clear H
       obtain ⟨Ao13, co13, eo13⟩ := Kd.R_slice HO_10.out
       subst eo13
       try go_wp2
       have n0_ := Aside0.mk (Kd.R_drew HO_10.out)
       have n1_ := Aside0.mk (blk_drew BK390.out)
       have n2_ := Aside0.mk (below_drew1 HB.out)
       clear HO_10 BK390 HB
       have HO_10 := n0_
       have BK390 := n1_
       have HB := n2_
       clear n0_ n1_ n2_
       have p394 : 0 ≤ (x11_1 : Int) := of_decide_eq_true (by first | (with_reducible assumption) | assumption)
       have q394 : x11_1 < (t391.length : Int) := of_decide_eq_true (by first | (with_reducible assumption) | assumption)
       obtain ⟨ad394, e394, hx394_0⟩ := Kd.at_int (Kd.R_reads' HO_10.out).2.2 x11_1 p394 q394
       cases e394
       replace p394 := eq_true p394
       replace q394 := eq_true q394
       refine start_ (n := 8) (S := fun w' => w'.cell? ⟨gb390, 0, none⟩ = some (.int .i64 a0_0) ∧ w'.cell? ⟨gb390, 1, none⟩ = some (.int .i64 a0_1) ∧ w'.cell? ⟨gb390, 2, none⟩ = some (.bool a0_2) ∧ w'.cell? ⟨gb390, 3, none⟩ = some (.slice A0_3 l0_3.length c0_3) ∧ w'.cell? (ad394.add (x11_1).toNat) = some (.int .i64 (rd t391 x11_1))) (ds := []) #[false, false, false, false, false, false, false, false] (by kernel_rfl) rfl rfl ⟨(blk_cell BK390.out 0).trans rfl, (blk_cell BK390.out 1).trans rfl, (blk_cell BK390.out 2).trans rfl, (blk_cell BK390.out 3).trans rfl, hx394_0⟩ (fun hHeld => ?_); refine with_tabW thermionref01_sums.tab6 thermionref01_sums.bits6 (fun HT_ HW_ => ?_)
       generalize wr.drew = w14 at HO_10 BK390 HB hx394_0 hHeld ⊢
       refine pure_ (i := 1) (N := some 23) (v := ?_) (a' := ?_) #[false, true, false, false, false, false, false, false] rfl rfl (any_of HT_.out (by kernel_rfl)) (fun _ _ _ h => h) (Or.inl ⟨by rfl, ?_⟩) ?_ ?_
       rotate_left
       ·intro w'
        go_simp
        with_reducible rfl
       rotate_left
       ·simp only [Act.put, List.setIfInBounds_toArray, List.set_cons_zero, List.set_cons_succ, i64_w, i32_w]
        rfl
       refine pure_ (i := 2) (N := some 24) (v := ?_) (a' := ?_) #[false, true, true, false, false, false, false, false] rfl rfl (any_of HT_.out (by kernel_rfl)) (fun _ _ _ h => h) (Or.inl ⟨by rfl, ?_⟩) ?_ ?_
       rotate_left
       ·intro w'
        go_simp
        with_reducible rfl
       rotate_left
       ·simp only [Act.put, List.setIfInBounds_toArray, List.set_cons_zero, List.set_cons_succ, i64_w, i32_w]
        rfl
       refine pure_ (i := 3) (N := some 25) (v := ?_) (a' := ?_) #[false, true, true, true, false, false, false, false] rfl rfl (any_of HT_.out (by kernel_rfl)) (fun _ _ _ h => h) (Or.inl ⟨by rfl, ?_⟩) ?_ ?_
       rotate_left
       ·intro w'
        go_simp
        with_reducible rfl
       rotate_left
       ·simp only [Act.put, List.setIfInBounds_toArray, List.set_cons_zero, List.set_cons_succ, i64_w, i32_w]
        rfl
       refine pure_ (i := 4) (N := some 26) (v := ?_) (a' := ?_) #[false, true, true, true, true, false, false, false] rfl rfl (any_of HT_.out (by kernel_rfl)) (fun _ _ _ h => h) (Or.inl ⟨by rfl, ?_⟩) ?_ ?_
       rotate_left
       ·intro w'
        go_simp
        with_reducible rfl
       rotate_left
       ·simp only [Act.put, List.setIfInBounds_toArray, List.set_cons_zero, List.set_cons_succ, i64_w, i32_w]
        rfl
       refine take_ (i := 0) (N := some 22) (v := ?_) (a' := ?_) #[true, true, true, true, true, false, false, false] rfl rfl (take_ofW HT_.out HW_.out (by kernel_rfl)) (fun _ _ _ h => h) (Or.inl ⟨by rfl, ?_⟩) hHeld ?_ ?_
       rotate_left
       ·rintro w' ⟨s0, s1, s2, s3, s4⟩
        go_simp
        with_reducible rfl
       rotate_left
       ·simp only [Act.put, List.setIfInBounds_toArray, List.set_cons_zero, List.set_cons_succ, i64_w, i32_w]
        rfl
       refine take_ (i := 5) (N := some 27) (v := ?_) (a' := ?_) #[true, true, true, true, true, true, false, false] rfl rfl (take_ofW HT_.out HW_.out (by kernel_rfl)) (fun _ _ _ h => h) (Or.inl ⟨by rfl, ?_⟩) hHeld ?_ ?_
       rotate_left
       ·rintro w' ⟨s0, s1, s2, s3, s4⟩
        go_simp
        with_reducible rfl
       rotate_left
       ·simp only [Act.put, List.setIfInBounds_toArray, List.set_cons_zero, List.set_cons_succ, i64_w, i32_w]
        rfl
       refine one_ (i := 6) (N := some 28) #[true, true, true, true, true, true, true, false] rfl rfl (one_of HT_.out (by kernel_rfl)) (by decide) (fun K hK => ?_)
       refine goes_ Try.func81 (by kernel_rfl) rfl #[.agg #[.int .i64 a0_0, .int .i64 a0_1, .bool a0_2, .slice A0_3 l0_3.length c0_3], .int .i64 a2, .int .i64 (rd t391 x11_1)] (by rfl) rfl rfl (by (try simp only [List.map_toArray, List.map_cons, List.map_nil]); first | done | rfl | (simp only [List.length_drop, List.length_take]; rfl)) ?_
       with_reducible refine (thermionref01_weight.calls k1 a0_0 a0_1 a0_2 _ _ l0_3 a2 (rd t391 x11_1) t395 _ ?side1 ?side2 A10.out).mono ?_
       (case side1 => repeat (first | exact (Kd.C_below HR0_3.out HB.out) | (with_reducible refine Kd.C_alloc ?_ _) | (with_reducible refine Kd.C_drewN ?_ _) | (with_reducible refine Kd.C_drew ?_)))
       (case side2 => exact HC0_3.out)
       rintro e w15 ⟨rfl, hb⟩
       have HS4_ := (hb.cell (World.block_lt_of_cell? _ _ (hHeld.2.2.2.2))).trans (hHeld.2.2.2.2)
       refine ⟨_, rfl, ?_⟩
       have n0_ := Aside0.mk (Kd.R_below (by (with_reducible repeat (first | apply Kd.R_alloc | apply Kd.R_drewN | apply Kd.R_drew)); exact HO_10.out) hb)
       have n1_ := Aside0.mk (blk_below (g := gb390) (o := .cells #[.int .i64 a0_0, .int .i64 a0_1, .bool a0_2, .slice A0_3 l0_3.length c0_3] 24 (0, 0)) (by (with_reducible repeat (first | refine blk_drewN ?_ _ | refine blk_drew ?_ | refine blk_alloc ?_ _)); exact BK390.out) hb)
       have n2_ := Aside0.mk (below_step (by repeat (first | (with_reducible first | exact HB.out | apply below_alloc | apply pw_below_drewN | apply below_drew1 | refine below_set ?_ GE390.out) | exact HB.out)) hb)
       clear HO_10 BK390 HB
       have HO_10 := n0_
       have BK390 := n1_
       have HB := n2_
       clear n0_ n1_ n2_
       (try clear hb)
       (try clear hb2)
       (try clear hk)
       (try clear hi)
       refine hK.out _ _ ⟨(blk_cell BK390.out 0).trans rfl, (blk_cell BK390.out 1).trans rfl, (blk_cell BK390.out 2).trans rfl, (blk_cell BK390.out 3).trans rfl, HS4_⟩ (fun hHeld => ?_)
       clear hK K
       refine norm_ (a' := ?_) ?_ ?_
       rotate_left
       ·show Act.put _ (some 28) _ = _
        simp only [Act.put, List.setIfInBounds_toArray, List.set_cons_zero, List.set_cons_succ, i64_w, i32_w]
        rfl
       refine pure_ (i := 7) (N := some 12) (v := ?_) (a' := ?_) #[true, true, true, true, true, true, true, true] rfl rfl (any_of HT_.out (by kernel_rfl)) (fun _ _ _ h => h) (Or.inl ⟨by rfl, ?_⟩) ?_ ?_
       rotate_left
       ·intro w'
        go_simp
        with_reducible rfl
       rotate_left
       ·simp only [Act.put, List.setIfInBounds_toArray, List.set_cons_zero, List.set_cons_succ, i64_w, i32_w]
        rfl
       refine done_ (done_of HT_.out (by kernel_rfl)) ?_
       try go_wp2
       have n0_ := Aside0.mk (Kd.R_drew HO_10.out)
       have n1_ := Aside0.mk (blk_drew BK390.out)
       have n2_ := Aside0.mk (below_drew1 HB.out)
       clear HO_10 BK390 HB
       have HO_10 := n0_
       have BK390 := n1_
       have HB := n2_
       clear n0_ n1_ n2_
       have p396 : 0 ≤ (x11_1 : Int) := of_decide_eq_true (by first | (with_reducible assumption) | assumption)
       have q396 : x11_1 < (t391.length : Int) := of_decide_eq_true (by first | (with_reducible assumption) | assumption)
       obtain ⟨ad396, e396, hx396_0⟩ := Kd.at_int (Kd.R_reads' HO_10.out).2.2 x11_1 p396 q396
       obtain rfl : ad394 = ad396 := (by injection e396)
       replace p396 := eq_true p396
       replace q396 := eq_true q396
       have p397 : 0 ≤ ((rd t391 x11_1) : Int) := of_decide_eq_true (by first | (with_reducible assumption) | assumption)
       have q397 : (rd t391 x11_1) < (l1.length : Int) := of_decide_eq_true (by first | (with_reducible assumption) | assumption)
       obtain ⟨ad397, e397, hx397_0⟩ := Kd.at_int HR1.out (rd t391 x11_1) p397 q397
       have hw397_0 := hx397_0
       cases e397
       replace hx397_0 := (HB.out.cell (World.block_lt_of_cell? w _ hx397_0)).trans hx397_0
       replace p397 := eq_true p397
       replace q397 := eq_true q397
       refine start_ (n := 16) (S := fun w' => w'.cell? (ad394.add (x11_1).toNat) = some (.int .i64 (rd t391 x11_1)) ∧ w'.cell? (ad397.add ((rd t391 x11_1)).toNat) = some (.int .i64 (rd l1 (rd t391 x11_1)))) (ds := []) #[false, false, false, false, false, false, false, false, false, false, false, false, false, false, false, false] (by kernel_rfl) rfl rfl ⟨hx396_0, ((HB.out.cell (World.block_lt_of_cell? w _ hw397_0)).trans hw397_0)⟩ (fun hHeld => ?_); refine with_tabW thermionref01_sums.tab7 thermionref01_sums.bits7 (fun HT_ HW_ => ?_)
       generalize w15.drew = w16 at HO_10 BK390 HB hx396_0 hx397_0 hHeld ⊢
       refine pure_ (i := 0) (N := some 29) (v := ?_) (a' := ?_) #[true, false, false, false, false, false, false, false, false, false, false, false, false, false, false, false] rfl rfl (any_of HT_.out (by kernel_rfl)) (fun _ _ _ h => h) (Or.inl ⟨by rfl, ?_⟩) ?_ ?_
       rotate_left
       ·intro w'
        go_simp
        with_reducible rfl
       rotate_left
       ·simp only [Act.put, List.setIfInBounds_toArray, List.set_cons_zero, List.set_cons_succ, i64_w, i32_w]
        rfl
       refine pure_ (i := 1) (N := some 30) (v := ?_) (a' := ?_) #[true, true, false, false, false, false, false, false, false, false, false, false, false, false, false, false] rfl rfl (any_of HT_.out (by kernel_rfl)) (fun _ _ _ h => h) (Or.inl ⟨by rfl, ?_⟩) ?_ ?_
       rotate_left
       ·intro w'
        go_simp
        with_reducible rfl
       rotate_left
       ·simp only [Act.put, List.setIfInBounds_toArray, List.set_cons_zero, List.set_cons_succ, i64_w, i32_w]
        rfl
       refine pure_ (i := 2) (N := some 31) (v := ?_) (a' := ?_) #[true, true, true, false, false, false, false, false, false, false, false, false, false, false, false, false] rfl rfl (any_of HT_.out (by kernel_rfl)) (fun _ _ _ h => h) (Or.inl ⟨by rfl, ?_⟩) ?_ ?_
       rotate_left
       ·intro w'
        go_simp
        with_reducible rfl
       rotate_left
       ·simp only [Act.put, List.setIfInBounds_toArray, List.set_cons_zero, List.set_cons_succ, i64_w, i32_w]
        rfl
       refine pure_ (i := 3) (N := some 32) (v := ?_) (a' := ?_) #[true, true, true, true, false, false, false, false, false, false, false, false, false, false, false, false] rfl rfl (any_of HT_.out (by kernel_rfl)) (fun _ _ _ h => h) (Or.inl ⟨by rfl, ?_⟩) ?_ ?_
       rotate_left
       ·intro w'
        go_simp
        with_reducible rfl
       rotate_left
       ·simp only [Act.put, List.setIfInBounds_toArray, List.set_cons_zero, List.set_cons_succ, i64_w, i32_w]
        rfl
       refine pure_ (i := 4) (N := some 33) (v := ?_) (a' := ?_) #[true, true, true, true, true, false, false, false, false, false, false, false, false, false, false, false] rfl rfl (any_of HT_.out (by kernel_rfl)) (fun _ _ _ h => h) (Or.inl ⟨by rfl, ?_⟩) ?_ ?_
       rotate_left
       ·intro w'
        go_simp
        with_reducible rfl
       rotate_left
       ·simp only [Act.put, List.setIfInBounds_toArray, List.set_cons_zero, List.set_cons_succ, i64_w, i32_w]
        rfl
       refine pure_ (i := 5) (N := some 34) (v := ?_) (a' := ?_) #[true, true, true, true, true, true, false, false, false, false, false, false, false, false, false, false] rfl rfl (any_of HT_.out (by kernel_rfl)) (fun _ _ _ h => h) (Or.inl ⟨by rfl, ?_⟩) ?_ ?_
       rotate_left
       ·intro w'
        go_simp
        with_reducible rfl
       rotate_left
       ·simp only [Act.put, List.setIfInBounds_toArray, List.set_cons_zero, List.set_cons_succ, i64_w, i32_w]
        rfl
       refine pure_ (i := 6) (N := some 35) (v := ?_) (a' := ?_) #[true, true, true, true, true, true, true, false, false, false, false, false, false, false, false, false] rfl rfl (any_of HT_.out (by kernel_rfl)) (fun _ _ _ h => h) (Or.inl ⟨by rfl, ?_⟩) ?_ ?_
       rotate_left
       ·intro w'
        go_simp
        with_reducible rfl
       rotate_left
       ·simp only [Act.put, List.setIfInBounds_toArray, List.set_cons_zero, List.set_cons_succ, i64_w, i32_w]
        rfl
       refine pure_ (i := 7) (N := some 36) (v := ?_) (a' := ?_) #[true, true, true, true, true, true, true, true, false, false, false, false, false, false, false, false] rfl rfl (any_of HT_.out (by kernel_rfl)) (fun _ _ _ h => h) (Or.inl ⟨by rfl, ?_⟩) ?_ ?_
       rotate_left
       ·intro w'
        go_simp
        with_reducible rfl
       rotate_left
       ·simp only [Act.put, List.setIfInBounds_toArray, List.set_cons_zero, List.set_cons_succ, i64_w, i32_w]
        rfl
       refine pure_ (i := 8) (N := some 37) (v := ?_) (a' := ?_) #[true, true, true, true, true, true, true, true, true, false, false, false, false, false, false, false] rfl rfl (any_of HT_.out (by kernel_rfl)) (fun _ _ _ h => h) (Or.inl ⟨by rfl, ?_⟩) ?_ ?_
       rotate_left
       ·intro w'
        go_simp
        with_reducible rfl
       rotate_left
       ·simp only [Act.put, List.setIfInBounds_toArray, List.set_cons_zero, List.set_cons_succ, i64_w, i32_w]
        rfl
       refine pure_ (i := 14) (N := some 8) (v := ?_) (a' := ?_) #[true, true, true, true, true, true, true, true, true, false, false, false, false, false, true, false] rfl rfl (any_of HT_.out (by kernel_rfl)) (fun _ _ _ h => h) (Or.inl ⟨by rfl, ?_⟩) ?_ ?_
       rotate_left
       ·intro w'
        go_simp
        with_reducible rfl
       rotate_left
       ·simp only [Act.put, List.setIfInBounds_toArray, List.set_cons_zero, List.set_cons_succ, i64_w, i32_w]
        rfl
       refine take_ (i := 9) (N := some 38) (v := ?_) (a' := ?_) #[true, true, true, true, true, true, true, true, true, true, false, false, false, false, true, false] rfl rfl (take_ofW HT_.out HW_.out (by kernel_rfl)) (fun _ _ _ h => h) (Or.inl ⟨by rfl, ?_⟩) hHeld ?_ ?_
       rotate_left
       ·rintro w' ⟨s0, s1⟩
        go_simp
        with_reducible rfl
       rotate_left
       ·simp only [Act.put, List.setIfInBounds_toArray, List.set_cons_zero, List.set_cons_succ, i64_w, i32_w]
        rfl
       refine pure_ (i := 10) (N := some 39) (v := ?_) (a' := ?_) #[true, true, true, true, true, true, true, true, true, true, true, false, false, false, true, false] rfl rfl (any_of HT_.out (by kernel_rfl)) (fun _ _ _ h => h) (Or.inl ⟨by rfl, ?_⟩) ?_ ?_
       rotate_left
       ·intro w'
        go_simp
        with_reducible rfl
       rotate_left
       ·simp only [Act.put, List.setIfInBounds_toArray, List.set_cons_zero, List.set_cons_succ, i64_w, i32_w]
        rfl
       refine take_ (i := 11) (N := some 40) (v := ?_) (a' := ?_) #[true, true, true, true, true, true, true, true, true, true, true, true, false, false, true, false] rfl rfl (take_ofW HT_.out HW_.out (by kernel_rfl)) (fun _ _ _ h => h) (Or.inl ⟨by rfl, ?_⟩) hHeld ?_ ?_
       rotate_left
       ·rintro w' ⟨s0, s1⟩
        go_simp
        with_reducible rfl
       rotate_left
       ·simp only [Act.put, List.setIfInBounds_toArray, List.set_cons_zero, List.set_cons_succ, i64_w, i32_w]
        rfl
       refine pure_ (i := 12) (N := some 41) (v := ?_) (a' := ?_) #[true, true, true, true, true, true, true, true, true, true, true, true, true, false, true, false] rfl rfl (any_of HT_.out (by kernel_rfl)) (fun _ _ _ h => h) (Or.inl ⟨by rfl, ?_⟩) ?_ ?_
       rotate_left
       ·intro w'
        go_simp
        with_reducible rfl
       rotate_left
       ·simp only [Act.put, List.setIfInBounds_toArray, List.set_cons_zero, List.set_cons_succ, i64_w, i32_w]
        rfl
       refine pure_ (i := 13) (N := some 42) (v := ?_) (a' := ?_) #[true, true, true, true, true, true, true, true, true, true, true, true, true, true, true, false] rfl rfl (any_of HT_.out (by kernel_rfl)) (fun _ _ _ h => h) (Or.inl ⟨by rfl, ?_⟩) ?_ ?_
       rotate_left
       ·intro w'
        go_simp
        with_reducible rfl
       rotate_left
       ·simp only [Act.put, List.setIfInBounds_toArray, List.set_cons_zero, List.set_cons_succ, i64_w, i32_w]
        rfl
       refine pure_ (i := 15) (N := some 9) (v := ?_) (a' := ?_) #[true, true, true, true, true, true, true, true, true, true, true, true, true, true, true, true] rfl rfl (any_of HT_.out (by kernel_rfl)) (fun _ _ _ h => h) (Or.inl ⟨by rfl, ?_⟩) ?_ ?_
       rotate_left
       ·intro w'
        go_simp
        with_reducible rfl
       rotate_left
       ·simp only [Act.put, List.setIfInBounds_toArray, List.set_cons_zero, List.set_cons_succ, i64_w, i32_w]
        rfl
       refine done_ (done_of HT_.out (by kernel_rfl)) ?_
       try go_wp2
       go_roundg k1
       case measure => have := HK1.out; omega
       case rel => exact ⟨(wrap64 (x8_1 + t395)), (wrap64 (x9_1 + (wrap64 (t395 * (rd l1 (rd t391 x11_1)))))), (wrap64 (x11_1 + 1)), (by first | rfl | (simp; done) | (simp [*]; done)), (by first | rfl | (simp; done) | (simp [*]; done)), (by first | rfl | (simp; done) | (simp [*]; done)), H', ⟨by have := HK1.out; omega⟩, ⟨by (with_reducible repeat (first | apply Kd.R_alloc | apply Kd.R_drewN | apply Kd.R_drew)); exact HO_10.out⟩, ⟨by (with_reducible repeat (first | refine blk_drewN ?_ _ | refine blk_drew ?_ | refine blk_alloc ?_ _)); exact BK390.out⟩, ⟨by repeat (first | (with_reducible first | exact HB.out | apply below_alloc | apply pw_below_drewN | apply below_drew1 | refine below_set ?_ GE390.out) | exact HB.out)⟩⟩
      ·rw [if_neg c12] at H
       exact absurd H (by simp)
     ·rw [if_neg c11] at H
      exact absurd H (by simp)
    ·rw [if_neg c9] at H
     exact absurd H (by simp)
   ·rw [if_neg c8] at H
    have c8b0 := decide_eq_false c8
    clear c8
    simp only [Option.some.injEq, Prod.mk.injEq] at H
    obtain ⟨rfl, rfl⟩ := H
    obtain ⟨Ao17, co17, eo17⟩ := Kd.R_slice HO_10.out
    subst eo17
    go_wp2
    go_ret2
    exact ⟨by first | rfl | (simp [errW_none, errW_some] <;> rfl) | (simp [*, errW_none, errW_some] <;> rfl), by repeat (first | (with_reducible first | exact HB.out | apply below_alloc | apply pw_below_drewN | apply below_drew1 | refine below_set ?_ GE390.out) | exact HB.out)⟩
end Go.Proofs.Ytndkkjpgnmahbaa.Print
end

section
namespace Go.Proofs.Ytndkkjpgnmahbaa.Print
open Go.RowKit Go.Proofs.YtndkkjpgnmahbaaW.PrintWords Go.Proofs.YtndkkjpgnmahbaaW.PrintLast Go.Proofs.YtndkkjpgnmahbaaW.PrintMore Go.Proofs.Field
set_option linter.unusedVariables false
theorem obnd {α β : Type} {o : Option α} {a : α} (h : o = some a) (f : α → Option β) : o.bind f = f a := by rw [h]; rfl
def wtR (W H : Nat) (R : Bool) (i : Nat) (c : Int) : Int := if 0 ≤ c ∧ c < ((W * H : Nat) : Int) then netM W H R i c.toNat else 0
theorem wtR_nonneg (W H : Nat) (R : Bool) (i : Nat) (c : Int) : 0 ≤ wtR W H R i c := by
 unfold wtR
 split
 ·exact netM_nonneg W H R i _
 ·omega
theorem wt_of (W H : Nat) (R : Bool) (C : List Int) (k : Nat) (m M : Int) (hW : 1 ≤ W ∧ W ≤ 16) (h0 : 0 ≤ m) (h1 : m ≤ 100000) (hM0 : 0 ≤ M) (b : Bool) :
  thermionref01_weight.j1 (k + 1) m M (Int.tmod m W) b (W : Int) (H : Int) R C = some (if b = true then wgt R (m.toNat % W) false else if M = m + W then wgt R (m.toNat % W) true else 0) := by
 have e : Int.tmod m W = ((m.toNat % W : Nat) : Int) := by
  rw [Int.tmod_eq_emod_of_nonneg h0, Int.natCast_emod, Int.toNat_of_nonneg h0]
 have hl : m.toNat % W < W := Nat.mod_lt _ (by omega)
 have w1 : wrap64 (m + (W : Int)) = m + W := IntWalk.wrap64_in _ (by omega)
 have w2 : wrap64 (((m.toNat % W : Nat) : Int) + 1) = ((m.toNat % W : Nat) : Int) + 1 := IntWalk.wrap64_in _ (by omega)
 have w3 : wrap64 (2 * (((m.toNat % W : Nat) : Int) + 1)) = 2 * (((m.toNat % W : Nat) : Int) + 1) := IntWalk.wrap64_in _ (by omega)
 have w4 : wrap64 (2 * ((m.toNat % W : Nat) : Int)) = 2 * ((m.toNat % W : Nat) : Int) := IntWalk.wrap64_in _ (by omega)
 have w5 : wrap64 (2 * ((m.toNat % W : Nat) : Int) + 1) = 2 * ((m.toNat % W : Nat) : Int) + 1 := IntWalk.wrap64_in _ (by omega)
 rw [thermionref01_weight.j1, e, w1, w2, w3, w4, w5]
 unfold wgt
 cases b <;> cases R <;> simp only [if_true, if_false, Bool.false_eq_true] <;> (try split) <;> rfl
theorem weight_eq {W H : Nat} (hW : 1 ≤ W ∧ W ≤ 16) (hH : 1 ≤ H ∧ H ≤ 16) (R : Bool) (C : List Int) {i : Nat} (hi : i < W * H) (c : Int) (k : Nat) :
  thermionref01_weight.f (k + 2) (W : Int) (H : Int) R C (i : Int) c = some (wtR W H R i c) := by
 have hWH : W * H ≤ 256 := Nat.mul_le_mul hW.2 hH.2
 have hWH1 : 1 ≤ W * H := Nat.mul_pos hW.1 hH.1
 have w0 : wrap64 ((W : Int) * (H : Int)) = ((W * H : Nat) : Int) := by
  rw [← Int.natCast_mul]; exact IntWalk.wrap64_in _ (by omega)
 have w1 : wrap64 (((W * H : Nat) : Int) - 1) = ((W * H : Nat) : Int) - 1 := IntWalk.wrap64_in _ (by omega)
 generalize hn : W * H = n at w0 w1 hi hWH hWH1
 unfold thermionref01_weight.f wtR
 rw [w0, w1]
 have b1 : thermionref01_beyond.f (i : Int) 0 ((n : Int) - 1) = some false := by
  unfold thermionref01_beyond.f
  rw [if_neg (by omega), decide_eq_false (by omega)]
 rw [obnd b1, if_neg (by simp), hn]
 by_cases hc : 0 ≤ c ∧ c < (n : Int)
 ·have b2 : thermionref01_beyond.f c 0 ((n : Int) - 1) = some false := by
   unfold thermionref01_beyond.f
   rw [if_neg (by omega), decide_eq_false (by omega)]
  rw [obnd b2, if_pos hc]
  obtain ⟨j, rfl⟩ : ∃ j : Nat, c = (j : Int) := ⟨c.toNat, by omega⟩
  rw [Int.toNat_natCast, thermionref01_weight.j0, if_neg (by simp), if_neg (by omega)]
  have hj : j < n := by omega
  have key : ∀ (m M : Nat), m < n → M < n → m ≤ M → (if (M : Int) = wrap64 ((m : Int) + 1) then thermionref01_weight.j1 (k + 1) (m : Int) (M : Int) (Int.tmod (m : Int) W) (decide (Int.tmod (M : Int) W > 0)) (W : Int) (H : Int) R C else thermionref01_weight.j1 (k + 1) (m : Int) (M : Int) (Int.tmod (m : Int) W) false (W : Int) (H : Int) R C) = some (netM W H R m M) := by
   clear w0 w1 b1 b2 hc hi hj
   intro m M hm hM hle
   have g0 : (0 : Int) ≤ (m : Int) := by omega
   have g1 : (m : Int) ≤ 100000 := by omega
   have g2 : (0 : Int) ≤ (M : Int) := by omega
   have v1 : wrap64 ((m : Int) + 1) = (m : Int) + 1 := IntWalk.wrap64_in _ (by omega)
   have e : Int.tmod (M : Int) W = ((M % W : Nat) : Int) := by
    rw [Int.tmod_eq_emod_of_nonneg (by omega), Int.natCast_emod]
   rw [v1, e]
   obtain ⟨bb, hbb⟩ : ∃ bb, decide (((M % W : Nat) : Int) > 0) = bb := ⟨_, rfl⟩
   rw [hbb, wt_of W H R C k m M hW g0 g1 g2 bb, wt_of W H R C k m M hW g0 g1 g2 false, Int.toNat_natCast]
   unfold netM
   rw [hn, if_pos (show m < n ∧ M < n from ⟨hm, hM⟩)]
   by_cases a : M = m + 1
   ·rw [if_pos (show (M : Int) = (m : Int) + 1 by omega)]
    by_cases d : 0 < M % W
    ·rw [if_pos (by rw [← hbb]; exact decide_eq_true (by omega)), if_pos (show M = m + 1 ∧ 0 < M % W from ⟨a, d⟩)]
    ·rw [if_neg (by rw [← hbb, decide_eq_false (by omega)]; simp), if_neg (show ¬ (M = m + 1 ∧ 0 < M % W) from fun q => d q.2), if_neg (show ¬ (m = M + 1 ∧ 0 < m % W) by omega)]
     by_cases f : M = m + W
     ·rw [if_pos (show (M : Int) = (m : Int) + (W : Int) by omega), if_pos f]
     ·rw [if_neg (show ¬ (M : Int) = (m : Int) + (W : Int) by omega), if_neg f, if_neg (show ¬ m = M + W by omega)]
   ·rw [if_neg (show ¬ (M : Int) = (m : Int) + 1 by omega), if_neg (by simp), if_neg (show ¬ (M = m + 1 ∧ 0 < M % W) from fun q => a q.1), if_neg (show ¬ (m = M + 1 ∧ 0 < m % W) by omega)]
    by_cases f : M = m + W
    ·rw [if_pos (show (M : Int) = (m : Int) + (W : Int) by omega), if_pos f]
    ·rw [if_neg (show ¬ (M : Int) = (m : Int) + (W : Int) by omega), if_neg f, if_neg (show ¬ m = M + W by omega)]
  by_cases q : i ≤ j
  ·have e1 : mn (i : Int) (j : Int) = (i : Int) := by unfold mn; rw [if_neg (by omega)]
   have e2 : mx (i : Int) (j : Int) = (j : Int) := by unfold mx; split <;> omega
   rw [e1, e2]
   exact key i j hi hj q
  ·have e1 : mn (i : Int) (j : Int) = (j : Int) := by unfold mn; rw [if_pos (by omega)]
   have e2 : mx (i : Int) (j : Int) = (i : Int) := by unfold mx; rw [if_neg (by omega)]
   rw [e1, e2, netM_symm]
   exact key j i hj hi (by omega)
 ·have b2 : thermionref01_beyond.f c 0 ((n : Int) - 1) = some true := by
   unfold thermionref01_beyond.f
   by_cases q : c < 0
   ·rw [if_pos q]
   ·rw [if_neg q, decide_eq_true (by omega)]
  rw [obnd b2, if_neg hc, thermionref01_weight.j0, if_pos rfl]
section
variable {W H : Nat} {R : Bool} {C : List Int} {i : Nat}
def cand (W i : Nat) : List Int := if W = 1 then [(i : Int) - 1, (i : Int) + 1] else [(i : Int) - W, (i : Int) - 1, (i : Int) + 1, (i : Int) + W]
def aroundL (W H : Nat) (R : Bool) (i : Nat) : List Int := (cand W i).filter (fun c => decide (0 < wtR W H R i c))
theorem rd_at (l : List Int) (j : Nat) (h : j < l.length) : rd l (j : Int) = l[j] := by
 unfold rd
 rw [Int.toNat_natCast, List.getD_eq_getElem?_getD, List.getElem?_eq_getElem h]
 rfl
theorem around_go (hW : 1 ≤ W ∧ W ≤ 16) (hH : 1 ≤ H ∧ H ≤ 16) (hi : i < W * H) (l : List Int) (hl : l.length ≤ 100) : ∀ (d j : Nat) (acc : List Int) (k : Nat), j + d = l.length → acc.length ≤ j →
  thermionref01_around.l0 (k + d + 3) (i : Int) l acc (j : Int) (W : Int) (H : Int) R C = some (acc ++ (l.drop j).filter (fun c => decide (0 < wtR W H R i c)))
 | 0, j, acc, k, h, ha => by
  rw [show k + 0 + 3 = (k + 2) + 1 by omega, thermionref01_around.l0, if_neg (by omega), List.drop_eq_nil_of_le (by omega)]
  simp
 | d + 1, j, acc, k, h, ha => by
  have hj : j < l.length := by omega
  have hw : wrap64 ((j : Int) + 1) = ((j + 1 : Nat) : Int) := by rw [IntWalk.wrap64_in _ (by omega)]; omega
  rw [show k + (d + 1) + 3 = (k + d + 3) + 1 by omega, thermionref01_around.l0, if_pos (by omega), if_pos (by omega), rd_at l j hj, obnd (weight_eq hW hH R C hi l[j] (k + d + 1)), hw, List.drop_eq_getElem_cons hj, List.filter_cons]
  by_cases q : 0 < wtR W H R i l[j]
  ·rw [if_pos q, if_pos (by omega), around_go hW hH hi l hl d (j + 1) _ k (by omega) (by simp; omega), if_pos (by simpa using q)]
   simp
  ·rw [if_neg q, around_go hW hH hi l hl d (j + 1) _ k (by omega) (by omega), if_neg (by simpa using q)]
theorem around_eq (hW : 1 ≤ W ∧ W ≤ 16) (hH : 1 ≤ H ∧ H ≤ 16) (hi : i < W * H) (k : Nat) : thermionref01_around.f (k + 8) (W : Int) (H : Int) R C (i : Int) = some (aroundL W H R i) := by
 have hWH : W * H ≤ 256 := Nat.mul_le_mul hW.2 hH.2
 have v1 : wrap64 ((i : Int) - 1) = (i : Int) - 1 := IntWalk.wrap64_in _ (by omega)
 have v2 : wrap64 ((i : Int) + 1) = (i : Int) + 1 := IntWalk.wrap64_in _ (by omega)
 have v3 : wrap64 ((i : Int) - (W : Int)) = (i : Int) - W := IntWalk.wrap64_in _ (by omega)
 have v4 : wrap64 ((i : Int) + (W : Int)) = (i : Int) + W := IntWalk.wrap64_in _ (by omega)
 unfold thermionref01_around.f aroundL cand
 rw [v1, v2, v3, v4]
 by_cases q : W = 1
 ·rw [if_pos (show (W : Int) = 1 by omega), if_pos q, show k + 8 = (k + 7) + 1 by omega, thermionref01_around.j0]
  have := around_go (C := C) (R := R) hW hH hi [(i : Int) - 1, (i : Int) + 1] (by simp) 2 0 [] (k + 2) (by simp) (by simp)
  rw [show k + 2 + 2 + 3 = k + 7 by omega] at this
  exact this
 ·rw [if_neg (show ¬ (W : Int) = 1 by omega), if_neg q, show k + 8 = (k + 7) + 1 by omega, thermionref01_around.j0]
  have := around_go (C := C) (R := R) hW hH hi [(i : Int) - W, (i : Int) - 1, (i : Int) + 1, (i : Int) + W] (by simp) 4 0 [] k (by simp) (by simp)
  rw [show k + 4 + 3 = k + 7 by omega] at this
  exact this
theorem wt_up (hi : i < W * H) : wtR W H R i ((i : Int) - W) = if 0 < i / W then wgt R (i % W) true else 0 := by
 obtain ⟨hW, he, hx, hy⟩ := cell_at hi
 have hu := up_ge (W := W) (i := i) hW
 unfold wtR
 generalize hn : W * H = n at hi ⊢
 by_cases q : W ≤ i
 ·rw [if_pos (hu.2 q), if_pos (show 0 ≤ (i : Int) - W ∧ (i : Int) - W < (n : Int) by omega), show ((i : Int) - W).toNat = i - W by omega]
  unfold netM
  have hm : (i - W) % W = i % W := (Nat.mod_eq_sub_mod q).symm
  have h2 : ¬ (i = i - W + 1 ∧ 0 < i % W) := fun ⟨a, b⟩ => by
   have h1 : W = 1 := by omega
   subst h1
   rw [Nat.mod_one] at b
   omega
  rw [hn, if_pos (show i < n ∧ i - W < n by omega), if_neg (show ¬ (i - W = i + 1 ∧ 0 < (i - W) % W) by omega), if_neg h2, if_neg (show ¬ i - W = i + W by omega), if_pos (show i = i - W + W by omega), hm]
 ·rw [if_neg (fun h => q (hu.1 h)), if_neg (by omega)]
theorem wt_down (hi : i < W * H) : wtR W H R i ((i : Int) + W) = if i / W + 1 < H then wgt R (i % W) true else 0 := by
 obtain ⟨hW, he, hx, hy⟩ := cell_at hi
 have hd := down_lt hi
 unfold wtR
 generalize hn : W * H = n at hi hd ⊢
 by_cases q : i + W < n
 ·rw [if_pos (hd.2 q), if_pos (show 0 ≤ (i : Int) + W ∧ (i : Int) + W < (n : Int) by omega), show ((i : Int) + W).toNat = i + W by omega]
  unfold netM
  have h1 : ¬ (i + W = i + 1 ∧ 0 < (i + W) % W) := fun ⟨a, b⟩ => by
   have h1 : W = 1 := by omega
   subst h1
   rw [Nat.mod_one] at b
   omega
  rw [hn, if_pos (show i < n ∧ i + W < n by omega), if_neg h1, if_neg (show ¬ (i = i + W + 1 ∧ 0 < i % W) by omega), if_pos rfl]
 ·rw [if_neg (fun h => q (hd.1 h)), if_neg (by omega)]
theorem wt_left (hi : i < W * H) (h1 : 1 < W) : wtR W H R i ((i : Int) - 1) = if 0 < i % W then wgt R (i % W - 1) false else 0 := by
 obtain ⟨hW, he, hx, hy⟩ := cell_at hi
 unfold wtR
 generalize hn : W * H = n at hi ⊢
 by_cases q : 0 < i
 ·rw [if_pos (show 0 ≤ (i : Int) - 1 ∧ (i : Int) - 1 < (n : Int) by omega), show ((i : Int) - 1).toNat = i - 1 by omega]
  unfold netM
  rw [hn, if_pos (show i < n ∧ i - 1 < n by omega), if_neg (show ¬ (i - 1 = i + 1 ∧ 0 < (i - 1) % W) by omega)]
  by_cases r : 0 < i % W
  ·rw [if_pos (show i = i - 1 + 1 ∧ 0 < i % W from ⟨by omega, r⟩), if_pos r, (left_col r).1]
  ·rw [if_neg (show ¬ (i = i - 1 + 1 ∧ 0 < i % W) from fun h => r h.2), if_neg r, if_neg (show ¬ i - 1 = i + W by omega), if_neg (show ¬ i = i - 1 + W by omega)]
 ·obtain rfl : i = 0 := by omega
  rw [if_neg (by omega), Nat.zero_mod, if_neg (by omega)]
theorem wt_right (hi : i < W * H) (h1 : 1 < W) : wtR W H R i ((i : Int) + 1) = if i % W + 1 < W then wgt R (i % W) false else 0 := by
 obtain ⟨hW, he, hx, hy⟩ := cell_at hi
 have hr := right_mod (W := W) (i := i) hW
 have hl := fun h => right_lt (W := W) (H := H) (i := i) hi h
 unfold wtR
 generalize hn : W * H = n at hi hl ⊢
 by_cases q : i + 1 < n
 ·rw [if_pos (show 0 ≤ (i : Int) + 1 ∧ (i : Int) + 1 < (n : Int) by omega), show ((i : Int) + 1).toNat = i + 1 by omega]
  unfold netM
  rw [hn, if_pos (show i < n ∧ i + 1 < n by omega)]
  by_cases r : i % W + 1 < W
  ·rw [if_pos (show i + 1 = i + 1 ∧ 0 < (i + 1) % W from ⟨rfl, hr.2 r⟩), if_pos r]
  ·rw [if_neg (show ¬ (i + 1 = i + 1 ∧ 0 < (i + 1) % W) from fun h => r (hr.1 h.2)), if_neg (show ¬ (i = i + 1 + 1 ∧ 0 < i % W) by omega), if_neg (show ¬ i + 1 = i + W by omega), if_neg (show ¬ i = i + 1 + W by omega), if_neg r]
 ·rw [if_neg (show ¬ (0 ≤ (i : Int) + 1 ∧ (i : Int) + 1 < (n : Int)) by omega), if_neg (fun h => q (hl h))]
theorem under_if (g : Nat → Int) (p : Prop) [Decidable p] (j : Nat) (w : Int) : under g (if p then [(j, w)] else []) = (if p then w else 0) * g j := by
 split
 ·exact under_one g _
 ·rw [Int.zero_mul]; rfl
theorem cand_under (hi : i < W * H) (g : Nat → Int) : ((cand W i).map (fun c => wtR W H R i c * g c.toNat)).sum = under g (nbs W H R i) := by
 obtain ⟨hW, he, hx, hy⟩ := cell_at hi
 unfold cand nbs
 rw [under_append, under_append, under_append, under_if, under_if, under_if, under_if]
 have e1 : ((i : Int) - W).toNat = i - W := by omega
 have e2 : ((i : Int) - 1).toNat = i - 1 := by omega
 have e3 : ((i : Int) + 1).toNat = i + 1 := by omega
 have e4 : ((i : Int) + W).toNat = i + W := by omega
 by_cases q : W = 1
 ·rw [if_pos q]
  have u := wt_up (R := R) hi
  have d := wt_down (R := R) hi
  subst q
  have n1 : ¬ 0 < i % 1 := by omega
  have n2 : ¬ i % 1 + 1 < 1 := by omega
  rw [if_neg n1, if_neg n2]
  simp only [List.map_cons, List.map_nil, List.sum_cons, List.sum_nil]
  rw [show (i : Int) - 1 = (i : Int) - ((1 : Nat) : Int) from rfl, show (i : Int) + 1 = (i : Int) + ((1 : Nat) : Int) from rfl, u, d, e1, e4]
  omega
 ·have h1 : 1 < W := by omega
  rw [if_neg q]
  simp only [List.map_cons, List.map_nil, List.sum_cons, List.sum_nil]
  rw [wt_up hi, wt_down hi, wt_left hi h1, wt_right hi h1, e1, e2, e3, e4]
  omega
theorem sum_filter {l : List Int} {p : Int → Bool} {f : Int → Int} (h : ∀ c, c ∈ l → p c = false → f c = 0) : ((l.filter p).map f).sum = (l.map f).sum := by
 induction l with
 | nil => rfl
 | cons c l ih =>
  have ih := ih (fun x hx => h x (List.mem_cons_of_mem _ hx))
  rw [List.filter_cons]
  cases q : p c with
  | true => simp only [if_true, List.map_cons, List.sum_cons]; rw [ih]
  | false => simp only [Bool.false_eq_true, if_false, List.map_cons, List.sum_cons]; rw [ih, h c List.mem_cons_self q, Int.zero_add]
theorem around_under (hi : i < W * H) (g : Nat → Int) : ((aroundL W H R i).map (fun c => wtR W H R i c * g c.toNat)).sum = under g (nbs W H R i) := by
 rw [← cand_under hi g]
 refine sum_filter (fun c hc q => ?_)
 have h1 := wtR_nonneg W H R i c
 have h2 : ¬ 0 < wtR W H R i c := by simpa using q
 rw [show wtR W H R i c = 0 by omega, Int.zero_mul]
theorem around_all (hi : i < W * H) : ((aroundL W H R i).map (wtR W H R i)).sum = allOf (nbs W H R i) := by
 rw [allOf_under, ← around_under hi]
 congr 1
 exact List.map_congr_left (fun c _ => (Int.mul_one _).symm)
theorem netM_le (hW : W ≤ 16) (j : Nat) : netM W H R i j ≤ 32 := by
 unfold netM
 split
 ·rename_i h
  obtain ⟨hW0, _, hx, _⟩ := cell_at h.1
  obtain ⟨_, _, hy, _⟩ := cell_at h.2
  have a1 := wgt_le R (i % W) false (by omega)
  have a2 := wgt_le R (j % W) false (by omega)
  have a3 := wgt_le R (i % W) true (by omega)
  have a4 := wgt_le R (j % W) true (by omega)
  repeat' split
  all_goals omega
 ·omega
theorem around_mem {c : Int} (h : c ∈ aroundL W H R i) : 0 < wtR W H R i c ∧ 0 ≤ c ∧ c < ((W * H : Nat) : Int) := by
 have h1 := (List.mem_filter.1 h).2
 have h2 : 0 < wtR W H R i c := by simpa using h1
 refine ⟨h2, ?_⟩
 unfold wtR at h2
 split at h2
 ·assumption
 ·omega
theorem around_len : (aroundL W H R i).length ≤ 4 := by
 refine Nat.le_trans (List.length_filter_le _ _) ?_
 unfold cand
 split <;> simp
end
section
variable {W H : Nat} {R : Bool} {C : List Int} {i : Nat}
theorem mul_32 {x y : Int} (h1 : 0 ≤ x) (h2 : x ≤ 32) (h3 : -1000000 ≤ y) (h4 : y ≤ 1000000) : -32000000 ≤ x * y ∧ x * y ≤ 32000000 := by
 have a1 := Int.mul_le_mul_of_nonneg_left h4 h1
 have a2 := Int.mul_le_mul_of_nonneg_left h3 h1
 omega
theorem wtR_le (hW : W ≤ 16) (c : Int) : wtR W H R i c ≤ 32 := by
 unfold wtR
 split
 ·exact netM_le hW _
 ·omega
theorem sums_go (hW : 1 ≤ W ∧ W ≤ 16) (hH : 1 ≤ H ∧ H ≤ 16) (hi : i < W * H) (b l : List Int) (hl : l.length ≤ 100) (hc : ∀ c, c ∈ l → 0 ≤ c ∧ c < (b.length : Int) ∧ -1000000 ≤ fn b c.toNat ∧ fn b c.toNat ≤ 1000000) :
  ∀ (d j : Nat) (x y : Int) (k : Nat), j + d = l.length → (0 ≤ x ∧ x ≤ 32 * (j : Int)) → (-32000000 * (j : Int) ≤ y ∧ y ≤ 32000000 * (j : Int)) →
  thermionref01_sums.l0 (k + d + 3) b (i : Int) x y l (j : Int) (W : Int) (H : Int) R C = some (x + ((l.drop j).map (wtR W H R i)).sum, y + ((l.drop j).map (fun c => wtR W H R i c * fn b c.toNat)).sum)
 | 0, j, x, y, k, h, hx, hy => by
  rw [show k + 0 + 3 = (k + 2) + 1 by omega, thermionref01_sums.l0, if_neg (by omega), List.drop_eq_nil_of_le (by omega)]
  simp
 | d + 1, j, x, y, k, h, hx, hy => by
  have hj : j < l.length := by omega
  have hw : wrap64 ((j : Int) + 1) = ((j + 1 : Nat) : Int) := by rw [IntWalk.wrap64_in _ (by omega)]; omega
  obtain ⟨c0, c1, c2, c3⟩ := hc l[j] (List.getElem_mem hj)
  have w0 := wtR_nonneg W H R i l[j]
  have w1 := wtR_le (H := H) (R := R) (i := i) hW.2 l[j]
  have hm := mul_32 w0 w1 c2 c3
  have e : rd b l[j] = fn b l[j].toNat := rfl
  rw [show k + (d + 1) + 3 = (k + d + 3) + 1 by omega, thermionref01_sums.l0, if_pos (by omega), if_pos (by omega), rd_at l j hj, obnd (weight_eq hW hH R C hi l[j] (k + d + 1)), if_pos c0, if_pos c1, hw, List.drop_eq_getElem_cons hj, e, List.map_cons, List.map_cons, List.sum_cons, List.sum_cons]
  generalize wtR W H R i l[j] = wt at w0 w1 hm ⊢
  have g1 : wrap64 (wt * fn b l[j].toNat) = wt * fn b l[j].toNat := IntWalk.wrap64_in _ (by omega)
  have g2 : wrap64 (x + wt) = x + wt := IntWalk.wrap64_in _ (by omega)
  have g3 : wrap64 (y + wt * fn b l[j].toNat) = y + wt * fn b l[j].toNat := IntWalk.wrap64_in _ (by omega)
  rw [g1, g2, g3, sums_go hW hH hi b l hl hc d (j + 1) _ _ k (by omega) (by omega) (by omega)]
  rw [Int.add_assoc, Int.add_assoc]
theorem sums_eq (hW : 1 ≤ W ∧ W ≤ 16) (hH : 1 ≤ H ∧ H ≤ 16) (hi : i < W * H) (b : List Int) (hb : W * H ≤ b.length) (hr : ∀ j, j < W * H → -1000000 ≤ fn b j ∧ fn b j ≤ 1000000) (k : Nat) :
  thermionref01_sums.f (k + 8) (W : Int) (H : Int) R C b (i : Int) = some (allOf (nbs W H R i), under (fn b) (nbs W H R i)) := by
 unfold thermionref01_sums.f
 rw [obnd (around_eq hW hH hi k)]
 have hlen := around_len (W := W) (H := H) (R := R) (i := i)
 have h := sums_go (C := C) (R := R) hW hH hi b (aroundL W H R i) (by omega) (fun c hc => by
  obtain ⟨_, h1, h2⟩ := around_mem hc
  have h3 := hr c.toNat (by omega)
  exact ⟨h1, by omega, h3.1, h3.2⟩) (aroundL W H R i).length 0 0 0 (k + 5 - (aroundL W H R i).length) (by omega) (by omega) (by omega)
 rw [show k + 5 - (aroundL W H R i).length + (aroundL W H R i).length + 3 = k + 8 by omega, List.drop_zero, around_all hi, around_under hi, Int.zero_add, Int.zero_add] at h
 exact h
end
end Go.Proofs.Ytndkkjpgnmahbaa.Print
end

section
namespace Go.Proofs.Ytndkkjpgnmahbaa.Print
open Go.RowKit Go.Proofs.YtndkkjpgnmahbaaW.PrintWords Go.Proofs.YtndkkjpgnmahbaaW.PrintLast Go.Proofs.YtndkkjpgnmahbaaW.PrintMore
attribute [local go_sem] max2_int min2_int max_two min_two max_three min_three max_four min_four
set_option linter.unusedVariables false
set_option linter.unusedSimpArgs false
def thermionref01_Down.f (a0 : Int) (a1 : Int) : Option (Int) := if a1 = 0 then (none) else (if (Int.tmod a0 a1) < 0 then (some (wrap64 ((wrap64 (Int.tdiv a0 a1)) - 1))) else (some (wrap64 (Int.tdiv a0 a1))))
set_option maxHeartbeats 8000000 in
set_option maxRecDepth 100000 in
theorem thermionref01_Down.calls (a0 : Int) (a1 : Int) (r : Int) (w : World) (h : thermionref01_Down.f a0 a1 = some r) :
  Calls Try.prog 94 #[.int .i64 a0, .int .i64 a1] w fun e w' => e = .returned (.int .i64 r) ∧ Drawn0 w w' := by
 have H : (if a1 = 0 then (none) else (if (Int.tmod a0 a1) < 0 then (some (wrap64 ((wrap64 (Int.tdiv a0 a1)) - 1))) else (some (wrap64 (Int.tdiv a0 a1))))) = some r := h
 clear h
 by_cases c3 : a1 = 0
 ·rw [if_pos c3] at H
  exact absurd H (by simp)
 ·rw [if_neg c3] at H
  have c3b0 : (a1 == 0) = false := beq_eq_false_iff_ne.mpr c3
  have c3b1 : (a1 != 0) = true := bne_iff_ne.mpr c3
  by_cases c4 : (Int.tmod a0 a1) < 0
  ·rw [if_pos c4] at H
   have c4b0 := decide_eq_true c4
   clear c4
   obtain rfl := Option.some.inj H
   go_enter Try.func94, Try.ntmps94
   go_wp2
   go_ret
   exact ⟨by first | rfl | (simp; done) | (simp [*]; done), by repeat (first | exact Drawn0.refl _ | apply Drawn0.step)⟩
  ·rw [if_neg c4] at H
   have c4b0 := decide_eq_false c4
   clear c4
   obtain rfl := Option.some.inj H
   go_enter Try.func94, Try.ntmps94
   go_wp2
   go_ret
   exact ⟨by first | rfl | (simp; done) | (simp [*]; done), by repeat (first | exact Drawn0.refl _ | apply Drawn0.step)⟩
def thermionref01_Up.f (a0 : Int) (a1 : Int) : Option (Int) := (thermionref01_Down.f (wrap64 (-a0)) a1).bind fun t398 => (some (wrap64 (-t398)))
set_option maxHeartbeats 8000000 in
set_option maxRecDepth 100000 in
theorem thermionref01_Up.calls (a0 : Int) (a1 : Int) (r : Int) (w : World) (h : thermionref01_Up.f a0 a1 = some r) :
  Calls Try.prog 95 #[.int .i64 a0, .int .i64 a1] w fun e w' => e = .returned (.int .i64 r) ∧ Drawn0 w w' := by
 have H : ((thermionref01_Down.f (wrap64 (-a0)) a1).bind fun t398 => (some (wrap64 (-t398)))) = some r := h
 clear h
 replace H := Option.bind_eq_some_iff.mp H
 obtain ⟨t398, A30, H⟩ := H
 replace H : (some (wrap64 (-t398))) = some r := H
 have A3 := Aside0.mk A30
 clear A30
 obtain rfl := Option.some.inj H
 go_enter Try.func95, Try.ntmps95
 go_wp2_with (first | ((with_reducible refine gate_callee (f := 94) rfl ?_); refine goesL_ (some 8) rfl rfl Try.func94 (by kernel_rfl) rfl #[.int .i64 (wrap64 (-a0)), .int .i64 a1] rfl (by (try simp only [List.map_toArray, List.map_cons, List.map_nil]); first | done | rfl | (simp only [List.length_drop, List.length_take]; rfl)) ?_; (with_reducible refine (thermionref01_Down.calls (wrap64 (-a0)) a1 t398 _ A3.out).mono ?_); rintro e w' ⟨rfl, ⟨nd, rfl⟩⟩; refine ⟨_, rfl, ?_⟩))
 go_ret
 exact ⟨by first | rfl | (simp; done) | (simp [*]; done), by repeat (first | exact Drawn0.refl _ | apply Drawn0.step)⟩
end Go.Proofs.Ytndkkjpgnmahbaa.Print
end

section
namespace Go.Proofs.Ytndkkjpgnmahbaa.Print
open Go.RowKit Go.Proofs.YtndkkjpgnmahbaaW.PrintWords Go.Proofs.YtndkkjpgnmahbaaW.PrintLast Go.Proofs.YtndkkjpgnmahbaaW.PrintMore Go.Proofs.Ytndkkjpgnmahbaa.H Go.Proofs.Field
set_option linter.unusedVariables false
def Row4 (W : World) (base g c n : Nat) (l : List Int) : Prop := l.length = n ∧ Kd.R (Kd.int .i64) 3 W base (fun k => k = g) (.slice (some ⟨g, 0, none⟩) n c) l
theorem row4_of {W : World} {base : Nat} {ok : Nat → Prop} {v : Value} {l : List Int} (h : Kd.R (Kd.int .i64) 3 W base ok v l) (hp : 0 < l.length) : ∃ g c, v = .slice (some ⟨g, 0, none⟩) l.length c ∧ Row4 W base g c l.length l ∧ base ≤ g ∧ g < W.heap.size := by
 obtain ⟨g, c, e, hb, hl, _⟩ := Kd.R_form h hp
 subst e
 exact ⟨g, c, rfl, ⟨rfl, Kd.R_reok rfl h (fun k hk => by
  have : (some g : Option Nat) = some k := hk
  exact (Option.some.inj this).symm)⟩, hb, hl⟩
namespace Row4
variable {W W1 : World} {base g c n : Nat} {l : List Int}
theorem below (h : Row4 W base g c n l) (hb : Below W.heap.size W W1) : Row4 W1 base g c n l := ⟨h.1, Kd.R_below h.2 hb⟩
theorem keep {g2 : Nat} (h : Row4 W base g c n l) (hk : KeepBut W W1 g2 none) (hne : g ≠ g2) : Row4 W1 base g c n l := ⟨h.1, Kd.R_keep h.2 hk (fun k e => by subst e; exact hne)⟩
theorem far (h : Row4 W base g c n l) {p : Addr} (hne : g ≠ p.block) (u : Value) : Row4 (W.setCell p u) base g c n l := ⟨h.1, Kd.R_far h.2 (fun k e => by subst e; exact hne) u⟩
theorem reads (h : Row4 W base g c n l) : Kd.C (Kd.int .i64) W (some ⟨g, 0, none⟩) l.length l ∧ n ≤ c := ⟨(Kd.R_reads' h.2).2.2, (Kd.R_reads' h.2).2.1⟩
theorem put (h : Row4 W base g c n l) (i : Nat) (x : Int) : Row4 (W.setCell ⟨g, i, none⟩ (.int .i64 x)) base g c n (l.set i x) := by
 obtain ⟨e, h⟩ := h
 refine ⟨by rw [List.length_set]; exact e, ?_⟩
 exact Kd.R_putn (enc := Value.int .i64) (h1 := fun _ => rfl) h (i : Int) x
theorem cell (h : Row4 W base g c n l) {i : Nat} (hi : i < n) : W.cell? ⟨g, i, none⟩ = some (.int .i64 (fn l i)) ∧ W.frozen? ⟨g, i, none⟩ = false := by
 exact Kd.R_celln (enc := Value.int .i64) (h1 := fun _ => rfl) (0 : Int) h.2 (i : Int) (by omega) (by omega)
theorem ge (h : Row4 W base g c n l) : base ≤ g := Kd.R_base h.2 g rfl
theorem lt (h : Row4 W base g c n l) : g < W.heap.size := Kd.R_lt h.2 g rfl
end Row4
end Go.Proofs.Ytndkkjpgnmahbaa.Print
end

section
namespace Go.Proofs.Field
theorem set_self {b : List Int} {i : Nat} (h : i < b.length) : b.set i (fn b i) = b := by
 apply List.ext_getElem
 ·simp
 ·intro j h1 h2
  rw [List.getElem_set]
  split
  ·rename_i e
   subst e
   unfold fn
   rw [List.getD_eq_getElem?_getD, List.getElem?_eq_getElem h]
   rfl
  ·rfl
theorem swStep_put {up : Bool} {W H : Nat} {R : Bool} {C : List Int} {s : List Int × Bool} {i : Nat} (hl : i < s.1.length) (h : ¬ 0 < fn C i) : swStep up W H R C s i = (s.1.set i (relax up W H R s.1 i), s.2 || (relax up W H R s.1 i != fn s.1 i)) := by
 unfold swStep
 rw [if_neg h]
 by_cases q : relax up W H R s.1 i = fn s.1 i
 ·rw [if_neg (by simpa using q), q, set_self hl]
  simp
 ·rw [if_pos q, bne_iff_ne.mpr q]
  simp
structure SwOk (up : Bool) (W H : Nat) (R : Bool) (C : List Int) (b : List Int) : Prop where
 len : b.length = C.length
 range : ∀ i, i ≤ C.length → ∀ j, j < C.length → -1000000 ≤ fn (sweepTo up W H R C b i).1 j ∧ fn (sweepTo up W H R C b i).1 j ≤ 1000000
end Go.Proofs.Field
namespace Go.Proofs.Ytndkkjpgnmahbaa.Print
open Go.RowKit Go.Proofs.YtndkkjpgnmahbaaW.PrintWords Go.Proofs.YtndkkjpgnmahbaaW.PrintLast Go.Proofs.YtndkkjpgnmahbaaW.PrintMore Go.Proofs.Ytndkkjpgnmahbaa.H Go.Proofs.Field
set_option linter.unusedVariables false
structure RW (w0 w W : World) (gp gf : Nat) (pv fv : Array Value) (g1 c1 g2 c2 n : Nat) (lo hi : List Int) : Prop where
 old : Below w0.heap.size w0 W
 keep : KeepBut w W g1 (some g2)
 p : W.heap[gp]? = some (.cells pv 24 (0, 0))
 f : W.heap[gf]? = some (.cells fv 33 (0, 0))
 r1 : Row4 W w0.heap.size g1 c1 n lo
 r2 : Row4 W w0.heap.size g2 c2 n hi
 ne : g1 ≠ g2
 np : gp ≠ g1 ∧ gp ≠ g2 ∧ gf ≠ g1 ∧ gf ≠ g2
namespace RW
variable {w0 w W W1 : World} {gp gf : Nat} {pv fv : Array Value} {g1 c1 g2 c2 n : Nat} {lo hi : List Int}
theorem step (h : RW w0 w W gp gf pv fv g1 c1 g2 c2 n lo hi) (hb : Below W.heap.size W W1) : RW w0 w W1 gp gf pv fv g1 c1 g2 c2 n lo hi :=
 ⟨below_step h.old hb, h.keep.trans (KeepBut.of_below hb g1 (some g2)) (.inl rfl), blk_below h.p hb, blk_below h.f hb, h.r1.below hb, h.r2.below hb, h.ne, h.np⟩
theorem put1 (h : RW w0 w W gp gf pv fv g1 c1 g2 c2 n lo hi) (i : Nat) (x : Int) : RW w0 w (W.setCell ⟨g1, i, none⟩ (.int .i64 x)) gp gf pv fv g1 c1 g2 c2 n (lo.set i x) hi :=
 ⟨below_set h.old h.r1.ge, h.keep.set_ i _, blk_far (p := ⟨g1, i, none⟩) h.p h.np.1 _, blk_far (p := ⟨g1, i, none⟩) h.f h.np.2.2.1 _, h.r1.put i x, h.r2.far (p := ⟨g1, i, none⟩) h.ne.symm _, h.ne, h.np⟩
theorem put2 (h : RW w0 w W gp gf pv fv g1 c1 g2 c2 n lo hi) (i : Nat) (x : Int) : RW w0 w (W.setCell ⟨g2, i, none⟩ (.int .i64 x)) gp gf pv fv g1 c1 g2 c2 n lo (hi.set i x) := by
 refine ⟨below_set h.old h.r2.ge, ⟨Nat.le_trans h.keep.1 (KeepsOthers.setCell W _ _).size, fun k hk h1 h2 => ?_⟩, blk_far (p := ⟨g2, i, none⟩) h.p h.np.2.1 _, blk_far (p := ⟨g2, i, none⟩) h.f h.np.2.2.2 _, h.r1.far (p := ⟨g2, i, none⟩) h.ne _, h.r2.put i x, h.ne, h.np⟩
 exact (Below.heap_setCell W ⟨g2, i, none⟩ _ k (fun e => h2 (by rw [e]))).trans (h.keep.2 k hk h1 h2)
end RW
theorem sums_at {W H : Nat} (hW : 1 ≤ W ∧ W ≤ 16) (hH : 1 ≤ H ∧ H ≤ 16) (R : Bool) (A : Option Addr) (c : Nat) (C : List Int) (A1 : Option Addr) (c1 m i : Nat) (b : List Int) (w : World) (hr : Kd.C (Kd.int .i64) w A C.length C) (hc : C.length ≤ c) (hl : b.length = m) (hm : m = W * H) (hr1 : Kd.C (Kd.int .i64) w A1 b.length b) (hc1 : m ≤ c1) (hi : i < W * H)
  (hrng : ∀ j, j < W * H → -1000000 ≤ fn b j ∧ fn b j ≤ 1000000) :
  Calls Try.prog 90 #[.agg (planV W H R A C.length c), .slice A1 m c1, .int .i64 i] w fun e w' => e = .returned (.tuple #[.int .i64 (allOf (nbs W H R i)), .int .i64 (under (fn b) (nbs W H R i))]) ∧ Below w.heap.size w w' := by
 subst hl
 exact thermionref01_sums.calls (0 + 8) W H R A c C A1 c1 b i _ _ w hr hc hr1 hc1 (sums_eq hW hH hi b (by omega) hrng 0)
theorem refdown_eq {n d : Int} (hd : 0 < d) (hn : -1000000000000 ≤ n ∧ n ≤ 1000000000000) : thermionref01_Down.f n d = some (n / d) := down_eq hd hn
theorem refup_eq {n d : Int} (hd : 0 < d) (hn : -1000000000000 ≤ n ∧ n ≤ 1000000000000) : thermionref01_Up.f n d = some (-(-n / d)) := up_eq hd hn
end Go.Proofs.Ytndkkjpgnmahbaa.Print
end

section
namespace Go.Proofs.Ytndkkjpgnmahbaa.Print
open Go.RowKit Go.Proofs.YtndkkjpgnmahbaaW.PrintWords Go.Proofs.YtndkkjpgnmahbaaW.PrintLast Go.Proofs.YtndkkjpgnmahbaaW.PrintMore Go.Proofs.Ytndkkjpgnmahbaa.H Go.Proofs.Field
attribute [local go_sem] max2_int min2_int max_two min_two max_three min_three max_four min_four
set_option linter.unusedVariables false
set_option linter.unusedSimpArgs false
set_option maxHeartbeats 6400000 in
set_option maxRecDepth 100000 in
theorem refsweep_calls (W H : Nat) (hW : 1 ≤ W ∧ W ≤ 16) (hH : 1 ≤ H ∧ H ≤ 16) (R : Bool) (A : Option Addr) (c : Nat) (C : List Int) (g1 c1 g2 c2 : Nat) (lo hi : List Int) (kk : Int) (st : Bool) (w0 w : World) (hold : Below w0.heap.size w0 w) (hr : Kd.C (Kd.int .i64) w0 A C.length C) (hc : C.length ≤ c) (hC : C.length = W * H)
  (h1 : Row4 w w0.heap.size g1 c1 C.length lo) (h2 : Row4 w w0.heap.size g2 c2 C.length hi) (hne : g1 ≠ g2) (hall : ∀ i, i < C.length → ¬ 0 < fn C i → 0 < allOf (nbs W H R i)) (hlo : SwOk false W H R C lo) (hhi : SwOk true W H R C hi) :
  Calls Try.prog 75 #[.agg (planV W H R A C.length c), .agg #[.slice (some ⟨g1, 0, none⟩) C.length c1, .slice (some ⟨g2, 0, none⟩) C.length c2, .int .i64 kk, .bool st]] w fun e w' => e = .returned (.bool ((sweep false W H R C lo).2 || (sweep true W H R C hi).2)) ∧ Below w0.heap.size w0 w' ∧ KeepBut w w' g1 (some g2) ∧ Row4 w' w0.heap.size g1 c1 C.length (sweep false W H R C lo).1 ∧ Row4 w' w0.heap.size g2 c2 C.length (sweep true W H R C hi).1 := by
 have HR := Aside0.mk hr
 have HOLD := Aside0.mk hold
 have H1 := Aside0.mk h1
 have H2 := Aside0.mk h2
 have HALL := Aside0.mk hall
 have HLO := Aside0.mk hlo
 have HHI := Aside0.mk hhi
 have HNE := Aside0.mk hne
 have HCC := Aside0.mk hC
 have HWH := Aside0.mk (And.intro hW hH)
 have HHC := Aside0.mk hc
 have HSM : Aside0 (C.length ≤ 256) := ⟨by have := Nat.mul_le_mul hW.2 hH.2; omega⟩
 have HM := Aside0.mk (Mem.start w)
 have hu24 := Try.underlying24
 have hu22 := Try.underlying22
 have hu33 := Try.underlying33
 clear hr hold h1 h2 hall hlo hhi hne hC hW hH hc
 go_enter Try.func75, Try.ntmps75
 go_wp2_with (first
  | ((with_reducible refine gate_dst (N := 2) rfl ?_); refine ev_box HM.out rfl 24 (.tmp 0) rfl (cs := planV W H R A C.length c) rfl ?_; intro g2x wa hm1 hq1; clear hq1; have HM1 := Aside0.mk hm1; clear hm1 HM)
  | ((with_reducible refine gate_dst (N := 3) rfl ?_); refine ev_box HM1.out rfl 33 (.tmp 1) rfl (cs := #[.slice (some ⟨g1, 0, none⟩) C.length c1, .slice (some ⟨g2, 0, none⟩) C.length c2, .int .i64 kk, .bool st]) rfl ?_; intro g3x wb hm1 hq1; clear hq1; have HM2 := Aside0.mk hm1; clear hm1 HM1))
 have HRW0 : Aside0 (RW w0 w wb g2x g3x (planV W H R A C.length c) #[.slice (some ⟨g1, 0, none⟩) C.length c1, .slice (some ⟨g2, 0, none⟩) C.length c2, .int .i64 kk, .bool st] g1 c1 g2 c2 C.length ((sweepTo false W H R C lo 0).1) ((sweepTo true W H R C hi 0).1)) := ⟨⟨below_step HOLD.out HM2.out.below, KeepBut.of_below HM2.out.below _ _, HM2.out.second, HM2.out.head, H1.out.below HM2.out.below, H2.out.below HM2.out.below, HNE.out, by have := HM2.out.drop.geh; have := HM2.out.geh; have := H1.out.lt; have := H2.out.lt; omega⟩⟩
 clear HM2 H1 H2
 go_loopg [5, 6] C.length (fun k v5 v6 w' => ∃ (i : Nat), v5 = .bool ((sweepTo false W H R C lo i).2 || (sweepTo true W H R C hi i).2) ∧ v6 = .int .i64 (i : Int) ∧ Aside0 (i + k = C.length) ∧ Aside0 (RW w0 w w' g2x g3x (planV W H R A C.length c) #[.slice (some ⟨g1, 0, none⟩) C.length c1, .slice (some ⟨g2, 0, none⟩) C.length c2, .int .i64 kk, .bool st] g1 c1 g2 c2 C.length ((sweepTo false W H R C lo i).1) ((sweepTo true W H R C hi i).1)))
 case atStart => exact ⟨0, rfl, by go_num, ⟨by omega⟩, HRW0⟩
 case round =>
  clear HRW0
  obtain ⟨i, rfl, rfl, HK, HS⟩ := hrel
  have q3 : wr.cell? ⟨g2x, 3, none⟩ = some (.slice A C.length c) := (blk_cell HS.out.p 3).trans rfl
  by_cases hci : i < C.length
  ·have HI := Aside0.mk hci
   have HKN : Aside0 (i + 1 + (C.length - (i + 1)) = C.length) := ⟨by omega⟩
   obtain ⟨ad, ead, x0⟩ := at_row (Kd.C_below HR.out HS.out.old) i hci
   subst ead
   have t1 : decide ((i : Int) < (C.length : Int)) = true := by simp; omega
   have t2 : decide (i < C.length) = true := by simp; omega
   have t3 : wrap64 ((i : Int) + 1) = ((i + 1 : Nat) : Int) := by rw [IntWalk.wrap64_in _ (by have := HSM.out; omega)]; omega
   obtain ⟨X, hX⟩ : ∃ X, fn C i = X := ⟨_, rfl⟩
   rw [hX] at x0
   by_cases q : 0 < X
   ·have hg : decide (X > 0) = true := decide_eq_true q
    have HN : Aside0 ((sweepTo false W H R C lo (i + 1)) = (sweepTo false W H R C lo i) ∧ (sweepTo true W H R C hi (i + 1)) = (sweepTo true W H R C hi i)) := ⟨by
     constructor
     ·rw [sweepTo, swStep, hX, if_pos q]
     ·rw [sweepTo, swStep, hX, if_pos q]⟩
    clear q hX
    go_wp2_with fail
    go_roundg (C.length - (i + 1))
    case measure =>
     clear hci t1 t2 t3
     have := HK.out
     have := HI.out
     omega
    case rel => exact ⟨i + 1, by rw [HN.out.1, HN.out.2], by first | exact congrArg _ t3 | go_num, HKN, ⟨by rw [HN.out.1, HN.out.2]; exact HS.out⟩⟩
   ·have hg : decide (X > 0) = false := decide_eq_false q
    have hAL := HALL.out i hci (by rw [hX]; omega)
    have hl1 : (sweepTo false W H R C lo i).1.length = C.length := by rw [sweepTo_length]; exact HLO.out.len
    have hl2 : (sweepTo true W H R C hi i).1.length = C.length := by rw [sweepTo_length]; exact HHI.out.len
    have HN : Aside0 ((sweepTo false W H R C lo (i + 1)) = ((sweepTo false W H R C lo i).1.set i (relax false W H R (sweepTo false W H R C lo i).1 i), (sweepTo false W H R C lo i).2 || (relax false W H R (sweepTo false W H R C lo i).1 i != fn (sweepTo false W H R C lo i).1 i)) ∧ (sweepTo true W H R C hi (i + 1)) = ((sweepTo true W H R C hi i).1.set i (relax true W H R (sweepTo true W H R C hi i).1 i), (sweepTo true W H R C hi i).2 || (relax true W H R (sweepTo true W H R C hi i).1 i != fn (sweepTo true W H R C hi i).1 i))) := ⟨⟨by rw [sweepTo]; exact swStep_put (by rw [hl1]; exact hci) (by rw [hX]; omega), by rw [sweepTo]; exact swStep_put (by rw [hl2]; exact hci) (by rw [hX]; omega)⟩⟩
    have HB1 := Aside0.mk (HLO.out.range i (by omega))
    have HB2 := Aside0.mk (HHI.out.range i (by omega))
    obtain ⟨b1, hb1⟩ : ∃ b, (sweepTo false W H R C lo i).1 = b := ⟨_, rfl⟩
    obtain ⟨b2, hb2⟩ : ∃ b, (sweepTo true W H R C hi i).1 = b := ⟨_, rfl⟩
    obtain ⟨ch1, hch1⟩ : ∃ b, (sweepTo false W H R C lo i).2 = b := ⟨_, rfl⟩
    obtain ⟨ch2, hch2⟩ : ∃ b, (sweepTo true W H R C hi i).2 = b := ⟨_, rfl⟩
    rw [hb1] at hl1 HB1 HS
    rw [hb2] at hl2 HB2 HS
    rw [hb1, hb2, hch1, hch2] at HN
    rw [hch1, hch2]
    have HRL : Aside0 (relax false W H R b1 i = under (fn b1) (nbs W H R i) / allOf (nbs W H R i) ∧ relax true W H R b2 i = -(-under (fn b2) (nbs W H R i) / allOf (nbs W H R i))) := ⟨⟨by show dvd false _ _ = _; unfold dvd; rw [if_neg (by simp)], by show dvd true _ _ = _; unfold dvd; rw [if_pos rfl]⟩⟩
    have hiw : i < W * H := by rw [← HCC.out]; exact hci
    have hub1 := under_bound (f := fn b1) (l := nbs W H R i) (fun p hp => by
     have h8 := nbs_lt hiw hp
     have h9 := HB1.out p.1 (by rw [HCC.out]; exact h8.1)
     exact ⟨h8.2.2.1, h8.2.2.2 HWH.out.1.2, h9.1, h9.2⟩)
    have hub2 := under_bound (f := fn b2) (l := nbs W H R i) (fun p hp => by
     have h8 := nbs_lt hiw hp
     have h9 := HB2.out p.1 (by rw [HCC.out]; exact h8.1)
     exact ⟨h8.2.2.1, h8.2.2.2 HWH.out.1.2, h9.1, h9.2⟩)
    have hnl := nbs_length W H R i
    have HD1 := Aside0.mk (refdown_eq (n := under (fn b1) (nbs W H R i)) hAL (by omega))
    have HD2 := Aside0.mk (refup_eq (n := under (fn b2) (nbs W H R i)) hAL (by omega))
    have HSM1 : Aside0 (∀ V, Below wr.heap.size wr V → Calls Try.prog 90 #[.agg (planV W H R (some ad) C.length c), .slice (some ⟨g1, 0, none⟩) C.length c1, .int .i64 i] V fun e w' => e = .returned (.tuple #[.int .i64 (allOf (nbs W H R i)), .int .i64 (under (fn b1) (nbs W H R i))]) ∧ Below V.heap.size V w') := ⟨fun V hb => sums_at HWH.out.1 HWH.out.2 R (some ad) c C (some ⟨g1, 0, none⟩) c1 C.length i b1 V (Kd.C_below HR.out (below_step HS.out.old hb)) HHC.out hl1 HCC.out (HS.out.step hb).r1.reads.1 HS.out.r1.reads.2 hiw (fun j hj => HB1.out j (by rw [HCC.out]; exact hj))⟩
    have HSM2 : Aside0 (∀ V, Below wr.heap.size wr V → Calls Try.prog 90 #[.agg (planV W H R (some ad) C.length c), .slice (some ⟨g2, 0, none⟩) C.length c2, .int .i64 i] V fun e w' => e = .returned (.tuple #[.int .i64 (allOf (nbs W H R i)), .int .i64 (under (fn b2) (nbs W H R i))]) ∧ Below V.heap.size V w') := ⟨fun V hb => sums_at HWH.out.1 HWH.out.2 R (some ad) c C (some ⟨g2, 0, none⟩) c2 C.length i b2 V (Kd.C_below HR.out (below_step HS.out.old hb)) HHC.out hl2 HCC.out (HS.out.step hb).r2.reads.1 HS.out.r2.reads.2 hiw (fun j hj => HB2.out j (by rw [HCC.out]; exact hj))⟩
    rw [HRL.out.1, HRL.out.2] at HN
    generalize under (fn b1) (nbs W H R i) = SU1 at HD1 HSM1 HN
    generalize under (fn b2) (nbs W H R i) = SU2 at HD2 HSM2 HN
    generalize allOf (nbs W H R i) = AL at HD1 HD2 HSM1 HSM2 HN
    generalize SU1 / AL = r1 at HD1 HN
    generalize -(-SU2 / AL) = r2 at HD2 HN
    obtain ⟨cv1, fv1⟩ := HS.out.r1.cell hci
    obtain ⟨cv2, fv2⟩ := HS.out.r2.cell hci
    obtain ⟨y1, hy1⟩ : ∃ y, fn b1 i = y := ⟨_, rfl⟩
    obtain ⟨y2, hy2⟩ : ∃ y, fn b2 i = y := ⟨_, rfl⟩
    rw [hy1] at HN cv1
    rw [hy2] at HN cv2
    have HY := Aside0.mk (And.intro hy1 hy2)
    have HNX : Aside0 (∀ V', RW w0 w V' g2x g3x (planV W H R (some ad) C.length c) #[.slice (some ⟨g1, 0, none⟩) C.length c1, .slice (some ⟨g2, 0, none⟩) C.length c2, .int .i64 kk, .bool st] g1 c1 g2 c2 C.length (b1.set i r1) (b2.set i r2) → RW w0 w V' g2x g3x (planV W H R (some ad) C.length c) #[.slice (some ⟨g1, 0, none⟩) C.length c1, .slice (some ⟨g2, 0, none⟩) C.length c2, .int .i64 kk, .bool st] g1 c1 g2 c2 C.length ((sweepTo false W H R C lo (i + 1)).1) ((sweepTo true W H R C hi (i + 1)).1)) := ⟨fun V' h => by rw [HN.out.1, HN.out.2]; exact h⟩
    have HCH : Aside0 (((sweepTo false W H R C lo (i + 1)).2 || (sweepTo true W H R C hi (i + 1)).2) = (((ch1 || ch2) || (r1 != y1)) || (r2 != y2))) := ⟨by rw [HN.out.1, HN.out.2]; cases ch1 <;> cases ch2 <;> cases (r1 != y1) <;> cases (r2 != y2) <;> rfl⟩
    have q0 : wr.cell? ⟨g3x, 0, none⟩ = some (.slice (some ⟨g1, 0, none⟩) C.length c1) := (blk_cell HS.out.f 0).trans rfl
    have q1 : wr.cell? ⟨g3x, 1, none⟩ = some (.slice (some ⟨g2, 0, none⟩) C.length c2) := (blk_cell HS.out.f 1).trans rfl
    clear q hX hAL hl1 hl2 hb1 hb2 hch1 hch2 hub1 hub2 hnl hiw hy1 hy2 cv1 fv1 cv2 fv2 HN HRL HB1 HB2
    go_upto_region 10 with (first
     | ((with_reducible refine gate_dst (N := 25) rfl ?_); refine ev_load HS.out.p rfl 24 (.tmp 2) rfl rfl _ Try.underlying24 rfl size24 rfl ?_)
     | (go_at_call 90; (with_reducible refine (HSM1.out _ (Below.refl _ _)).mono ?_); rintro e wc ⟨rfl, hb⟩; have HS1 := Aside0.mk (HS.out.step hb); have HBc := Aside0.mk hb; clear hb HSM1 HS q0 q1 q3 x0)
     | (go_at_call 94; refine (thermionref01_Down.calls _ _ _ _ HD1.out).mono ?_; rintro e wd ⟨rfl, hb⟩; have HS2 := Aside0.mk (HS1.out.step hb.below); have HBd := Aside0.mk (below_step HBc.out hb.below); clear hb HS1 HBc HD1; have q1 : wd.cell? ⟨g3x, 1, none⟩ = some (.slice (some ⟨g2, 0, none⟩) C.length c2) := (blk_cell HS2.out.f 1).trans rfl)
     | ((with_reducible refine gate_dst (N := 36) rfl ?_); refine ev_load HS2.out.p rfl 24 (.tmp 2) rfl rfl _ Try.underlying24 rfl size24 rfl ?_)
     | (go_at_call 90; (with_reducible refine (HSM2.out _ HBd.out).mono ?_); rintro e we ⟨rfl, hb⟩; have HS3 := Aside0.mk (HS2.out.step hb); clear hb HSM2 HS2 HBd q1)
     | (go_at_call 95; refine (thermionref01_Up.calls _ _ _ _ HD2.out).mono ?_; rintro e wf ⟨rfl, hb⟩; have HS4 := Aside0.mk (HS3.out.step hb.below); clear hb HS3 HD2; have q0 : wf.cell? ⟨g3x, 0, none⟩ = some (.slice (some ⟨g1, 0, none⟩) C.length c1) := (blk_cell HS4.out.f 0).trans rfl; have q1 : wf.cell? ⟨g3x, 1, none⟩ = some (.slice (some ⟨g2, 0, none⟩) C.length c2) := (blk_cell HS4.out.f 1).trans rfl))
    obtain ⟨cv1, fv1⟩ := HS4.out.r1.cell hci
    obtain ⟨cv2, fv2⟩ := HS4.out.r2.cell hci
    rw [HY.out.1] at cv1
    rw [HY.out.2] at cv2
    obtain ⟨z1, hz1⟩ : ∃ z, (r1 != y1) = z := ⟨_, rfl⟩
    obtain ⟨z2, hz2⟩ : ∃ z, (r2 != y2) = z := ⟨_, rfl⟩
    rw [hz1, hz2] at HCH
    generalize (ch1 || ch2) = ch at HCH ⊢
    go_cut [5] (fun v5 wc => v5 = .bool ((ch || z1) || z2) ∧ wc = wf)
    case first =>
     cases ch
     ·cases z1
      ·go_wp2_with fail
       go_meet
       case rel => exact ⟨rfl, rfl⟩
      ·go_wp2_with fail
       go_meet
       case rel => exact ⟨rfl, rfl⟩
     ·go_wp2_with fail
      go_meet
      case rel => exact ⟨rfl, rfl⟩
    case rest =>
    obtain ⟨rfl, rfl⟩ := hcut
    have n1 := HNE.out
    have n2 := HNE.out.symm
    have n3 := HS4.out.np.2.2.1
    have n4 := HS4.out.np.2.2.2
    have n5 := n3.symm
    have n6 := n4.symm
    clear hz1 hz2
    go_upto_region 11 with fail
    go_region
    all_goals go_wp2_with fail
    all_goals go_roundg (C.length - (i + 1))
    all_goals (first
     | (case measure =>
       clear hci t1 t2 t3
       have := HK.out
       have := HI.out
       omega)
     | skip)
    all_goals (case rel => exact ⟨i + 1, congrArg Value.bool HCH.out.symm, by first | exact congrArg _ t3 | go_num, HKN, ⟨HNX.out _ (by first | exact ((HS4.out.step (below_drew1 (Below.refl _ _))).put1 i r1).put2 i r2 | exact ((HS4.out.put1 i r1).put2 i r2).step (below_drew1 (Below.refl _ _)))⟩⟩)
  ·obtain rfl : i = C.length := by have := HK.out; omega
   have t1 : decide ((C.length : Int) < (C.length : Int)) = false := by simp
   have t2 : decide (C.length < C.length) = false := by simp
   go_wp2_with fail
   go_ret
   exact ⟨rfl, HS.out.old, HS.out.keep, HS.out.r1, HS.out.r2⟩
end Go.Proofs.Ytndkkjpgnmahbaa.Print
end

section
namespace Go.Proofs.Ytndkkjpgnmahbaa.Print
open Go.RowKit Go.Proofs.YtndkkjpgnmahbaaW.PrintWords Go.Proofs.YtndkkjpgnmahbaaW.PrintLast Go.Proofs.YtndkkjpgnmahbaaW.PrintMore Go.Proofs.Ytndkkjpgnmahbaa.H Go.Proofs.Field
attribute [local go_sem] Oper.semAt_some
attribute [local go_sem] max2_int min2_int max_two min_two max_three min_three max_four min_four
set_option linter.unusedVariables false
set_option linter.unusedSimpArgs false
def goodF.T8 : Bool × List (List Nat × List Nat) := (true, [([], []), ([], []), ([0, 1], [0, 1]), ([2], [2]), ([], []), ([], []), ([5], [5]), ([4, 6], [4, 6]), ([7], [7]), ([3, 8], [3, 8]), ([9], [9]), ([10], [10]), ([10], [10]), ([11, 12, 10], [10, 11, 12]), ([13, 10], [10, 13]), ([10], [10]), ([10], [10]), ([16, 10], [10, 16]), ([15, 17, 10], [10, 15, 17]), ([18, 10], [10, 18]), ([14, 19, 10], [10, 14, 19]), ([10, 20], [10, 20])])
def goodF.B8 : List Nat := [0, 0, 3, 7, 0, 0, 32, 112, 240, 511, 1023, 2047, 2047, 8191, 16383, 2047, 2047, 67583, 231423, 493567, 1048575, 2097151]
theorem goodF.tab8 : rtab .any (opsOf Try.f50 8) = goodF.T8 := by kernel_rfl
theorem goodF.bits8 : waitsOk goodF.T8.2 goodF.B8 = true := by kernel_rfl
def goodF.T14 : Bool × List (List Nat × List Nat) := (true, [([], []), ([], []), ([0, 1], [0, 1]), ([], []), ([], []), ([], []), ([], []), ([5, 6], [5, 6]), ([7], [7]), ([4, 8], [4, 8]), ([3, 9], [3, 9]), ([], []), ([], []), ([], []), ([], []), ([13, 14], [13, 14]), ([15], [15]), ([12, 16], [12, 16]), ([11, 17], [11, 17]), ([2, 0, 1, 2], [2]), ([10, 19, 0, 1, 2, 3, 4, 5, 6, 7, 8, 9, 10, 19], [10]), ([18, 20, 0, 1, 2, 3, 4, 5, 6, 7, 8, 9, 10, 11, 12, 13, 14, 15, 16, 17, 18, 19, 20], [18])])
def goodF.B14 : List Nat := [0, 0, 3, 0, 0, 0, 0, 96, 224, 496, 1016, 0, 0, 0, 0, 24576, 57344, 126976, 260096, 7, 526335, 2097151]
theorem goodF.tab14 : rtab .any (opsOf Try.f50 14) = goodF.T14 := by kernel_rfl
theorem goodF.bits14 : waitsOk goodF.T14.2 goodF.B14 = true := by kernel_rfl
def goodF.T15 : Bool × List (List Nat × List Nat) := (true, [([], []), ([], []), ([], []), ([1, 2], [1, 2]), ([3], [3]), ([0, 4], [0, 4]), ([], []), ([5, 6], [5, 6]), ([7], [7]), ([8], [8]), ([8], [8]), ([8], [8]), ([10, 11, 8], [8, 10, 11]), ([12, 8], [8, 12]), ([9, 13, 8], [8, 9, 13]), ([8], [8]), ([14, 15, 8], [8, 14, 15]), ([8, 16], [8, 16])])
def goodF.B15 : List Nat := [0, 0, 0, 6, 14, 31, 0, 127, 255, 511, 511, 511, 3583, 7679, 16383, 511, 65535, 131071]
theorem goodF.tab15 : rtab .any (opsOf Try.f50 15) = goodF.T15 := by kernel_rfl
theorem goodF.bits15 : waitsOk goodF.T15.2 goodF.B15 = true := by kernel_rfl
structure GoodFor (W H : Nat) (R : Bool) (C volts lo hi : List Int) : Prop where
 verr : voltErr W H R C volts = 0
 v : Volted W H R C volts
 W16 : W ≤ 16
 H16 : H ≤ 16
 small : C.length ≤ 256
 ll : lo.length = C.length
 lh : hi.length = C.length
 range : ∀ j, j < C.length → (-1000000 ≤ fn lo j ∧ fn lo j ≤ 1000000) ∧ (-1000000 ≤ fn hi j ∧ fn hi j ≤ 1000000)
 el : ∀ i, i < C.length → 0 < fn C i → fn lo i ≤ volt C volts i ∧ volt C volts i ≤ fn hi i
 vac : ∀ i, i < C.length → ¬ 0 < fn C i → allOf (nbs W H R i) * fn lo i ≤ under (fn lo) (nbs W H R i) ∧ under (fn hi) (nbs W H R i) ≤ allOf (nbs W H R i) * fn hi i
structure GI (w W : World) (gp g6 g7 : Nat) (pv : Array Value) (vl vh : Value) : Prop where
 below : Below w.heap.size w W
 p : W.heap[gp]? = some (.cells pv 24 (0, 0))
 l : W.heap[g6]? = some (.cells #[vl] 22 (0, 0))
 h : W.heap[g7]? = some (.cells #[vh] 22 (0, 0))
namespace GI
variable {w W W1 : World} {gp g6 g7 : Nat} {pv : Array Value} {vl vh : Value}
theorem step (h : GI w W gp g6 g7 pv vl vh) (hb : Below W.heap.size W W1) : GI w W1 gp g6 g7 pv vl vh := ⟨below_step h.below hb, blk_below h.p hb, blk_below h.l hb, blk_below h.h hb⟩
theorem turn {B : Nat} {row : Option Nat} (h : GI w W gp g6 g7 pv vl vh) (ht : Turn B W W1 row) (hB : w.heap.size ≤ B) : GI w W1 gp g6 g7 pv vl vh :=
 ⟨ht.below h.below hB h.below.size, ht.heap h.p, ht.heap h.l, ht.heap h.h⟩
theorem far (h : GI w W gp g6 g7 pv vl vh) {k : Nat} {cs : Array Value} (hk : W.heap[k]? = some (.cells cs 3 (0, 0))) (hw : w.heap.size ≤ k) (i : Nat) (v : Value) : GI w (W.setCell ⟨k, i, none⟩ v) gp g6 g7 pv vl vh :=
 ⟨below_set h.below hw, blk_far (p := ⟨k, i, none⟩) h.p (blk_ne h.p hk (by decide)) _, blk_far (p := ⟨k, i, none⟩) h.l (blk_ne h.l hk (by decide)) _, blk_far (p := ⟨k, i, none⟩) h.h (blk_ne h.h hk (by decide)) _⟩
end GI
structure Sep (w : World) (gt gl gm gi : Nat) : Prop where
 tl : gt ≠ gl
 tm : gt ≠ gm
 lm : gl ≠ gm
 it : gi ≠ gt
 il : gi ≠ gl
 im : gi ≠ gm
 gt : w.heap.size ≤ gt
 gl : w.heap.size ≤ gl
 gm : w.heap.size ≤ gm
structure GJ (w : World) (gp g6 g7 : Nat) (pv : Array Value) (vl vh : Value) (gt gl gm : Nat) (T L M : Int) (B : Nat) (ds : List Deferred) (gi gq : Nat) (ci cq : Array Value) (V : World) : Prop where
 g : GI w V gp g6 g7 pv vl vh
 t : V.heap[gt]? = some (.cells #[.int .i64 T] 3 (0, 0))
 l : V.heap[gl]? = some (.cells #[.int .i64 L] 3 (0, 0))
 m : V.heap[gm]? = some (.cells #[.int .i64 M] 3 (0, 0))
 marks : MarksTo w.heap.size B V ds
 b : B ≤ V.heap.size
 i : V.heap[gi]? = some (.cells ci 3 (0, 0))
 q : V.heap[gq]? = some (.cells cq 24 (0, 0))
namespace GJ
variable {w V V1 : World} {gp g6 g7 : Nat} {pv : Array Value} {vl vh : Value} {gt gl gm : Nat} {T L M : Int} {B : Nat} {ds : List Deferred} {gi gq : Nat} {ci cq : Array Value}
theorem step (h : GJ w gp g6 g7 pv vl vh gt gl gm T L M B ds gi gq ci cq V) (hb : Below V.heap.size V V1) : GJ w gp g6 g7 pv vl vh gt gl gm T L M B ds gi gq ci cq V1 :=
 ⟨h.g.step hb, blk_below h.t hb, blk_below h.l hb, blk_below h.m hb, h.marks.others (below_others hb), Nat.le_trans h.b hb.size, blk_below h.i hb, blk_below h.q hb⟩
theorem turn {row : Option Nat} (h : GJ w gp g6 g7 pv vl vh gt gl gm T L M B ds gi gq ci cq V) (ht : Turn B V V1 row) (hB : w.heap.size ≤ B) : GJ w gp g6 g7 pv vl vh gt gl gm T L M B ds gi gq ci cq V1 :=
 ⟨h.g.turn ht hB, ht.heap h.t, ht.heap h.l, ht.heap h.m, h.marks.turn ht h.b, Nat.le_trans h.b ht.1.size, ht.heap h.i, ht.heap h.q⟩
end GJ
end Go.Proofs.Ytndkkjpgnmahbaa.Print
end

section
namespace Go.Proofs.Field
section
variable {W H : Nat} {R : Bool} {C v : List Int}
def leastTo (C v : List Int) : Nat → Int
 | 0 => 1000000
 | m + 1 => if 0 < fn C m then min (leastTo C v m) (volt C v m) else leastTo C v m
def mostTo (C v : List Int) : Nat → Int
 | 0 => -1000000
 | m + 1 => if 0 < fn C m then max (mostTo C v m) (volt C v m) else mostTo C v m
theorem leastTo_le : ∀ {m i : Nat}, i < m → 0 < fn C i → leastTo C v m ≤ volt C v i
 | 0, i, h, _ => absurd h (Nat.not_lt_zero i)
 | m + 1, i, h, hp => by
  rw [leastTo]
  by_cases q : i = m
  ·subst q; rw [if_pos hp]; omega
  ·have := leastTo_le (show i < m by omega) hp
   split <;> omega
theorem mostTo_ge : ∀ {m i : Nat}, i < m → 0 < fn C i → volt C v i ≤ mostTo C v m
 | 0, i, h, _ => absurd h (Nat.not_lt_zero i)
 | m + 1, i, h, hp => by
  rw [mostTo]
  by_cases q : i = m
  ·subst q; rw [if_pos hp]; omega
  ·have := mostTo_ge (show i < m by omega) hp
   split <;> omega
theorem lowest (hV : Volted W H R C v) : leastTo C v C.length ≤ minOf (onOf C v) := by
 obtain ⟨j, hj, hp, e⟩ := on_volt (minOf_mem (on_ne hV))
 rw [← e]; exact leastTo_le hj hp
theorem highest (hV : Volted W H R C v) : maxOf (onOf C v) ≤ mostTo C v C.length := by
 obtain ⟨j, hj, hp, e⟩ := on_volt (maxOf_mem (on_ne hV))
 rw [← e]; exact mostTo_ge hj hp
end
end Go.Proofs.Field
namespace Go.Proofs.Ytndkkjpgnmahbaa.Print
open Go.RowKit Go.Proofs.YtndkkjpgnmahbaaW.PrintWords Go.Proofs.YtndkkjpgnmahbaaW.PrintLast Go.Proofs.YtndkkjpgnmahbaaW.PrintMore Go.Proofs.Field
set_option linter.unusedVariables false
end Go.Proofs.Ytndkkjpgnmahbaa.Print
end

section
namespace Go.Proofs.Ytndkkjpgnmahbaa.Print
open Go.RowKit Go.Proofs.YtndkkjpgnmahbaaW.PrintWords Go.Proofs.YtndkkjpgnmahbaaW.PrintLast Go.Proofs.YtndkkjpgnmahbaaW.PrintMore Go.Proofs.Ytndkkjpgnmahbaa.H Go.Proofs.Field
set_option linter.unusedVariables false
structure Two (W : World) (base : Nat) (vL vH : Value) (lo hi : List Int) : Prop where
 l : Kd.R (Kd.int .i64) 3 W base (fun k => some k ≠ vH.ownBlock) vL lo
 h : Kd.R (Kd.int .i64) 3 W base (fun k => some k ≠ vL.ownBlock) vH hi
theorem R_turn {W w1 : World} {base : Nat} {u v v1 : Value} {xs : List Int} (h : Kd.R (Kd.int .i64) 3 W base (fun k => some k ≠ v.ownBlock) u xs) (hg : W.grownBy w1 v.ownBlock) (hat : v1.ownBlock = v.ownBlock ∨ ∃ b, v1.ownBlock = some b ∧ W.heap.size ≤ b) : Kd.R (Kd.int .i64) 3 w1 base (fun k => some k ≠ v1.ownBlock) u xs :=
 Kd.R_mono (Kd.R_after (ok := fun _ => True) (Kd.R_mono h (fun k hk => ⟨trivial, hk⟩)) hg hat) (fun k hk => hk.2)
structure BS (w W : World) (g2 g4 g8 : Nat) (pv z4 fv : Array Value) (vL vH : Value) (lo hi : List Int) : Prop where
 below : Below w.heap.size w W
 p : W.heap[g2]? = some (.cells pv 24 (0, 0))
 o : W.heap[g4]? = some (.cells z4 33 (0, 0))
 f : W.heap[g8]? = some (.cells fv 33 (0, 0))
 t : Two W w.heap.size vL vH lo hi
 ne : g4 ≠ g8
 ge : w.heap.size ≤ g8 ∧ w.heap.size ≤ g4
namespace BS
variable {w W W1 : World} {g2 g4 g8 : Nat} {pv z4 fv : Array Value} {vL vH v1 : Value} {lo hi l2 : List Int}
theorem step (h : BS w W g2 g4 g8 pv z4 fv vL vH lo hi) (hb : Below W.heap.size W W1) : BS w W1 g2 g4 g8 pv z4 fv vL vH lo hi :=
 ⟨below_step h.below hb, blk_below h.p hb, blk_below h.o hb, blk_below h.f hb, ⟨Kd.R_below h.t.l hb, Kd.R_below h.t.h hb⟩, h.ne, h.ge⟩
theorem blkL (h : BS w W g2 g4 g8 pv z4 fv vL vH lo hi) (hg : W.grownBy W1 vL.ownBlock) {g : Nat} {cs : Array Value} {t : Nat} (hk : W.heap[g]? = some (.cells cs t (0, 0))) (ht : (3 : Nat) ≠ t) : W1.heap[g]? = some (.cells cs t (0, 0)) :=
 (hg.block g (blk_lt hk) (Kd.R_ne h.t.l hk ht)).trans hk
theorem blkH (h : BS w W g2 g4 g8 pv z4 fv vL vH lo hi) (hg : W.grownBy W1 vH.ownBlock) {g : Nat} {cs : Array Value} {t : Nat} (hk : W.heap[g]? = some (.cells cs t (0, 0))) (ht : (3 : Nat) ≠ t) : W1.heap[g]? = some (.cells cs t (0, 0)) :=
 (hg.block g (blk_lt hk) (Kd.R_ne h.t.h hk ht)).trans hk
theorem growL (h : BS w W g2 g4 g8 pv z4 fv vL vH lo hi) (hR : Kd.R (Kd.int .i64) 3 W1 w.heap.size (fun k => some k ≠ vH.ownBlock) v1 l2) (hB : Below w.heap.size w W1) (hg : W.grownBy W1 vL.ownBlock) (hat : v1.ownBlock = vL.ownBlock ∨ ∃ b, v1.ownBlock = some b ∧ W.heap.size ≤ b) : BS w W1 g2 g4 g8 pv z4 fv v1 vH l2 hi :=
 ⟨hB, h.blkL hg h.p (by decide), h.blkL hg h.o (by decide), h.blkL hg h.f (by decide), ⟨hR, R_turn h.t.h hg hat⟩, h.ne, h.ge⟩
theorem growH (h : BS w W g2 g4 g8 pv z4 fv vL vH lo hi) (hR : Kd.R (Kd.int .i64) 3 W1 w.heap.size (fun k => some k ≠ vL.ownBlock) v1 l2) (hB : Below w.heap.size w W1) (hg : W.grownBy W1 vH.ownBlock) (hat : v1.ownBlock = vH.ownBlock ∨ ∃ b, v1.ownBlock = some b ∧ W.heap.size ≤ b) : BS w W1 g2 g4 g8 pv z4 fv vL v1 lo l2 :=
 ⟨hB, h.blkH hg h.p (by decide), h.blkH hg h.o (by decide), h.blkH hg h.f (by decide), ⟨R_turn h.t.l hg hat, hR⟩, h.ne, h.ge⟩
theorem put (h : BS w W g2 g4 g8 pv z4 fv vL vH lo hi) (i : Nat) (u : Value) {fv' : Array Value} (e : fv.setIfInBounds i u = fv') : BS w (W.setCell ⟨g8, i, none⟩ u) g2 g4 g8 pv z4 fv' vL vH lo hi := by
 subst e
 refine ⟨below_set h.below h.ge.1, blk_far (p := ⟨g8, i, none⟩) h.p (blk_ne h.p h.f (by decide)) _, blk_far (p := ⟨g8, i, none⟩) h.o h.ne _, ?_, ⟨?_, ?_⟩, h.ne, h.ge⟩
 ·rw [blk_set h.f i]
 ·exact Kd.R_mono (Kd.R_far (p := ⟨g8, i, none⟩) (Kd.R_types h.t.l h.f (by decide)) (fun k hk => hk.2) u) (fun k hk => hk.1)
 ·exact Kd.R_mono (Kd.R_far (p := ⟨g8, i, none⟩) (Kd.R_types h.t.h h.f (by decide)) (fun k hk => hk.2) u) (fun k hk => hk.1)
end BS
structure Lit1 (W : World) (g : Nat) (x : Int) (vL vH : Value) : Prop where
 b : W.heap[g]? = some (.cells #[.int .i64 x] 3 (0, 0))
 l : some g ≠ vL.ownBlock
 h : some g ≠ vH.ownBlock
theorem Lit1.reads {W : World} {g : Nat} {x : Int} {vL vH : Value} (h : Lit1 W g x vL vH) : Kd.C (Kd.int .i64) W (some ⟨g, 0, none⟩) 1 [x] := C_of_cells (b := [x]) h.b (by simp)
theorem Lit1.step {W W1 : World} {g : Nat} {x : Int} {vL vH : Value} (h : Lit1 W g x vL vH) (hb : Below W.heap.size W W1) : Lit1 W1 g x vL vH := ⟨blk_below h.b hb, h.l, h.h⟩
theorem Lit1.growL {W W1 : World} {g : Nat} {x : Int} {vL vH v1 : Value} (h : Lit1 W g x vL vH) (hg : W.grownBy W1 vL.ownBlock) (hat : v1.ownBlock = vL.ownBlock ∨ ∃ b, v1.ownBlock = some b ∧ W.heap.size ≤ b) : Lit1 W1 g x v1 vH :=
 ⟨(hg.block g (blk_lt h.b) h.l).trans h.b, by
  rcases hat with e | ⟨b, e, hb⟩
  ·rw [e]; exact h.l
  ·rw [e]; intro q; have := Option.some.inj q; have := blk_lt h.b; omega, h.h⟩
theorem Lit1.make {w W : World} {g2 g4 g8 : Nat} {pv z4 fv : Array Value} {vL vH : Value} {lo hi : List Int} (h : BS w W g2 g4 g8 pv z4 fv vL vH lo hi) (x : Int) : Lit1 (W.alloc (.cells #[.int .i64 x] 3)) W.heap.size x vL vH :=
 ⟨blk_new _ _, Kd.fresh' (Kd.R_lt h.t.l) _ (Nat.le_refl _), Kd.fresh' (Kd.R_lt h.t.h) _ (Nat.le_refl _)⟩
def firstTo (C v : List Int) (x : Int) (n : Nat) : List Int := (List.range n).map (fun i => if 0 < fn C i then volt C v i else x)
theorem firstTo_len (C v : List Int) (x : Int) (n : Nat) : (firstTo C v x n).length = n := by simp [firstTo]
theorem firstTo_succ (C v : List Int) (x : Int) (n : Nat) : firstTo C v x (n + 1) = firstTo C v x n ++ [if 0 < fn C n then volt C v n else x] := by
 unfold firstTo
 rw [List.range_succ, List.map_append, List.map_singleton]
end Go.Proofs.Ytndkkjpgnmahbaa.Print
end
