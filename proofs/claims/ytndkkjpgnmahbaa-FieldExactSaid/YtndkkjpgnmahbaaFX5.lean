/- Part 5 of the texts of a claim about Ytndkkjpgnmahbaa, put together by a program of this work: what the Go functions do, and that their calls do so. -/
import Derived.Test.YtndkkjpgnmahbaaFX2
import Derived.Test.YtndkkjpgnmahbaaFX4
import Derived.Test.YtndkkjpgnmahbaaFX3
set_option linter.unusedVariables false
set_option linter.unusedSimpArgs false
set_option maxRecDepth 100000
set_option maxHeartbeats 64000000
attribute [local go_sem] Go.Proofs.YtndkkjpgnmahbaaW.PrintMore.max2_int Go.Proofs.YtndkkjpgnmahbaaW.PrintMore.min2_int Go.Proofs.YtndkkjpgnmahbaaW.PrintMore.max_two Go.Proofs.YtndkkjpgnmahbaaW.PrintMore.min_two Go.Proofs.YtndkkjpgnmahbaaW.PrintMore.max_three Go.Proofs.YtndkkjpgnmahbaaW.PrintMore.min_three Go.Proofs.YtndkkjpgnmahbaaW.PrintMore.max_four Go.Proofs.YtndkkjpgnmahbaaW.PrintMore.min_four
section
namespace Go.Proofs.Ytndkkjpgnmahbaa.Print
open Go.RowKit YtndkkjpgnmahbaaW.PrintWords YtndkkjpgnmahbaaW.PrintLast YtndkkjpgnmahbaaW.PrintMore Ytndkkjpgnmahbaa.H Proofs.Field
mutual
def thermionref01_weight.j0 : Nat → Int → Int → Bool → Int → Int → Bool → List Int → Option (Int)
 | 0, _, _, _, _, _, _, _ => none
 | k + 1, x1, x2, x23, x245000, x245001, x245002, x245003 => if x23 = true then (some 0) else (if x245000 = 0 then (none) else (if (mx x1 x2) = (wrap64 ((mn x1 x2) + 1)) then (thermionref01_weight.j1 k (mn x1 x2) (mx x1 x2) (Int.tmod (mn x1 x2) x245000) (decide ((Int.tmod (mx x1 x2) x245000) > 0)) x245000 x245001 x245002 x245003) else (thermionref01_weight.j1 k (mn x1 x2) (mx x1 x2) (Int.tmod (mn x1 x2) x245000) false x245000 x245001 x245002 x245003)))
def thermionref01_weight.j1 : Nat → Int → Int → Int → Bool → Int → Int → Bool → List Int → Option (Int)
 | 0, _, _, _, _, _, _, _, _ => none
 | k + 1, x1, x2, x8, x34, x245000, x245001, x245002, x245003 => if x34 = true then (if x245002 = true then (some (wrap64 (2 * (wrap64 (x8 + 1))))) else (some 1)) else (if x2 = (wrap64 (x1 + x245000)) then (if x245002 = true then (some (wrap64 ((wrap64 (2 * x8)) + 1))) else (some 1)) else (some 0))
end
def thermionref01_weight.f (k : Nat) (a0_0 : Int) (a0_1 : Int) (a0_2 : Bool) (l0_3 : List Int) (a1 : Int) (a2 : Int) : Option (Int) := (thermionref01_beyond.f a1 0 (wrap64 ((wrap64 (a0_0 * a0_1)) - 1))).bind fun t245 => (if t245 = true then (thermionref01_weight.j0 k a1 a2 true a0_0 a0_1 a0_2 l0_3) else ((thermionref01_beyond.f a2 0 (wrap64 ((wrap64 (a0_0 * a0_1)) - 1))).bind fun t246 => (thermionref01_weight.j0 k a1 a2 t246 a0_0 a0_1 a0_2 l0_3)))
theorem thermionref01_weight.calls (k : Nat) (a0_0 : Int) (a0_1 : Int) (a0_2 : Bool) (A0_3 : Option Addr) (c0_3 : Nat) (l0_3 : List Int) (a1 : Int) (a2 : Int) (r : Int) (w : World) (hr0_3 : Kd.C (Kd.int .i64) w A0_3 l0_3.length l0_3) (hc0_3 : l0_3.length ≤ c0_3) (h : thermionref01_weight.f k a0_0 a0_1 a0_2 l0_3 a1 a2 = some r) :
  Calls Try.prog 81 #[.agg #[.int .i64 a0_0, .int .i64 a0_1, .bool a0_2, .slice A0_3 l0_3.length c0_3], .int .i64 a1, .int .i64 a2] w fun e w' => e = .returned (.int .i64 r) ∧ Below w.heap.size w w' := by
 have hu24 := Try.underlying24
 have HR0_3 := Aside0.mk hr0_3
 have HC0_3 := Aside0.mk hc0_3
 clear hr0_3 hc0_3
 have HB := Aside0.mk (Below.refl w.heap.size w)
 have H : ((thermionref01_beyond.f a1 0 (wrap64 ((wrap64 (a0_0 * a0_1)) - 1))).bind fun t245 => (if t245 = true then (thermionref01_weight.j0 k a1 a2 true a0_0 a0_1 a0_2 l0_3) else ((thermionref01_beyond.f a2 0 (wrap64 ((wrap64 (a0_0 * a0_1)) - 1))).bind fun t246 => (thermionref01_weight.j0 k a1 a2 t246 a0_0 a0_1 a0_2 l0_3)))) = some r := h
 clear h
 have HC4 := Aside0.mk H
 clear H
 go_enter Try.func81, Try.ntmps81
 go_upto_region 2 with (first | ((with_reducible refine gate_dst (N := 3) rfl ?_); refine box_event ?hg (N := 3) ?hd (cs := #[.int .i64 a0_0, .int .i64 a0_1, .bool a0_2, .slice A0_3 l0_3.length c0_3]) (t := 24) ?hr ?_; (case hd => rfl); (case hg => rfl); (case hr => first | (go_simp; done) | (go_simp; rfl)); intro gb244 hg w5 hbox hb; have n0_ := Aside0.mk (below_step (by repeat (first | (with_reducible first | exact HB.out | apply below_alloc | apply pw_below_drewN | apply below_drew1) | exact HB.out)) hb); have n1_ := Aside0.mk (hbox); have n2_ := Aside0.mk ((by rw [hg]; exact (below_size (by repeat (first | (with_reducible first | exact HB.out | apply below_alloc | apply pw_below_drewN | apply below_drew1) | exact HB.out))) : w.heap.size ≤ gb244)); have n3_ := Aside0.mk ((by rw [hg]; exact (below_size (by repeat (first | (with_reducible first | exact HB.out | apply below_alloc | apply pw_below_drewN | apply below_drew1) | exact HB.out))) : w.heap.size ≤ gb244)); clear HB; have HB := n0_; have BK244 := n1_; have GW244 := n2_; have GE244 := n3_; clear n0_ n1_ n2_ n3_; clear hb hbox hg; have hcz6_0 : w5.cell? ⟨gb244, 0, none⟩ = some (.int .i64 a0_0) := (blk_cell BK244.out 0).trans rfl; have hcz6_1 : w5.cell? ⟨gb244, 1, none⟩ = some (.int .i64 a0_1) := (blk_cell BK244.out 1).trans rfl; have hcz6_2 : w5.cell? ⟨gb244, 2, none⟩ = some (.bool a0_2) := (blk_cell BK244.out 2).trans rfl; have hcz6_3 : w5.cell? ⟨gb244, 3, none⟩ = some (.slice A0_3 l0_3.length c0_3) := (blk_cell BK244.out 3).trans rfl; have hfz6_0 := blk_frozen BK244.out 0; have hfz6_1 := blk_frozen BK244.out 1; have hfz6_2 := blk_frozen BK244.out 2; have hfz6_3 := blk_frozen BK244.out 3))
 (try simp only [Act.put, List.setIfInBounds_toArray, List.set_cons_zero, List.set_cons_succ])
 go_cut [23] (fun v23 wc => ∃ (kq : Nat) (x23_3 : Bool), v23 = .bool x23_3 ∧ Aside0 (thermionref01_weight.j0 kq a1 a2 x23_3 a0_0 a0_1 a0_2 l0_3 = some r) ∧ Aside0 (kq ≤ k) ∧ Aside0 (wc.heap[gb244]? = some (.cells #[.int .i64 a0_0, .int .i64 a0_1, .bool a0_2, (.slice A0_3 l0_3.length c0_3)] 24 (0, 0))) ∧ Aside0 (Below w.heap.size w wc))
 case first =>
  have H := HC4.out
  clear HC4
  replace H := Option.bind_eq_some_iff.mp H
  obtain ⟨t245, A70, H⟩ := H
  replace H : (if t245 = true then (thermionref01_weight.j0 k a1 a2 true a0_0 a0_1 a0_2 l0_3) else ((thermionref01_beyond.f a2 0 (wrap64 ((wrap64 (a0_0 * a0_1)) - 1))).bind fun t246 => (thermionref01_weight.j0 k a1 a2 t246 a0_0 a0_1 a0_2 l0_3))) = some r := H
  have A7 := Aside0.mk A70
  clear A70
  by_cases c8 : t245 = true
  ·subst c8
   have H1 : (thermionref01_weight.j0 k a1 a2 true a0_0 a0_1 a0_2 l0_3) = some r := by rw [if_pos rfl] at H; exact H
   clear H
   have H := H1
   clear H1
   have H' := Aside0.mk H
   clear H
   go_wp2_with (first | ((with_reducible refine gate_callee (f := 73) rfl ?_); refine goesL_ (some 17) rfl rfl Try.func73 (by kernel_rfl) rfl #[.int .i64 a1, .int .i64 0, .int .i64 (wrap64 ((wrap64 (a0_0 * a0_1)) - 1))] rfl (by (try simp only [List.map_toArray, List.map_cons, List.map_nil]); first | done | rfl | (simp only [List.length_drop, List.length_take]; rfl)) ?_; (with_reducible refine (thermionref01_beyond.calls a1 0 (wrap64 ((wrap64 (a0_0 * a0_1)) - 1)) true _ A7.out).mono ?_); rintro e w' ⟨rfl, ⟨nd, rfl⟩⟩; refine ⟨_, rfl, ?_⟩))
   go_meet
   case rel => exact ⟨_, (true), (by first | rfl | (simp; done) | (simp [*]; done)), H', ⟨by first | omega | exact Nat.le_refl _⟩, ⟨by (with_reducible repeat (first | refine blk_drewN ?_ _ | refine blk_drew ?_ | refine blk_alloc ?_ _)); exact BK244.out⟩, ⟨by repeat (first | (with_reducible first | exact HB.out | apply below_alloc | apply pw_below_drewN | apply below_drew1 | refine below_set ?_ GE244.out) | exact HB.out)⟩⟩
  ·replace c8 := Bool.eq_false_iff.mpr c8
   subst c8
   have H1 : ((thermionref01_beyond.f a2 0 (wrap64 ((wrap64 (a0_0 * a0_1)) - 1))).bind fun t246 => (thermionref01_weight.j0 k a1 a2 t246 a0_0 a0_1 a0_2 l0_3)) = some r := by rw [if_neg (show ¬ (false = true) by decide)] at H; exact H
   clear H
   have H := H1
   clear H1
   replace H := Option.bind_eq_some_iff.mp H
   obtain ⟨t246, A90, H⟩ := H
   replace H : (thermionref01_weight.j0 k a1 a2 t246 a0_0 a0_1 a0_2 l0_3) = some r := H
   have A9 := Aside0.mk A90
   clear A90
   have H' := Aside0.mk H
   clear H
   go_wp2_with (first | ((with_reducible refine gate_callee (f := 73) rfl ?_); refine goesL_ (some 17) rfl rfl Try.func73 (by kernel_rfl) rfl #[.int .i64 a1, .int .i64 0, .int .i64 (wrap64 ((wrap64 (a0_0 * a0_1)) - 1))] rfl (by (try simp only [List.map_toArray, List.map_cons, List.map_nil]); first | done | rfl | (simp only [List.length_drop, List.length_take]; rfl)) ?_; (with_reducible refine (thermionref01_beyond.calls a1 0 (wrap64 ((wrap64 (a0_0 * a0_1)) - 1)) false _ A7.out).mono ?_); rintro e w' ⟨rfl, ⟨nd, rfl⟩⟩; refine ⟨_, rfl, ?_⟩) | (go_at_call 73; (with_reducible refine (thermionref01_beyond.calls a2 0 (wrap64 ((wrap64 (a0_0 * a0_1)) - 1)) t246 _ A9.out).mono ?_); rintro e w' ⟨rfl, ⟨nd, rfl⟩⟩))
   go_meet
   case rel => exact ⟨_, (t246), (by first | rfl | (simp; done) | (simp [*]; done)), H', ⟨by first | omega | exact Nat.le_refl _⟩, ⟨by (with_reducible repeat (first | refine blk_drewN ?_ _ | refine blk_drew ?_ | refine blk_alloc ?_ _)); exact BK244.out⟩, ⟨by repeat (first | (with_reducible first | exact HB.out | apply below_alloc | apply pw_below_drewN | apply below_drew1 | refine below_set ?_ GE244.out) | exact HB.out)⟩⟩
 case rest =>
  clear HC4
  try clear c8
  try clear hcz6_0
  try clear hcz6_1
  try clear hcz6_2
  try clear hcz6_3
  try clear hfz6_0
  try clear hfz6_1
  try clear hfz6_2
  try clear hfz6_3
  obtain ⟨kq, x23_3, rfl, HA, HJ3, BK244, HB⟩ := hcut
  cases kq with
  | zero => exact absurd HA.out (by simp [thermionref01_weight.j0])
  | succ kj3 =>
   have H := HA.out
   clear HA
   simp only [thermionref01_weight.j0] at H
   by_cases c10 : x23_3 = true
   ·subst c10
    have H1 : (some 0) = some r := by rw [if_pos rfl] at H; exact H
    clear H
    have H := H1
    clear H1
    obtain rfl := Option.some.inj H
    go_wp2
    go_ret
    exact ⟨by first | rfl | (simp [errW_none, errW_some] <;> rfl) | (simp [*, errW_none, errW_some] <;> rfl), by repeat (first | (with_reducible first | exact HB.out | apply below_alloc | apply pw_below_drewN | apply below_drew1 | refine below_set ?_ GE244.out) | exact HB.out)⟩
   ·replace c10 := Bool.eq_false_iff.mpr c10
    subst c10
    have H1 : (if a0_0 = 0 then (none) else (if (mx a1 a2) = (wrap64 ((mn a1 a2) + 1)) then (thermionref01_weight.j1 kj3 (mn a1 a2) (mx a1 a2) (Int.tmod (mn a1 a2) a0_0) (decide ((Int.tmod (mx a1 a2) a0_0) > 0)) a0_0 a0_1 a0_2 l0_3) else (thermionref01_weight.j1 kj3 (mn a1 a2) (mx a1 a2) (Int.tmod (mn a1 a2) a0_0) false a0_0 a0_1 a0_2 l0_3))) = some r := by rw [if_neg (show ¬ (false = true) by decide)] at H; exact H
    clear H
    have H := H1
    clear H1
    obtain ⟨ji11, hji11⟩ : ∃ j_ : Int, (mn a1 a2) = j_ := ⟨_, rfl⟩
    replace H : (if a0_0 = 0 then (none) else (if (mx a1 a2) = (wrap64 ((ji11) + 1)) then (thermionref01_weight.j1 kj3 ji11 (mx a1 a2) (Int.tmod (ji11) a0_0) (decide ((Int.tmod (mx a1 a2) a0_0) > 0)) a0_0 a0_1 a0_2 l0_3) else (thermionref01_weight.j1 kj3 ji11 (mx a1 a2) (Int.tmod (ji11) a0_0) false a0_0 a0_1 a0_2 l0_3))) = some r := by first | (rw [hji11] at H; exact H) | (simp only [hji11] at H ⊢; exact H)
    have hji11_ : (if a2 < a1 then a2 else a1) = ji11 := hji11
    obtain ⟨ji12, hji12⟩ : ∃ j_ : Int, (mx a1 a2) = j_ := ⟨_, rfl⟩
    replace H : (if a0_0 = 0 then (none) else (if (ji12) = (wrap64 ((ji11) + 1)) then (thermionref01_weight.j1 kj3 ji11 ji12 (Int.tmod (ji11) a0_0) (decide ((Int.tmod (ji12) a0_0) > 0)) a0_0 a0_1 a0_2 l0_3) else (thermionref01_weight.j1 kj3 ji11 ji12 (Int.tmod (ji11) a0_0) false a0_0 a0_1 a0_2 l0_3))) = some r := by first | (rw [hji12] at H; exact H) | (simp only [hji12] at H ⊢; exact H)
    have hji12_ : (if a1 < a2 then a2 else a1) = ji12 := hji12
    by_cases c13 : a0_0 = 0
    ·rw [if_pos c13] at H
     exact absurd H (by simp)
    ·rw [if_neg c13] at H
     have c13b0 : (a0_0 == 0) = false := beq_eq_false_iff_ne.mpr c13
     have c13b1 : (a0_0 != 0) = true := bne_iff_ne.mpr c13
     have HC14 := Aside0.mk H
     clear H
     have hcz15_0 : wc.cell? ⟨gb244, 0, none⟩ = some (.int .i64 a0_0) := (blk_cell BK244.out 0).trans rfl
     have hcz15_1 : wc.cell? ⟨gb244, 1, none⟩ = some (.int .i64 a0_1) := (blk_cell BK244.out 1).trans rfl
     have hcz15_2 : wc.cell? ⟨gb244, 2, none⟩ = some (.bool a0_2) := (blk_cell BK244.out 2).trans rfl
     have hcz15_3 : wc.cell? ⟨gb244, 3, none⟩ = some (.slice A0_3 l0_3.length c0_3) := (blk_cell BK244.out 3).trans rfl
     have hfz15_0 := blk_frozen BK244.out 0
     have hfz15_1 := blk_frozen BK244.out 1
     have hfz15_2 := blk_frozen BK244.out 2
     have hfz15_3 := blk_frozen BK244.out 3
     go_upto_region 6 with (fail)
     go_cut [34] (fun v34 wc => ∃ (kq : Nat) (x34_13 : Bool), v34 = .bool x34_13 ∧ Aside0 (thermionref01_weight.j1 kq ji11 ji12 (Int.tmod (ji11) a0_0) x34_13 a0_0 a0_1 a0_2 l0_3 = some r) ∧ Aside0 (kq ≤ kj3) ∧ Aside0 (wc.heap[gb244]? = some (.cells #[.int .i64 a0_0, .int .i64 a0_1, .bool a0_2, (.slice A0_3 l0_3.length c0_3)] 24 (0, 0))) ∧ Aside0 (Below w.heap.size w wc))
     case first =>
      have H := HC14.out
      clear HC14
      by_cases c16 : (ji12) = (wrap64 ((ji11) + 1))
      ·rw [if_pos c16] at H
       have c16b0 : ((ji12) == (wrap64 ((ji11) + 1))) = true := beq_iff_eq.mpr c16
       have c16b1 : ((ji12) != (wrap64 ((ji11) + 1))) = false := bne_eq_false_iff_eq.mpr c16
       clear c16
       (first | rw [c16b0] | (simp only [i64_w, i32_w]; rw [c16b0]) | skip)
       have H' := Aside0.mk H
       clear H
       have hcz17_0 : wc.cell? ⟨gb244, 0, none⟩ = some (.int .i64 a0_0) := (blk_cell BK244.out 0).trans rfl
       have hcz17_1 : wc.cell? ⟨gb244, 1, none⟩ = some (.int .i64 a0_1) := (blk_cell BK244.out 1).trans rfl
       have hcz17_2 : wc.cell? ⟨gb244, 2, none⟩ = some (.bool a0_2) := (blk_cell BK244.out 2).trans rfl
       have hcz17_3 : wc.cell? ⟨gb244, 3, none⟩ = some (.slice A0_3 l0_3.length c0_3) := (blk_cell BK244.out 3).trans rfl
       have hfz17_0 := blk_frozen BK244.out 0
       have hfz17_1 := blk_frozen BK244.out 1
       have hfz17_2 := blk_frozen BK244.out 2
       have hfz17_3 := blk_frozen BK244.out 3
       go_wp2
       go_meet
       case rel => exact ⟨_, (decide ((Int.tmod (ji12) a0_0) > 0)), (by first | rfl | (simp; done) | (simp only [← hji12] <;> (first | rfl | simp)) | (simp [*]; done)), H', ⟨by have := HJ3.out; first | omega | exact Nat.le_refl _⟩, ⟨by (with_reducible repeat (first | refine blk_drewN ?_ _ | refine blk_drew ?_ | refine blk_alloc ?_ _)); exact BK244.out⟩, ⟨by repeat (first | (with_reducible first | exact HB.out | apply below_alloc | apply pw_below_drewN | apply below_drew1 | refine below_set ?_ GE244.out) | exact HB.out)⟩⟩
      ·rw [if_neg c16] at H
       have c16b0 : ((ji12) == (wrap64 ((ji11) + 1))) = false := beq_eq_false_iff_ne.mpr c16
       have c16b1 : ((ji12) != (wrap64 ((ji11) + 1))) = true := bne_iff_ne.mpr c16
       (first | rw [c16b0] | (simp only [i64_w, i32_w]; rw [c16b0]) | skip)
       have H' := Aside0.mk H
       clear H
       go_wp2
       go_meet
       case rel => exact ⟨_, (false), (by first | rfl | (simp; done) | (simp [*]; done)), H', ⟨by have := HJ3.out; first | omega | exact Nat.le_refl _⟩, ⟨by (with_reducible repeat (first | refine blk_drewN ?_ _ | refine blk_drew ?_ | refine blk_alloc ?_ _)); exact BK244.out⟩, ⟨by repeat (first | (with_reducible first | exact HB.out | apply below_alloc | apply pw_below_drewN | apply below_drew1 | refine below_set ?_ GE244.out) | exact HB.out)⟩⟩
     case rest =>
      clear HC14
      try clear c8
      try clear c10
      try clear c13
      try clear c13b0
      try clear c13b1
      try clear c16
      try clear c16b0
      try clear c16b1
      try clear hcz15_0
      try clear hcz15_1
      try clear hcz15_2
      try clear hcz15_3
      try clear hcz17_0
      try clear hcz17_1
      try clear hcz17_2
      try clear hcz17_3
      try clear hcz6_0
      try clear hcz6_1
      try clear hcz6_2
      try clear hcz6_3
      try clear hfz15_0
      try clear hfz15_1
      try clear hfz15_2
      try clear hfz15_3
      try clear hfz17_0
      try clear hfz17_1
      try clear hfz17_2
      try clear hfz17_3
      try clear hfz6_0
      try clear hfz6_1
      try clear hfz6_2
      try clear hfz6_3
      obtain ⟨kq, x34_13, rfl, HA, HJ13, BK244, HB⟩ := hcut
      cases kq with
      | zero => exact absurd HA.out (by simp [thermionref01_weight.j1])
      | succ kj13 =>
       have H := HA.out
       clear HA
       simp only [thermionref01_weight.j1] at H
       by_cases c18 : x34_13 = true
       ·subst c18
        have H1 : (if a0_2 = true then (some (wrap64 (2 * (wrap64 ((Int.tmod (ji11) a0_0) + 1))))) else (some 1)) = some r := by rw [if_pos rfl] at H; exact H
        clear H
        have H := H1
        clear H1
        by_cases c19 : a0_2 = true
        ·subst c19
         have H1 : (some (wrap64 (2 * (wrap64 ((Int.tmod (ji11) a0_0) + 1))))) = some r := by rw [if_pos rfl] at H; exact H
         clear H
         have H := H1
         clear H1
         obtain rfl := Option.some.inj H
         have hcz20_0 : wc.cell? ⟨gb244, 0, none⟩ = some (.int .i64 a0_0) := (blk_cell BK244.out 0).trans rfl
         have hcz20_1 : wc.cell? ⟨gb244, 1, none⟩ = some (.int .i64 a0_1) := (blk_cell BK244.out 1).trans rfl
         have hcz20_2 : wc.cell? ⟨gb244, 2, none⟩ = some (.bool true) := (blk_cell BK244.out 2).trans rfl
         have hcz20_3 : wc.cell? ⟨gb244, 3, none⟩ = some (.slice A0_3 l0_3.length c0_3) := (blk_cell BK244.out 3).trans rfl
         have hfz20_0 := blk_frozen BK244.out 0
         have hfz20_1 := blk_frozen BK244.out 1
         have hfz20_2 := blk_frozen BK244.out 2
         have hfz20_3 := blk_frozen BK244.out 3
         go_wp2
         go_ret
         exact ⟨by first | rfl | (simp [errW_none, errW_some] <;> rfl) | (simp only [← hji11, ← hji12]; first | rfl | (simp [errW_none, errW_some] <;> rfl)) | (simp [*, errW_none, errW_some] <;> rfl), by repeat (first | (with_reducible first | exact HB.out | apply below_alloc | apply pw_below_drewN | apply below_drew1 | refine below_set ?_ GE244.out) | exact HB.out)⟩
        ·replace c19 := Bool.eq_false_iff.mpr c19
         subst c19
         have H1 : (some 1) = some r := by rw [if_neg (show ¬ (false = true) by decide)] at H; exact H
         clear H
         have H := H1
         clear H1
         obtain rfl := Option.some.inj H
         have hcz21_0 : wc.cell? ⟨gb244, 0, none⟩ = some (.int .i64 a0_0) := (blk_cell BK244.out 0).trans rfl
         have hcz21_1 : wc.cell? ⟨gb244, 1, none⟩ = some (.int .i64 a0_1) := (blk_cell BK244.out 1).trans rfl
         have hcz21_2 : wc.cell? ⟨gb244, 2, none⟩ = some (.bool false) := (blk_cell BK244.out 2).trans rfl
         have hcz21_3 : wc.cell? ⟨gb244, 3, none⟩ = some (.slice A0_3 l0_3.length c0_3) := (blk_cell BK244.out 3).trans rfl
         have hfz21_0 := blk_frozen BK244.out 0
         have hfz21_1 := blk_frozen BK244.out 1
         have hfz21_2 := blk_frozen BK244.out 2
         have hfz21_3 := blk_frozen BK244.out 3
         go_wp2
         go_ret
         exact ⟨by first | rfl | (simp [errW_none, errW_some] <;> rfl) | (simp only [← hji11, ← hji12]; first | rfl | (simp [errW_none, errW_some] <;> rfl)) | (simp [*, errW_none, errW_some] <;> rfl), by repeat (first | (with_reducible first | exact HB.out | apply below_alloc | apply pw_below_drewN | apply below_drew1 | refine below_set ?_ GE244.out) | exact HB.out)⟩
       ·replace c18 := Bool.eq_false_iff.mpr c18
        subst c18
        have H1 : (if ji12 = (wrap64 (ji11 + a0_0)) then (if a0_2 = true then (some (wrap64 ((wrap64 (2 * (Int.tmod (ji11) a0_0))) + 1))) else (some 1)) else (some 0)) = some r := by rw [if_neg (show ¬ (false = true) by decide)] at H; exact H
        clear H
        have H := H1
        clear H1
        by_cases c22 : ji12 = (wrap64 (ji11 + a0_0))
        ·rw [if_pos c22] at H
         have c22b0 : (ji12 == (wrap64 (ji11 + a0_0))) = true := beq_iff_eq.mpr c22
         have c22b1 : (ji12 != (wrap64 (ji11 + a0_0))) = false := bne_eq_false_iff_eq.mpr c22
         clear c22
         by_cases c23 : a0_2 = true
         ·subst c23
          have H1 : (some (wrap64 ((wrap64 (2 * (Int.tmod (ji11) a0_0))) + 1))) = some r := by rw [if_pos rfl] at H; exact H
          clear H
          have H := H1
          clear H1
          obtain rfl := Option.some.inj H
          have hcz24_0 : wc.cell? ⟨gb244, 0, none⟩ = some (.int .i64 a0_0) := (blk_cell BK244.out 0).trans rfl
          have hcz24_1 : wc.cell? ⟨gb244, 1, none⟩ = some (.int .i64 a0_1) := (blk_cell BK244.out 1).trans rfl
          have hcz24_2 : wc.cell? ⟨gb244, 2, none⟩ = some (.bool true) := (blk_cell BK244.out 2).trans rfl
          have hcz24_3 : wc.cell? ⟨gb244, 3, none⟩ = some (.slice A0_3 l0_3.length c0_3) := (blk_cell BK244.out 3).trans rfl
          have hfz24_0 := blk_frozen BK244.out 0
          have hfz24_1 := blk_frozen BK244.out 1
          have hfz24_2 := blk_frozen BK244.out 2
          have hfz24_3 := blk_frozen BK244.out 3
          go_wp2
          go_ret
          exact ⟨by first | rfl | (simp [errW_none, errW_some] <;> rfl) | (simp only [← hji11, ← hji12]; first | rfl | (simp [errW_none, errW_some] <;> rfl)) | (simp [*, errW_none, errW_some] <;> rfl), by repeat (first | (with_reducible first | exact HB.out | apply below_alloc | apply pw_below_drewN | apply below_drew1 | refine below_set ?_ GE244.out) | exact HB.out)⟩
         ·replace c23 := Bool.eq_false_iff.mpr c23
          subst c23
          have H1 : (some 1) = some r := by rw [if_neg (show ¬ (false = true) by decide)] at H; exact H
          clear H
          have H := H1
          clear H1
          obtain rfl := Option.some.inj H
          have hcz25_0 : wc.cell? ⟨gb244, 0, none⟩ = some (.int .i64 a0_0) := (blk_cell BK244.out 0).trans rfl
          have hcz25_1 : wc.cell? ⟨gb244, 1, none⟩ = some (.int .i64 a0_1) := (blk_cell BK244.out 1).trans rfl
          have hcz25_2 : wc.cell? ⟨gb244, 2, none⟩ = some (.bool false) := (blk_cell BK244.out 2).trans rfl
          have hcz25_3 : wc.cell? ⟨gb244, 3, none⟩ = some (.slice A0_3 l0_3.length c0_3) := (blk_cell BK244.out 3).trans rfl
          have hfz25_0 := blk_frozen BK244.out 0
          have hfz25_1 := blk_frozen BK244.out 1
          have hfz25_2 := blk_frozen BK244.out 2
          have hfz25_3 := blk_frozen BK244.out 3
          go_wp2
          go_ret
          exact ⟨by first | rfl | (simp [errW_none, errW_some] <;> rfl) | (simp only [← hji11, ← hji12]; first | rfl | (simp [errW_none, errW_some] <;> rfl)) | (simp [*, errW_none, errW_some] <;> rfl), by repeat (first | (with_reducible first | exact HB.out | apply below_alloc | apply pw_below_drewN | apply below_drew1 | refine below_set ?_ GE244.out) | exact HB.out)⟩
        ·rw [if_neg c22] at H
         have c22b0 : (ji12 == (wrap64 (ji11 + a0_0))) = false := beq_eq_false_iff_ne.mpr c22
         have c22b1 : (ji12 != (wrap64 (ji11 + a0_0))) = true := bne_iff_ne.mpr c22
         obtain rfl := Option.some.inj H
         have hcz26_0 : wc.cell? ⟨gb244, 0, none⟩ = some (.int .i64 a0_0) := (blk_cell BK244.out 0).trans rfl
         have hcz26_1 : wc.cell? ⟨gb244, 1, none⟩ = some (.int .i64 a0_1) := (blk_cell BK244.out 1).trans rfl
         have hcz26_2 : wc.cell? ⟨gb244, 2, none⟩ = some (.bool a0_2) := (blk_cell BK244.out 2).trans rfl
         have hcz26_3 : wc.cell? ⟨gb244, 3, none⟩ = some (.slice A0_3 l0_3.length c0_3) := (blk_cell BK244.out 3).trans rfl
         have hfz26_0 := blk_frozen BK244.out 0
         have hfz26_1 := blk_frozen BK244.out 1
         have hfz26_2 := blk_frozen BK244.out 2
         have hfz26_3 := blk_frozen BK244.out 3
         go_wp2
         go_ret
         exact ⟨by first | rfl | (simp [errW_none, errW_some] <;> rfl) | (simp only [← hji11, ← hji12]; first | rfl | (simp [errW_none, errW_some] <;> rfl)) | (simp [*, errW_none, errW_some] <;> rfl), by repeat (first | (with_reducible first | exact HB.out | apply below_alloc | apply pw_below_drewN | apply below_drew1 | refine below_set ?_ GE244.out) | exact HB.out)⟩
mutual
def thermionref01_around.j0 : Nat → Int → List Int → Int → Int → Bool → List Int → Option (List Int)
 | 0, _, _, _, _, _, _ => none
 | k + 1, x1, x5, x248000, x248001, x248002, x248003 => thermionref01_around.l0 k x1 x5 ([] : List Int) 0 x248000 x248001 x248002 x248003
def thermionref01_around.l0 : Nat → Int → List Int → List Int → Int → Int → Int → Bool → List Int → Option (List Int)
 | 0, _, _, _, _, _, _, _, _ => none
 | k + 1, x1, x5, x6, x7, x248000, x248001, x248002, x248003 => if x7 < (x5.length : Int) then (if 0 ≤ x7 then ((thermionref01_weight.f k x248000 x248001 x248002 x248003 x1 (rd x5 x7)).bind fun t255 => (if t255 > 0 then (if x6.length < 17592186044416 then (thermionref01_around.l0 k x1 x5 (x6 ++ [rd x5 x7]) (wrap64 (x7 + 1)) x248000 x248001 x248002 x248003) else (none)) else (thermionref01_around.l0 k x1 x5 x6 (wrap64 (x7 + 1)) x248000 x248001 x248002 x248003))) else (none)) else (some x6)
end
def thermionref01_around.f (k : Nat) (a0_0 : Int) (a0_1 : Int) (a0_2 : Bool) (l0_3 : List Int) (a1 : Int) : Option (List Int) := if a0_0 = 1 then (thermionref01_around.j0 k a1 (([wrap64 (a1 - 1), wrap64 (a1 + 1)] : List Int)) a0_0 a0_1 a0_2 l0_3) else (thermionref01_around.j0 k a1 (([wrap64 (a1 - a0_0), wrap64 (a1 - 1), wrap64 (a1 + 1), wrap64 (a1 + a0_0)] : List Int)) a0_0 a0_1 a0_2 l0_3)
def thermionref01_around.T8 : Bool × List (List Nat × List Nat) := (true, [([], []), ([], []), ([], []), ([], []), ([2, 3], [2, 3]), ([4], [4]), ([0, 1, 5], [0, 1, 5]), ([6], [6])])
def thermionref01_around.B8 : List Nat := [0, 0, 0, 0, 12, 28, 63, 127]
theorem thermionref01_around.tab8 : rtab .any (opsOf Try.f100 8) = thermionref01_around.T8 := by kernel_rfl
theorem thermionref01_around.bits8 : waitsOk thermionref01_around.T8.2 thermionref01_around.B8 = true := by kernel_rfl
theorem thermionref01_around.calls (k : Nat) (a0_0 : Int) (a0_1 : Int) (a0_2 : Bool) (A0_3 : Option Addr) (c0_3 : Nat) (l0_3 : List Int) (a1 : Int) (r : List Int) (w : World) (hr0_3 : Kd.C (Kd.int .i64) w A0_3 l0_3.length l0_3) (hc0_3 : l0_3.length ≤ c0_3) (h : thermionref01_around.f k a0_0 a0_1 a0_2 l0_3 a1 = some r) :
  Calls Try.prog 100 #[.agg #[.int .i64 a0_0, .int .i64 a0_1, .bool a0_2, .slice A0_3 l0_3.length c0_3], .int .i64 a1] w fun e w' => ∃ v0_ : Value, e = .returned (v0_) ∧ Kd.R (Kd.int .i64) 3 w' w.heap.size (fun _ => True) v0_ r ∧ Below w.heap.size w w' := by
 have hu24 := Try.underlying24
 have HR0_3 := Aside0.mk hr0_3
 have HC0_3 := Aside0.mk hc0_3
 clear hr0_3 hc0_3
 have HB := Aside0.mk (Below.refl w.heap.size w)
 have H : (if a0_0 = 1 then (thermionref01_around.j0 k a1 (([wrap64 (a1 - 1), wrap64 (a1 + 1)] : List Int)) a0_0 a0_1 a0_2 l0_3) else (thermionref01_around.j0 k a1 (([wrap64 (a1 - a0_0), wrap64 (a1 - 1), wrap64 (a1 + 1), wrap64 (a1 + a0_0)] : List Int)) a0_0 a0_1 a0_2 l0_3)) = some r := h
 clear h
 obtain ⟨y248, hy248⟩ : ∃ y_ : List Int, y_ = (([wrap64 (a1 - a0_0), wrap64 (a1 - 1), wrap64 (a1 + 1), wrap64 (a1 + a0_0)] : List Int)) := ⟨_, rfl⟩
 replace H : (if a0_0 = 1 then (thermionref01_around.j0 k a1 (([wrap64 (a1 - 1), wrap64 (a1 + 1)] : List Int)) a0_0 a0_1 a0_2 l0_3) else (thermionref01_around.j0 k a1 y248 a0_0 a0_1 a0_2 l0_3)) = some r := by first | (rw [hy248]; with_reducible exact H) | (have H2_ := (Option.bind_some _ _).symm.trans H; rw [hy248]; with_reducible exact H2_) | (have H2_ := (Option.bind_some _ _).symm.trans H; with_reducible exact H2_) | with_reducible exact H | (rw [hy248]; exact H) | exact H
 have Ny248 := Aside0.mk hy248
 clear hy248
 have HC3 := Aside0.mk H
 clear H
 go_enter Try.func100, Try.ntmps100
 go_upto_if 23 with (first | ((with_reducible refine gate_dst (N := 2) rfl ?_); refine box_event ?hg (N := 2) ?hd (cs := #[.int .i64 a0_0, .int .i64 a0_1, .bool a0_2, .slice A0_3 l0_3.length c0_3]) (t := 24) ?hr ?_; (case hd => rfl); (case hg => rfl); (case hr => first | (go_simp; done) | (go_simp; rfl)); intro gb247 hg w4 hbox hb; have n0_ := Aside0.mk (below_step (by repeat (first | (with_reducible first | exact HB.out | apply below_alloc | apply pw_below_drewN | apply below_drew1) | exact HB.out)) hb); have n1_ := Aside0.mk (hbox); have n2_ := Aside0.mk ((by rw [hg]; exact (below_size (by repeat (first | (with_reducible first | exact HB.out | apply below_alloc | apply pw_below_drewN | apply below_drew1) | exact HB.out))) : w.heap.size ≤ gb247)); have n3_ := Aside0.mk ((by rw [hg]; exact (below_size (by repeat (first | (with_reducible first | exact HB.out | apply below_alloc | apply pw_below_drewN | apply below_drew1) | exact HB.out))) : w.heap.size ≤ gb247)); clear HB; have HB := n0_; have BK247 := n1_; have GW247 := n2_; have GE247 := n3_; clear n0_ n1_ n2_ n3_; clear hb hbox hg; have hcz5_0 : w4.cell? ⟨gb247, 0, none⟩ = some (.int .i64 a0_0) := (blk_cell BK247.out 0).trans rfl; have hcz5_1 : w4.cell? ⟨gb247, 1, none⟩ = some (.int .i64 a0_1) := (blk_cell BK247.out 1).trans rfl; have hcz5_2 : w4.cell? ⟨gb247, 2, none⟩ = some (.bool a0_2) := (blk_cell BK247.out 2).trans rfl; have hcz5_3 : w4.cell? ⟨gb247, 3, none⟩ = some (.slice A0_3 l0_3.length c0_3) := (blk_cell BK247.out 3).trans rfl; have hfz5_0 := blk_frozen BK247.out 0; have hfz5_1 := blk_frozen BK247.out 1; have hfz5_2 := blk_frozen BK247.out 2; have hfz5_3 := blk_frozen BK247.out 3) | ((with_reducible refine gate_dst (N := 20) rfl ?_); refine Kd.R_lit (Kd.int .i64) _ 3 ?hg (N := 20) ?hd (xs := ([wrap64 (a1 - a0_0), wrap64 (a1 - 1), wrap64 (a1 + 1), wrap64 (a1 + a0_0)] : List Int)) (inner := [.int .i64 (wrap64 (a1 - a0_0)), .int .i64 (wrap64 (a1 - 1)), .int .i64 (wrap64 (a1 + 1)), .int .i64 (wrap64 (a1 + a0_0))]) (ok := fun _ => True) (okp := fun _ => True) ?hr ?hp (fun _ hk => hk) trivial (Below.refl _ _) (Nat.le_refl _) (by simp) ?_; (case hd => rfl); (case hg => rfl); (case hr => first | (go_simp; done) | (go_simp; rfl)); (case hp => exact (Reps.one (show Kd.M (Kd.int .i64) _ _ _ (wrap64 (a1 - a0_0)) [.int .i64 (wrap64 (a1 - a0_0))] from rfl) (Reps.one (show Kd.M (Kd.int .i64) _ _ _ (wrap64 (a1 - 1)) [.int .i64 (wrap64 (a1 - 1))] from rfl) (Reps.one (show Kd.M (Kd.int .i64) _ _ _ (wrap64 (a1 + 1)) [.int .i64 (wrap64 (a1 + 1))] from rfl) (Reps.one (show Kd.M (Kd.int .i64) _ _ _ (wrap64 (a1 + a0_0)) [.int .i64 (wrap64 (a1 + a0_0))] from rfl) (Reps.none _ _)))))); intro v249 w6 ho7 hb hg_ hnew_; clear hg_ hnew_; (first | rw [← Ny248.out] at ho7 | (simp only [Int.reduceToNat] at ho7; rw [← Ny248.out] at ho7)); have n0_ := Aside0.mk (Kd.R_lower ho7 (below_size (by repeat (first | (with_reducible first | exact HB.out | apply below_alloc | apply pw_below_drewN | apply below_drew1 | refine below_set ?_ GE247.out) | exact HB.out)))); have n1_ := Aside0.mk (blk_below (g := gb247) (o := .cells #[.int .i64 a0_0, .int .i64 a0_1, .bool a0_2, .slice A0_3 l0_3.length c0_3] 24 (0, 0)) (by (with_reducible repeat (first | refine blk_drewN ?_ _ | refine blk_drew ?_ | refine blk_alloc ?_ _)); exact BK247.out) hb); have n2_ := Aside0.mk (below_step (by repeat (first | (with_reducible first | exact HB.out | apply below_alloc | apply pw_below_drewN | apply below_drew1 | refine below_set ?_ GE247.out) | exact HB.out)) hb); clear BK247; clear HB; have HO250 := n0_; have BK247 := n1_; have HB := n2_; clear n0_ n1_ n2_; clear hb ho7; have hcz8_0 : w6.cell? ⟨gb247, 0, none⟩ = some (.int .i64 a0_0) := (blk_cell BK247.out 0).trans rfl; have hcz8_1 : w6.cell? ⟨gb247, 1, none⟩ = some (.int .i64 a0_1) := (blk_cell BK247.out 1).trans rfl; have hcz8_2 : w6.cell? ⟨gb247, 2, none⟩ = some (.bool a0_2) := (blk_cell BK247.out 2).trans rfl; have hcz8_3 : w6.cell? ⟨gb247, 3, none⟩ = some (.slice A0_3 l0_3.length c0_3) := (blk_cell BK247.out 3).trans rfl; have hfz8_0 := blk_frozen BK247.out 0; have hfz8_1 := blk_frozen BK247.out 1; have hfz8_2 := blk_frozen BK247.out 2; have hfz8_3 := blk_frozen BK247.out 3))
 (try simp only [Act.put, List.setIfInBounds_toArray, List.set_cons_zero, List.set_cons_succ])
 go_cut [5] (fun v5 wc => ∃ (kq : Nat) (x5_2 : List Int), Aside0 (thermionref01_around.j0 kq a1 x5_2 a0_0 a0_1 a0_2 l0_3 = some r) ∧ Aside0 (kq ≤ k) ∧ Aside0 (Kd.R (Kd.int .i64) 3 wc w.heap.size (fun _ => True) v5 x5_2) ∧ Aside0 (wc.heap[gb247]? = some (.cells #[.int .i64 a0_0, .int .i64 a0_1, .bool a0_2, (.slice A0_3 l0_3.length c0_3)] 24 (0, 0))) ∧ Aside0 (Below w.heap.size w wc))
 case first =>
  have H := HC3.out
  clear HC3
  by_cases c9 : a0_0 = 1
  ·rw [if_pos c9] at H
   have c9b0 : (a0_0 == 1) = true := beq_iff_eq.mpr c9
   have c9b1 : (a0_0 != 1) = false := bne_eq_false_iff_eq.mpr c9
   clear c9
   (first | rw [c9b0] | (simp only [i64_w, i32_w]; rw [c9b0]) | skip)
   obtain ⟨y251, hy251⟩ : ∃ y_ : List Int, y_ = (([wrap64 (a1 - 1), wrap64 (a1 + 1)] : List Int)) := ⟨_, rfl⟩
   replace H : (thermionref01_around.j0 k a1 y251 a0_0 a0_1 a0_2 l0_3) = some r := by first | (rw [hy251]; with_reducible exact H) | (have H2_ := (Option.bind_some _ _).symm.trans H; rw [hy251]; with_reducible exact H2_) | (have H2_ := (Option.bind_some _ _).symm.trans H; with_reducible exact H2_) | with_reducible exact H | (rw [hy251]; exact H) | exact H
   have Ny251 := Aside0.mk hy251
   clear hy251
   have H' := Aside0.mk H
   clear H
   go_wp2_with (first | ((with_reducible refine gate_dst (N := 28) rfl ?_); refine Kd.R_lit (Kd.int .i64) _ 3 ?hg (N := 28) ?hd (xs := ([wrap64 (a1 - 1), wrap64 (a1 + 1)] : List Int)) (inner := [.int .i64 (wrap64 (a1 - 1)), .int .i64 (wrap64 (a1 + 1))]) (ok := fun _ => True) (okp := fun _ => True) ?hr ?hp (fun _ hk => hk) trivial (Below.refl _ _) (Nat.le_refl _) (by simp) ?_; (case hd => rfl); (case hg => rfl); (case hr => first | (go_simp; done) | (go_simp; rfl)); (case hp => exact (Reps.one (show Kd.M (Kd.int .i64) _ _ _ (wrap64 (a1 - 1)) [.int .i64 (wrap64 (a1 - 1))] from rfl) (Reps.one (show Kd.M (Kd.int .i64) _ _ _ (wrap64 (a1 + 1)) [.int .i64 (wrap64 (a1 + 1))] from rfl) (Reps.none _ _)))); intro v252 w10 ho11 hb hg_ hnew_; clear hg_ hnew_; (first | rw [← Ny251.out] at ho11 | (simp only [Int.reduceToNat] at ho11; rw [← Ny251.out] at ho11)); have n0_ := Aside0.mk (Kd.R_elder' (by (with_reducible repeat (first | apply Kd.R_alloc | apply Kd.R_drewN | apply Kd.R_drew)); exact HO250.out) (Kd.R_base ho11) hb); have n1_ := Aside0.mk (Kd.R_lower (Kd.R_new' ho11 (Kd.R_lt (by (with_reducible repeat (first | apply Kd.R_alloc | apply Kd.R_drewN | apply Kd.R_drew)); exact HO250.out))) (below_size (by repeat (first | (with_reducible first | exact HB.out | apply below_alloc | apply pw_below_drewN | apply below_drew1 | refine below_set ?_ GE247.out) | exact HB.out)))); have n2_ := Aside0.mk (blk_below (g := gb247) (o := .cells #[.int .i64 a0_0, .int .i64 a0_1, .bool a0_2, .slice A0_3 l0_3.length c0_3] 24 (0, 0)) (by (with_reducible repeat (first | refine blk_drewN ?_ _ | refine blk_drew ?_ | refine blk_alloc ?_ _)); exact BK247.out) hb); have n3_ := Aside0.mk (below_step (by repeat (first | (with_reducible first | exact HB.out | apply below_alloc | apply pw_below_drewN | apply below_drew1 | refine below_set ?_ GE247.out) | exact HB.out)) hb); clear HO250; clear BK247; clear HB; have HO250 := n0_; have HO253 := n1_; have BK247 := n2_; have HB := n3_; clear n0_ n1_ n2_ n3_; clear hb ho11))
   go_meet
   case rel => exact ⟨_, (y251), H', ⟨by first | omega | exact Nat.le_refl _⟩, ⟨by (with_reducible repeat (first | apply Kd.R_alloc | apply Kd.R_drewN | apply Kd.R_drew)); exact Kd.R_mono HO253.out (fun _ hk => trivial)⟩, ⟨by (with_reducible repeat (first | refine blk_drewN ?_ _ | refine blk_drew ?_ | refine blk_alloc ?_ _)); exact BK247.out⟩, ⟨by repeat (first | (with_reducible first | exact HB.out | apply below_alloc | apply pw_below_drewN | apply below_drew1 | refine below_set ?_ GE247.out) | exact HB.out)⟩⟩
  ·rw [if_neg c9] at H
   have c9b0 : (a0_0 == 1) = false := beq_eq_false_iff_ne.mpr c9
   have c9b1 : (a0_0 != 1) = true := bne_iff_ne.mpr c9
   (first | rw [c9b0] | (simp only [i64_w, i32_w]; rw [c9b0]) | skip)
   have H' := Aside0.mk H
   clear H
   go_wp2
   go_meet
   case rel => exact ⟨_, (y248), H', ⟨by first | omega | exact Nat.le_refl _⟩, ⟨by (with_reducible repeat (first | apply Kd.R_alloc | apply Kd.R_drewN | apply Kd.R_drew)); exact HO250.out⟩, ⟨by (with_reducible repeat (first | refine blk_drewN ?_ _ | refine blk_drew ?_ | refine blk_alloc ?_ _)); exact BK247.out⟩, ⟨by repeat (first | (with_reducible first | exact HB.out | apply below_alloc | apply pw_below_drewN | apply below_drew1 | refine below_set ?_ GE247.out) | exact HB.out)⟩⟩
 case rest =>
  clear HC3
  try clear c9
  try clear c9b0
  try clear c9b1
  try clear hcz5_0
  try clear hcz5_1
  try clear hcz5_2
  try clear hcz5_3
  try clear hcz8_0
  try clear hcz8_1
  try clear hcz8_2
  try clear hcz8_3
  try clear hfz5_0
  try clear hfz5_1
  try clear hfz5_2
  try clear hfz5_3
  try clear hfz8_0
  try clear hfz8_1
  try clear hfz8_2
  try clear hfz8_3
  obtain ⟨kq, x5_2, HA, HJ2, HO_5, BK247, HB⟩ := hcut
  cases kq with
  | zero => exact absurd HA.out (by simp [thermionref01_around.j0])
  | succ kj2 =>
   have H := HA.out
   clear HA
   simp only [thermionref01_around.j0] at H
   have H' := Aside0.mk H
   clear H
   go_wp2
   go_loopg [6, 7] kj2 (fun kq v6 v7 w' => ∃ (x6_2 : List Int) (x7_2 : Int), v7 = .int .i64 x7_2 ∧ Aside0 (thermionref01_around.l0 kq a1 x5_2 x6_2 x7_2 a0_0 a0_1 a0_2 l0_3 = some r) ∧ Aside0 (kq ≤ kj2) ∧ Aside0 (Kd.R (Kd.int .i64) 3 w' w.heap.size (fun k_ => some k_ ≠ (v6 : Value).ownBlock) u5 x5_2) ∧ Aside0 (Kd.R (Kd.int .i64) 3 w' w.heap.size (fun k_ => some k_ ≠ (u5 : Value).ownBlock) v6 x6_2) ∧ Aside0 (w'.heap[gb247]? = some (.cells #[.int .i64 a0_0, .int .i64 a0_1, .bool a0_2, (.slice A0_3 l0_3.length c0_3)] 24 (0, 0))) ∧ Aside0 (Below w.heap.size w w'))
   case atStart => exact ⟨(([] : List Int)), (0), (by first | rfl | (simp; done) | (simp [*]; done)), H', ⟨Nat.le_refl _⟩, ⟨by (with_reducible repeat (first | apply Kd.R_alloc | apply Kd.R_drewN | apply Kd.R_drew)); exact Kd.R_mono HO_5.out (fun _ hk => (by simp [Value.ownBlock]))⟩, ⟨by first | exact Kd.R_nil _ _ _ _ _ | exact Kd.N_nil _ _ _ _ _ | exact Kd.V_nil _ _ _ _ _ | exact Kd.Q_nil _ _ _ _ _ | exact Kd.S_nil _ _ _ _ _⟩, ⟨by (with_reducible repeat (first | refine blk_drewN ?_ _ | refine blk_drew ?_ | refine blk_alloc ?_ _)); exact BK247.out⟩, ⟨by repeat (first | (with_reducible first | exact HB.out | apply below_alloc | apply pw_below_drewN | apply below_drew1 | refine below_set ?_ GE247.out) | exact HB.out)⟩⟩
   case round =>
    clear H'
    try clear c9
    try clear c9b0
    try clear c9b1
    try clear hcz5_0
    try clear hcz5_1
    try clear hcz5_2
    try clear hcz5_3
    try clear hcz8_0
    try clear hcz8_1
    try clear hcz8_2
    try clear hcz8_3
    try clear hfz5_0
    try clear hfz5_1
    try clear hfz5_2
    try clear hfz5_3
    try clear hfz8_0
    try clear hfz8_1
    try clear hfz8_2
    try clear hfz8_3
    obtain ⟨x6_2, x7_2, rfl, HA, HK2, HO_5, HO_6, BK247, HB⟩ := hrel
    cases gk with
    | zero => exact absurd HA.out (by simp [thermionref01_around.l0])
    | succ k2 =>
     have H := HA.out
     clear HA
     simp only [thermionref01_around.l0] at H
     by_cases c12 : x7_2 < (x5_2.length : Int)
     ·rw [if_pos c12] at H
      have c12b0 := decide_eq_true c12
      clear c12
      by_cases c13 : 0 ≤ x7_2
      ·rw [if_pos c13] at H
       have c13b0 := decide_eq_true c13
       clear c13
       replace H := Option.bind_eq_some_iff.mp H
       obtain ⟨t255, A140, H⟩ := H
       replace H : (if t255 > 0 then (if x6_2.length < 17592186044416 then (thermionref01_around.l0 k2 a1 x5_2 (x6_2 ++ [rd x5_2 x7_2]) (wrap64 (x7_2 + 1)) a0_0 a0_1 a0_2 l0_3) else (none)) else (thermionref01_around.l0 k2 a1 x5_2 x6_2 (wrap64 (x7_2 + 1)) a0_0 a0_1 a0_2 l0_3)) = some r := H
       have A14 := Aside0.mk A140
       clear A140
       by_cases c15 : t255 > 0
       ·rw [if_pos c15] at H
        have c15b0 := decide_eq_true c15
        clear c15
        by_cases c16 : x6_2.length < 17592186044416
        ·rw [if_pos c16] at H
         have LMc16 := Aside0.mk c16
         clear c16
         obtain ⟨y257, hy257⟩ : ∃ y_ : List Int, y_ = (x6_2 ++ [rd x5_2 x7_2]) := ⟨_, rfl⟩
         replace H : (thermionref01_around.l0 k2 a1 x5_2 y257 (wrap64 (x7_2 + 1)) a0_0 a0_1 a0_2 l0_3) = some r := by first | (rw [hy257]; with_reducible exact H) | (have H2_ := (Option.bind_some _ _).symm.trans H; rw [hy257]; with_reducible exact H2_) | (have H2_ := (Option.bind_some _ _).symm.trans H; with_reducible exact H2_) | with_reducible exact H | (rw [hy257]; exact H) | exact H
         have Ny257 := Aside0.mk hy257
         clear hy257
         have H' := Aside0.mk H
         clear H
         obtain ⟨Ao17, co17, eo17⟩ := Kd.R_slice HO_5.out
         subst eo17
         try go_wp2
         have n0_ := Aside0.mk (Kd.R_drew HO_5.out)
         have n1_ := Aside0.mk (Kd.R_drew HO_6.out)
         have n2_ := Aside0.mk (blk_drew BK247.out)
         have n3_ := Aside0.mk (below_drew1 HB.out)
         clear HO_5 HO_6 BK247 HB
         have HO_5 := n0_
         have HO_6 := n1_
         have BK247 := n2_
         have HB := n3_
         clear n0_ n1_ n2_ n3_
         have p254 : 0 ≤ (x7_2 : Int) := of_decide_eq_true (by first | (with_reducible assumption) | assumption)
         have q254 : x7_2 < (x5_2.length : Int) := of_decide_eq_true (by first | (with_reducible assumption) | assumption)
         obtain ⟨ad254, e254, hx254_0⟩ := Kd.at_int (Kd.R_reads' HO_5.out).2.2 x7_2 p254 q254
         cases e254
         replace p254 := eq_true p254
         replace q254 := eq_true q254
         refine start_ (n := 8) (S := fun w' => w'.cell? ⟨gb247, 0, none⟩ = some (.int .i64 a0_0) ∧ w'.cell? ⟨gb247, 1, none⟩ = some (.int .i64 a0_1) ∧ w'.cell? ⟨gb247, 2, none⟩ = some (.bool a0_2) ∧ w'.cell? ⟨gb247, 3, none⟩ = some (.slice A0_3 l0_3.length c0_3) ∧ w'.cell? (ad254.add (x7_2).toNat) = some (.int .i64 (rd x5_2 x7_2))) (ds := []) #[false, false, false, false, false, false, false, false] (by kernel_rfl) rfl rfl ⟨(blk_cell BK247.out 0).trans rfl, (blk_cell BK247.out 1).trans rfl, (blk_cell BK247.out 2).trans rfl, (blk_cell BK247.out 3).trans rfl, hx254_0⟩ (fun hHeld => ?_); refine with_tabW thermionref01_around.tab8 thermionref01_around.bits8 (fun HT_ HW_ => ?_)
         generalize wr.drew = w18 at HO_5 HO_6 BK247 HB hx254_0 hHeld ⊢
         refine pure_ (i := 1) (N := some 36) (v := ?_) (a' := ?_) (bS 8 2) rfl rfl (any_of HT_.out (by kernel_rfl)) (fun _ _ _ h => h) (Or.inl ⟨by rfl, ?_⟩) ?_ ?_; rotate_left; (· intro w'; go_simp; with_reducible rfl); rotate_left; (· simp only [Act.put, sT, sZ, sS, i64_w, i32_w]; rfl)
         refine pure_ (i := 2) (N := some 37) (v := ?_) (a' := ?_) (bS 8 6) rfl rfl (any_of HT_.out (by kernel_rfl)) (fun _ _ _ h => h) (Or.inl ⟨by rfl, ?_⟩) ?_ ?_; rotate_left; (· intro w'; go_simp; with_reducible rfl); rotate_left; (· simp only [Act.put, sT, sZ, sS, i64_w, i32_w]; rfl)
         refine pure_ (i := 3) (N := some 38) (v := ?_) (a' := ?_) (bS 8 14) rfl rfl (any_of HT_.out (by kernel_rfl)) (fun _ _ _ h => h) (Or.inl ⟨by rfl, ?_⟩) ?_ ?_; rotate_left; (· intro w'; go_simp; with_reducible rfl); rotate_left; (· simp only [Act.put, sT, sZ, sS, i64_w, i32_w]; rfl)
         refine pure_ (i := 4) (N := some 39) (v := ?_) (a' := ?_) (bS 8 30) rfl rfl (any_of HT_.out (by kernel_rfl)) (fun _ _ _ h => h) (Or.inl ⟨by rfl, ?_⟩) ?_ ?_; rotate_left; (· intro w'; go_simp; with_reducible rfl); rotate_left; (· simp only [Act.put, sT, sZ, sS, i64_w, i32_w]; rfl)
         refine take_ (i := 0) (N := some 35) (v := ?_) (a' := ?_) (bS 8 31) rfl rfl (take_ofW HT_.out HW_.out (by kernel_rfl)) (fun _ _ _ h => h) (Or.inl ⟨by rfl, ?_⟩) hHeld ?_ ?_; rotate_left; (· rintro w' ⟨s0, s1, s2, s3, s4⟩; go_simp; with_reducible rfl); rotate_left; (· simp only [Act.put, sT, sZ, sS, i64_w, i32_w]; rfl)
         refine take_ (i := 5) (N := some 40) (v := ?_) (a' := ?_) (bS 8 63) rfl rfl (take_ofW HT_.out HW_.out (by kernel_rfl)) (fun _ _ _ h => h) (Or.inl ⟨by rfl, ?_⟩) hHeld ?_ ?_; rotate_left; (· rintro w' ⟨s0, s1, s2, s3, s4⟩; go_simp; with_reducible rfl); rotate_left; (· simp only [Act.put, sT, sZ, sS, i64_w, i32_w]; rfl)
         refine on_ 6 41 (bS 8 127) (fun K hK => ?_) (one_of HT_.out (by kernel_rfl))
         refine goes_ Try.func81 (by kernel_rfl) rfl #[.agg #[.int .i64 a0_0, .int .i64 a0_1, .bool a0_2, .slice A0_3 l0_3.length c0_3], .int .i64 a1, .int .i64 (rd x5_2 x7_2)] (by rfl) rfl rfl (by (try simp only [List.map_toArray, List.map_cons, List.map_nil]); first | done | rfl | (simp only [List.length_drop, List.length_take]; rfl)) ?_
         with_reducible refine (thermionref01_weight.calls k2 a0_0 a0_1 a0_2 _ _ l0_3 a1 (rd x5_2 x7_2) t255 _ ?side1 ?side2 A14.out).mono ?_
         (case side1 => repeat (first | exact (Kd.C_below HR0_3.out HB.out) | (with_reducible refine Kd.C_alloc ?_ _) | (with_reducible refine Kd.C_drewN ?_ _) | (with_reducible refine Kd.C_drew ?_)))
         (case side2 => exact HC0_3.out)
         rintro e w19 ⟨rfl, hb⟩
         have HS4_ := (hb.cell (World.block_lt_of_cell? _ _ (hHeld.2.2.2.2))).trans (hHeld.2.2.2.2)
         refine ⟨_, rfl, ?_⟩
         have n0_ := Aside0.mk (Kd.R_below (by (with_reducible repeat (first | apply Kd.R_alloc | apply Kd.R_drewN | apply Kd.R_drew)); exact HO_5.out) hb)
         have n1_ := Aside0.mk (Kd.R_below (by (with_reducible repeat (first | apply Kd.R_alloc | apply Kd.R_drewN | apply Kd.R_drew)); exact HO_6.out) hb)
         have n2_ := Aside0.mk (blk_below (g := gb247) (o := .cells #[.int .i64 a0_0, .int .i64 a0_1, .bool a0_2, .slice A0_3 l0_3.length c0_3] 24 (0, 0)) (by (with_reducible repeat (first | refine blk_drewN ?_ _ | refine blk_drew ?_ | refine blk_alloc ?_ _)); exact BK247.out) hb)
         have n3_ := Aside0.mk (below_step (by repeat (first | (with_reducible first | exact HB.out | apply below_alloc | apply pw_below_drewN | apply below_drew1 | refine below_set ?_ GE247.out) | exact HB.out)) hb)
         clear HO_5 HO_6 BK247 HB
         have HO_5 := n0_
         have HO_6 := n1_
         have BK247 := n2_
         have HB := n3_
         clear n0_ n1_ n2_ n3_
         (try clear hb)
         (try clear hb2)
         (try clear hk)
         (try clear hi)
         refine hK.out _ _ ⟨(blk_cell BK247.out 0).trans rfl, (blk_cell BK247.out 1).trans rfl, (blk_cell BK247.out 2).trans rfl, (blk_cell BK247.out 3).trans rfl, HS4_⟩ (fun hHeld => ?_)
         clear hK K
         refine nm_ ?_
         refine pure_ (i := 7) (N := some 42) (v := ?_) (a' := ?_) (bS 8 255) rfl rfl (any_of HT_.out (by kernel_rfl)) (fun _ _ _ h => h) (Or.inl ⟨by rfl, ?_⟩) ?_ ?_; rotate_left; (· intro w'; go_simp; with_reducible rfl); rotate_left; (· simp only [Act.put, sT, sZ, sS, i64_w, i32_w]; rfl)
         refine done_ (done_of HT_.out (by kernel_rfl)) ?_
         have p256 : 0 ≤ (x7_2 : Int) := of_decide_eq_true (by first | (with_reducible assumption) | assumption)
         have q256 : x7_2 < (x5_2.length : Int) := of_decide_eq_true (by first | (with_reducible assumption) | assumption)
         obtain ⟨ad256, e256, hx256_0⟩ := Kd.at_int (Kd.R_reads' HO_5.out).2.2 x7_2 p256 q256
         obtain rfl : ad254 = ad256 := (by injection e256)
         replace p256 := eq_true p256
         replace q256 := eq_true q256
         try go_wp2_with (first | ((with_reducible refine gate_builtin (b := .append) (xs := #[.tmp 43, .tmp 48]) rfl ?_); at_builtin; refine Kd.R_append (Kd.int .i64) (w0 := w) w.heap.size rfl (.tmp 43) (.tmp 48) 22 3 (.int .i64 0) 8 rfl Try.underlying22 info3 rfl (by decide) (by omega) u6 x6_2 (rd x5_2 x7_2) [.int .i64 (rd x5_2 x7_2)] (fun k_ => some k_ ≠ (.slice (some ad254) x5_2.length co17 : Value).ownBlock) (fun _ => False) rfl rfl ?aP (fun _ hk => hk.elim) ?aF ?aO ?aB ?aS ?aL ?_; (case aP => exact rfl); (case aB => exact (by repeat (first | (with_reducible first | exact HB.out | apply below_alloc | apply pw_below_drewN | apply below_drew1 | refine below_set ?_ GE247.out) | exact HB.out))); (case aF => exact (fun k_ hk => Kd.fresh' (Kd.R_lt (by (with_reducible repeat (first | apply Kd.R_alloc | apply Kd.R_drewN | apply Kd.R_drew)); exact HO_5.out)) k_ hk)); (case aO => exact (by (with_reducible repeat (first | apply Kd.R_alloc | apply Kd.R_drewN | apply Kd.R_drew)); exact HO_6.out)); (case aS => exact (below_size (by repeat (first | (with_reducible first | exact HB.out | apply below_alloc | apply pw_below_drewN | apply below_drew1 | refine below_set ?_ GE247.out) | exact HB.out)))); (case aL => have := LMc16.out; omega); intro v258 w20 ho hb hg hat; rw [← Ny257.out] at ho; have n0_ := Aside0.mk (Kd.R_after (ok := (fun _ => True)) (by (with_reducible repeat (first | apply Kd.R_alloc | apply Kd.R_drewN | apply Kd.R_drew)); exact Kd.R_mono HO_5.out (fun _ hk => ⟨trivial, hk⟩)) hg hat); have n1_ := Aside0.mk (blk_grown (g := gb247) (o := .cells #[.int .i64 a0_0, .int .i64 a0_1, .bool a0_2, .slice A0_3 l0_3.length c0_3] 24 (0, 0)) (by (with_reducible repeat (first | refine blk_drewN ?_ _ | refine blk_drew ?_ | refine blk_alloc ?_ _)); exact BK247.out) hg (Kd.R_ne HO_6.out BK247.out (by decide))); have n2_ := Aside0.mk (hb); have n3_ := Aside0.mk (ho); clear HO_5; clear BK247; clear HB; clear HO_6; have HO_5 := n0_; have BK247 := n1_; have HB := n2_; have HO259 := n3_; clear n0_ n1_ n2_ n3_; clear ho hb hg hat))
         go_roundg k2
         case measure => have := HJ2.out; have := HK2.out; omega
         case rel => exact ⟨(y257), (wrap64 (x7_2 + 1)), (by first | rfl | (simp; done) | (simp [*]; done)), H', ⟨by have := HJ2.out; have := HK2.out; omega⟩, ⟨by (with_reducible repeat (first | apply Kd.R_alloc | apply Kd.R_drewN | apply Kd.R_drew)); exact Kd.R_mono HO_5.out (fun _ hk => hk.2)⟩, ⟨by (with_reducible repeat (first | apply Kd.R_alloc | apply Kd.R_drewN | apply Kd.R_drew)); exact HO259.out⟩, ⟨by (with_reducible repeat (first | refine blk_drewN ?_ _ | refine blk_drew ?_ | refine blk_alloc ?_ _)); exact BK247.out⟩, ⟨by repeat (first | (with_reducible first | exact HB.out | apply below_alloc | apply pw_below_drewN | apply below_drew1 | refine below_set ?_ GE247.out) | exact HB.out)⟩⟩
        ·rw [if_neg c16] at H
         exact absurd H (by simp)
       ·rw [if_neg c15] at H
        have c15b0 := decide_eq_false c15
        clear c15
        have H' := Aside0.mk H
        clear H
        obtain ⟨Ao21, co21, eo21⟩ := Kd.R_slice HO_5.out
        subst eo21
        try go_wp2
        have n0_ := Aside0.mk (Kd.R_drew HO_5.out)
        have n1_ := Aside0.mk (Kd.R_drew HO_6.out)
        have n2_ := Aside0.mk (blk_drew BK247.out)
        have n3_ := Aside0.mk (below_drew1 HB.out)
        clear HO_5 HO_6 BK247 HB
        have HO_5 := n0_
        have HO_6 := n1_
        have BK247 := n2_
        have HB := n3_
        clear n0_ n1_ n2_ n3_
        have p254 : 0 ≤ (x7_2 : Int) := of_decide_eq_true (by first | (with_reducible assumption) | assumption)
        have q254 : x7_2 < (x5_2.length : Int) := of_decide_eq_true (by first | (with_reducible assumption) | assumption)
        obtain ⟨ad254, e254, hx254_0⟩ := Kd.at_int (Kd.R_reads' HO_5.out).2.2 x7_2 p254 q254
        cases e254
        replace p254 := eq_true p254
        replace q254 := eq_true q254
        refine start_ (n := 8) (S := fun w' => w'.cell? ⟨gb247, 0, none⟩ = some (.int .i64 a0_0) ∧ w'.cell? ⟨gb247, 1, none⟩ = some (.int .i64 a0_1) ∧ w'.cell? ⟨gb247, 2, none⟩ = some (.bool a0_2) ∧ w'.cell? ⟨gb247, 3, none⟩ = some (.slice A0_3 l0_3.length c0_3) ∧ w'.cell? (ad254.add (x7_2).toNat) = some (.int .i64 (rd x5_2 x7_2))) (ds := []) #[false, false, false, false, false, false, false, false] (by kernel_rfl) rfl rfl ⟨(blk_cell BK247.out 0).trans rfl, (blk_cell BK247.out 1).trans rfl, (blk_cell BK247.out 2).trans rfl, (blk_cell BK247.out 3).trans rfl, hx254_0⟩ (fun hHeld => ?_); refine with_tabW thermionref01_around.tab8 thermionref01_around.bits8 (fun HT_ HW_ => ?_)
        generalize wr.drew = w22 at HO_5 HO_6 BK247 HB hx254_0 hHeld ⊢
        refine pure_ (i := 1) (N := some 36) (v := ?_) (a' := ?_) (bS 8 2) rfl rfl (any_of HT_.out (by kernel_rfl)) (fun _ _ _ h => h) (Or.inl ⟨by rfl, ?_⟩) ?_ ?_; rotate_left; (· intro w'; go_simp; with_reducible rfl); rotate_left; (· simp only [Act.put, sT, sZ, sS, i64_w, i32_w]; rfl)
        refine pure_ (i := 2) (N := some 37) (v := ?_) (a' := ?_) (bS 8 6) rfl rfl (any_of HT_.out (by kernel_rfl)) (fun _ _ _ h => h) (Or.inl ⟨by rfl, ?_⟩) ?_ ?_; rotate_left; (· intro w'; go_simp; with_reducible rfl); rotate_left; (· simp only [Act.put, sT, sZ, sS, i64_w, i32_w]; rfl)
        refine pure_ (i := 3) (N := some 38) (v := ?_) (a' := ?_) (bS 8 14) rfl rfl (any_of HT_.out (by kernel_rfl)) (fun _ _ _ h => h) (Or.inl ⟨by rfl, ?_⟩) ?_ ?_; rotate_left; (· intro w'; go_simp; with_reducible rfl); rotate_left; (· simp only [Act.put, sT, sZ, sS, i64_w, i32_w]; rfl)
        refine pure_ (i := 4) (N := some 39) (v := ?_) (a' := ?_) (bS 8 30) rfl rfl (any_of HT_.out (by kernel_rfl)) (fun _ _ _ h => h) (Or.inl ⟨by rfl, ?_⟩) ?_ ?_; rotate_left; (· intro w'; go_simp; with_reducible rfl); rotate_left; (· simp only [Act.put, sT, sZ, sS, i64_w, i32_w]; rfl)
        refine take_ (i := 0) (N := some 35) (v := ?_) (a' := ?_) (bS 8 31) rfl rfl (take_ofW HT_.out HW_.out (by kernel_rfl)) (fun _ _ _ h => h) (Or.inl ⟨by rfl, ?_⟩) hHeld ?_ ?_; rotate_left; (· rintro w' ⟨s0, s1, s2, s3, s4⟩; go_simp; with_reducible rfl); rotate_left; (· simp only [Act.put, sT, sZ, sS, i64_w, i32_w]; rfl)
        refine take_ (i := 5) (N := some 40) (v := ?_) (a' := ?_) (bS 8 63) rfl rfl (take_ofW HT_.out HW_.out (by kernel_rfl)) (fun _ _ _ h => h) (Or.inl ⟨by rfl, ?_⟩) hHeld ?_ ?_; rotate_left; (· rintro w' ⟨s0, s1, s2, s3, s4⟩; go_simp; with_reducible rfl); rotate_left; (· simp only [Act.put, sT, sZ, sS, i64_w, i32_w]; rfl)
        refine on_ 6 41 (bS 8 127) (fun K hK => ?_) (one_of HT_.out (by kernel_rfl))
        refine goes_ Try.func81 (by kernel_rfl) rfl #[.agg #[.int .i64 a0_0, .int .i64 a0_1, .bool a0_2, .slice A0_3 l0_3.length c0_3], .int .i64 a1, .int .i64 (rd x5_2 x7_2)] (by rfl) rfl rfl (by (try simp only [List.map_toArray, List.map_cons, List.map_nil]); first | done | rfl | (simp only [List.length_drop, List.length_take]; rfl)) ?_
        with_reducible refine (thermionref01_weight.calls k2 a0_0 a0_1 a0_2 _ _ l0_3 a1 (rd x5_2 x7_2) t255 _ ?side1 ?side2 A14.out).mono ?_
        (case side1 => repeat (first | exact (Kd.C_below HR0_3.out HB.out) | (with_reducible refine Kd.C_alloc ?_ _) | (with_reducible refine Kd.C_drewN ?_ _) | (with_reducible refine Kd.C_drew ?_)))
        (case side2 => exact HC0_3.out)
        rintro e w23 ⟨rfl, hb⟩
        have HS4_ := (hb.cell (World.block_lt_of_cell? _ _ (hHeld.2.2.2.2))).trans (hHeld.2.2.2.2)
        refine ⟨_, rfl, ?_⟩
        have n0_ := Aside0.mk (Kd.R_below (by (with_reducible repeat (first | apply Kd.R_alloc | apply Kd.R_drewN | apply Kd.R_drew)); exact HO_5.out) hb)
        have n1_ := Aside0.mk (Kd.R_below (by (with_reducible repeat (first | apply Kd.R_alloc | apply Kd.R_drewN | apply Kd.R_drew)); exact HO_6.out) hb)
        have n2_ := Aside0.mk (blk_below (g := gb247) (o := .cells #[.int .i64 a0_0, .int .i64 a0_1, .bool a0_2, .slice A0_3 l0_3.length c0_3] 24 (0, 0)) (by (with_reducible repeat (first | refine blk_drewN ?_ _ | refine blk_drew ?_ | refine blk_alloc ?_ _)); exact BK247.out) hb)
        have n3_ := Aside0.mk (below_step (by repeat (first | (with_reducible first | exact HB.out | apply below_alloc | apply pw_below_drewN | apply below_drew1 | refine below_set ?_ GE247.out) | exact HB.out)) hb)
        clear HO_5 HO_6 BK247 HB
        have HO_5 := n0_
        have HO_6 := n1_
        have BK247 := n2_
        have HB := n3_
        clear n0_ n1_ n2_ n3_
        (try clear hb)
        (try clear hb2)
        (try clear hk)
        (try clear hi)
        refine hK.out _ _ ⟨(blk_cell BK247.out 0).trans rfl, (blk_cell BK247.out 1).trans rfl, (blk_cell BK247.out 2).trans rfl, (blk_cell BK247.out 3).trans rfl, HS4_⟩ (fun hHeld => ?_)
        clear hK K
        refine nm_ ?_
        refine pure_ (i := 7) (N := some 42) (v := ?_) (a' := ?_) (bS 8 255) rfl rfl (any_of HT_.out (by kernel_rfl)) (fun _ _ _ h => h) (Or.inl ⟨by rfl, ?_⟩) ?_ ?_; rotate_left; (· intro w'; go_simp; with_reducible rfl); rotate_left; (· simp only [Act.put, sT, sZ, sS, i64_w, i32_w]; rfl)
        refine done_ (done_of HT_.out (by kernel_rfl)) ?_
        try go_wp2
        go_roundg k2
        case measure => have := HJ2.out; have := HK2.out; omega
        case rel => exact ⟨(x6_2), (wrap64 (x7_2 + 1)), (by first | rfl | (simp; done) | (simp [*]; done)), H', ⟨by have := HJ2.out; have := HK2.out; omega⟩, ⟨by (with_reducible repeat (first | apply Kd.R_alloc | apply Kd.R_drewN | apply Kd.R_drew)); exact HO_5.out⟩, ⟨by (with_reducible repeat (first | apply Kd.R_alloc | apply Kd.R_drewN | apply Kd.R_drew)); exact HO_6.out⟩, ⟨by (with_reducible repeat (first | refine blk_drewN ?_ _ | refine blk_drew ?_ | refine blk_alloc ?_ _)); exact BK247.out⟩, ⟨by repeat (first | (with_reducible first | exact HB.out | apply below_alloc | apply pw_below_drewN | apply below_drew1 | refine below_set ?_ GE247.out) | exact HB.out)⟩⟩
      ·rw [if_neg c13] at H
       exact absurd H (by simp)
     ·rw [if_neg c12] at H
      have c12b0 := decide_eq_false c12
      clear c12
      obtain rfl := Option.some.inj H
      obtain ⟨Ao24, co24, eo24⟩ := Kd.R_slice HO_5.out
      subst eo24
      go_wp2
      go_ret
      exact ⟨_, by first | rfl | (simp [errW_none, errW_some] <;> rfl) | (simp [*, errW_none, errW_some] <;> rfl), by (with_reducible repeat (first | apply Kd.R_alloc | apply Kd.R_drewN | apply Kd.R_drew)); exact Kd.R_mono HO_6.out (fun _ hk => trivial), by repeat (first | (with_reducible first | exact HB.out | apply below_alloc | apply pw_below_drewN | apply below_drew1 | refine below_set ?_ GE247.out) | exact HB.out)⟩
mutual
def thermionref01_held.l0 : Nat → List Bool → Int → Int → Int → Bool → List Int → Option (List Bool)
 | 0, _, _, _, _, _, _ => none
 | k + 1, x3, x4, x261000, x261001, x261002, x261003 => if x4 < (x261003.length : Int) then (if 0 ≤ x4 then (if x4 < (x3.length : Int) then (thermionref01_held.l0 k (x3.set (x4 : Int).toNat (decide ((rd x261003 x4) > 0))) (wrap64 (x4 + 1)) x261000 x261001 x261002 x261003) else (none)) else (none)) else (thermionref01_held.l1 k x3 true x261000 x261001 x261002 x261003)
def thermionref01_held.l1 : Nat → List Bool → Bool → Int → Int → Bool → List Int → Option (List Bool)
 | 0, _, _, _, _, _, _ => none
 | k + 1, x3, x5, x261000, x261001, x261002, x261003 => if x5 = true then (thermionref01_held.l2 k x3 false 0 x261000 x261001 x261002 x261003) else (some x3)
def thermionref01_held.l2 : Nat → List Bool → Bool → Int → Int → Int → Bool → List Int → Option (List Bool)
 | 0, _, _, _, _, _, _, _ => none
 | k + 1, x3, x5, x6, x261000, x261001, x261002, x261003 => if x6 < (x261003.length : Int) then ((thermionref01_around.f k x261000 x261001 x261002 x261003 x6).bind fun t266 => (thermionref01_held.l3 k x3 x5 x6 t266 0 x261000 x261001 x261002 x261003)) else (thermionref01_held.l1 k x3 x5 x261000 x261001 x261002 x261003)
def thermionref01_held.l3 : Nat → List Bool → Bool → Int → List Int → Int → Int → Int → Bool → List Int → Option (List Bool)
 | 0, _, _, _, _, _, _, _, _, _ => none
 | k + 1, x3, x5, x6, x7, x8, x261000, x261001, x261002, x261003 => if x8 < (x7.length : Int) then (if 0 ≤ x8 then (if 0 ≤ (rd x7 x8) then (if (rd x7 x8) < (x3.length : Int) then (if rdOf false x3 (rd x7 x8) = true then (if 0 ≤ x6 then (if x6 < (x3.length : Int) then (if rdOf false x3 x6 = true then (thermionref01_held.l3 k x3 x5 x6 x7 (wrap64 (x8 + 1)) x261000 x261001 x261002 x261003) else (thermionref01_held.l3 k (x3.set (x6 : Int).toNat true) true x6 x7 (wrap64 (x8 + 1)) x261000 x261001 x261002 x261003)) else (none)) else (none)) else (thermionref01_held.l3 k x3 x5 x6 x7 (wrap64 (x8 + 1)) x261000 x261001 x261002 x261003)) else (none)) else (none)) else (none)) else (thermionref01_held.l2 k x3 x5 (wrap64 (x6 + 1)) x261000 x261001 x261002 x261003)
end
def thermionref01_held.f (k : Nat) (a0_0 : Int) (a0_1 : Int) (a0_2 : Bool) (l0_3 : List Int) : Option (List Bool) := if 0 ≤ (l0_3.length : Int) then (if ((l0_3.length : Int) : Int).toNat ≤ 281474976710656 then (thermionref01_held.l0 k (List.replicate ((l0_3.length : Int) : Int).toNat false) 0 a0_0 a0_1 a0_2 l0_3) else (none)) else (none)
theorem thermionref01_held.calls (k : Nat) (a0_0 : Int) (a0_1 : Int) (a0_2 : Bool) (A0_3 : Option Addr) (c0_3 : Nat) (l0_3 : List Int) (r : List Bool) (w : World) (hr0_3 : Kd.C (Kd.int .i64) w A0_3 l0_3.length l0_3) (hc0_3 : l0_3.length ≤ c0_3) (h : thermionref01_held.f k a0_0 a0_1 a0_2 l0_3 = some r) :
  Calls Try.prog 84 #[.agg #[.int .i64 a0_0, .int .i64 a0_1, .bool a0_2, .slice A0_3 l0_3.length c0_3]] w fun e w' => ∃ v0_ : Value, e = .returned (v0_) ∧ Kd.R Kd.bool 4 w' w.heap.size (fun _ => True) v0_ r ∧ Below w.heap.size w w' := by
 have hu24 := Try.underlying24
 have HR0_3 := Aside0.mk hr0_3
 have HC0_3 := Aside0.mk hc0_3
 clear hr0_3 hc0_3
 have HB := Aside0.mk (Below.refl w.heap.size w)
 have H : (if 0 ≤ (l0_3.length : Int) then (if ((l0_3.length : Int) : Int).toNat ≤ 281474976710656 then (thermionref01_held.l0 k (List.replicate ((l0_3.length : Int) : Int).toNat false) 0 a0_0 a0_1 a0_2 l0_3) else (none)) else (none)) = some r := h
 clear h
 by_cases c2 : 0 ≤ (l0_3.length : Int)
 ·rw [if_pos c2] at H
  have c2b0 := eq_true c2
  have c2b1 := decide_eq_true c2
  clear c2
  by_cases c3 : ((l0_3.length : Int) : Int).toNat ≤ 281474976710656
  ·rw [if_pos c3] at H
   have c3b0 := eq_true c3
   have c3b1 := decide_eq_true c3
   clear c3
   obtain ⟨y261, hy261⟩ : ∃ y_ : List Bool, y_ = (List.replicate ((l0_3.length : Int) : Int).toNat false) := ⟨_, rfl⟩
   replace H : (thermionref01_held.l0 k y261 0 a0_0 a0_1 a0_2 l0_3) = some r := by first | (rw [hy261]; with_reducible exact H) | (have H2_ := (Option.bind_some _ _).symm.trans H; rw [hy261]; with_reducible exact H2_) | (have H2_ := (Option.bind_some _ _).symm.trans H; with_reducible exact H2_) | with_reducible exact H | (rw [hy261]; exact H) | exact H
   have Ny261 := Aside0.mk hy261
   clear hy261
   have H' := Aside0.mk H
   clear H
   go_enter Try.func84, Try.ntmps84
   go_wp2_with (first | ((with_reducible refine gate_dst (N := 1) rfl ?_); refine box_event ?hg (N := 1) ?hd (cs := #[.int .i64 a0_0, .int .i64 a0_1, .bool a0_2, .slice A0_3 l0_3.length c0_3]) (t := 24) ?hr ?_; (case hd => rfl); (case hg => rfl); (case hr => first | (go_simp; done) | (go_simp; rfl)); intro gb260 hg w4 hbox hb; have n0_ := Aside0.mk (below_step (by repeat (first | (with_reducible first | exact HB.out | apply below_alloc | apply pw_below_drewN | apply below_drew1) | exact HB.out)) hb); have n1_ := Aside0.mk (hbox); have n2_ := Aside0.mk ((by rw [hg]; exact (below_size (by repeat (first | (with_reducible first | exact HB.out | apply below_alloc | apply pw_below_drewN | apply below_drew1) | exact HB.out))) : w.heap.size ≤ gb260)); have n3_ := Aside0.mk ((by rw [hg]; exact (below_size (by repeat (first | (with_reducible first | exact HB.out | apply below_alloc | apply pw_below_drewN | apply below_drew1) | exact HB.out))) : w.heap.size ≤ gb260)); clear HB; have HB := n0_; have BK260 := n1_; have GW260 := n2_; have GE260 := n3_; clear n0_ n1_ n2_ n3_; clear hb hbox hg; have hcz5_0 : w4.cell? ⟨gb260, 0, none⟩ = some (.int .i64 a0_0) := (blk_cell BK260.out 0).trans rfl; have hcz5_1 : w4.cell? ⟨gb260, 1, none⟩ = some (.int .i64 a0_1) := (blk_cell BK260.out 1).trans rfl; have hcz5_2 : w4.cell? ⟨gb260, 2, none⟩ = some (.bool a0_2) := (blk_cell BK260.out 2).trans rfl; have hcz5_3 : w4.cell? ⟨gb260, 3, none⟩ = some (.slice A0_3 l0_3.length c0_3) := (blk_cell BK260.out 3).trans rfl; have hfz5_0 := blk_frozen BK260.out 0; have hfz5_1 := blk_frozen BK260.out 1; have hfz5_2 := blk_frozen BK260.out 2; have hfz5_3 := blk_frozen BK260.out 3) | ((with_reducible refine gate_dst (N := 12) rfl ?_); refine Kd.R_make Kd.bool _ 4 rfl (N := 12) rfl 100 _ _ rfl (l0_3.length : Int) rfl rfl Try.underlying100 (.bool false) 1 info4 rfl (by decide) (by omega) false (ok := fun _ => True) (okp := fun _ => True) rfl (fun _ hk => hk) trivial (of_decide_eq_true (by first | (with_reducible assumption) | assumption)) (Nat.le_trans (Nat.mul_le_mul_right _ (of_decide_eq_true (by first | (with_reducible assumption) | assumption) : (l0_3.length : Int).toNat ≤ 281474976710656)) (by omega)) (Below.refl _ _) (Nat.le_refl _) ?_; intro v262 w6 ho7 hb hg_ hnew_; clear hg_ hnew_; (first | rw [← Ny261.out] at ho7 | (simp only [Int.reduceToNat] at ho7; rw [← Ny261.out] at ho7)); have n0_ := Aside0.mk (Kd.R_lower ho7 (below_size (by repeat (first | (with_reducible first | exact HB.out | apply below_alloc | apply pw_below_drewN | apply below_drew1 | refine below_set ?_ GE260.out) | exact HB.out)))); have n1_ := Aside0.mk (blk_below (g := gb260) (o := .cells #[.int .i64 a0_0, .int .i64 a0_1, .bool a0_2, .slice A0_3 l0_3.length c0_3] 24 (0, 0)) (by (with_reducible repeat (first | refine blk_drewN ?_ _ | refine blk_drew ?_ | refine blk_alloc ?_ _)); exact BK260.out) hb); have n2_ := Aside0.mk (below_step (by repeat (first | (with_reducible first | exact HB.out | apply below_alloc | apply pw_below_drewN | apply below_drew1 | refine below_set ?_ GE260.out) | exact HB.out)) hb); clear BK260; clear HB; have HO263 := n0_; have BK260 := n1_; have HB := n2_; clear n0_ n1_ n2_; clear hb ho7))
   go_loopg [4] k (fun kq v4 w' => ∃ (x3_1 : List Bool) (x4_1 : Int), v4 = .int .i64 x4_1 ∧ Aside0 (thermionref01_held.l0 kq x3_1 x4_1 a0_0 a0_1 a0_2 l0_3 = some r) ∧ Aside0 (kq ≤ k) ∧ Aside0 (Kd.R Kd.bool 4 w' w.heap.size (fun _ => True) v262 x3_1) ∧ Aside0 (w'.heap[gb260]? = some (.cells #[.int .i64 a0_0, .int .i64 a0_1, .bool a0_2, (.slice A0_3 l0_3.length c0_3)] 24 (0, 0))) ∧ Aside0 (Below w.heap.size w w'))
   case atStart => exact ⟨(y261), (0), (by first | rfl | (simp; done) | (simp [*]; done)), H', ⟨Nat.le_refl _⟩, ⟨by (with_reducible repeat (first | apply Kd.R_alloc | apply Kd.R_drewN | apply Kd.R_drew)); exact HO263.out⟩, ⟨by (with_reducible repeat (first | refine blk_drewN ?_ _ | refine blk_drew ?_ | refine blk_alloc ?_ _)); exact BK260.out⟩, ⟨by repeat (first | (with_reducible first | exact HB.out | apply below_alloc | apply pw_below_drewN | apply below_drew1 | refine below_set ?_ GE260.out) | exact HB.out)⟩⟩
   case round =>
    clear H'
    try clear c2
    try clear c2b0
    try clear c2b1
    try clear c3
    try clear c3b0
    try clear c3b1
    try clear hcz5_0
    try clear hcz5_1
    try clear hcz5_2
    try clear hcz5_3
    try clear hfz5_0
    try clear hfz5_1
    try clear hfz5_2
    try clear hfz5_3
    obtain ⟨x3_1, x4_1, rfl, HA, HK1, HO_3, BK260, HB⟩ := hrel
    cases gk with
    | zero => exact absurd HA.out (by simp [thermionref01_held.l0])
    | succ k1 =>
     have H := HA.out
     clear HA
     simp only [thermionref01_held.l0] at H
     by_cases c8 : x4_1 < (l0_3.length : Int)
     ·rw [if_pos c8] at H
      have c8b0 := decide_eq_true c8
      clear c8
      by_cases c9 : 0 ≤ x4_1
      ·rw [if_pos c9] at H
       have c9b0 := decide_eq_true c9
       clear c9
       by_cases c10 : x4_1 < (x3_1.length : Int)
       ·rw [if_pos c10] at H
        have c10b0 := decide_eq_true c10
        clear c10
        obtain ⟨y265, hy265⟩ : ∃ y_ : List Bool, y_ = (x3_1.set (x4_1 : Int).toNat (decide ((rd l0_3 x4_1) > 0))) := ⟨_, rfl⟩
        replace H : (thermionref01_held.l0 k1 y265 (wrap64 (x4_1 + 1)) a0_0 a0_1 a0_2 l0_3) = some r := by first | (rw [hy265]; with_reducible exact H) | (have H2_ := (Option.bind_some _ _).symm.trans H; rw [hy265]; with_reducible exact H2_) | (have H2_ := (Option.bind_some _ _).symm.trans H; with_reducible exact H2_) | with_reducible exact H | (rw [hy265]; exact H) | exact H
        have Ny265 := Aside0.mk hy265
        clear hy265
        have H' := Aside0.mk H
        clear H
        have hcz12_0 : wr.cell? ⟨gb260, 0, none⟩ = some (.int .i64 a0_0) := (blk_cell BK260.out 0).trans rfl
        have hcz12_1 : wr.cell? ⟨gb260, 1, none⟩ = some (.int .i64 a0_1) := (blk_cell BK260.out 1).trans rfl
        have hcz12_2 : wr.cell? ⟨gb260, 2, none⟩ = some (.bool a0_2) := (blk_cell BK260.out 2).trans rfl
        have hcz12_3 : wr.cell? ⟨gb260, 3, none⟩ = some (.slice A0_3 l0_3.length c0_3) := (blk_cell BK260.out 3).trans rfl
        have hfz12_0 := blk_frozen BK260.out 0
        have hfz12_1 := blk_frozen BK260.out 1
        have hfz12_2 := blk_frozen BK260.out 2
        have hfz12_3 := blk_frozen BK260.out 3
        have p264 : 0 ≤ (x4_1 : Int) := of_decide_eq_true (by first | (with_reducible assumption) | assumption)
        have q264 : x4_1 < (l0_3.length : Int) := of_decide_eq_true (by first | (with_reducible assumption) | assumption)
        obtain ⟨ad264, e264, hx264_0⟩ := Kd.at_int HR0_3.out x4_1 p264 q264
        cases e264
        replace hx264_0 := (HB.out.cell (World.block_lt_of_cell? w _ hx264_0)).trans hx264_0
        replace p264 := eq_true p264
        replace q264 := eq_true q264
        have p11 : 0 ≤ (x4_1 : Int) := of_decide_eq_true (by first | (with_reducible assumption) | assumption)
        have q11 : (x4_1 : Int) < ((x3_1.length : Int) : Int) := of_decide_eq_true (by first | (with_reducible assumption) | assumption)
        obtain ⟨go11, co11, eo11, gb11, gl11, cl11, HG11⟩ := Kd.R_form HO_3.out (by omega)
        (first | cases eo11 | (injection eo11 with ea_ en_ ec_; (first | subst ea_ | (injection ea_ with ea_; subst ea_)); subst ec_; clear en_))
        have GB11 := Aside0.mk gb11
        have GG11 := Aside0.mk HG11
        clear gb11 gl11 HG11
        obtain ⟨hx11_0, hf11_0⟩ := Kd.R_celln false HO_3.out (x4_1 : Int) p11 q11
        replace p11 := eq_true p11
        replace q11 := eq_true q11
        have HP13 := Kd.R_putg HO_3.out (x4_1 : Int) (decide ((rd l0_3 x4_1) > 0))
        go_wp2_with (first | ((with_reducible refine gate_store (t := 4) (p := 28) rfl ?_); refine store_event (t := 4) (p := 28) (v := ?vo_w14) (w1 := (wr.setCell ⟨go11, (x4_1 : Int).toNat, none⟩ (.bool (decide ((rd l0_3 x4_1) > 0))))) ?hg ?ho ?hn ?hr ?_; (case ho => rfl); (case hg => rfl); (case hn => rfl); (case hr => first | (go_simp; done) | (go_simp; rfl)); intro w14 hw; have hg : wr.grownBy w14 (some go11) := (by rw [hw]; exact HP13.2); have hp_ : Kd.R Kd.bool 4 w14 w.heap.size (fun _ => True) (.slice (some ⟨go11, 0, none⟩) x3_1.length co11) y265 := (by rw [hw, Ny265.out]; exact HP13.1); clear HP13; have n0_ := Aside0.mk (hp_); have n1_ := Aside0.mk (blk_grown (g := gb260) (o := .cells #[.int .i64 a0_0, .int .i64 a0_1, .bool a0_2, .slice (some ad264) l0_3.length c0_3] 24 (0, 0)) (by (with_reducible repeat (first | refine blk_drewN ?_ _ | refine blk_drew ?_ | refine blk_alloc ?_ _)); exact BK260.out) hg (Kd.R_ne HO_3.out BK260.out (by decide))); have n2_ := Aside0.mk ((by rw [hw]; exact below_set (HB.out) GB11.out : Below w.heap.size w w14)); clear HO_3; clear BK260; clear HB; have HO_3 := n0_; have BK260 := n1_; have HB := n2_; clear n0_ n1_ n2_; clear hg hw hp_))
        go_roundg k1
        case measure => have := HK1.out; omega
        case rel => exact ⟨(y265), (wrap64 (x4_1 + 1)), (by first | rfl | (simp; done) | (simp [*]; done)), H', ⟨by have := HK1.out; omega⟩, ⟨by (with_reducible repeat (first | apply Kd.R_alloc | apply Kd.R_drewN | apply Kd.R_drew)); exact HO_3.out⟩, ⟨by (with_reducible repeat (first | refine blk_drewN ?_ _ | refine blk_drew ?_ | refine blk_alloc ?_ _)); exact BK260.out⟩, ⟨by repeat (first | (with_reducible first | exact HB.out | apply below_alloc | apply pw_below_drewN | apply below_drew1 | refine below_set ?_ GE260.out) | exact HB.out)⟩⟩
       ·rw [if_neg c10] at H
        exact absurd H (by simp)
      ·rw [if_neg c9] at H
       exact absurd H (by simp)
     ·rw [if_neg c8] at H
      have c8b0 := decide_eq_false c8
      clear c8
      have H' := Aside0.mk H
      clear H
      have hcz15_0 : wr.cell? ⟨gb260, 0, none⟩ = some (.int .i64 a0_0) := (blk_cell BK260.out 0).trans rfl
      have hcz15_1 : wr.cell? ⟨gb260, 1, none⟩ = some (.int .i64 a0_1) := (blk_cell BK260.out 1).trans rfl
      have hcz15_2 : wr.cell? ⟨gb260, 2, none⟩ = some (.bool a0_2) := (blk_cell BK260.out 2).trans rfl
      have hcz15_3 : wr.cell? ⟨gb260, 3, none⟩ = some (.slice A0_3 l0_3.length c0_3) := (blk_cell BK260.out 3).trans rfl
      have hfz15_0 := blk_frozen BK260.out 0
      have hfz15_1 := blk_frozen BK260.out 1
      have hfz15_2 := blk_frozen BK260.out 2
      have hfz15_3 := blk_frozen BK260.out 3
      go_wp2
      go_loopg [5] k1 (fun kq v5 w' => ∃ (x3_2 : List Bool) (x5_2 : Bool), v5 = .bool x5_2 ∧ Aside0 (thermionref01_held.l1 kq x3_2 x5_2 a0_0 a0_1 a0_2 l0_3 = some r) ∧ Aside0 (kq ≤ k1) ∧ Aside0 (Kd.R Kd.bool 4 w' w.heap.size (fun _ => True) v262 x3_2) ∧ Aside0 (w'.heap[gb260]? = some (.cells #[.int .i64 a0_0, .int .i64 a0_1, .bool a0_2, (.slice A0_3 l0_3.length c0_3)] 24 (0, 0))) ∧ Aside0 (Below w.heap.size w w'))
      case atStart => exact ⟨(x3_1), (true), (by first | rfl | (simp; done) | (simp [*]; done)), H', ⟨Nat.le_refl _⟩, ⟨by (with_reducible repeat (first | apply Kd.R_alloc | apply Kd.R_drewN | apply Kd.R_drew)); exact HO_3.out⟩, ⟨by (with_reducible repeat (first | refine blk_drewN ?_ _ | refine blk_drew ?_ | refine blk_alloc ?_ _)); exact BK260.out⟩, ⟨by repeat (first | (with_reducible first | exact HB.out | apply below_alloc | apply pw_below_drewN | apply below_drew1 | refine below_set ?_ GE260.out) | exact HB.out)⟩⟩
      case round =>
       clear H'
       try clear c2
       try clear c2b0
       try clear c2b1
       try clear c3
       try clear c3b0
       try clear c3b1
       try clear c8
       try clear c8b0
       try clear c9
       try clear c9b0
       try clear c10
       try clear c10b0
       try clear p11
       try clear q11
       try clear hcz12_0
       try clear hcz12_1
       try clear hcz12_2
       try clear hcz12_3
       try clear hcz15_0
       try clear hcz15_1
       try clear hcz15_2
       try clear hcz15_3
       try clear hcz5_0
       try clear hcz5_1
       try clear hcz5_2
       try clear hcz5_3
       try clear hfz12_0
       try clear hfz12_1
       try clear hfz12_2
       try clear hfz12_3
       try clear hfz15_0
       try clear hfz15_1
       try clear hfz15_2
       try clear hfz15_3
       try clear hfz5_0
       try clear hfz5_1
       try clear hfz5_2
       try clear hfz5_3
       try clear hx11_0
       try clear hx264_0
       try clear p11
       try clear p264
       try clear q11
       try clear q264
       obtain ⟨x3_2, x5_2, rfl, HA, HK2, HO_3, BK260, HB⟩ := hrel
       cases gk with
       | zero => exact absurd HA.out (by simp [thermionref01_held.l1])
       | succ k2 =>
        have H := HA.out
        clear HA
        simp only [thermionref01_held.l1] at H
        by_cases c16 : x5_2 = true
        ·subst c16
         have H1 : (thermionref01_held.l2 k2 x3_2 false 0 a0_0 a0_1 a0_2 l0_3) = some r := by rw [if_pos rfl] at H; exact H
         clear H
         have H := H1
         clear H1
         have H' := Aside0.mk H
         clear H
         go_wp2
         go_loopg [5, 6] k2 (fun kq v5 v6 w' => ∃ (x3_3 : List Bool) (x5_3 : Bool) (x6_3 : Int), v5 = .bool x5_3 ∧ v6 = .int .i64 x6_3 ∧ Aside0 (thermionref01_held.l2 kq x3_3 x5_3 x6_3 a0_0 a0_1 a0_2 l0_3 = some r) ∧ Aside0 (kq ≤ k2) ∧ Aside0 (Kd.R Kd.bool 4 w' w.heap.size (fun _ => True) v262 x3_3) ∧ Aside0 (w'.heap[gb260]? = some (.cells #[.int .i64 a0_0, .int .i64 a0_1, .bool a0_2, (.slice A0_3 l0_3.length c0_3)] 24 (0, 0))) ∧ Aside0 (Below w.heap.size w w'))
         case atStart => exact ⟨(x3_2), (false), (0), (by first | rfl | (simp; done) | (simp [*]; done)), (by first | rfl | (simp; done) | (simp [*]; done)), H', ⟨Nat.le_refl _⟩, ⟨by (with_reducible repeat (first | apply Kd.R_alloc | apply Kd.R_drewN | apply Kd.R_drew)); exact HO_3.out⟩, ⟨by (with_reducible repeat (first | refine blk_drewN ?_ _ | refine blk_drew ?_ | refine blk_alloc ?_ _)); exact BK260.out⟩, ⟨by repeat (first | (with_reducible first | exact HB.out | apply below_alloc | apply pw_below_drewN | apply below_drew1 | refine below_set ?_ GE260.out) | exact HB.out)⟩⟩
         case round =>
          clear H'
          try clear c2
          try clear c2b0
          try clear c2b1
          try clear c3
          try clear c3b0
          try clear c3b1
          try clear c8
          try clear c8b0
          try clear c9
          try clear c9b0
          try clear c10
          try clear c10b0
          try clear p11
          try clear q11
          try clear c16
          try clear hcz12_0
          try clear hcz12_1
          try clear hcz12_2
          try clear hcz12_3
          try clear hcz15_0
          try clear hcz15_1
          try clear hcz15_2
          try clear hcz15_3
          try clear hcz5_0
          try clear hcz5_1
          try clear hcz5_2
          try clear hcz5_3
          try clear hfz12_0
          try clear hfz12_1
          try clear hfz12_2
          try clear hfz12_3
          try clear hfz15_0
          try clear hfz15_1
          try clear hfz15_2
          try clear hfz15_3
          try clear hfz5_0
          try clear hfz5_1
          try clear hfz5_2
          try clear hfz5_3
          try clear hx11_0
          try clear hx264_0
          try clear p11
          try clear p264
          try clear q11
          try clear q264
          obtain ⟨x3_3, x5_3, x6_3, rfl, rfl, HA, HK3, HO_3, BK260, HB⟩ := hrel
          cases gk with
          | zero => exact absurd HA.out (by simp [thermionref01_held.l2])
          | succ k3 =>
           have H := HA.out
           clear HA
           simp only [thermionref01_held.l2] at H
           by_cases c17 : x6_3 < (l0_3.length : Int)
           ·rw [if_pos c17] at H
            have c17b0 := decide_eq_true c17
            clear c17
            replace H := Option.bind_eq_some_iff.mp H
            obtain ⟨t266, A180, H⟩ := H
            replace H : (thermionref01_held.l3 k3 x3_3 x5_3 x6_3 t266 0 a0_0 a0_1 a0_2 l0_3) = some r := H
            have A18 := Aside0.mk A180
            clear A180
            have H' := Aside0.mk H
            clear H
            have hcz19_0 : wr.cell? ⟨gb260, 0, none⟩ = some (.int .i64 a0_0) := (blk_cell BK260.out 0).trans rfl
            have hcz19_1 : wr.cell? ⟨gb260, 1, none⟩ = some (.int .i64 a0_1) := (blk_cell BK260.out 1).trans rfl
            have hcz19_2 : wr.cell? ⟨gb260, 2, none⟩ = some (.bool a0_2) := (blk_cell BK260.out 2).trans rfl
            have hcz19_3 : wr.cell? ⟨gb260, 3, none⟩ = some (.slice A0_3 l0_3.length c0_3) := (blk_cell BK260.out 3).trans rfl
            have hfz19_0 := blk_frozen BK260.out 0
            have hfz19_1 := blk_frozen BK260.out 1
            have hfz19_2 := blk_frozen BK260.out 2
            have hfz19_3 := blk_frozen BK260.out 3
            go_wp2_with (first | ((with_reducible refine gate_callee (f := 100) rfl ?_); refine goesL_ (some 39) rfl rfl Try.func100 (by kernel_rfl) rfl #[.agg #[.int .i64 a0_0, .int .i64 a0_1, .bool a0_2, .slice A0_3 l0_3.length c0_3], .int .i64 x6_3] rfl (by (try simp only [List.map_toArray, List.map_cons, List.map_nil]); first | done | rfl | (simp only [List.length_drop, List.length_take]; rfl)) ?_; (with_reducible refine (thermionref01_around.calls k3 a0_0 a0_1 a0_2 _ _ l0_3 x6_3 t266 _ ?side1 ?side2 A18.out).mono ?_); (case side1 => repeat (first | exact (Kd.C_below HR0_3.out HB.out) | (with_reducible refine Kd.C_alloc ?_ _) | (with_reducible refine Kd.C_drewN ?_ _) | (with_reducible refine Kd.C_drew ?_))); (case side2 => exact HC0_3.out); rintro e w20 ⟨v267, rfl, ho0, hb⟩; refine ⟨_, rfl, ?_⟩; have n0_ := Aside0.mk (Kd.R_below (by (with_reducible repeat (first | apply Kd.R_alloc | apply Kd.R_drewN | apply Kd.R_drew)); exact HO_3.out) hb); have n1_ := Aside0.mk (Kd.R_lower ho0 (below_size (by repeat (first | (with_reducible first | exact HB.out | apply below_alloc | apply pw_below_drewN | apply below_drew1 | refine below_set ?_ GE260.out) | exact HB.out)))); have n2_ := Aside0.mk (blk_below (g := gb260) (o := .cells #[.int .i64 a0_0, .int .i64 a0_1, .bool a0_2, .slice A0_3 l0_3.length c0_3] 24 (0, 0)) (by (with_reducible repeat (first | refine blk_drewN ?_ _ | refine blk_drew ?_ | refine blk_alloc ?_ _)); exact BK260.out) hb); have n3_ := Aside0.mk (below_step (by repeat (first | (with_reducible first | exact HB.out | apply below_alloc | apply pw_below_drewN | apply below_drew1 | refine below_set ?_ GE260.out) | exact HB.out)) hb); clear HO_3; clear BK260; clear HB; have HO_3 := n0_; have HO268 := n1_; have BK260 := n2_; have HB := n3_; clear n0_ n1_ n2_ n3_; (try clear hb hk hi); (try clear ho0)))
            go_loopg [5, 8] k3 (fun kq v5 v8 w' => ∃ (x3_4 : List Bool) (x5_4 : Bool) (x8_4 : Int), v5 = .bool x5_4 ∧ v8 = .int .i64 x8_4 ∧ Aside0 (thermionref01_held.l3 kq x3_4 x5_4 x6_3 t266 x8_4 a0_0 a0_1 a0_2 l0_3 = some r) ∧ Aside0 (kq ≤ k3) ∧ Aside0 (Kd.R Kd.bool 4 w' w.heap.size (fun _ => True) v262 x3_4) ∧ Aside0 (Kd.R (Kd.int .i64) 3 w' w.heap.size (fun _ => True) v267 t266) ∧ Aside0 (w'.heap[gb260]? = some (.cells #[.int .i64 a0_0, .int .i64 a0_1, .bool a0_2, (.slice A0_3 l0_3.length c0_3)] 24 (0, 0))) ∧ Aside0 (Below w.heap.size w w'))
            case atStart => exact ⟨(x3_3), (x5_3), (0), (by first | rfl | (simp; done) | (simp [*]; done)), (by first | rfl | (simp; done) | (simp [*]; done)), H', ⟨Nat.le_refl _⟩, ⟨by (with_reducible repeat (first | apply Kd.R_alloc | apply Kd.R_drewN | apply Kd.R_drew)); exact HO_3.out⟩, ⟨by (with_reducible repeat (first | apply Kd.R_alloc | apply Kd.R_drewN | apply Kd.R_drew)); exact HO268.out⟩, ⟨by (with_reducible repeat (first | refine blk_drewN ?_ _ | refine blk_drew ?_ | refine blk_alloc ?_ _)); exact BK260.out⟩, ⟨by repeat (first | (with_reducible first | exact HB.out | apply below_alloc | apply pw_below_drewN | apply below_drew1 | refine below_set ?_ GE260.out) | exact HB.out)⟩⟩
            case round =>
             clear H'
             try clear c2
             try clear c2b0
             try clear c2b1
             try clear c3
             try clear c3b0
             try clear c3b1
             try clear c8
             try clear c8b0
             try clear c9
             try clear c9b0
             try clear c10
             try clear c10b0
             try clear p11
             try clear q11
             try clear c16
             try clear c17
             try clear c17b0
             try clear hcz12_0
             try clear hcz12_1
             try clear hcz12_2
             try clear hcz12_3
             try clear hcz15_0
             try clear hcz15_1
             try clear hcz15_2
             try clear hcz15_3
             try clear hcz19_0
             try clear hcz19_1
             try clear hcz19_2
             try clear hcz19_3
             try clear hcz5_0
             try clear hcz5_1
             try clear hcz5_2
             try clear hcz5_3
             try clear hfz12_0
             try clear hfz12_1
             try clear hfz12_2
             try clear hfz12_3
             try clear hfz15_0
             try clear hfz15_1
             try clear hfz15_2
             try clear hfz15_3
             try clear hfz19_0
             try clear hfz19_1
             try clear hfz19_2
             try clear hfz19_3
             try clear hfz5_0
             try clear hfz5_1
             try clear hfz5_2
             try clear hfz5_3
             try clear hx11_0
             try clear hx264_0
             try clear p11
             try clear p264
             try clear q11
             try clear q264
             obtain ⟨x3_4, x5_4, x8_4, rfl, rfl, HA, HK4, HO_3, HO_7, BK260, HB⟩ := hrel
             cases gk with
             | zero => exact absurd HA.out (by simp [thermionref01_held.l3])
             | succ k4 =>
              have H := HA.out
              clear HA
              simp only [thermionref01_held.l3] at H
              by_cases c21 : x8_4 < (t266.length : Int)
              ·rw [if_pos c21] at H
               have c21b0 := decide_eq_true c21
               clear c21
               by_cases c22 : 0 ≤ x8_4
               ·rw [if_pos c22] at H
                have c22b0 := decide_eq_true c22
                clear c22
                by_cases c23 : 0 ≤ (rd t266 x8_4)
                ·rw [if_pos c23] at H
                 have c23b0 := decide_eq_true c23
                 clear c23
                 by_cases c24 : (rd t266 x8_4) < (x3_4.length : Int)
                 ·rw [if_pos c24] at H
                  have c24b0 := decide_eq_true c24
                  clear c24
                  obtain ⟨bq25, hbq25⟩ : ∃ b_ : Bool, b_ = (rdOf false x3_4 (rd t266 x8_4)) := ⟨_, rfl⟩
                  replace H : (if bq25 = true then (if 0 ≤ x6_3 then (if x6_3 < (x3_4.length : Int) then (if rdOf false x3_4 x6_3 = true then (thermionref01_held.l3 k4 x3_4 x5_4 x6_3 t266 (wrap64 (x8_4 + 1)) a0_0 a0_1 a0_2 l0_3) else (thermionref01_held.l3 k4 (x3_4.set (x6_3 : Int).toNat true) true x6_3 t266 (wrap64 (x8_4 + 1)) a0_0 a0_1 a0_2 l0_3)) else (none)) else (none)) else (thermionref01_held.l3 k4 x3_4 x5_4 x6_3 t266 (wrap64 (x8_4 + 1)) a0_0 a0_1 a0_2 l0_3)) = some r := by rw [← hbq25] at H; exact H
                  have Nbq25 := Aside0.mk hbq25
                  clear hbq25
                  by_cases c26 : bq25 = true
                  ·subst c26
                   have H1 : (if 0 ≤ x6_3 then (if x6_3 < (x3_4.length : Int) then (if rdOf false x3_4 x6_3 = true then (thermionref01_held.l3 k4 x3_4 x5_4 x6_3 t266 (wrap64 (x8_4 + 1)) a0_0 a0_1 a0_2 l0_3) else (thermionref01_held.l3 k4 (x3_4.set (x6_3 : Int).toNat true) true x6_3 t266 (wrap64 (x8_4 + 1)) a0_0 a0_1 a0_2 l0_3)) else (none)) else (none)) = some r := by rw [if_pos rfl] at H; exact H
                   clear H
                   have H := H1
                   clear H1
                   by_cases c27 : 0 ≤ x6_3
                   ·rw [if_pos c27] at H
                    have c27b0 := decide_eq_true c27
                    clear c27
                    by_cases c28 : x6_3 < (x3_4.length : Int)
                    ·rw [if_pos c28] at H
                     have c28b0 := decide_eq_true c28
                     clear c28
                     obtain ⟨bq29, hbq29⟩ : ∃ b_ : Bool, b_ = (rdOf false x3_4 x6_3) := ⟨_, rfl⟩
                     replace H : (if bq29 = true then (thermionref01_held.l3 k4 x3_4 x5_4 x6_3 t266 (wrap64 (x8_4 + 1)) a0_0 a0_1 a0_2 l0_3) else (thermionref01_held.l3 k4 (x3_4.set (x6_3 : Int).toNat true) true x6_3 t266 (wrap64 (x8_4 + 1)) a0_0 a0_1 a0_2 l0_3)) = some r := by rw [← hbq29] at H; exact H
                     have Nbq29 := Aside0.mk hbq29
                     clear hbq29
                     by_cases c30 : bq29 = true
                     ·subst c30
                      have H1 : (thermionref01_held.l3 k4 x3_4 x5_4 x6_3 t266 (wrap64 (x8_4 + 1)) a0_0 a0_1 a0_2 l0_3) = some r := by rw [if_pos rfl] at H; exact H
                      clear H
                      have H := H1
                      clear H1
                      have H' := Aside0.mk H
                      clear H
                      obtain ⟨Ao31, co31, eo31⟩ := Kd.R_slice HO_7.out
                      subst eo31
                      have p269 : 0 ≤ (x8_4 : Int) := of_decide_eq_true (by first | (with_reducible assumption) | assumption)
                      have q269 : x8_4 < (t266.length : Int) := of_decide_eq_true (by first | (with_reducible assumption) | assumption)
                      obtain ⟨ad269, e269, hx269_0⟩ := Kd.at_int (Kd.R_reads' HO_7.out).2.2 x8_4 p269 q269
                      cases e269
                      replace p269 := eq_true p269
                      replace q269 := eq_true q269
                      obtain ⟨Ao32, co32, eo32⟩ := Kd.R_slice HO_3.out
                      subst eo32
                      have p270 : 0 ≤ ((rd t266 x8_4) : Int) := of_decide_eq_true (by first | (with_reducible assumption) | assumption)
                      have q270 : (rd t266 x8_4) < (x3_4.length : Int) := of_decide_eq_true (by first | (with_reducible assumption) | assumption)
                      obtain ⟨ad270, e270, hx270_0⟩ := Kd.at_bool (Kd.R_reads' HO_3.out).2.2 (rd t266 x8_4) p270 q270
                      (try rw [← Nbq25.out] at hx270_0)
                      (try rw [← Nbq29.out] at hx270_0)
                      cases e270
                      replace p270 := eq_true p270
                      replace q270 := eq_true q270
                      have p271 : 0 ≤ (x6_3 : Int) := of_decide_eq_true (by first | (with_reducible assumption) | assumption)
                      have q271 : x6_3 < (x3_4.length : Int) := of_decide_eq_true (by first | (with_reducible assumption) | assumption)
                      obtain ⟨ad271, e271, hx271_0⟩ := Kd.at_bool (Kd.R_reads' HO_3.out).2.2 x6_3 p271 q271
                      (try rw [← Nbq25.out] at hx271_0)
                      (try rw [← Nbq29.out] at hx271_0)
                      obtain rfl : ad270 = ad271 := (by injection e271)
                      replace p271 := eq_true p271
                      replace q271 := eq_true q271
                      go_wp2
                      go_roundg k4
                      case measure => have := HK1.out; have := HK2.out; have := HK3.out; have := HK4.out; omega
                      case rel => exact ⟨(x3_4), (x5_4), (wrap64 (x8_4 + 1)), (by first | rfl | (simp; done) | (simp [*]; done)), (by first | rfl | (simp; done) | (simp [*]; done)), H', ⟨by have := HK1.out; have := HK2.out; have := HK3.out; have := HK4.out; omega⟩, ⟨by (with_reducible repeat (first | apply Kd.R_alloc | apply Kd.R_drewN | apply Kd.R_drew)); exact HO_3.out⟩, ⟨by (with_reducible repeat (first | apply Kd.R_alloc | apply Kd.R_drewN | apply Kd.R_drew)); exact HO_7.out⟩, ⟨by (with_reducible repeat (first | refine blk_drewN ?_ _ | refine blk_drew ?_ | refine blk_alloc ?_ _)); exact BK260.out⟩, ⟨by repeat (first | (with_reducible first | exact HB.out | apply below_alloc | apply pw_below_drewN | apply below_drew1 | refine below_set ?_ GE260.out) | exact HB.out)⟩⟩
                     ·replace c30 := Bool.eq_false_iff.mpr c30
                      subst c30
                      have H1 : (thermionref01_held.l3 k4 (x3_4.set (x6_3 : Int).toNat true) true x6_3 t266 (wrap64 (x8_4 + 1)) a0_0 a0_1 a0_2 l0_3) = some r := by rw [if_neg (show ¬ (false = true) by decide)] at H; exact H
                      clear H
                      have H := H1
                      clear H1
                      obtain ⟨y272, hy272⟩ : ∃ y_ : List Bool, y_ = (x3_4.set (x6_3 : Int).toNat true) := ⟨_, rfl⟩
                      replace H : (thermionref01_held.l3 k4 y272 true x6_3 t266 (wrap64 (x8_4 + 1)) a0_0 a0_1 a0_2 l0_3) = some r := by first | (rw [hy272]; with_reducible exact H) | (have H2_ := (Option.bind_some _ _).symm.trans H; rw [hy272]; with_reducible exact H2_) | (have H2_ := (Option.bind_some _ _).symm.trans H; with_reducible exact H2_) | with_reducible exact H | (rw [hy272]; exact H) | exact H
                      have Ny272 := Aside0.mk hy272
                      clear hy272
                      have H' := Aside0.mk H
                      clear H
                      obtain ⟨Ao34, co34, eo34⟩ := Kd.R_slice HO_7.out
                      subst eo34
                      have p269 : 0 ≤ (x8_4 : Int) := of_decide_eq_true (by first | (with_reducible assumption) | assumption)
                      have q269 : x8_4 < (t266.length : Int) := of_decide_eq_true (by first | (with_reducible assumption) | assumption)
                      obtain ⟨ad269, e269, hx269_0⟩ := Kd.at_int (Kd.R_reads' HO_7.out).2.2 x8_4 p269 q269
                      cases e269
                      replace p269 := eq_true p269
                      replace q269 := eq_true q269
                      obtain ⟨Ao35, co35, eo35⟩ := Kd.R_slice HO_3.out
                      subst eo35
                      have p270 : 0 ≤ ((rd t266 x8_4) : Int) := of_decide_eq_true (by first | (with_reducible assumption) | assumption)
                      have q270 : (rd t266 x8_4) < (x3_4.length : Int) := of_decide_eq_true (by first | (with_reducible assumption) | assumption)
                      obtain ⟨ad270, e270, hx270_0⟩ := Kd.at_bool (Kd.R_reads' HO_3.out).2.2 (rd t266 x8_4) p270 q270
                      (try rw [← Nbq25.out] at hx270_0)
                      (try rw [← Nbq29.out] at hx270_0)
                      cases e270
                      replace p270 := eq_true p270
                      replace q270 := eq_true q270
                      have p271 : 0 ≤ (x6_3 : Int) := of_decide_eq_true (by first | (with_reducible assumption) | assumption)
                      have q271 : x6_3 < (x3_4.length : Int) := of_decide_eq_true (by first | (with_reducible assumption) | assumption)
                      obtain ⟨ad271, e271, hx271_0⟩ := Kd.at_bool (Kd.R_reads' HO_3.out).2.2 x6_3 p271 q271
                      (try rw [← Nbq25.out] at hx271_0)
                      (try rw [← Nbq29.out] at hx271_0)
                      obtain rfl : ad270 = ad271 := (by injection e271)
                      replace p271 := eq_true p271
                      replace q271 := eq_true q271
                      have p33 : 0 ≤ (x6_3 : Int) := of_decide_eq_true (by first | (with_reducible assumption) | assumption)
                      have q33 : (x6_3 : Int) < ((x3_4.length : Int) : Int) := of_decide_eq_true (by first | (with_reducible assumption) | assumption)
                      obtain ⟨go33, co33, eo33, gb33, gl33, cl33, HG33⟩ := Kd.R_form HO_3.out (by omega)
                      (first | cases eo33 | (injection eo33 with ea_ en_ ec_; (first | subst ea_ | (injection ea_ with ea_; subst ea_)); subst ec_; clear en_))
                      have GB33 := Aside0.mk gb33
                      have GG33 := Aside0.mk HG33
                      clear gb33 gl33 HG33
                      (first | simp only [add_plain] at hx270_0 | skip)
                      (first | simp only [add_plain] at hx271_0 | skip)
                      obtain ⟨hx33_0, hf33_0⟩ := Kd.R_celln false HO_3.out (x6_3 : Int) p33 q33
                      replace p33 := eq_true p33
                      replace q33 := eq_true q33
                      have HP36 := Kd.R_putg HO_3.out (x6_3 : Int) true
                      go_wp2_with (first | ((with_reducible refine gate_store (t := 4) (p := 62) rfl ?_); refine store_event (t := 4) (p := 62) (v := ?vo_w37) (w1 := (wr.setCell ⟨go33, (x6_3 : Int).toNat, none⟩ (.bool true))) ?hg ?ho ?hn ?hr ?_; (case ho => rfl); (case hg => rfl); (case hn => rfl); (case hr => first | (go_simp; done) | (go_simp; rfl)); intro w37 hw; have hg : wr.grownBy w37 (some go33) := (by rw [hw]; exact HP36.2); have hp_ : Kd.R Kd.bool 4 w37 w.heap.size (fun _ => True) (.slice (some ⟨go33, 0, none⟩) x3_4.length co35) y272 := (by rw [hw, Ny272.out]; exact HP36.1); clear HP36; have n0_ := Aside0.mk (hp_); have n1_ := Aside0.mk (Kd.R_over' (v := (.slice (some ⟨go33, 0, none⟩) x3_4.length co35)) (by (with_reducible repeat (first | apply Kd.R_alloc | apply Kd.R_drewN | apply Kd.R_drew)); exact HO_7.out) (Kd.R_typed HO_3.out) (by decide) hg); have n2_ := Aside0.mk (blk_grown (g := gb260) (o := .cells #[.int .i64 a0_0, .int .i64 a0_1, .bool a0_2, .slice A0_3 l0_3.length c0_3] 24 (0, 0)) (by (with_reducible repeat (first | refine blk_drewN ?_ _ | refine blk_drew ?_ | refine blk_alloc ?_ _)); exact BK260.out) hg (Kd.R_ne HO_3.out BK260.out (by decide))); have n3_ := Aside0.mk ((by rw [hw]; exact below_set (HB.out) GB33.out : Below w.heap.size w w37)); clear HO_3; clear HO_7; clear BK260; clear HB; have HO_3 := n0_; have HO_7 := n1_; have BK260 := n2_; have HB := n3_; clear n0_ n1_ n2_ n3_; clear hg hw hp_))
                      go_roundg k4
                      case measure => have := HK1.out; have := HK2.out; have := HK3.out; have := HK4.out; omega
                      case rel => exact ⟨(y272), (true), (wrap64 (x8_4 + 1)), (by first | rfl | (simp; done) | (simp [*]; done)), (by first | rfl | (simp; done) | (simp [*]; done)), H', ⟨by have := HK1.out; have := HK2.out; have := HK3.out; have := HK4.out; omega⟩, ⟨by (with_reducible repeat (first | apply Kd.R_alloc | apply Kd.R_drewN | apply Kd.R_drew)); exact HO_3.out⟩, ⟨by (with_reducible repeat (first | apply Kd.R_alloc | apply Kd.R_drewN | apply Kd.R_drew)); exact HO_7.out⟩, ⟨by (with_reducible repeat (first | refine blk_drewN ?_ _ | refine blk_drew ?_ | refine blk_alloc ?_ _)); exact BK260.out⟩, ⟨by repeat (first | (with_reducible first | exact HB.out | apply below_alloc | apply pw_below_drewN | apply below_drew1 | refine below_set ?_ GE260.out) | exact HB.out)⟩⟩
                    ·rw [if_neg c28] at H
                     exact absurd H (by simp)
                   ·rw [if_neg c27] at H
                    exact absurd H (by simp)
                  ·replace c26 := Bool.eq_false_iff.mpr c26
                   subst c26
                   have H1 : (thermionref01_held.l3 k4 x3_4 x5_4 x6_3 t266 (wrap64 (x8_4 + 1)) a0_0 a0_1 a0_2 l0_3) = some r := by rw [if_neg (show ¬ (false = true) by decide)] at H; exact H
                   clear H
                   have H := H1
                   clear H1
                   have H' := Aside0.mk H
                   clear H
                   obtain ⟨Ao38, co38, eo38⟩ := Kd.R_slice HO_7.out
                   subst eo38
                   have p269 : 0 ≤ (x8_4 : Int) := of_decide_eq_true (by first | (with_reducible assumption) | assumption)
                   have q269 : x8_4 < (t266.length : Int) := of_decide_eq_true (by first | (with_reducible assumption) | assumption)
                   obtain ⟨ad269, e269, hx269_0⟩ := Kd.at_int (Kd.R_reads' HO_7.out).2.2 x8_4 p269 q269
                   cases e269
                   replace p269 := eq_true p269
                   replace q269 := eq_true q269
                   obtain ⟨Ao39, co39, eo39⟩ := Kd.R_slice HO_3.out
                   subst eo39
                   have p270 : 0 ≤ ((rd t266 x8_4) : Int) := of_decide_eq_true (by first | (with_reducible assumption) | assumption)
                   have q270 : (rd t266 x8_4) < (x3_4.length : Int) := of_decide_eq_true (by first | (with_reducible assumption) | assumption)
                   obtain ⟨ad270, e270, hx270_0⟩ := Kd.at_bool (Kd.R_reads' HO_3.out).2.2 (rd t266 x8_4) p270 q270
                   (try rw [← Nbq25.out] at hx270_0)
                   cases e270
                   replace p270 := eq_true p270
                   replace q270 := eq_true q270
                   go_wp2
                   go_roundg k4
                   case measure => have := HK1.out; have := HK2.out; have := HK3.out; have := HK4.out; omega
                   case rel => exact ⟨(x3_4), (x5_4), (wrap64 (x8_4 + 1)), (by first | rfl | (simp; done) | (simp [*]; done)), (by first | rfl | (simp; done) | (simp [*]; done)), H', ⟨by have := HK1.out; have := HK2.out; have := HK3.out; have := HK4.out; omega⟩, ⟨by (with_reducible repeat (first | apply Kd.R_alloc | apply Kd.R_drewN | apply Kd.R_drew)); exact HO_3.out⟩, ⟨by (with_reducible repeat (first | apply Kd.R_alloc | apply Kd.R_drewN | apply Kd.R_drew)); exact HO_7.out⟩, ⟨by (with_reducible repeat (first | refine blk_drewN ?_ _ | refine blk_drew ?_ | refine blk_alloc ?_ _)); exact BK260.out⟩, ⟨by repeat (first | (with_reducible first | exact HB.out | apply below_alloc | apply pw_below_drewN | apply below_drew1 | refine below_set ?_ GE260.out) | exact HB.out)⟩⟩
                 ·rw [if_neg c24] at H
                  exact absurd H (by simp)
                ·rw [if_neg c23] at H
                 exact absurd H (by simp)
               ·rw [if_neg c22] at H
                exact absurd H (by simp)
              ·rw [if_neg c21] at H
               have c21b0 := decide_eq_false c21
               clear c21
               have H' := Aside0.mk H
               clear H
               obtain ⟨Ao40, co40, eo40⟩ := Kd.R_slice HO_7.out
               subst eo40
               go_wp2
               go_roundg k4
               case measure => have := HK1.out; have := HK2.out; have := HK3.out; have := HK4.out; omega
               case rel => exact ⟨(x3_4), (x5_4), (wrap64 (x6_3 + 1)), (by first | rfl | (simp; done) | (simp [*]; done)), (by first | rfl | (simp; done) | (simp [*]; done)), H', ⟨by have := HK1.out; have := HK2.out; have := HK3.out; have := HK4.out; omega⟩, ⟨by (with_reducible repeat (first | apply Kd.R_alloc | apply Kd.R_drewN | apply Kd.R_drew)); exact HO_3.out⟩, ⟨by (with_reducible repeat (first | refine blk_drewN ?_ _ | refine blk_drew ?_ | refine blk_alloc ?_ _)); exact BK260.out⟩, ⟨by repeat (first | (with_reducible first | exact HB.out | apply below_alloc | apply pw_below_drewN | apply below_drew1 | refine below_set ?_ GE260.out) | exact HB.out)⟩⟩
           ·rw [if_neg c17] at H
            have c17b0 := decide_eq_false c17
            clear c17
            have H' := Aside0.mk H
            clear H
            have hcz41_0 : wr.cell? ⟨gb260, 0, none⟩ = some (.int .i64 a0_0) := (blk_cell BK260.out 0).trans rfl
            have hcz41_1 : wr.cell? ⟨gb260, 1, none⟩ = some (.int .i64 a0_1) := (blk_cell BK260.out 1).trans rfl
            have hcz41_2 : wr.cell? ⟨gb260, 2, none⟩ = some (.bool a0_2) := (blk_cell BK260.out 2).trans rfl
            have hcz41_3 : wr.cell? ⟨gb260, 3, none⟩ = some (.slice A0_3 l0_3.length c0_3) := (blk_cell BK260.out 3).trans rfl
            have hfz41_0 := blk_frozen BK260.out 0
            have hfz41_1 := blk_frozen BK260.out 1
            have hfz41_2 := blk_frozen BK260.out 2
            have hfz41_3 := blk_frozen BK260.out 3
            go_wp2
            go_roundg k3
            case measure => have := HK1.out; have := HK2.out; have := HK3.out; omega
            case rel => exact ⟨(x3_3), (x5_3), (by first | rfl | (simp; done) | (simp [*]; done)), H', ⟨by have := HK1.out; have := HK2.out; have := HK3.out; omega⟩, ⟨by (with_reducible repeat (first | apply Kd.R_alloc | apply Kd.R_drewN | apply Kd.R_drew)); exact HO_3.out⟩, ⟨by (with_reducible repeat (first | refine blk_drewN ?_ _ | refine blk_drew ?_ | refine blk_alloc ?_ _)); exact BK260.out⟩, ⟨by repeat (first | (with_reducible first | exact HB.out | apply below_alloc | apply pw_below_drewN | apply below_drew1 | refine below_set ?_ GE260.out) | exact HB.out)⟩⟩
        ·replace c16 := Bool.eq_false_iff.mpr c16
         subst c16
         have H1 : (some x3_2) = some r := by rw [if_neg (show ¬ (false = true) by decide)] at H; exact H
         clear H
         have H := H1
         clear H1
         obtain rfl := Option.some.inj H
         go_wp2
         go_ret
         exact ⟨_, by first | rfl | (simp [errW_none, errW_some] <;> rfl) | (simp [*, errW_none, errW_some] <;> rfl), by (with_reducible repeat (first | apply Kd.R_alloc | apply Kd.R_drewN | apply Kd.R_drew)); exact HO_3.out, by repeat (first | (with_reducible first | exact HB.out | apply below_alloc | apply pw_below_drewN | apply below_drew1 | refine below_set ?_ GE260.out) | exact HB.out)⟩
  ·rw [if_neg c3] at H
   exact absurd H (by simp)
 ·rw [if_neg c2] at H
  exact absurd H (by simp)
mutual
def thermionref01_Check.j0 : Nat → Bool → Int → Int → Bool → List Int → Option (Int)
 | 0, _, _, _, _, _ => none
 | k + 1, x14, x274000, x274001, x274002, x274003 => if x14 = true then (some 2) else (if (x274003.length : Int) = (wrap64 (x274000 * x274001)) then (thermionref01_Check.l0 k false 0 x274000 x274001 x274002 x274003) else (some 3))
def thermionref01_Check.l0 : Nat → Bool → Int → Int → Int → Bool → List Int → Option (Int)
 | 0, _, _, _, _, _, _ => none
 | k + 1, x3, x4, x274000, x274001, x274002, x274003 => if x4 < (x274003.length : Int) then (if 0 ≤ x4 then ((thermionref01_beyond.f (rd x274003 x4) 0 6).bind fun t277 => (if t277 = true then (some 2) else (if x3 = true then (thermionref01_Check.l0 k true (wrap64 (x4 + 1)) x274000 x274001 x274002 x274003) else (thermionref01_Check.l0 k (decide ((rd x274003 x4) > 0)) (wrap64 (x4 + 1)) x274000 x274001 x274002 x274003)))) else (none)) else (if x3 = true then ((thermionref01_held.f k x274000 x274001 x274002 x274003).bind fun t279 => (thermionref01_Check.l1 k t279 0)) else (some 7))
def thermionref01_Check.l1 : Nat → List Bool → Int → Option (Int)
 | 0, _, _ => none
 | k + 1, x5, x6 => if x6 < (x5.length : Int) then (if 0 ≤ x6 then (if rdOf false x5 x6 = true then (thermionref01_Check.l1 k x5 (wrap64 (x6 + 1))) else (some 13)) else (none)) else (some 0)
end
def thermionref01_Check.f (k : Nat) (a0_0 : Int) (a0_1 : Int) (a0_2 : Bool) (l0_3 : List Int) : Option (Int) := (thermionref01_beyond.f a0_0 1 16).bind fun t274 => (if t274 = true then (thermionref01_Check.j0 k true a0_0 a0_1 a0_2 l0_3) else ((thermionref01_beyond.f a0_1 1 16).bind fun t275 => (thermionref01_Check.j0 k t275 a0_0 a0_1 a0_2 l0_3)))
theorem thermionref01_Check.calls (k : Nat) (a0_0 : Int) (a0_1 : Int) (a0_2 : Bool) (A0_3 : Option Addr) (c0_3 : Nat) (l0_3 : List Int) (r : Int) (w : World) (hr0_3 : Kd.C (Kd.int .i64) w A0_3 l0_3.length l0_3) (hc0_3 : l0_3.length ≤ c0_3) (h : thermionref01_Check.f k a0_0 a0_1 a0_2 l0_3 = some r) :
  Calls Try.prog 40 #[.agg #[.int .i64 a0_0, .int .i64 a0_1, .bool a0_2, .slice A0_3 l0_3.length c0_3]] w fun e w' => e = .returned (.int .i64 r) ∧ Below w.heap.size w w' := by
 have hu24 := Try.underlying24
 have HR0_3 := Aside0.mk hr0_3
 have HC0_3 := Aside0.mk hc0_3
 clear hr0_3 hc0_3
 have HB := Aside0.mk (Below.refl w.heap.size w)
 have H : ((thermionref01_beyond.f a0_0 1 16).bind fun t274 => (if t274 = true then (thermionref01_Check.j0 k true a0_0 a0_1 a0_2 l0_3) else ((thermionref01_beyond.f a0_1 1 16).bind fun t275 => (thermionref01_Check.j0 k t275 a0_0 a0_1 a0_2 l0_3)))) = some r := h
 clear h
 have HC2 := Aside0.mk H
 clear H
 go_enter Try.func40, Try.ntmps40
 go_upto_region 1 with (first | ((with_reducible refine gate_dst (N := 1) rfl ?_); refine box_event ?hg (N := 1) ?hd (cs := #[.int .i64 a0_0, .int .i64 a0_1, .bool a0_2, .slice A0_3 l0_3.length c0_3]) (t := 24) ?hr ?_; (case hd => rfl); (case hg => rfl); (case hr => first | (go_simp; done) | (go_simp; rfl)); intro gb273 hg w3 hbox hb; have n0_ := Aside0.mk (below_step (by repeat (first | (with_reducible first | exact HB.out | apply below_alloc | apply pw_below_drewN | apply below_drew1) | exact HB.out)) hb); have n1_ := Aside0.mk (hbox); have n2_ := Aside0.mk ((by rw [hg]; exact (below_size (by repeat (first | (with_reducible first | exact HB.out | apply below_alloc | apply pw_below_drewN | apply below_drew1) | exact HB.out))) : w.heap.size ≤ gb273)); have n3_ := Aside0.mk ((by rw [hg]; exact (below_size (by repeat (first | (with_reducible first | exact HB.out | apply below_alloc | apply pw_below_drewN | apply below_drew1) | exact HB.out))) : w.heap.size ≤ gb273)); clear HB; have HB := n0_; have BK273 := n1_; have GW273 := n2_; have GE273 := n3_; clear n0_ n1_ n2_ n3_; clear hb hbox hg))
 (try simp only [Act.put, List.setIfInBounds_toArray, List.set_cons_zero, List.set_cons_succ])
 go_cut [14] (fun v14 wc => ∃ (kq : Nat) (x14_1 : Bool), v14 = .bool x14_1 ∧ Aside0 (thermionref01_Check.j0 kq x14_1 a0_0 a0_1 a0_2 l0_3 = some r) ∧ Aside0 (kq ≤ k) ∧ Aside0 (wc.heap[gb273]? = some (.cells #[.int .i64 a0_0, .int .i64 a0_1, .bool a0_2, (.slice A0_3 l0_3.length c0_3)] 24 (0, 0))) ∧ Aside0 (Below w.heap.size w wc))
 case first =>
  have H := HC2.out
  clear HC2
  replace H := Option.bind_eq_some_iff.mp H
  obtain ⟨t274, A40, H⟩ := H
  replace H : (if t274 = true then (thermionref01_Check.j0 k true a0_0 a0_1 a0_2 l0_3) else ((thermionref01_beyond.f a0_1 1 16).bind fun t275 => (thermionref01_Check.j0 k t275 a0_0 a0_1 a0_2 l0_3))) = some r := H
  have A4 := Aside0.mk A40
  clear A40
  by_cases c5 : t274 = true
  ·subst c5
   have H1 : (thermionref01_Check.j0 k true a0_0 a0_1 a0_2 l0_3) = some r := by rw [if_pos rfl] at H; exact H
   clear H
   have H := H1
   clear H1
   have H' := Aside0.mk H
   clear H
   have hcz6_0 : w3.cell? ⟨gb273, 0, none⟩ = some (.int .i64 a0_0) := (blk_cell BK273.out 0).trans rfl
   have hcz6_1 : w3.cell? ⟨gb273, 1, none⟩ = some (.int .i64 a0_1) := (blk_cell BK273.out 1).trans rfl
   have hcz6_2 : w3.cell? ⟨gb273, 2, none⟩ = some (.bool a0_2) := (blk_cell BK273.out 2).trans rfl
   have hcz6_3 : w3.cell? ⟨gb273, 3, none⟩ = some (.slice A0_3 l0_3.length c0_3) := (blk_cell BK273.out 3).trans rfl
   have hfz6_0 := blk_frozen BK273.out 0
   have hfz6_1 := blk_frozen BK273.out 1
   have hfz6_2 := blk_frozen BK273.out 2
   have hfz6_3 := blk_frozen BK273.out 3
   go_wp2_with (first | ((with_reducible refine gate_callee (f := 73) rfl ?_); refine goesL_ (some 9) rfl rfl Try.func73 (by kernel_rfl) rfl #[.int .i64 a0_0, .int .i64 1, .int .i64 16] rfl (by (try simp only [List.map_toArray, List.map_cons, List.map_nil]); first | done | rfl | (simp only [List.length_drop, List.length_take]; rfl)) ?_; (with_reducible refine (thermionref01_beyond.calls a0_0 1 16 true _ A4.out).mono ?_); rintro e w' ⟨rfl, ⟨nd, rfl⟩⟩; refine ⟨_, rfl, ?_⟩))
   go_meet
   case rel => exact ⟨_, (true), (by first | rfl | (simp; done) | (simp [*]; done)), H', ⟨by first | omega | exact Nat.le_refl _⟩, ⟨by (with_reducible repeat (first | refine blk_drewN ?_ _ | refine blk_drew ?_ | refine blk_alloc ?_ _)); exact BK273.out⟩, ⟨by repeat (first | (with_reducible first | exact HB.out | apply below_alloc | apply pw_below_drewN | apply below_drew1 | refine below_set ?_ GE273.out) | exact HB.out)⟩⟩
  ·replace c5 := Bool.eq_false_iff.mpr c5
   subst c5
   have H1 : ((thermionref01_beyond.f a0_1 1 16).bind fun t275 => (thermionref01_Check.j0 k t275 a0_0 a0_1 a0_2 l0_3)) = some r := by rw [if_neg (show ¬ (false = true) by decide)] at H; exact H
   clear H
   have H := H1
   clear H1
   replace H := Option.bind_eq_some_iff.mp H
   obtain ⟨t275, A70, H⟩ := H
   replace H : (thermionref01_Check.j0 k t275 a0_0 a0_1 a0_2 l0_3) = some r := H
   have A7 := Aside0.mk A70
   clear A70
   have H' := Aside0.mk H
   clear H
   have hcz8_0 : w3.cell? ⟨gb273, 0, none⟩ = some (.int .i64 a0_0) := (blk_cell BK273.out 0).trans rfl
   have hcz8_1 : w3.cell? ⟨gb273, 1, none⟩ = some (.int .i64 a0_1) := (blk_cell BK273.out 1).trans rfl
   have hcz8_2 : w3.cell? ⟨gb273, 2, none⟩ = some (.bool a0_2) := (blk_cell BK273.out 2).trans rfl
   have hcz8_3 : w3.cell? ⟨gb273, 3, none⟩ = some (.slice A0_3 l0_3.length c0_3) := (blk_cell BK273.out 3).trans rfl
   have hfz8_0 := blk_frozen BK273.out 0
   have hfz8_1 := blk_frozen BK273.out 1
   have hfz8_2 := blk_frozen BK273.out 2
   have hfz8_3 := blk_frozen BK273.out 3
   go_wp2_with (first | ((with_reducible refine gate_callee (f := 73) rfl ?_); refine goesL_ (some 9) rfl rfl Try.func73 (by kernel_rfl) rfl #[.int .i64 a0_0, .int .i64 1, .int .i64 16] rfl (by (try simp only [List.map_toArray, List.map_cons, List.map_nil]); first | done | rfl | (simp only [List.length_drop, List.length_take]; rfl)) ?_; (with_reducible refine (thermionref01_beyond.calls a0_0 1 16 false _ A4.out).mono ?_); rintro e w' ⟨rfl, ⟨nd, rfl⟩⟩; refine ⟨_, rfl, ?_⟩) | (go_at_call 73; (with_reducible refine (thermionref01_beyond.calls a0_1 1 16 t275 _ A7.out).mono ?_); rintro e w' ⟨rfl, ⟨nd, rfl⟩⟩))
   go_meet
   case rel => exact ⟨_, (t275), (by first | rfl | (simp; done) | (simp [*]; done)), H', ⟨by first | omega | exact Nat.le_refl _⟩, ⟨by (with_reducible repeat (first | refine blk_drewN ?_ _ | refine blk_drew ?_ | refine blk_alloc ?_ _)); exact BK273.out⟩, ⟨by repeat (first | (with_reducible first | exact HB.out | apply below_alloc | apply pw_below_drewN | apply below_drew1 | refine below_set ?_ GE273.out) | exact HB.out)⟩⟩
 case rest =>
  clear HC2
  try clear c5
  try clear hcz6_0
  try clear hcz6_1
  try clear hcz6_2
  try clear hcz6_3
  try clear hcz8_0
  try clear hcz8_1
  try clear hcz8_2
  try clear hcz8_3
  try clear hfz6_0
  try clear hfz6_1
  try clear hfz6_2
  try clear hfz6_3
  try clear hfz8_0
  try clear hfz8_1
  try clear hfz8_2
  try clear hfz8_3
  obtain ⟨kq, x14_1, rfl, HA, HJ1, BK273, HB⟩ := hcut
  cases kq with
  | zero => exact absurd HA.out (by simp [thermionref01_Check.j0])
  | succ kj1 =>
   have H := HA.out
   clear HA
   simp only [thermionref01_Check.j0] at H
   by_cases c9 : x14_1 = true
   ·subst c9
    have H1 : (some 2) = some r := by rw [if_pos rfl] at H; exact H
    clear H
    have H := H1
    clear H1
    obtain rfl := Option.some.inj H
    go_wp2
    go_ret
    exact ⟨by first | rfl | (simp [errW_none, errW_some] <;> rfl) | (simp [*, errW_none, errW_some] <;> rfl), by repeat (first | (with_reducible first | exact HB.out | apply below_alloc | apply pw_below_drewN | apply below_drew1 | refine below_set ?_ GE273.out) | exact HB.out)⟩
   ·replace c9 := Bool.eq_false_iff.mpr c9
    subst c9
    have H1 : (if (l0_3.length : Int) = (wrap64 (a0_0 * a0_1)) then (thermionref01_Check.l0 kj1 false 0 a0_0 a0_1 a0_2 l0_3) else (some 3)) = some r := by rw [if_neg (show ¬ (false = true) by decide)] at H; exact H
    clear H
    have H := H1
    clear H1
    by_cases c10 : (l0_3.length : Int) = (wrap64 (a0_0 * a0_1))
    ·rw [if_pos c10] at H
     have c10b0 : ((l0_3.length : Int) == (wrap64 (a0_0 * a0_1))) = true := beq_iff_eq.mpr c10
     have c10b1 : ((l0_3.length : Int) != (wrap64 (a0_0 * a0_1))) = false := bne_eq_false_iff_eq.mpr c10
     clear c10
     have H' := Aside0.mk H
     clear H
     have hcz11_0 : wc.cell? ⟨gb273, 0, none⟩ = some (.int .i64 a0_0) := (blk_cell BK273.out 0).trans rfl
     have hcz11_1 : wc.cell? ⟨gb273, 1, none⟩ = some (.int .i64 a0_1) := (blk_cell BK273.out 1).trans rfl
     have hcz11_2 : wc.cell? ⟨gb273, 2, none⟩ = some (.bool a0_2) := (blk_cell BK273.out 2).trans rfl
     have hcz11_3 : wc.cell? ⟨gb273, 3, none⟩ = some (.slice A0_3 l0_3.length c0_3) := (blk_cell BK273.out 3).trans rfl
     have hfz11_0 := blk_frozen BK273.out 0
     have hfz11_1 := blk_frozen BK273.out 1
     have hfz11_2 := blk_frozen BK273.out 2
     have hfz11_3 := blk_frozen BK273.out 3
     go_wp2
     go_loopg [3, 4] kj1 (fun kq v3 v4 w' => ∃ (x3_2 : Bool) (x4_2 : Int), v3 = .bool x3_2 ∧ v4 = .int .i64 x4_2 ∧ Aside0 (thermionref01_Check.l0 kq x3_2 x4_2 a0_0 a0_1 a0_2 l0_3 = some r) ∧ Aside0 (kq ≤ kj1) ∧ Aside0 (w'.heap[gb273]? = some (.cells #[.int .i64 a0_0, .int .i64 a0_1, .bool a0_2, (.slice A0_3 l0_3.length c0_3)] 24 (0, 0))) ∧ Aside0 (Below w.heap.size w w'))
     case atStart => exact ⟨(false), (0), (by first | rfl | (simp; done) | (simp [*]; done)), (by first | rfl | (simp; done) | (simp [*]; done)), H', ⟨Nat.le_refl _⟩, ⟨by (with_reducible repeat (first | refine blk_drewN ?_ _ | refine blk_drew ?_ | refine blk_alloc ?_ _)); exact BK273.out⟩, ⟨by repeat (first | (with_reducible first | exact HB.out | apply below_alloc | apply pw_below_drewN | apply below_drew1 | refine below_set ?_ GE273.out) | exact HB.out)⟩⟩
     case round =>
      clear H'
      try clear c5
      try clear c9
      try clear c10
      try clear c10b0
      try clear c10b1
      try clear hcz11_0
      try clear hcz11_1
      try clear hcz11_2
      try clear hcz11_3
      try clear hcz6_0
      try clear hcz6_1
      try clear hcz6_2
      try clear hcz6_3
      try clear hcz8_0
      try clear hcz8_1
      try clear hcz8_2
      try clear hcz8_3
      try clear hfz11_0
      try clear hfz11_1
      try clear hfz11_2
      try clear hfz11_3
      try clear hfz6_0
      try clear hfz6_1
      try clear hfz6_2
      try clear hfz6_3
      try clear hfz8_0
      try clear hfz8_1
      try clear hfz8_2
      try clear hfz8_3
      obtain ⟨x3_2, x4_2, rfl, rfl, HA, HK2, BK273, HB⟩ := hrel
      cases gk with
      | zero => exact absurd HA.out (by simp [thermionref01_Check.l0])
      | succ k2 =>
       have H := HA.out
       clear HA
       simp only [thermionref01_Check.l0] at H
       by_cases c12 : x4_2 < (l0_3.length : Int)
       ·rw [if_pos c12] at H
        have c12b0 := decide_eq_true c12
        clear c12
        by_cases c13 : 0 ≤ x4_2
        ·rw [if_pos c13] at H
         have c13b0 := decide_eq_true c13
         clear c13
         replace H := Option.bind_eq_some_iff.mp H
         obtain ⟨t277, A140, H⟩ := H
         replace H : (if t277 = true then (some 2) else (if x3_2 = true then (thermionref01_Check.l0 k2 true (wrap64 (x4_2 + 1)) a0_0 a0_1 a0_2 l0_3) else (thermionref01_Check.l0 k2 (decide ((rd l0_3 x4_2) > 0)) (wrap64 (x4_2 + 1)) a0_0 a0_1 a0_2 l0_3))) = some r := H
         have A14 := Aside0.mk A140
         clear A140
         by_cases c15 : t277 = true
         ·subst c15
          have H1 : (some 2) = some r := by rw [if_pos rfl] at H; exact H
          clear H
          have H := H1
          clear H1
          obtain rfl := Option.some.inj H
          have hcz16_0 : wr.cell? ⟨gb273, 0, none⟩ = some (.int .i64 a0_0) := (blk_cell BK273.out 0).trans rfl
          have hcz16_1 : wr.cell? ⟨gb273, 1, none⟩ = some (.int .i64 a0_1) := (blk_cell BK273.out 1).trans rfl
          have hcz16_2 : wr.cell? ⟨gb273, 2, none⟩ = some (.bool a0_2) := (blk_cell BK273.out 2).trans rfl
          have hcz16_3 : wr.cell? ⟨gb273, 3, none⟩ = some (.slice A0_3 l0_3.length c0_3) := (blk_cell BK273.out 3).trans rfl
          have hfz16_0 := blk_frozen BK273.out 0
          have hfz16_1 := blk_frozen BK273.out 1
          have hfz16_2 := blk_frozen BK273.out 2
          have hfz16_3 := blk_frozen BK273.out 3
          have p276 : 0 ≤ (x4_2 : Int) := of_decide_eq_true (by first | (with_reducible assumption) | assumption)
          have q276 : x4_2 < (l0_3.length : Int) := of_decide_eq_true (by first | (with_reducible assumption) | assumption)
          obtain ⟨ad276, e276, hx276_0⟩ := Kd.at_int HR0_3.out x4_2 p276 q276
          cases e276
          replace hx276_0 := (HB.out.cell (World.block_lt_of_cell? w _ hx276_0)).trans hx276_0
          replace p276 := eq_true p276
          replace q276 := eq_true q276
          go_wp2_with (first | ((with_reducible refine gate_callee (f := 73) rfl ?_); refine goesL_ (some 36) rfl rfl Try.func73 (by kernel_rfl) rfl #[.int .i64 (rd l0_3 x4_2), .int .i64 0, .int .i64 6] rfl (by (try simp only [List.map_toArray, List.map_cons, List.map_nil]); first | done | rfl | (simp only [List.length_drop, List.length_take]; rfl)) ?_; (with_reducible refine (thermionref01_beyond.calls (rd l0_3 x4_2) 0 6 true _ A14.out).mono ?_); rintro e w' ⟨rfl, ⟨nd, rfl⟩⟩; refine ⟨_, rfl, ?_⟩))
          go_ret
          exact ⟨by first | rfl | (simp [errW_none, errW_some] <;> rfl) | (simp [*, errW_none, errW_some] <;> rfl), by repeat (first | (with_reducible first | exact HB.out | apply below_alloc | apply pw_below_drewN | apply below_drew1 | refine below_set ?_ GE273.out) | exact HB.out)⟩
         ·replace c15 := Bool.eq_false_iff.mpr c15
          subst c15
          have H1 : (if x3_2 = true then (thermionref01_Check.l0 k2 true (wrap64 (x4_2 + 1)) a0_0 a0_1 a0_2 l0_3) else (thermionref01_Check.l0 k2 (decide ((rd l0_3 x4_2) > 0)) (wrap64 (x4_2 + 1)) a0_0 a0_1 a0_2 l0_3)) = some r := by rw [if_neg (show ¬ (false = true) by decide)] at H; exact H
          clear H
          have H := H1
          clear H1
          by_cases c17 : x3_2 = true
          ·subst c17
           have H1 : (thermionref01_Check.l0 k2 true (wrap64 (x4_2 + 1)) a0_0 a0_1 a0_2 l0_3) = some r := by rw [if_pos rfl] at H; exact H
           clear H
           have H := H1
           clear H1
           have H' := Aside0.mk H
           clear H
           have hcz18_0 : wr.cell? ⟨gb273, 0, none⟩ = some (.int .i64 a0_0) := (blk_cell BK273.out 0).trans rfl
           have hcz18_1 : wr.cell? ⟨gb273, 1, none⟩ = some (.int .i64 a0_1) := (blk_cell BK273.out 1).trans rfl
           have hcz18_2 : wr.cell? ⟨gb273, 2, none⟩ = some (.bool a0_2) := (blk_cell BK273.out 2).trans rfl
           have hcz18_3 : wr.cell? ⟨gb273, 3, none⟩ = some (.slice A0_3 l0_3.length c0_3) := (blk_cell BK273.out 3).trans rfl
           have hfz18_0 := blk_frozen BK273.out 0
           have hfz18_1 := blk_frozen BK273.out 1
           have hfz18_2 := blk_frozen BK273.out 2
           have hfz18_3 := blk_frozen BK273.out 3
           have p276 : 0 ≤ (x4_2 : Int) := of_decide_eq_true (by first | (with_reducible assumption) | assumption)
           have q276 : x4_2 < (l0_3.length : Int) := of_decide_eq_true (by first | (with_reducible assumption) | assumption)
           obtain ⟨ad276, e276, hx276_0⟩ := Kd.at_int HR0_3.out x4_2 p276 q276
           cases e276
           replace hx276_0 := (HB.out.cell (World.block_lt_of_cell? w _ hx276_0)).trans hx276_0
           replace p276 := eq_true p276
           replace q276 := eq_true q276
           go_wp2_with (first | ((with_reducible refine gate_callee (f := 73) rfl ?_); refine goesL_ (some 36) rfl rfl Try.func73 (by kernel_rfl) rfl #[.int .i64 (rd l0_3 x4_2), .int .i64 0, .int .i64 6] rfl (by (try simp only [List.map_toArray, List.map_cons, List.map_nil]); first | done | rfl | (simp only [List.length_drop, List.length_take]; rfl)) ?_; (with_reducible refine (thermionref01_beyond.calls (rd l0_3 x4_2) 0 6 false _ A14.out).mono ?_); rintro e w' ⟨rfl, ⟨nd, rfl⟩⟩; refine ⟨_, rfl, ?_⟩))
           go_roundg k2
           case measure => have := HJ1.out; have := HK2.out; omega
           case rel => exact ⟨(true), (wrap64 (x4_2 + 1)), (by first | rfl | (simp; done) | (simp [*]; done)), (by first | rfl | (simp; done) | (simp [*]; done)), H', ⟨by have := HJ1.out; have := HK2.out; omega⟩, ⟨by (with_reducible repeat (first | refine blk_drewN ?_ _ | refine blk_drew ?_ | refine blk_alloc ?_ _)); exact BK273.out⟩, ⟨by repeat (first | (with_reducible first | exact HB.out | apply below_alloc | apply pw_below_drewN | apply below_drew1 | refine below_set ?_ GE273.out) | exact HB.out)⟩⟩
          ·replace c17 := Bool.eq_false_iff.mpr c17
           subst c17
           have H1 : (thermionref01_Check.l0 k2 (decide ((rd l0_3 x4_2) > 0)) (wrap64 (x4_2 + 1)) a0_0 a0_1 a0_2 l0_3) = some r := by rw [if_neg (show ¬ (false = true) by decide)] at H; exact H
           clear H
           have H := H1
           clear H1
           have H' := Aside0.mk H
           clear H
           have hcz19_0 : wr.cell? ⟨gb273, 0, none⟩ = some (.int .i64 a0_0) := (blk_cell BK273.out 0).trans rfl
           have hcz19_1 : wr.cell? ⟨gb273, 1, none⟩ = some (.int .i64 a0_1) := (blk_cell BK273.out 1).trans rfl
           have hcz19_2 : wr.cell? ⟨gb273, 2, none⟩ = some (.bool a0_2) := (blk_cell BK273.out 2).trans rfl
           have hcz19_3 : wr.cell? ⟨gb273, 3, none⟩ = some (.slice A0_3 l0_3.length c0_3) := (blk_cell BK273.out 3).trans rfl
           have hfz19_0 := blk_frozen BK273.out 0
           have hfz19_1 := blk_frozen BK273.out 1
           have hfz19_2 := blk_frozen BK273.out 2
           have hfz19_3 := blk_frozen BK273.out 3
           have p276 : 0 ≤ (x4_2 : Int) := of_decide_eq_true (by first | (with_reducible assumption) | assumption)
           have q276 : x4_2 < (l0_3.length : Int) := of_decide_eq_true (by first | (with_reducible assumption) | assumption)
           obtain ⟨ad276, e276, hx276_0⟩ := Kd.at_int HR0_3.out x4_2 p276 q276
           cases e276
           replace hx276_0 := (HB.out.cell (World.block_lt_of_cell? w _ hx276_0)).trans hx276_0
           replace p276 := eq_true p276
           replace q276 := eq_true q276
           go_wp2_with (first | ((with_reducible refine gate_callee (f := 73) rfl ?_); refine goesL_ (some 36) rfl rfl Try.func73 (by kernel_rfl) rfl #[.int .i64 (rd l0_3 x4_2), .int .i64 0, .int .i64 6] rfl (by (try simp only [List.map_toArray, List.map_cons, List.map_nil]); first | done | rfl | (simp only [List.length_drop, List.length_take]; rfl)) ?_; (with_reducible refine (thermionref01_beyond.calls (rd l0_3 x4_2) 0 6 false _ A14.out).mono ?_); rintro e w' ⟨rfl, ⟨nd, rfl⟩⟩; refine ⟨_, rfl, ?_⟩; have p278 : 0 ≤ (x4_2 : Int) := of_decide_eq_true (by first | (with_reducible assumption) | assumption); have q278 : x4_2 < (l0_3.length : Int) := of_decide_eq_true (by first | (with_reducible assumption) | assumption); obtain ⟨ad278, e278, hx278_0⟩ := Kd.at_int HR0_3.out x4_2 p278 q278; obtain rfl : ad276 = ad278 := (by injection e278); replace hx278_0 := (HB.out.cell (World.block_lt_of_cell? w _ hx278_0)).trans hx278_0; replace p278 := eq_true p278; replace q278 := eq_true q278))
           go_roundg k2
           case measure => have := HJ1.out; have := HK2.out; omega
           case rel => exact ⟨(decide ((rd l0_3 x4_2) > 0)), (wrap64 (x4_2 + 1)), (by first | rfl | (simp; done) | (simp [*]; done)), (by first | rfl | (simp; done) | (simp [*]; done)), H', ⟨by have := HJ1.out; have := HK2.out; omega⟩, ⟨by (with_reducible repeat (first | refine blk_drewN ?_ _ | refine blk_drew ?_ | refine blk_alloc ?_ _)); exact BK273.out⟩, ⟨by repeat (first | (with_reducible first | exact HB.out | apply below_alloc | apply pw_below_drewN | apply below_drew1 | refine below_set ?_ GE273.out) | exact HB.out)⟩⟩
        ·rw [if_neg c13] at H
         exact absurd H (by simp)
       ·rw [if_neg c12] at H
        have c12b0 := decide_eq_false c12
        clear c12
        by_cases c20 : x3_2 = true
        ·subst c20
         have H1 : ((thermionref01_held.f k2 a0_0 a0_1 a0_2 l0_3).bind fun t279 => (thermionref01_Check.l1 k2 t279 0)) = some r := by rw [if_pos rfl] at H; exact H
         clear H
         have H := H1
         clear H1
         replace H := Option.bind_eq_some_iff.mp H
         obtain ⟨t279, A210, H⟩ := H
         replace H : (thermionref01_Check.l1 k2 t279 0) = some r := H
         have A21 := Aside0.mk A210
         clear A210
         have H' := Aside0.mk H
         clear H
         have hcz22_0 : wr.cell? ⟨gb273, 0, none⟩ = some (.int .i64 a0_0) := (blk_cell BK273.out 0).trans rfl
         have hcz22_1 : wr.cell? ⟨gb273, 1, none⟩ = some (.int .i64 a0_1) := (blk_cell BK273.out 1).trans rfl
         have hcz22_2 : wr.cell? ⟨gb273, 2, none⟩ = some (.bool a0_2) := (blk_cell BK273.out 2).trans rfl
         have hcz22_3 : wr.cell? ⟨gb273, 3, none⟩ = some (.slice A0_3 l0_3.length c0_3) := (blk_cell BK273.out 3).trans rfl
         have hfz22_0 := blk_frozen BK273.out 0
         have hfz22_1 := blk_frozen BK273.out 1
         have hfz22_2 := blk_frozen BK273.out 2
         have hfz22_3 := blk_frozen BK273.out 3
         go_wp2_with (first | ((with_reducible refine gate_callee (f := 84) rfl ?_); refine goesL_ (some 49) rfl rfl Try.func84 (by kernel_rfl) rfl #[.agg #[.int .i64 a0_0, .int .i64 a0_1, .bool a0_2, .slice A0_3 l0_3.length c0_3]] rfl (by (try simp only [List.map_toArray, List.map_cons, List.map_nil]); first | done | rfl | (simp only [List.length_drop, List.length_take]; rfl)) ?_; (with_reducible refine (thermionref01_held.calls k2 a0_0 a0_1 a0_2 _ _ l0_3 t279 _ ?side1 ?side2 A21.out).mono ?_); (case side1 => repeat (first | exact (Kd.C_below HR0_3.out HB.out) | (with_reducible refine Kd.C_alloc ?_ _) | (with_reducible refine Kd.C_drewN ?_ _) | (with_reducible refine Kd.C_drew ?_))); (case side2 => exact HC0_3.out); rintro e w23 ⟨v280, rfl, ho0, hb⟩; refine ⟨_, rfl, ?_⟩; have n0_ := Aside0.mk (Kd.R_lower ho0 (below_size (by repeat (first | (with_reducible first | exact HB.out | apply below_alloc | apply pw_below_drewN | apply below_drew1 | refine below_set ?_ GE273.out) | exact HB.out)))); have n1_ := Aside0.mk (blk_below (g := gb273) (o := .cells #[.int .i64 a0_0, .int .i64 a0_1, .bool a0_2, .slice A0_3 l0_3.length c0_3] 24 (0, 0)) (by (with_reducible repeat (first | refine blk_drewN ?_ _ | refine blk_drew ?_ | refine blk_alloc ?_ _)); exact BK273.out) hb); have n2_ := Aside0.mk (below_step (by repeat (first | (with_reducible first | exact HB.out | apply below_alloc | apply pw_below_drewN | apply below_drew1 | refine below_set ?_ GE273.out) | exact HB.out)) hb); clear BK273; clear HB; have HO281 := n0_; have BK273 := n1_; have HB := n2_; clear n0_ n1_ n2_; (try clear hb hk hi); (try clear ho0)))
         go_loopg [6] k2 (fun kq v6 w' => ∃ (x6_3 : Int), v6 = .int .i64 x6_3 ∧ Aside0 (thermionref01_Check.l1 kq t279 x6_3 = some r) ∧ Aside0 (kq ≤ k2) ∧ Aside0 (Kd.R Kd.bool 4 w' w.heap.size (fun _ => True) v280 t279) ∧ Aside0 (w'.heap[gb273]? = some (.cells #[.int .i64 a0_0, .int .i64 a0_1, .bool a0_2, (.slice A0_3 l0_3.length c0_3)] 24 (0, 0))) ∧ Aside0 (Below w.heap.size w w'))
         case atStart => exact ⟨(0), (by first | rfl | (simp; done) | (simp [*]; done)), H', ⟨Nat.le_refl _⟩, ⟨by (with_reducible repeat (first | apply Kd.R_alloc | apply Kd.R_drewN | apply Kd.R_drew)); exact HO281.out⟩, ⟨by (with_reducible repeat (first | refine blk_drewN ?_ _ | refine blk_drew ?_ | refine blk_alloc ?_ _)); exact BK273.out⟩, ⟨by repeat (first | (with_reducible first | exact HB.out | apply below_alloc | apply pw_below_drewN | apply below_drew1 | refine below_set ?_ GE273.out) | exact HB.out)⟩⟩
         case round =>
          clear H'
          try clear c5
          try clear c9
          try clear c10
          try clear c10b0
          try clear c10b1
          try clear c12
          try clear c12b0
          try clear c13
          try clear c13b0
          try clear c15
          try clear c17
          try clear c20
          try clear hcz11_0
          try clear hcz11_1
          try clear hcz11_2
          try clear hcz11_3
          try clear hcz16_0
          try clear hcz16_1
          try clear hcz16_2
          try clear hcz16_3
          try clear hcz18_0
          try clear hcz18_1
          try clear hcz18_2
          try clear hcz18_3
          try clear hcz19_0
          try clear hcz19_1
          try clear hcz19_2
          try clear hcz19_3
          try clear hcz22_0
          try clear hcz22_1
          try clear hcz22_2
          try clear hcz22_3
          try clear hcz6_0
          try clear hcz6_1
          try clear hcz6_2
          try clear hcz6_3
          try clear hcz8_0
          try clear hcz8_1
          try clear hcz8_2
          try clear hcz8_3
          try clear hfz11_0
          try clear hfz11_1
          try clear hfz11_2
          try clear hfz11_3
          try clear hfz16_0
          try clear hfz16_1
          try clear hfz16_2
          try clear hfz16_3
          try clear hfz18_0
          try clear hfz18_1
          try clear hfz18_2
          try clear hfz18_3
          try clear hfz19_0
          try clear hfz19_1
          try clear hfz19_2
          try clear hfz19_3
          try clear hfz22_0
          try clear hfz22_1
          try clear hfz22_2
          try clear hfz22_3
          try clear hfz6_0
          try clear hfz6_1
          try clear hfz6_2
          try clear hfz6_3
          try clear hfz8_0
          try clear hfz8_1
          try clear hfz8_2
          try clear hfz8_3
          try clear hx276_0
          try clear hx278_0
          try clear p276
          try clear p278
          try clear q276
          try clear q278
          obtain ⟨x6_3, rfl, HA, HK3, HO_5, BK273, HB⟩ := hrel
          cases gk with
          | zero => exact absurd HA.out (by simp [thermionref01_Check.l1])
          | succ k3 =>
           have H := HA.out
           clear HA
           simp only [thermionref01_Check.l1] at H
           by_cases c24 : x6_3 < (t279.length : Int)
           ·rw [if_pos c24] at H
            have c24b0 := decide_eq_true c24
            clear c24
            by_cases c25 : 0 ≤ x6_3
            ·rw [if_pos c25] at H
             have c25b0 := decide_eq_true c25
             clear c25
             obtain ⟨bq26, hbq26⟩ : ∃ b_ : Bool, b_ = (rdOf false t279 x6_3) := ⟨_, rfl⟩
             replace H : (if bq26 = true then (thermionref01_Check.l1 k3 t279 (wrap64 (x6_3 + 1))) else (some 13)) = some r := by rw [← hbq26] at H; exact H
             have Nbq26 := Aside0.mk hbq26
             clear hbq26
             by_cases c27 : bq26 = true
             ·subst c27
              have H1 : (thermionref01_Check.l1 k3 t279 (wrap64 (x6_3 + 1))) = some r := by rw [if_pos rfl] at H; exact H
              clear H
              have H := H1
              clear H1
              have H' := Aside0.mk H
              clear H
              obtain ⟨Ao28, co28, eo28⟩ := Kd.R_slice HO_5.out
              subst eo28
              have p282 : 0 ≤ (x6_3 : Int) := of_decide_eq_true (by first | (with_reducible assumption) | assumption)
              have q282 : x6_3 < (t279.length : Int) := of_decide_eq_true (by first | (with_reducible assumption) | assumption)
              obtain ⟨ad282, e282, hx282_0⟩ := Kd.at_bool (Kd.R_reads' HO_5.out).2.2 x6_3 p282 q282
              (try rw [← Nbq26.out] at hx282_0)
              cases e282
              replace p282 := eq_true p282
              replace q282 := eq_true q282
              go_wp2
              go_roundg k3
              case measure => have := HJ1.out; have := HK2.out; have := HK3.out; omega
              case rel => exact ⟨(wrap64 (x6_3 + 1)), (by first | rfl | (simp; done) | (simp [*]; done)), H', ⟨by have := HJ1.out; have := HK2.out; have := HK3.out; omega⟩, ⟨by (with_reducible repeat (first | apply Kd.R_alloc | apply Kd.R_drewN | apply Kd.R_drew)); exact HO_5.out⟩, ⟨by (with_reducible repeat (first | refine blk_drewN ?_ _ | refine blk_drew ?_ | refine blk_alloc ?_ _)); exact BK273.out⟩, ⟨by repeat (first | (with_reducible first | exact HB.out | apply below_alloc | apply pw_below_drewN | apply below_drew1 | refine below_set ?_ GE273.out) | exact HB.out)⟩⟩
             ·replace c27 := Bool.eq_false_iff.mpr c27
              subst c27
              have H1 : (some 13) = some r := by rw [if_neg (show ¬ (false = true) by decide)] at H; exact H
              clear H
              have H := H1
              clear H1
              obtain rfl := Option.some.inj H
              obtain ⟨Ao29, co29, eo29⟩ := Kd.R_slice HO_5.out
              subst eo29
              have p282 : 0 ≤ (x6_3 : Int) := of_decide_eq_true (by first | (with_reducible assumption) | assumption)
              have q282 : x6_3 < (t279.length : Int) := of_decide_eq_true (by first | (with_reducible assumption) | assumption)
              obtain ⟨ad282, e282, hx282_0⟩ := Kd.at_bool (Kd.R_reads' HO_5.out).2.2 x6_3 p282 q282
              (try rw [← Nbq26.out] at hx282_0)
              cases e282
              replace p282 := eq_true p282
              replace q282 := eq_true q282
              go_wp2
              go_ret
              exact ⟨by first | rfl | (simp [errW_none, errW_some] <;> rfl) | (simp [*, errW_none, errW_some] <;> rfl), by repeat (first | (with_reducible first | exact HB.out | apply below_alloc | apply pw_below_drewN | apply below_drew1 | refine below_set ?_ GE273.out) | exact HB.out)⟩
            ·rw [if_neg c25] at H
             exact absurd H (by simp)
           ·rw [if_neg c24] at H
            have c24b0 := decide_eq_false c24
            clear c24
            obtain rfl := Option.some.inj H
            obtain ⟨Ao30, co30, eo30⟩ := Kd.R_slice HO_5.out
            subst eo30
            go_wp2
            go_ret
            exact ⟨by first | rfl | (simp [errW_none, errW_some] <;> rfl) | (simp [*, errW_none, errW_some] <;> rfl), by repeat (first | (with_reducible first | exact HB.out | apply below_alloc | apply pw_below_drewN | apply below_drew1 | refine below_set ?_ GE273.out) | exact HB.out)⟩
        ·replace c20 := Bool.eq_false_iff.mpr c20
         subst c20
         have H1 : (some 7) = some r := by rw [if_neg (show ¬ (false = true) by decide)] at H; exact H
         clear H
         have H := H1
         clear H1
         obtain rfl := Option.some.inj H
         have hcz31_0 : wr.cell? ⟨gb273, 0, none⟩ = some (.int .i64 a0_0) := (blk_cell BK273.out 0).trans rfl
         have hcz31_1 : wr.cell? ⟨gb273, 1, none⟩ = some (.int .i64 a0_1) := (blk_cell BK273.out 1).trans rfl
         have hcz31_2 : wr.cell? ⟨gb273, 2, none⟩ = some (.bool a0_2) := (blk_cell BK273.out 2).trans rfl
         have hcz31_3 : wr.cell? ⟨gb273, 3, none⟩ = some (.slice A0_3 l0_3.length c0_3) := (blk_cell BK273.out 3).trans rfl
         have hfz31_0 := blk_frozen BK273.out 0
         have hfz31_1 := blk_frozen BK273.out 1
         have hfz31_2 := blk_frozen BK273.out 2
         have hfz31_3 := blk_frozen BK273.out 3
         go_wp2
         go_ret
         exact ⟨by first | rfl | (simp [errW_none, errW_some] <;> rfl) | (simp [*, errW_none, errW_some] <;> rfl), by repeat (first | (with_reducible first | exact HB.out | apply below_alloc | apply pw_below_drewN | apply below_drew1 | refine below_set ?_ GE273.out) | exact HB.out)⟩
    ·rw [if_neg c10] at H
     have c10b0 : ((l0_3.length : Int) == (wrap64 (a0_0 * a0_1))) = false := beq_eq_false_iff_ne.mpr c10
     have c10b1 : ((l0_3.length : Int) != (wrap64 (a0_0 * a0_1))) = true := bne_iff_ne.mpr c10
     obtain rfl := Option.some.inj H
     have hcz32_0 : wc.cell? ⟨gb273, 0, none⟩ = some (.int .i64 a0_0) := (blk_cell BK273.out 0).trans rfl
     have hcz32_1 : wc.cell? ⟨gb273, 1, none⟩ = some (.int .i64 a0_1) := (blk_cell BK273.out 1).trans rfl
     have hcz32_2 : wc.cell? ⟨gb273, 2, none⟩ = some (.bool a0_2) := (blk_cell BK273.out 2).trans rfl
     have hcz32_3 : wc.cell? ⟨gb273, 3, none⟩ = some (.slice A0_3 l0_3.length c0_3) := (blk_cell BK273.out 3).trans rfl
     have hfz32_0 := blk_frozen BK273.out 0
     have hfz32_1 := blk_frozen BK273.out 1
     have hfz32_2 := blk_frozen BK273.out 2
     have hfz32_3 := blk_frozen BK273.out 3
     go_wp2
     go_ret
     exact ⟨by first | rfl | (simp [errW_none, errW_some] <;> rfl) | (simp [*, errW_none, errW_some] <;> rfl), by repeat (first | (with_reducible first | exact HB.out | apply below_alloc | apply pw_below_drewN | apply below_drew1 | refine below_set ?_ GE273.out) | exact HB.out)⟩


def thermionref01_Weight.f (k : Nat) (a0_0 : Int) (a0_1 : Int) (a0_2 : Bool) (l0_3 : List Int) (a1 : Int) (a2 : Int) : Option (Int) := (thermionref01_Check.f k a0_0 a0_1 a0_2 l0_3).bind fun t309 => (if t309 = 0 then ((thermionref01_weight.f k a0_0 a0_1 a0_2 l0_3 a1 a2).bind fun t310 => (some t310)) else (some 0))
theorem thermionref01_Weight.calls (k : Nat) (a0_0 : Int) (a0_1 : Int) (a0_2 : Bool) (A0_3 : Option Addr) (c0_3 : Nat) (l0_3 : List Int) (a1 : Int) (a2 : Int) (r : Int) (w : World) (hr0_3 : Kd.C (Kd.int .i64) w A0_3 l0_3.length l0_3) (hc0_3 : l0_3.length ≤ c0_3) (h : thermionref01_Weight.f k a0_0 a0_1 a0_2 l0_3 a1 a2 = some r) :
  Calls Try.prog 33 #[.agg #[.int .i64 a0_0, .int .i64 a0_1, .bool a0_2, .slice A0_3 l0_3.length c0_3], .int .i64 a1, .int .i64 a2] w fun e w' => e = .returned (.int .i64 r) ∧ Below w.heap.size w w' := by
 have hu24 := Try.underlying24
 have HR0_3 := Aside0.mk hr0_3
 have HC0_3 := Aside0.mk hc0_3
 clear hr0_3 hc0_3
 have HB := Aside0.mk (Below.refl w.heap.size w)
 have H : ((thermionref01_Check.f k a0_0 a0_1 a0_2 l0_3).bind fun t309 => (if t309 = 0 then ((thermionref01_weight.f k a0_0 a0_1 a0_2 l0_3 a1 a2).bind fun t310 => (some t310)) else (some 0))) = some r := h
 clear h
 replace H := Option.bind_eq_some_iff.mp H
 obtain ⟨t309, A40, H⟩ := H
 replace H : (if t309 = 0 then ((thermionref01_weight.f k a0_0 a0_1 a0_2 l0_3 a1 a2).bind fun t310 => (some t310)) else (some 0)) = some r := H
 have A4 := Aside0.mk A40
 clear A40
 by_cases c5 : t309 = 0
 ·rw [if_pos c5] at H
  have c5b0 : (t309 == 0) = true := beq_iff_eq.mpr c5
  have c5b1 : (t309 != 0) = false := bne_eq_false_iff_eq.mpr c5
  clear c5
  replace H := Option.bind_eq_some_iff.mp H
  obtain ⟨t310, A60, H⟩ := H
  replace H : (some t310) = some r := H
  have A6 := Aside0.mk A60
  clear A60
  obtain rfl := Option.some.inj H
  go_enter Try.func33, Try.ntmps33
  go_wp2_with (first | ((with_reducible refine gate_dst (N := 3) rfl ?_); refine box_event ?hg (N := 3) ?hd (cs := #[.int .i64 a0_0, .int .i64 a0_1, .bool a0_2, .slice A0_3 l0_3.length c0_3]) (t := 24) ?hr ?_; (case hd => rfl); (case hg => rfl); (case hr => first | (go_simp; done) | (go_simp; rfl)); intro gb308 hg w7 hbox hb; have n0_ := Aside0.mk (below_step (by repeat (first | (with_reducible first | exact HB.out | apply below_alloc | apply pw_below_drewN | apply below_drew1) | exact HB.out)) hb); have n1_ := Aside0.mk (hbox); have n2_ := Aside0.mk ((by rw [hg]; exact (below_size (by repeat (first | (with_reducible first | exact HB.out | apply below_alloc | apply pw_below_drewN | apply below_drew1) | exact HB.out))) : w.heap.size ≤ gb308)); have n3_ := Aside0.mk ((by rw [hg]; exact (below_size (by repeat (first | (with_reducible first | exact HB.out | apply below_alloc | apply pw_below_drewN | apply below_drew1) | exact HB.out))) : w.heap.size ≤ gb308)); clear HB; have HB := n0_; have BK308 := n1_; have GW308 := n2_; have GE308 := n3_; clear n0_ n1_ n2_ n3_; clear hb hbox hg; have hcz8_0 : w7.cell? ⟨gb308, 0, none⟩ = some (.int .i64 a0_0) := (blk_cell BK308.out 0).trans rfl; have hcz8_1 : w7.cell? ⟨gb308, 1, none⟩ = some (.int .i64 a0_1) := (blk_cell BK308.out 1).trans rfl; have hcz8_2 : w7.cell? ⟨gb308, 2, none⟩ = some (.bool a0_2) := (blk_cell BK308.out 2).trans rfl; have hcz8_3 : w7.cell? ⟨gb308, 3, none⟩ = some (.slice A0_3 l0_3.length c0_3) := (blk_cell BK308.out 3).trans rfl; have hfz8_0 := blk_frozen BK308.out 0; have hfz8_1 := blk_frozen BK308.out 1; have hfz8_2 := blk_frozen BK308.out 2; have hfz8_3 := blk_frozen BK308.out 3) | ((with_reducible refine gate_callee (f := 40) rfl ?_); refine goesL_ (some 8) rfl rfl Try.func40 (by kernel_rfl) rfl #[.agg #[.int .i64 a0_0, .int .i64 a0_1, .bool a0_2, .slice A0_3 l0_3.length c0_3]] rfl (by (try simp only [List.map_toArray, List.map_cons, List.map_nil]); first | done | rfl | (simp only [List.length_drop, List.length_take]; rfl)) ?_; (with_reducible refine (thermionref01_Check.calls k a0_0 a0_1 a0_2 _ _ l0_3 t309 _ ?side1 ?side2 A4.out).mono ?_); (case side1 => repeat (first | exact (Kd.C_below HR0_3.out HB.out) | (with_reducible refine Kd.C_alloc ?_ _) | (with_reducible refine Kd.C_drewN ?_ _) | (with_reducible refine Kd.C_drew ?_))); (case side2 => exact HC0_3.out); rintro e w9 ⟨rfl, hb⟩; refine ⟨_, rfl, ?_⟩; have n0_ := Aside0.mk (blk_below (g := gb308) (o := .cells #[.int .i64 a0_0, .int .i64 a0_1, .bool a0_2, .slice A0_3 l0_3.length c0_3] 24 (0, 0)) (by (with_reducible repeat (first | refine blk_drewN ?_ _ | refine blk_drew ?_ | refine blk_alloc ?_ _)); exact BK308.out) hb); have n1_ := Aside0.mk (below_step (by repeat (first | (with_reducible first | exact HB.out | apply below_alloc | apply pw_below_drewN | apply below_drew1 | refine below_set ?_ GE308.out) | exact HB.out)) hb); clear BK308; clear HB; have BK308 := n0_; have HB := n1_; clear n0_ n1_; (try clear hb hk hi); have hcz10_0 : w9.cell? ⟨gb308, 0, none⟩ = some (.int .i64 a0_0) := (blk_cell BK308.out 0).trans rfl; have hcz10_1 : w9.cell? ⟨gb308, 1, none⟩ = some (.int .i64 a0_1) := (blk_cell BK308.out 1).trans rfl; have hcz10_2 : w9.cell? ⟨gb308, 2, none⟩ = some (.bool a0_2) := (blk_cell BK308.out 2).trans rfl; have hcz10_3 : w9.cell? ⟨gb308, 3, none⟩ = some (.slice A0_3 l0_3.length c0_3) := (blk_cell BK308.out 3).trans rfl; have hfz10_0 := blk_frozen BK308.out 0; have hfz10_1 := blk_frozen BK308.out 1; have hfz10_2 := blk_frozen BK308.out 2; have hfz10_3 := blk_frozen BK308.out 3) | ((with_reducible refine gate_callee (f := 81) rfl ?_); refine goesL_ (some 13) rfl rfl Try.func81 (by kernel_rfl) rfl #[.agg #[.int .i64 a0_0, .int .i64 a0_1, .bool a0_2, .slice A0_3 l0_3.length c0_3], .int .i64 a1, .int .i64 a2] rfl (by (try simp only [List.map_toArray, List.map_cons, List.map_nil]); first | done | rfl | (simp only [List.length_drop, List.length_take]; rfl)) ?_; (with_reducible refine (thermionref01_weight.calls k a0_0 a0_1 a0_2 _ _ l0_3 a1 a2 t310 _ ?side1 ?side2 A6.out).mono ?_); (case side1 => repeat (first | exact (Kd.C_below HR0_3.out HB.out) | (with_reducible refine Kd.C_alloc ?_ _) | (with_reducible refine Kd.C_drewN ?_ _) | (with_reducible refine Kd.C_drew ?_))); (case side2 => exact HC0_3.out); rintro e w11 ⟨rfl, hb⟩; refine ⟨_, rfl, ?_⟩; have n0_ := Aside0.mk (blk_below (g := gb308) (o := .cells #[.int .i64 a0_0, .int .i64 a0_1, .bool a0_2, .slice A0_3 l0_3.length c0_3] 24 (0, 0)) (by (with_reducible repeat (first | refine blk_drewN ?_ _ | refine blk_drew ?_ | refine blk_alloc ?_ _)); exact BK308.out) hb); have n1_ := Aside0.mk (below_step (by repeat (first | (with_reducible first | exact HB.out | apply below_alloc | apply pw_below_drewN | apply below_drew1 | refine below_set ?_ GE308.out) | exact HB.out)) hb); clear BK308; clear HB; have BK308 := n0_; have HB := n1_; clear n0_ n1_; (try clear hb hk hi)))
  go_ret
  exact ⟨by first | rfl | (simp [errW_none, errW_some] <;> rfl) | (simp [*, errW_none, errW_some] <;> rfl), by repeat (first | (with_reducible first | exact HB.out | apply below_alloc | apply pw_below_drewN | apply below_drew1 | refine below_set ?_ GE308.out) | exact HB.out)⟩
 ·rw [if_neg c5] at H
  have c5b0 : (t309 == 0) = false := beq_eq_false_iff_ne.mpr c5
  have c5b1 : (t309 != 0) = true := bne_iff_ne.mpr c5
  obtain rfl := Option.some.inj H
  go_enter Try.func33, Try.ntmps33
  go_wp2_with (first | ((with_reducible refine gate_dst (N := 3) rfl ?_); refine box_event ?hg (N := 3) ?hd (cs := #[.int .i64 a0_0, .int .i64 a0_1, .bool a0_2, .slice A0_3 l0_3.length c0_3]) (t := 24) ?hr ?_; (case hd => rfl); (case hg => rfl); (case hr => first | (go_simp; done) | (go_simp; rfl)); intro gb308 hg w12 hbox hb; have n0_ := Aside0.mk (below_step (by repeat (first | (with_reducible first | exact HB.out | apply below_alloc | apply pw_below_drewN | apply below_drew1) | exact HB.out)) hb); have n1_ := Aside0.mk (hbox); have n2_ := Aside0.mk ((by rw [hg]; exact (below_size (by repeat (first | (with_reducible first | exact HB.out | apply below_alloc | apply pw_below_drewN | apply below_drew1) | exact HB.out))) : w.heap.size ≤ gb308)); have n3_ := Aside0.mk ((by rw [hg]; exact (below_size (by repeat (first | (with_reducible first | exact HB.out | apply below_alloc | apply pw_below_drewN | apply below_drew1) | exact HB.out))) : w.heap.size ≤ gb308)); clear HB; have HB := n0_; have BK308 := n1_; have GW308 := n2_; have GE308 := n3_; clear n0_ n1_ n2_ n3_; clear hb hbox hg; have hcz13_0 : w12.cell? ⟨gb308, 0, none⟩ = some (.int .i64 a0_0) := (blk_cell BK308.out 0).trans rfl; have hcz13_1 : w12.cell? ⟨gb308, 1, none⟩ = some (.int .i64 a0_1) := (blk_cell BK308.out 1).trans rfl; have hcz13_2 : w12.cell? ⟨gb308, 2, none⟩ = some (.bool a0_2) := (blk_cell BK308.out 2).trans rfl; have hcz13_3 : w12.cell? ⟨gb308, 3, none⟩ = some (.slice A0_3 l0_3.length c0_3) := (blk_cell BK308.out 3).trans rfl; have hfz13_0 := blk_frozen BK308.out 0; have hfz13_1 := blk_frozen BK308.out 1; have hfz13_2 := blk_frozen BK308.out 2; have hfz13_3 := blk_frozen BK308.out 3) | ((with_reducible refine gate_callee (f := 40) rfl ?_); refine goesL_ (some 8) rfl rfl Try.func40 (by kernel_rfl) rfl #[.agg #[.int .i64 a0_0, .int .i64 a0_1, .bool a0_2, .slice A0_3 l0_3.length c0_3]] rfl (by (try simp only [List.map_toArray, List.map_cons, List.map_nil]); first | done | rfl | (simp only [List.length_drop, List.length_take]; rfl)) ?_; (with_reducible refine (thermionref01_Check.calls k a0_0 a0_1 a0_2 _ _ l0_3 t309 _ ?side1 ?side2 A4.out).mono ?_); (case side1 => repeat (first | exact (Kd.C_below HR0_3.out HB.out) | (with_reducible refine Kd.C_alloc ?_ _) | (with_reducible refine Kd.C_drewN ?_ _) | (with_reducible refine Kd.C_drew ?_))); (case side2 => exact HC0_3.out); rintro e w14 ⟨rfl, hb⟩; refine ⟨_, rfl, ?_⟩; have n0_ := Aside0.mk (blk_below (g := gb308) (o := .cells #[.int .i64 a0_0, .int .i64 a0_1, .bool a0_2, .slice A0_3 l0_3.length c0_3] 24 (0, 0)) (by (with_reducible repeat (first | refine blk_drewN ?_ _ | refine blk_drew ?_ | refine blk_alloc ?_ _)); exact BK308.out) hb); have n1_ := Aside0.mk (below_step (by repeat (first | (with_reducible first | exact HB.out | apply below_alloc | apply pw_below_drewN | apply below_drew1 | refine below_set ?_ GE308.out) | exact HB.out)) hb); clear BK308; clear HB; have BK308 := n0_; have HB := n1_; clear n0_ n1_; (try clear hb hk hi)))
  go_ret
  exact ⟨by first | rfl | (simp [errW_none, errW_some] <;> rfl) | (simp [*, errW_none, errW_some] <;> rfl), by repeat (first | (with_reducible first | exact HB.out | apply below_alloc | apply pw_below_drewN | apply below_drew1 | refine below_set ?_ GE308.out) | exact HB.out)⟩
def thermionlaw01_weights.T4 : Bool × List (List Nat × List Nat) := (true, [([], []), ([], []), ([], []), ([1, 2], [1, 2]), ([], []), ([4], [4]), ([], []), ([6], [6]), ([], []), ([], []), ([9], [9]), ([8, 10], [8, 10]), ([], []), ([], []), ([13], [13]), ([12, 14], [12, 14]), ([0, 3, 5, 7, 11, 15], [0, 3, 5, 7, 11, 15]), ([16, 3, 0, 1, 2, 3, 4, 5, 6, 7, 8, 9, 10, 11, 12, 13, 14, 15, 16], [16])])
def thermionlaw01_weights.B4 : List Nat := [0, 0, 0, 6, 0, 16, 0, 64, 0, 0, 512, 1792, 0, 0, 8192, 28672, 65535, 131071]
theorem thermionlaw01_weights.tab4 : rtab .any (opsOf Try.f48 4) = thermionlaw01_weights.T4 := by kernel_rfl
theorem thermionlaw01_weights.bits4 : waitsOk thermionlaw01_weights.T4.2 thermionlaw01_weights.B4 = true := by kernel_rfl
def thermionlaw01_weights.T8 : Bool × List (List Nat × List Nat) := (true, [([], []), ([], []), ([], []), ([], []), ([2, 3], [2, 3]), ([4], [4]), ([0, 1, 5], [0, 1, 5]), ([], []), ([], []), ([], []), ([], []), ([9, 10], [9, 10]), ([11], [11]), ([7, 8, 12, 6], [7, 8, 12]), ([6, 13], [6, 13])])
def thermionlaw01_weights.B8 : List Nat := [0, 0, 0, 0, 12, 28, 63, 0, 0, 0, 0, 1536, 3584, 8191, 16383]
theorem thermionlaw01_weights.tab8 : rtab .any (opsOf Try.f48 8) = thermionlaw01_weights.T8 := by kernel_rfl
theorem thermionlaw01_weights.bits8 : waitsOk thermionlaw01_weights.T8.2 thermionlaw01_weights.B8 = true := by kernel_rfl
def thermionlaw01_weights.T10 : Bool × List (List Nat × List Nat) := (true, [([], []), ([], []), ([], []), ([0, 1, 2], [0, 1, 2]), ([], []), ([], []), ([], []), ([4, 5, 6, 3], [4, 5, 6]), ([3, 7], [3, 7]), ([8, 7, 0, 1, 2, 3, 4, 5, 6, 7, 8], [8])])
def thermionlaw01_weights.B10 : List Nat := [0, 0, 0, 7, 0, 0, 0, 127, 255, 511]
theorem thermionlaw01_weights.tab10 : rtab .any (opsOf Try.f48 10) = thermionlaw01_weights.T10 := by kernel_rfl
theorem thermionlaw01_weights.bits10 : waitsOk thermionlaw01_weights.T10.2 thermionlaw01_weights.B10 = true := by kernel_rfl
mutual
def thermionref01_charge.l0 : Nat → List Int → Int → Int → Int → Int → Bool → List Int → List Int → List Int → Int → Bool → Int → Int → Option (Int × Int)
 | 0, _, _, _, _, _, _, _, _, _, _, _, _, _ => none
 | k + 1, x1, x3, x10, x440000, x440001, x440002, x440003, x441000, x441001, x441002, x441003, x443000, x443001 => if x10 < (x440003.length : Int) then (if 0 ≤ x10 then (if (rd x440003 x10) = x3 then ((thermionref01_around.f k x440000 x440001 x440002 x440003 x10).bind fun t444 => (thermionref01_charge.l1 k x1 x3 x10 t444 0 x440000 x440001 x440002 x440003 x441000 x441001 x441002 x441003 x443000 x443001)) else (thermionref01_charge.l0 k x1 x3 (wrap64 (x10 + 1)) x440000 x440001 x440002 x440003 x441000 x441001 x441002 x441003 x443000 x443001)) else (none)) else (some (x443000, x443001))
def thermionref01_charge.l1 : Nat → List Int → Int → Int → List Int → Int → Int → Int → Bool → List Int → List Int → List Int → Int → Bool → Int → Int → Option (Int × Int)
 | 0, _, _, _, _, _, _, _, _, _, _, _, _, _, _, _ => none
 | k + 1, x1, x3, x10, x11, x12, x440000, x440001, x440002, x440003, x441000, x441001, x441002, x441003, x443000, x443001 => if x12 < (x11.length : Int) then (if 0 ≤ x12 then (if 0 ≤ (rd x11 x12) then (if (rd x11 x12) < (x440003.length : Int) then (if (rd x440003 (rd x11 x12)) = x3 then (thermionref01_charge.l1 k x1 x3 x10 x11 (wrap64 (x12 + 1)) x440000 x440001 x440002 x440003 x441000 x441001 x441002 x441003 x443000 x443001) else ((thermionref01_weight.f k x440000 x440001 x440002 x440003 x10 (rd x11 x12)).bind fun t449 => (if 0 ≤ (wrap64 (x3 - 1)) then (if (wrap64 (x3 - 1)) < (x1.length : Int) then (if (rd x11 x12) < (x441001.length : Int) then ((thermionref01_weight.f k x440000 x440001 x440002 x440003 x10 (rd x11 x12)).bind fun t452 => (if (rd x11 x12) < (x441000.length : Int) then (thermionref01_charge.l1 k x1 x3 x10 x11 (wrap64 (x12 + 1)) x440000 x440001 x440002 x440003 x441000 x441001 x441002 x441003 (wrap64 (x443000 + (wrap64 (t449 * (wrap64 ((rd x1 (wrap64 (x3 - 1))) - (rd x441001 (rd x11 x12)))))))) (wrap64 (x443001 + (wrap64 (t452 * (wrap64 ((rd x1 (wrap64 (x3 - 1))) - (rd x441000 (rd x11 x12))))))))) else (none))) else (none)) else (none)) else (none)))) else (none)) else (none)) else (none)) else (thermionref01_charge.l0 k x1 x3 (wrap64 (x10 + 1)) x440000 x440001 x440002 x440003 x441000 x441001 x441002 x441003 x443000 x443001)
end
def thermionref01_charge.T12 : Bool × List (List Nat × List Nat) := (true, [([], []), ([0], [0]), ([], []), ([], []), ([], []), ([2, 3, 4], [2, 3, 4]), ([], []), ([], []), ([7], [7]), ([6, 8], [6, 8]), ([9], [9]), ([], []), ([11], [11]), ([], []), ([12, 13], [12, 13]), ([14], [14]), ([10, 15], [10, 15]), ([5, 16], [5, 16]), ([1, 17], [1, 17]), ([0, 1, 2, 3, 4, 5, 6, 7, 8, 9, 10, 11, 12, 13, 14, 15, 16, 17, 18], []), ([19, 18, 5, 0, 1, 2, 3, 4, 5, 6, 7, 8, 9, 10, 11, 12, 13, 14, 15, 16, 17, 18], [18, 19])])
def thermionref01_charge.B12 : List Nat := [0, 1, 0, 0, 0, 28, 0, 0, 128, 448, 960, 0, 2048, 0, 14336, 30720, 65472, 131068, 262143, 524287, 1048575]
theorem thermionref01_charge.tab12 : rtab .any (opsOf Try.f80 12) = thermionref01_charge.T12 := by kernel_rfl
theorem thermionref01_charge.bits12 : waitsOk thermionref01_charge.T12.2 thermionref01_charge.B12 = true := by kernel_rfl
def thermionref01_charge.T13 : Bool × List (List Nat × List Nat) := (true, [([], []), ([0], [0]), ([], []), ([], []), ([], []), ([2, 3, 4], [2, 3, 4]), ([], []), ([], []), ([7], [7]), ([6, 8], [6, 8]), ([9], [9]), ([], []), ([11], [11]), ([], []), ([12, 13], [12, 13]), ([14], [14]), ([10, 15], [10, 15]), ([5, 16], [5, 16]), ([1, 17], [1, 17]), ([0, 1, 2, 3, 4, 5, 6, 7, 8, 9, 10, 11, 12, 13, 14, 15, 16, 17, 18], []), ([19, 18, 5, 0, 1, 2, 3, 4, 5, 6, 7, 8, 9, 10, 11, 12, 13, 14, 15, 16, 17, 18], [18, 19])])
def thermionref01_charge.B13 : List Nat := [0, 1, 0, 0, 0, 28, 0, 0, 128, 448, 960, 0, 2048, 0, 14336, 30720, 65472, 131068, 262143, 524287, 1048575]
theorem thermionref01_charge.tab13 : rtab .any (opsOf Try.f80 13) = thermionref01_charge.T13 := by kernel_rfl
theorem thermionref01_charge.bits13 : waitsOk thermionref01_charge.T13.2 thermionref01_charge.B13 = true := by kernel_rfl
def thermionref01_sums.T6 : Bool × List (List Nat × List Nat) := (true, [([], []), ([], []), ([], []), ([], []), ([2, 3], [2, 3]), ([4], [4]), ([0, 1, 5], [0, 1, 5]), ([6, 6, 0, 1, 2, 3, 4, 5, 6], [6])])
def thermionref01_sums.B6 : List Nat := [0, 0, 0, 0, 12, 28, 63, 127]
theorem thermionref01_sums.tab6 : rtab .any (opsOf Try.f90 6) = thermionref01_sums.T6 := by kernel_rfl
theorem thermionref01_sums.bits6 : waitsOk thermionref01_sums.T6.2 thermionref01_sums.B6 = true := by kernel_rfl
theorem obnd {α β : Type} {o : Option α} {a : α} (h : o = some a) (f : α → Option β) : o.bind f = f a := by rw [h]; rfl
def wtR (W H : Nat) (R : Bool) (i : Nat) (c : Int) : Int := if 0 ≤ c ∧ c < ((W * H : Nat) : Int) then netM W H R i c.toNat else 0
theorem wt_of (W H : Nat) (R : Bool) (C : List Int) (k : Nat) (m M : Int) (hW : 1 ≤ W ∧ W ≤ 16) (h0 : 0 ≤ m) (h1 : m ≤ 100000) (hM0 : 0 ≤ M) (b : Bool) :
  thermionref01_weight.j1 (k + 1) m M (Int.tmod m W) b (W : Int) (H : Int) R C = some (if b = true then wgt R (m.toNat % W) false else if M = m + W then wgt R (m.toNat % W) true else 0) := by
 have e : Int.tmod m W = ((m.toNat % W : Nat) : Int) := by
  rw [Int.tmod_eq_emod_of_nonneg h0, Int.natCast_emod, Int.toNat_of_nonneg h0]
 have hl : m.toNat % W < W := Nat.mod_lt _ (by omega)
 have w1 : wrap64 (m + (W : Int)) = m + W := IntWalk.wrap64_in _ (by omega)
 have w2 : wrap64 (((m.toNat % W : Nat) : Int) + 1) = ((m.toNat % W : Nat) : Int) + 1 := IntWalk.wrap64_in _ (by omega)
 have w3 : wrap64 (2 * (((m.toNat % W : Nat) : Int) + 1)) = 2 * (((m.toNat % W : Nat) : Int) + 1) := IntWalk.wrap64_in _ (by omega)
 have w4 : wrap64 (2 * ((m.toNat % W : Nat) : Int)) = 2 * ((m.toNat % W : Nat) : Int) := IntWalk.wrap64_in _ (by omega)
 have w5 : wrap64 (2 * ((m.toNat % W : Nat) : Int) + 1) = 2 * ((m.toNat % W : Nat) : Int) + 1 := IntWalk.wrap64_in _ (by omega)
 rw [thermionref01_weight.j1, e, w1, w2, w3, w4, w5]
 unfold wgt
 cases b <;> cases R <;> simp only [if_true, if_false, Bool.false_eq_true] <;> (try split) <;> rfl
theorem weight_eq {W H : Nat} (hW : 1 ≤ W ∧ W ≤ 16) (hH : 1 ≤ H ∧ H ≤ 16) (R : Bool) (C : List Int) {i : Nat} (hi : i < W * H) (c : Int) (k : Nat) :
  thermionref01_weight.f (k + 2) (W : Int) (H : Int) R C (i : Int) c = some (wtR W H R i c) := by
 have hWH : W * H ≤ 256 := Nat.mul_le_mul hW.2 hH.2
 have hWH1 : 1 ≤ W * H := Nat.mul_pos hW.1 hH.1
 have w0 : wrap64 ((W : Int) * (H : Int)) = ((W * H : Nat) : Int) := by
  rw [← Int.natCast_mul]; exact IntWalk.wrap64_in _ (by omega)
 have w1 : wrap64 (((W * H : Nat) : Int) - 1) = ((W * H : Nat) : Int) - 1 := IntWalk.wrap64_in _ (by omega)
 generalize hn : W * H = n at w0 w1 hi hWH hWH1
 unfold thermionref01_weight.f wtR
 rw [w0, w1]
 have b1 : thermionref01_beyond.f (i : Int) 0 ((n : Int) - 1) = some false := by
  unfold thermionref01_beyond.f
  rw [if_neg (by omega), decide_eq_false (by omega)]
 rw [obnd b1, if_neg (by simp), hn]
 by_cases hc : 0 ≤ c ∧ c < (n : Int)
 ·have b2 : thermionref01_beyond.f c 0 ((n : Int) - 1) = some false := by
   unfold thermionref01_beyond.f
   rw [if_neg (by omega), decide_eq_false (by omega)]
  rw [obnd b2, if_pos hc]
  obtain ⟨j, rfl⟩ : ∃ j : Nat, c = (j : Int) := ⟨c.toNat, by omega⟩
  rw [Int.toNat_natCast, thermionref01_weight.j0, if_neg (by simp), if_neg (by omega)]
  have hj : j < n := by omega
  have key : ∀ (m M : Nat), m < n → M < n → m ≤ M → (if (M : Int) = wrap64 ((m : Int) + 1) then thermionref01_weight.j1 (k + 1) (m : Int) (M : Int) (Int.tmod (m : Int) W) (decide (Int.tmod (M : Int) W > 0)) (W : Int) (H : Int) R C else thermionref01_weight.j1 (k + 1) (m : Int) (M : Int) (Int.tmod (m : Int) W) false (W : Int) (H : Int) R C) = some (netM W H R m M) := by
   clear w0 w1 b1 b2 hc hi hj
   intro m M hm hM hle
   have g0 : (0 : Int) ≤ (m : Int) := by omega
   have g1 : (m : Int) ≤ 100000 := by omega
   have g2 : (0 : Int) ≤ (M : Int) := by omega
   have v1 : wrap64 ((m : Int) + 1) = (m : Int) + 1 := IntWalk.wrap64_in _ (by omega)
   have e : Int.tmod (M : Int) W = ((M % W : Nat) : Int) := by
    rw [Int.tmod_eq_emod_of_nonneg (by omega), Int.natCast_emod]
   rw [v1, e]
   obtain ⟨bb, hbb⟩ : ∃ bb, decide (((M % W : Nat) : Int) > 0) = bb := ⟨_, rfl⟩
   rw [hbb, wt_of W H R C k m M hW g0 g1 g2 bb, wt_of W H R C k m M hW g0 g1 g2 false, Int.toNat_natCast]
   unfold netM
   rw [hn, if_pos (show m < n ∧ M < n from ⟨hm, hM⟩)]
   by_cases a : M = m + 1
   ·rw [if_pos (show (M : Int) = (m : Int) + 1 by omega)]
    by_cases d : 0 < M % W
    ·rw [if_pos (by rw [← hbb]; exact decide_eq_true (by omega)), if_pos (show M = m + 1 ∧ 0 < M % W from ⟨a, d⟩)]
    ·rw [if_neg (by rw [← hbb, decide_eq_false (by omega)]; simp), if_neg (show ¬ (M = m + 1 ∧ 0 < M % W) from fun q => d q.2), if_neg (show ¬ (m = M + 1 ∧ 0 < m % W) by omega)]
     by_cases f : M = m + W
     ·rw [if_pos (show (M : Int) = (m : Int) + (W : Int) by omega), if_pos f]
     ·rw [if_neg (show ¬ (M : Int) = (m : Int) + (W : Int) by omega), if_neg f, if_neg (show ¬ m = M + W by omega)]
   ·rw [if_neg (show ¬ (M : Int) = (m : Int) + 1 by omega), if_neg (by simp), if_neg (show ¬ (M = m + 1 ∧ 0 < M % W) from fun q => a q.1), if_neg (show ¬ (m = M + 1 ∧ 0 < m % W) by omega)]
    by_cases f : M = m + W
    ·rw [if_pos (show (M : Int) = (m : Int) + (W : Int) by omega), if_pos f]
    ·rw [if_neg (show ¬ (M : Int) = (m : Int) + (W : Int) by omega), if_neg f, if_neg (show ¬ m = M + W by omega)]
  by_cases q : i ≤ j
  ·have e1 : mn (i : Int) (j : Int) = (i : Int) := by unfold mn; rw [if_neg (by omega)]
   have e2 : mx (i : Int) (j : Int) = (j : Int) := by unfold mx; split <;> omega
   rw [e1, e2]
   exact key i j hi hj q
  ·have e1 : mn (i : Int) (j : Int) = (j : Int) := by unfold mn; rw [if_pos (by omega)]
   have e2 : mx (i : Int) (j : Int) = (i : Int) := by unfold mx; rw [if_neg (by omega)]
   rw [e1, e2, netM_symm]
   exact key j i hj hi (by omega)
 ·have b2 : thermionref01_beyond.f c 0 ((n : Int) - 1) = some true := by
   unfold thermionref01_beyond.f
   by_cases q : c < 0
   ·rw [if_pos q]
   ·rw [if_neg q, decide_eq_true (by omega)]
  rw [obnd b2, if_neg hc, thermionref01_weight.j0, if_pos rfl]
section
variable {W H : Nat} {R : Bool} {C : List Int} {i : Nat}
def cand (W i : Nat) : List Int := if W = 1 then [(i : Int) - 1, (i : Int) + 1] else [(i : Int) - W, (i : Int) - 1, (i : Int) + 1, (i : Int) + W]
def aroundL (W H : Nat) (R : Bool) (i : Nat) : List Int := (cand W i).filter (fun c => decide (0 < wtR W H R i c))
theorem rd_at (l : List Int) (j : Nat) (h : j < l.length) : rd l (j : Int) = l[j] := by
 unfold rd
 rw [Int.toNat_natCast, List.getD_eq_getElem?_getD, List.getElem?_eq_getElem h]
 rfl
theorem around_go (hW : 1 ≤ W ∧ W ≤ 16) (hH : 1 ≤ H ∧ H ≤ 16) (hi : i < W * H) (l : List Int) (hl : l.length ≤ 100) : ∀ (d j : Nat) (acc : List Int) (k : Nat), j + d = l.length → acc.length ≤ j →
  thermionref01_around.l0 (k + d + 3) (i : Int) l acc (j : Int) (W : Int) (H : Int) R C = some (acc ++ (l.drop j).filter (fun c => decide (0 < wtR W H R i c)))
 | 0, j, acc, k, h, ha => by
  rw [show k + 0 + 3 = (k + 2) + 1 by omega, thermionref01_around.l0, if_neg (by omega), List.drop_eq_nil_of_le (by omega)]
  simp
 | d + 1, j, acc, k, h, ha => by
  have hj : j < l.length := by omega
  have hw : wrap64 ((j : Int) + 1) = ((j + 1 : Nat) : Int) := by rw [IntWalk.wrap64_in _ (by omega)]; omega
  rw [show k + (d + 1) + 3 = (k + d + 3) + 1 by omega, thermionref01_around.l0, if_pos (by omega), if_pos (by omega), rd_at l j hj, obnd (weight_eq hW hH R C hi l[j] (k + d + 1)), hw, List.drop_eq_getElem_cons hj, List.filter_cons]
  by_cases q : 0 < wtR W H R i l[j]
  ·rw [if_pos q, if_pos (by omega), around_go hW hH hi l hl d (j + 1) _ k (by omega) (by simp; omega), if_pos (by simpa using q)]
   simp
  ·rw [if_neg q, around_go hW hH hi l hl d (j + 1) _ k (by omega) (by omega), if_neg (by simpa using q)]
theorem around_eq (hW : 1 ≤ W ∧ W ≤ 16) (hH : 1 ≤ H ∧ H ≤ 16) (hi : i < W * H) (k : Nat) : thermionref01_around.f (k + 8) (W : Int) (H : Int) R C (i : Int) = some (aroundL W H R i) := by
 have hWH : W * H ≤ 256 := Nat.mul_le_mul hW.2 hH.2
 have v1 : wrap64 ((i : Int) - 1) = (i : Int) - 1 := IntWalk.wrap64_in _ (by omega)
 have v2 : wrap64 ((i : Int) + 1) = (i : Int) + 1 := IntWalk.wrap64_in _ (by omega)
 have v3 : wrap64 ((i : Int) - (W : Int)) = (i : Int) - W := IntWalk.wrap64_in _ (by omega)
 have v4 : wrap64 ((i : Int) + (W : Int)) = (i : Int) + W := IntWalk.wrap64_in _ (by omega)
 unfold thermionref01_around.f aroundL cand
 rw [v1, v2, v3, v4]
 by_cases q : W = 1
 ·rw [if_pos (show (W : Int) = 1 by omega), if_pos q, show k + 8 = (k + 7) + 1 by omega, thermionref01_around.j0]
  have := around_go (C := C) (R := R) hW hH hi [(i : Int) - 1, (i : Int) + 1] (by simp) 2 0 [] (k + 2) (by simp) (by simp)
  rw [show k + 2 + 2 + 3 = k + 7 by omega] at this
  exact this
 ·rw [if_neg (show ¬ (W : Int) = 1 by omega), if_neg q, show k + 8 = (k + 7) + 1 by omega, thermionref01_around.j0]
  have := around_go (C := C) (R := R) hW hH hi [(i : Int) - W, (i : Int) - 1, (i : Int) + 1, (i : Int) + W] (by simp) 4 0 [] k (by simp) (by simp)
  rw [show k + 4 + 3 = k + 7 by omega] at this
  exact this
theorem around_mem {c : Int} (h : c ∈ aroundL W H R i) : 0 < wtR W H R i c ∧ 0 ≤ c ∧ c < ((W * H : Nat) : Int) := by
 have h1 := (List.mem_filter.1 h).2
 have h2 : 0 < wtR W H R i c := by simpa using h1
 refine ⟨h2, ?_⟩
 unfold wtR at h2
 split at h2
 ·assumption
 ·omega
theorem around_len : (aroundL W H R i).length ≤ 4 := by
 refine Nat.le_trans (List.length_filter_le _ _) ?_
 unfold cand
 split <;> simp
end



end Go.Proofs.Ytndkkjpgnmahbaa.Print
end

section
namespace Go.Proofs.Field
structure SwOk (up : Bool) (W H : Nat) (R : Bool) (C : List Int) (b : List Int) : Prop where
 len : b.length = C.length
 range : ∀ i, i ≤ C.length → ∀ j, j < C.length → -1000000 ≤ fn (sweepTo up W H R C b i).1 j ∧ fn (sweepTo up W H R C b i).1 j ≤ 1000000
end Go.Proofs.Field
namespace Go.Proofs.Ytndkkjpgnmahbaa.Print
open Go.RowKit YtndkkjpgnmahbaaW.PrintWords YtndkkjpgnmahbaaW.PrintLast YtndkkjpgnmahbaaW.PrintMore Ytndkkjpgnmahbaa.H Proofs.Field
structure RW (w0 w W : World) (gp gf : Nat) (pv fv : Array Value) (g1 c1 g2 c2 n : Nat) (lo hi : List Int) : Prop where
 old : Below w0.heap.size w0 W
 keep : KeepBut w W g1 (some g2)
 p : W.heap[gp]? = some (.cells pv 24 (0, 0))
 f : W.heap[gf]? = some (.cells fv 33 (0, 0))
 r1 : Row4 W w0.heap.size g1 c1 n lo
 r2 : Row4 W w0.heap.size g2 c2 n hi
 ne : g1 ≠ g2
 np : gp ≠ g1 ∧ gp ≠ g2 ∧ gf ≠ g1 ∧ gf ≠ g2
namespace RW
variable {w0 w W W1 : World} {gp gf : Nat} {pv fv : Array Value} {g1 c1 g2 c2 n : Nat} {lo hi : List Int}
theorem step (h : RW w0 w W gp gf pv fv g1 c1 g2 c2 n lo hi) (hb : Below W.heap.size W W1) : RW w0 w W1 gp gf pv fv g1 c1 g2 c2 n lo hi :=
 ⟨below_step h.old hb, h.keep.trans (KeepBut.of_below hb g1 (some g2)) (.inl rfl), blk_below h.p hb, blk_below h.f hb, h.r1.below hb, h.r2.below hb, h.ne, h.np⟩
theorem put1 (h : RW w0 w W gp gf pv fv g1 c1 g2 c2 n lo hi) (i : Nat) (x : Int) : RW w0 w (W.setCell ⟨g1, i, none⟩ (.int .i64 x)) gp gf pv fv g1 c1 g2 c2 n (lo.set i x) hi :=
 ⟨below_set h.old h.r1.ge, h.keep.set_ i _, blk_far (p := ⟨g1, i, none⟩) h.p h.np.1 _, blk_far (p := ⟨g1, i, none⟩) h.f h.np.2.2.1 _, h.r1.put i x, h.r2.far (p := ⟨g1, i, none⟩) h.ne.symm _, h.ne, h.np⟩
end RW
end Go.Proofs.Ytndkkjpgnmahbaa.Print
end

section
namespace Go.Proofs.Ytndkkjpgnmahbaa.Print
open Go.RowKit YtndkkjpgnmahbaaW.PrintWords YtndkkjpgnmahbaaW.PrintLast YtndkkjpgnmahbaaW.PrintMore Ytndkkjpgnmahbaa.H Proofs.Field
end Go.Proofs.Ytndkkjpgnmahbaa.Print
end

section
namespace Go.Proofs.Field
end Go.Proofs.Field
namespace Go.Proofs.Ytndkkjpgnmahbaa.Print
open Go.RowKit YtndkkjpgnmahbaaW.PrintWords YtndkkjpgnmahbaaW.PrintLast YtndkkjpgnmahbaaW.PrintMore Ytndkkjpgnmahbaa.H Proofs.Field
end Go.Proofs.Ytndkkjpgnmahbaa.Print
end

section
namespace Go.Proofs.Ytndkkjpgnmahbaa.Print
open Go.RowKit YtndkkjpgnmahbaaW.PrintWords YtndkkjpgnmahbaaW.PrintLast YtndkkjpgnmahbaaW.PrintMore Ytndkkjpgnmahbaa.H Proofs.Field
structure Two (W : World) (base : Nat) (vL vH : Value) (lo hi : List Int) : Prop where
 l : Kd.R (Kd.int .i64) 3 W base (fun k => some k ≠ vH.ownBlock) vL lo
 h : Kd.R (Kd.int .i64) 3 W base (fun k => some k ≠ vL.ownBlock) vH hi
theorem R_turn {W w1 : World} {base : Nat} {u v v1 : Value} {xs : List Int} (h : Kd.R (Kd.int .i64) 3 W base (fun k => some k ≠ v.ownBlock) u xs) (hg : W.grownBy w1 v.ownBlock) (hat : v1.ownBlock = v.ownBlock ∨ ∃ b, v1.ownBlock = some b ∧ W.heap.size ≤ b) : Kd.R (Kd.int .i64) 3 w1 base (fun k => some k ≠ v1.ownBlock) u xs :=
 Kd.R_mono (Kd.R_after (ok := fun _ => True) (Kd.R_mono h (fun k hk => ⟨trivial, hk⟩)) hg hat) (fun k hk => hk.2)
structure BS (w W : World) (g2 g4 g8 : Nat) (pv z4 fv : Array Value) (vL vH : Value) (lo hi : List Int) : Prop where
 below : Below w.heap.size w W
 p : W.heap[g2]? = some (.cells pv 24 (0, 0))
 o : W.heap[g4]? = some (.cells z4 33 (0, 0))
 f : W.heap[g8]? = some (.cells fv 33 (0, 0))
 t : Two W w.heap.size vL vH lo hi
 ne : g4 ≠ g8
 ge : w.heap.size ≤ g8 ∧ w.heap.size ≤ g4
namespace BS
variable {w W W1 : World} {g2 g4 g8 : Nat} {pv z4 fv : Array Value} {vL vH v1 : Value} {lo hi l2 : List Int}
theorem step (h : BS w W g2 g4 g8 pv z4 fv vL vH lo hi) (hb : Below W.heap.size W W1) : BS w W1 g2 g4 g8 pv z4 fv vL vH lo hi :=
 ⟨below_step h.below hb, blk_below h.p hb, blk_below h.o hb, blk_below h.f hb, ⟨Kd.R_below h.t.l hb, Kd.R_below h.t.h hb⟩, h.ne, h.ge⟩
theorem blkL (h : BS w W g2 g4 g8 pv z4 fv vL vH lo hi) (hg : W.grownBy W1 vL.ownBlock) {g : Nat} {cs : Array Value} {t : Nat} (hk : W.heap[g]? = some (.cells cs t (0, 0))) (ht : (3 : Nat) ≠ t) : W1.heap[g]? = some (.cells cs t (0, 0)) :=
 (hg.block g (blk_lt hk) (Kd.R_ne h.t.l hk ht)).trans hk
theorem growL (h : BS w W g2 g4 g8 pv z4 fv vL vH lo hi) (hR : Kd.R (Kd.int .i64) 3 W1 w.heap.size (fun k => some k ≠ vH.ownBlock) v1 l2) (hB : Below w.heap.size w W1) (hg : W.grownBy W1 vL.ownBlock) (hat : v1.ownBlock = vL.ownBlock ∨ ∃ b, v1.ownBlock = some b ∧ W.heap.size ≤ b) : BS w W1 g2 g4 g8 pv z4 fv v1 vH l2 hi :=
 ⟨hB, h.blkL hg h.p (by decide), h.blkL hg h.o (by decide), h.blkL hg h.f (by decide), ⟨hR, R_turn h.t.h hg hat⟩, h.ne, h.ge⟩
theorem put (h : BS w W g2 g4 g8 pv z4 fv vL vH lo hi) (i : Nat) (u : Value) {fv' : Array Value} (e : fv.setIfInBounds i u = fv') : BS w (W.setCell ⟨g8, i, none⟩ u) g2 g4 g8 pv z4 fv' vL vH lo hi := by
 subst e
 refine ⟨below_set h.below h.ge.1, blk_far (p := ⟨g8, i, none⟩) h.p (blk_ne h.p h.f (by decide)) _, blk_far (p := ⟨g8, i, none⟩) h.o h.ne _, ?_, ⟨?_, ?_⟩, h.ne, h.ge⟩
 ·rw [blk_set h.f i]
 ·exact Kd.R_mono (Kd.R_far (p := ⟨g8, i, none⟩) (Kd.R_types h.t.l h.f (by decide)) (fun k hk => hk.2) u) (fun k hk => hk.1)
 ·exact Kd.R_mono (Kd.R_far (p := ⟨g8, i, none⟩) (Kd.R_types h.t.h h.f (by decide)) (fun k hk => hk.2) u) (fun k hk => hk.1)
end BS
structure Lit1 (W : World) (g : Nat) (x : Int) (vL vH : Value) : Prop where
 b : W.heap[g]? = some (.cells #[.int .i64 x] 3 (0, 0))
 l : some g ≠ vL.ownBlock
 h : some g ≠ vH.ownBlock
theorem Lit1.reads {W : World} {g : Nat} {x : Int} {vL vH : Value} (h : Lit1 W g x vL vH) : Kd.C (Kd.int .i64) W (some ⟨g, 0, none⟩) 1 [x] := C_of_cells (b := [x]) h.b (by simp)
theorem Lit1.step {W W1 : World} {g : Nat} {x : Int} {vL vH : Value} (h : Lit1 W g x vL vH) (hb : Below W.heap.size W W1) : Lit1 W1 g x vL vH := ⟨blk_below h.b hb, h.l, h.h⟩
theorem Lit1.growL {W W1 : World} {g : Nat} {x : Int} {vL vH v1 : Value} (h : Lit1 W g x vL vH) (hg : W.grownBy W1 vL.ownBlock) (hat : v1.ownBlock = vL.ownBlock ∨ ∃ b, v1.ownBlock = some b ∧ W.heap.size ≤ b) : Lit1 W1 g x v1 vH :=
 ⟨(hg.block g (blk_lt h.b) h.l).trans h.b, by
  rcases hat with e | ⟨b, e, hb⟩
  ·rw [e]; exact h.l
  ·rw [e]; intro q; have := Option.some.inj q; have := blk_lt h.b; omega, h.h⟩
theorem Lit1.make {w W : World} {g2 g4 g8 : Nat} {pv z4 fv : Array Value} {vL vH : Value} {lo hi : List Int} (h : BS w W g2 g4 g8 pv z4 fv vL vH lo hi) (x : Int) : Lit1 (W.alloc (.cells #[.int .i64 x] 3)) W.heap.size x vL vH :=
 ⟨blk_new _ _, Kd.fresh' (Kd.R_lt h.t.l) _ (Nat.le_refl _), Kd.fresh' (Kd.R_lt h.t.h) _ (Nat.le_refl _)⟩
end Go.Proofs.Ytndkkjpgnmahbaa.Print
end

section
namespace Go.Proofs.Ytndkkjpgnmahbaa.Print
open Go.RowKit YtndkkjpgnmahbaaW.PrintWords YtndkkjpgnmahbaaW.PrintLast YtndkkjpgnmahbaaW.PrintMore Ytndkkjpgnmahbaa.H Proofs.Field
def rbF.T6 : Bool × List (List Nat × List Nat) := (true, [([], []), ([], []), ([], []), ([2], [2]), ([], []), ([3, 4], [3, 4]), ([5], [5]), ([6], [6]), ([1, 7], [1, 7]), ([8], [8]), ([0, 9], [0, 9]), ([], []), ([], []), ([], []), ([13], [13]), ([], []), ([14, 15], [14, 15]), ([16], [16]), ([17], [17]), ([12, 18], [12, 18]), ([19], [19]), ([11, 20], [11, 20]), ([10, 0, 1, 2, 3, 4, 5, 6, 7, 8, 9, 10], [0, 10]), ([21, 22, 0, 1, 2, 3, 4, 5, 6, 7, 8, 9, 10, 11, 12, 13, 14, 15, 16, 17, 18, 19, 20, 21, 22], [11, 21])])
def rbF.B6 : List Nat := [0, 0, 0, 4, 0, 28, 60, 124, 254, 510, 1023, 0, 0, 0, 8192, 0, 57344, 122880, 253952, 520192, 1044480, 2095104, 2047, 8388607]
theorem rbF.tab6 : rtab .any (opsOf Try.f74 6) = rbF.T6 := by kernel_rfl
theorem rbF.bits6 : waitsOk rbF.T6.2 rbF.B6 = true := by kernel_rfl
def rbF.T13 : Bool × List (List Nat × List Nat) := (true, [([], []), ([], []), ([1], [1]), ([], []), ([2, 3], [2, 3]), ([4], [4]), ([5], [5]), ([0, 6], [0, 6]), ([7], [7]), ([], []), ([], []), ([10], [10]), ([], []), ([11, 12], [11, 12]), ([13], [13]), ([14], [14]), ([9, 15], [9, 15]), ([16], [16]), ([8, 0, 1, 2, 3, 4, 5, 6, 7, 8], [8]), ([17, 18, 0, 1, 2, 3, 4, 5, 6, 7, 8, 9, 10, 11, 12, 13, 14, 15, 16, 17, 18], [17])])
def rbF.B13 : List Nat := [0, 0, 2, 0, 14, 30, 62, 127, 255, 0, 0, 1024, 0, 7168, 15360, 31744, 65024, 130560, 511, 524287]
theorem rbF.tab13 : rtab .any (opsOf Try.f74 13) = rbF.T13 := by kernel_rfl
theorem rbF.bits13 : waitsOk rbF.T13.2 rbF.B13 = true := by kernel_rfl
def rbF.T14 : Bool × List (List Nat × List Nat) := (true, [([], []), ([0], [0]), ([], []), ([2], [2]), ([1, 3], [1, 3]), ([], []), ([5], [5]), ([], []), ([7], [7]), ([6, 8, 4], [6, 8]), ([0, 1, 2, 3, 4, 5, 6], []), ([10, 4, 9, 0, 1, 2, 3, 4, 5, 6], [4, 10]), ([0, 1, 2, 3, 4, 5, 6, 7, 8, 9, 10, 11], []), ([12, 9, 11, 0, 1, 2, 3, 4, 5, 6, 7, 8, 9, 10, 11], [9, 12])])
def rbF.B14 : List Nat := [0, 1, 0, 4, 15, 0, 32, 0, 128, 511, 127, 2047, 4095, 8191]
theorem rbF.tab14 : rtab .any (opsOf Try.f74 14) = rbF.T14 := by kernel_rfl
theorem rbF.bits14 : waitsOk rbF.T14.2 rbF.B14 = true := by kernel_rfl
theorem BS.row {w W : World} {g2 g4 g8 : Nat} {pv z4 fv : Array Value} {vL vH : Value} {lo hi : List Int} (h : BS w W g2 g4 g8 pv z4 fv vL vH lo hi) (cs : Array Value) : Two (W.setRow g4 cs) w.heap.size vL vH lo hi ∧ Below w.heap.size w (W.setRow g4 cs) := by
 refine ⟨⟨?_, ?_⟩, ?_⟩
 ·exact Kd.R_mono (Kd.R_step (Kd.R_types h.t.l h.o (by decide)) (fun k hk _ => setRow_other _ _ _ _ hk.2)) (fun k hk => hk.1)
 ·exact Kd.R_mono (Kd.R_step (Kd.R_types h.t.h h.o (by decide)) (fun k hk _ => setRow_other _ _ _ _ hk.2)) (fun k hk => hk.1)
 ·exact ⟨h.below.os, h.below.tape, h.below.output, by rw [size_setRow]; exact h.below.size, fun i hi => by rw [setRow_other _ g4 i _ (by have := h.ge.2; omega)]; exact h.below.block i hi⟩


end Go.Proofs.Ytndkkjpgnmahbaa.Print
end

section
namespace Go.Proofs.Ytndkkjpgnmahbaa.Print
open Go.RowKit YtndkkjpgnmahbaaW.PrintWords YtndkkjpgnmahbaaW.PrintLast YtndkkjpgnmahbaaW.PrintMore Ytndkkjpgnmahbaa.H Proofs.Field
def Ev {α : Type} (f : Nat → Option α) (r : α) : Prop := ∃ K, ∀ k, K ≤ k → f k = some r
theorem Ev.step {α : Type} {f g : Nat → Option α} {r : α} (hg : Ev g r) (K0 : Nat) (h : ∀ k, K0 ≤ k → f (k + 1) = g k) : Ev f r := by
 obtain ⟨K, hK⟩ := hg
 refine ⟨K + K0 + 1, fun k hk => ?_⟩
 obtain ⟨k, rfl⟩ : ∃ k', k = k' + 1 := ⟨k - 1, by omega⟩
 rw [h k (by omega)]
 exact hK k (by omega)
theorem Ev.now {α : Type} {f : Nat → Option α} {r : α} (h : ∀ k, f (k + 1) = some r) : Ev f r := ⟨1, fun k hk => by
 obtain ⟨k, rfl⟩ : ∃ k', k = k' + 1 := ⟨k - 1, by omega⟩
 exact h k⟩
section
variable {W H : Nat} {R : Bool} {C : List Int}
def unmarked (b : List Bool) (n : Nat) : Nat := unseen b n
theorem unmarked_set {b : List Bool} {i : Nat} (h : b.getD i false = false) (hi : i < b.length) : ∀ n, unmarked (b.set i true) n + (if i < n then 1 else 0) = unmarked b n
 | 0 => by rw [if_neg (by omega)]; rfl
 | n + 1 => by
  have ih := unmarked_set h hi n
  unfold unmarked at ih ⊢
  rw [unseen, unseen, getD_set hi]
  by_cases q : n = i
  ·subst q
   rw [if_neg (Nat.lt_irrefl n)] at ih
   rw [if_pos (show n = n from rfl), if_pos (show true = true from rfl), if_pos (show n < n + 1 by omega), h, if_neg (show ¬ false = true by simp)]
   omega
  ·rw [if_neg (show ¬ n = i from q)]
   by_cases r : i < n
   ·rw [if_pos (show i < n from r)] at ih; rw [if_pos (show i < n + 1 by omega)]; omega
   ·rw [if_neg (show ¬ i < n from r)] at ih; rw [if_neg (show ¬ i < n + 1 by omega)]; omega
def hput (i : Nat) (s : List Bool × Bool) (c : Int) : List Bool × Bool := if s.1.getD c.toNat false = true then (if s.1.getD i false = true then s else (s.1.set i true, true)) else s
structure Grow (W H : Nat) (R : Bool) (C : List Int) (s t : List Bool × Bool) : Prop where
 len : t.1.length = s.1.length
 mono : ∀ j, s.1.getD j false = true → t.1.getD j false = true
 sound : (∀ j, j < W * H → s.1.getD j false = true → (net W H R C).Reach j) → ∀ j, j < W * H → t.1.getD j false = true → (net W H R C).Reach j
 flag : t = s ∨ (t.2 = true ∧ unmarked t.1 (W * H) < unmarked s.1 (W * H))
namespace Grow
variable {s t u : List Bool × Bool}
theorem refl (s : List Bool × Bool) : Grow W H R C s s := ⟨rfl, fun _ h => h, fun h => h, .inl rfl⟩
theorem trans (h : Grow W H R C s t) (k : Grow W H R C t u) : Grow W H R C s u := by
 refine ⟨k.len.trans h.len, fun j hj => k.mono j (h.mono j hj), fun hs => k.sound (h.sound hs), ?_⟩
 rcases h.flag with rfl | ⟨a, b⟩
 ·exact k.flag
 ·rcases k.flag with rfl | ⟨c, d⟩
  ·exact .inr ⟨a, b⟩
  ·exact .inr ⟨c, by omega⟩
end Grow
theorem hput_grow {i : Nat} (hi : i < W * H) {s : List Bool × Bool} (hl : s.1.length = W * H) {c : Int} (hc : c ∈ aroundL W H R i) : Grow W H R C s (hput i s c) := by
 unfold hput
 split
 ·rename_i q
  split
  ·exact Grow.refl s
  ·rename_i r
   have r' : s.1.getD i false = false := by simpa using r
   have hil : i < s.1.length := by omega
   refine ⟨by simp, fun j hj => ?_, fun hs j hj hm => ?_, .inr ⟨rfl, ?_⟩⟩
   ·show (s.1.set i true).getD j false = true
    rw [getD_set hil]; split
    ·rfl
    ·exact hj
   ·have hm : (s.1.set i true).getD j false = true := hm
    rw [getD_set hil] at hm
    by_cases e : j = i
    ·subst e
     obtain ⟨h1, h2, h3⟩ := around_mem hc
     have h4 : wtR W H R j c = netM W H R j c.toNat := by unfold wtR; rw [if_pos ⟨h2, h3⟩]
     exact .step hj (by rw [h4] at h1; exact h1) (hs c.toNat (by omega) q)
    ·rw [if_neg e] at hm
     exact hs j hj hm
   ·have := unmarked_set r' hil (W * H)
    rw [if_pos hi] at this
    show unmarked (s.1.set i true) (W * H) < _
    omega
 ·exact Grow.refl s
theorem hputs_grow {i : Nat} (hi : i < W * H) : ∀ (l : List Int) (s : List Bool × Bool), s.1.length = W * H → (∀ c, c ∈ l → c ∈ aroundL W H R i) → Grow W H R C s (l.foldl (hput i) s)
 | [], s, _, _ => Grow.refl s
 | c :: l, s, hl, hc => by
  have h1 := hput_grow (C := C) hi hl (hc c List.mem_cons_self)
  exact h1.trans (hputs_grow hi l _ (by rw [h1.len]; exact hl) (fun x hx => hc x (List.mem_cons_of_mem _ hx)))
theorem hputs_done {i : Nat} : ∀ (l : List Int) (s : List Bool × Bool), (l.foldl (hput i) s = s) → s.2 = false → ∀ c, c ∈ l → s.1.getD c.toNat false = true → s.1.getD i false = true
 | [], s, _, _, c, hc, _ => by cases hc
 | a :: l, s, h, hf, c, hc, hm => by
  have keep : ∀ (l : List Int) (s : List Bool × Bool), s.2 = true → (l.foldl (hput i) s).2 = true := by
   intro l
   induction l with
   | nil => exact fun s h => h
   | cons a l ih =>
    intro s h
    refine ih _ ?_
    unfold hput
    split
    ·split
     ·exact h
     ·rfl
    ·exact h
  have ha : hput i s a = s := by
   unfold hput
   split
   ·rename_i q
    split
    ·rfl
    ·rename_i r
     exfalso
     have e : hput i s a = (s.1.set i true, true) := by unfold hput; rw [if_pos q, if_neg r]
     have := keep l (hput i s a) (by rw [e])
     rw [List.foldl_cons] at h
     rw [h, hf] at this
     cases this
   ·rfl
  rw [List.foldl_cons, ha] at h
  rcases List.mem_cons.1 hc with rfl | hc
  ·unfold hput at ha
   rw [if_pos hm] at ha
   by_cases r : s.1.getD i false = true
   ·exact r
   ·rw [if_neg r] at ha
    have := congrArg (·.2) ha
    simp [hf] at this
  ·exact hputs_done l s h hf c hc hm
def hcell (W H : Nat) (R : Bool) (s : List Bool × Bool) (i : Nat) : List Bool × Bool := (aroundL W H R i).foldl (hput i) s
def hround (W H : Nat) (R : Bool) (s : List Bool × Bool) : Nat → List Bool × Bool
 | 0 => s
 | n + 1 => hcell W H R (hround W H R s n) n
theorem hround_grow {s : List Bool × Bool} (hl : s.1.length = W * H) : ∀ n, n ≤ W * H → Grow W H R C s (hround W H R s n)
 | 0, _ => Grow.refl s
 | n + 1, hn => by
  have h1 : Grow W H R C s (hround W H R s n) := hround_grow hl n (by omega)
  exact h1.trans (hputs_grow (by omega) _ _ (by rw [h1.len]; exact hl) (fun c hc => hc))
theorem hround_still {s : List Bool × Bool} (hl : s.1.length = W * H) (hf : s.2 = false) : ∀ n, n ≤ W * H → (hround W H R s n).2 = false → hround W H R s n = s ∧ ∀ i, i < n → ∀ c, c ∈ aroundL W H R i → s.1.getD c.toNat false = true → s.1.getD i false = true
 | 0, _, _ => ⟨rfl, fun i hi => absurd hi (Nat.not_lt_zero i)⟩
 | n + 1, hn, h => by
  have g := hround_grow (R := R) (C := []) hl n (by omega)
  have h1 : Grow W H R [] (hround W H R s n) (hround W H R s (n + 1)) := hputs_grow (by omega) _ _ (by rw [g.len]; exact hl) (fun c hc => hc)
  have e : hround W H R s (n + 1) = hround W H R s n := by
   rcases h1.flag with e | ⟨a, _⟩
   ·exact e
   ·rw [h] at a; cases a
  obtain ⟨e2, h2⟩ := hround_still hl hf n (by omega) (by rw [← e]; exact h)
  refine ⟨e.trans e2, fun i hi c hc hm => ?_⟩
  by_cases q : i = n
  ·subst q
   have e3 : (aroundL W H R i).foldl (hput i) s = s := by
    have : hround W H R s (i + 1) = s := e.trans e2
    rw [hround, hcell, e2] at this
    exact this
   exact hputs_done _ s e3 hf c hc hm
  ·exact h2 i (by omega) c hc hm
end
end Go.Proofs.Ytndkkjpgnmahbaa.Print
end

section
namespace Go.Proofs.Ytndkkjpgnmahbaa.Print
open Go.RowKit YtndkkjpgnmahbaaW.PrintWords YtndkkjpgnmahbaaW.PrintLast YtndkkjpgnmahbaaW.PrintMore Ytndkkjpgnmahbaa.H Proofs.Field
section
variable {W H : Nat} {R : Bool} {C : List Int}
theorem held_l3 {i : Nat} (hi : i < W * H) (hWH : W * H ≤ 256) {l : List Int} (hl : l.length ≤ 100) (hm : ∀ c, c ∈ l → 0 ≤ c ∧ c < ((W * H : Nat) : Int)) {r : List Bool} :
  ∀ (d j : Nat) (s : List Bool × Bool), j + d = l.length → s.1.length = W * H → Ev (fun k => thermionref01_held.l2 k ((l.drop j).foldl (hput i) s).1 ((l.drop j).foldl (hput i) s).2 (wrap64 ((i : Int) + 1)) (W : Int) (H : Int) R C) r →
  Ev (fun k => thermionref01_held.l3 k s.1 s.2 (i : Int) l (j : Int) (W : Int) (H : Int) R C) r
 | 0, j, s, h, hs, he => by
  rw [List.drop_eq_nil_of_le (by omega)] at he
  refine he.step 0 (fun k _ => ?_)
  show thermionref01_held.l3 (k + 1) _ _ _ _ _ _ _ _ _ = _
  rw [thermionref01_held.l3, if_neg (by omega)]
  rfl
 | d + 1, j, s, h, hs, he => by
  have hj : j < l.length := by omega
  have hw : wrap64 ((j : Int) + 1) = ((j + 1 : Nat) : Int) := by rw [IntWalk.wrap64_in _ (by omega)]; omega
  obtain ⟨c0, c1⟩ := hm l[j] (List.getElem_mem hj)
  rw [List.drop_eq_getElem_cons hj, List.foldl_cons] at he
  have hs2 : (hput i s l[j]).1.length = W * H := by
   unfold hput
   split
   ·split
    ·exact hs
    ·simpa using hs
   ·exact hs
  refine (held_l3 hi hWH hl hm d (j + 1) (hput i s l[j]) (by omega) hs2 he).step 0 (fun k _ => ?_)
  show thermionref01_held.l3 (k + 1) _ _ _ _ _ _ _ _ _ = _
  rw [thermionref01_held.l3, if_pos (by omega), if_pos (by omega), rd_at l j hj, if_pos c0, if_pos (by omega), hw]
  show (if s.1.getD l[j].toNat false = true then _ else _) = _
  unfold hput
  by_cases q : s.1.getD l[j].toNat false = true
  ·rw [if_pos q, if_pos q, if_pos (by omega), if_pos (by omega)]
   show (if s.1.getD (i : Int).toNat false = true then _ else _) = _
   rw [Int.toNat_natCast]
   by_cases p : s.1.getD i false = true
   ·rw [if_pos p, if_pos p]
   ·rw [if_neg p, if_neg p]
  ·rw [if_neg q, if_neg q]
theorem held_l2 (hW : 1 ≤ W ∧ W ≤ 16) (hH : 1 ≤ H ∧ H ≤ 16) (hC : C.length = W * H) {r : List Bool} {s : List Bool × Bool} (hs : s.1.length = W * H)
  (he : Ev (fun k => thermionref01_held.l1 k (hround W H R s (W * H)).1 (hround W H R s (W * H)).2 (W : Int) (H : Int) R C) r) : ∀ d n, n + d = W * H → Ev (fun k => thermionref01_held.l2 k (hround W H R s n).1 (hround W H R s n).2 (n : Int) (W : Int) (H : Int) R C) r
 | 0, n, h => by
  obtain rfl : n = W * H := by omega
  refine he.step 0 (fun k _ => ?_)
  show thermionref01_held.l2 (k + 1) _ _ _ _ _ _ _ = _
  rw [thermionref01_held.l2, if_neg (by omega)]
 | d + 1, n, h => by
  have hWH : W * H ≤ 256 := Nat.mul_le_mul hW.2 hH.2
  have hw : wrap64 ((n : Int) + 1) = ((n + 1 : Nat) : Int) := by rw [IntWalk.wrap64_in _ (by omega)]; omega
  have ih := held_l2 hW hH hC hs he d (n + 1) (by omega)
  have hlen := around_len (W := W) (H := H) (R := R) (i := n)
  have g := hround_grow (R := R) (C := C) hs n (by omega)
  have h3 := held_l3 (R := R) (C := C) (i := n) (l := aroundL W H R n) (r := r) (by omega) hWH (by omega) (fun c hc => (around_mem hc).2) (aroundL W H R n).length 0 (hround W H R s n) (by omega) (by rw [g.len]; exact hs) (by rw [List.drop_zero, hw]; exact ih)
  refine h3.step 8 (fun k hk => ?_)
  obtain ⟨k, rfl⟩ : ∃ k', k = k' + 8 := ⟨k - 8, by omega⟩
  show thermionref01_held.l2 (k + 8 + 1) _ _ _ _ _ _ _ = _
  rw [thermionref01_held.l2, if_pos (by omega), obnd (around_eq hW hH (by omega) k)]
  rfl
theorem held_l1 (hW : 1 ≤ W ∧ W ≤ 16) (hH : 1 ≤ H ∧ H ≤ 16) (hC : C.length = W * H) : ∀ (m : Nat) (b : List Bool), b.length = W * H → unmarked b (W * H) ≤ m → (∀ j, j < W * H → b.getD j false = true → (net W H R C).Reach j) →
  ∃ r, Ev (fun k => thermionref01_held.l1 k b true (W : Int) (H : Int) R C) r ∧ r.length = W * H ∧ (∀ j, j < W * H → r.getD j false = true → (net W H R C).Reach j) ∧ (∀ j, b.getD j false = true → r.getD j false = true) ∧ ∀ i, i < W * H → ∀ c, c ∈ aroundL W H R i → r.getD c.toNat false = true → r.getD i false = true := fun m => by
 induction m with
 | zero =>
  intro b hb hu hs
  have g := hround_grow (R := R) (C := C) (s := (b, false)) hb (W * H) (Nat.le_refl _)
  have e : (hround W H R (b, false) (W * H)).2 = false := by
   rcases g.flag with e | ⟨_, e⟩
   ·rw [e]
   ·have e : unmarked _ _ < unmarked b (W * H) := e
    omega
  obtain ⟨e2, h2⟩ := hround_still (R := R) (s := (b, false)) hb rfl (W * H) (Nat.le_refl _) e
  refine ⟨b, ?_, hb, hs, fun j h => h, h2⟩
  refine Ev.step (held_l2 (C := C) (R := R) hW hH hC (s := (b, false)) hb ?_ (W * H) 0 (by omega)) 0 (fun k _ => ?_)
  ·rw [e2]
   refine Ev.now (fun k => ?_)
   rw [thermionref01_held.l1, if_neg (by simp)]
  ·show thermionref01_held.l1 (k + 1) _ _ _ _ _ _ = _
   rw [thermionref01_held.l1, if_pos rfl]
   rfl
 | succ m ih =>
  intro b hb hu hs
  have g := hround_grow (R := R) (C := C) (s := (b, false)) hb (W * H) (Nat.le_refl _)
  have start : ∀ r, Ev (fun k => thermionref01_held.l1 k (hround W H R (b, false) (W * H)).1 (hround W H R (b, false) (W * H)).2 (W : Int) (H : Int) R C) r → Ev (fun k => thermionref01_held.l1 k b true (W : Int) (H : Int) R C) r := fun r he => by
   refine Ev.step (held_l2 (C := C) (R := R) hW hH hC (s := (b, false)) hb he (W * H) 0 (by omega)) 0 (fun k _ => ?_)
   show thermionref01_held.l1 (k + 1) _ _ _ _ _ _ = _
   rw [thermionref01_held.l1, if_pos rfl]
   rfl
  cases e : (hround W H R (b, false) (W * H)).2 with
  | false =>
   obtain ⟨e2, h2⟩ := hround_still (R := R) (s := (b, false)) hb rfl (W * H) (Nat.le_refl _) e
   refine ⟨b, start b ?_, hb, hs, fun j h => h, h2⟩
   rw [e2]
   refine Ev.now (fun k => ?_)
   rw [thermionref01_held.l1, if_neg (by simp)]
  | true =>
   have hlt : unmarked (hround W H R (b, false) (W * H)).1 (W * H) < unmarked b (W * H) := by
    rcases g.flag with q | ⟨_, q⟩
    ·rw [q] at e; cases e
    ·exact q
   obtain ⟨r, h1, h2, h3, h4, h5⟩ := ih (hround W H R (b, false) (W * H)).1 (by rw [g.len]; exact hb) (by omega) (g.sound hs)
   exact ⟨r, start r (by rw [e]; exact h1), h2, h3, fun j hj => h4 j (g.mono j hj), h5⟩
def seedB (C : List Int) (n : Nat) : List Bool := (List.range C.length).map (fun j => decide (j < n ∧ 0 < fn C j))
theorem seedB_len (C : List Int) (n : Nat) : (seedB C n).length = C.length := by simp [seedB]
theorem seedB_get {C : List Int} {n j : Nat} (h : j < C.length) : (seedB C n).getD j false = decide (j < n ∧ 0 < fn C j) := by
 unfold seedB
 rw [List.getD_eq_getElem?_getD, List.getElem?_map, List.getElem?_range h]
 rfl
theorem seedB_zero (C : List Int) : List.replicate C.length false = seedB C 0 := by
 refine List.ext_getElem (by rw [seedB_len, List.length_replicate]) (fun k h1 h2 => ?_)
 simp [seedB]
theorem seedB_succ {C : List Int} {n : Nat} (hn : n < C.length) : (seedB C n).set n (decide (rd C (n : Int) > 0)) = seedB C (n + 1) := by
 refine List.ext_getElem (by rw [List.length_set, seedB_len, seedB_len]) (fun k h1 h2 => ?_)
 rw [List.getElem_set]
 show (if n = k then decide (fn C n > 0) else _) = _
 by_cases q : n = k
 ·subst q
  rw [if_pos rfl]
  simp [seedB]
 ·rw [if_neg q]
  simp only [seedB, List.getElem_map, List.getElem_range]
  congr 1
  exact propext ⟨fun h => ⟨by omega, h.2⟩, fun h => ⟨by omega, h.2⟩⟩
theorem held_l0 (hC : C.length ≤ 256) {r : List Bool} (he : Ev (fun k => thermionref01_held.l1 k (seedB C C.length) true (W : Int) (H : Int) R C) r) : ∀ d n, n + d = C.length → Ev (fun k => thermionref01_held.l0 k (seedB C n) (n : Int) (W : Int) (H : Int) R C) r
 | 0, n, h => by
  obtain rfl : n = C.length := by omega
  refine he.step 0 (fun k _ => ?_)
  show thermionref01_held.l0 (k + 1) _ _ _ _ _ _ = _
  rw [thermionref01_held.l0, if_neg (by omega)]
 | d + 1, n, h => by
  have hw : wrap64 ((n : Int) + 1) = ((n + 1 : Nat) : Int) := by rw [IntWalk.wrap64_in _ (by omega)]; omega
  refine (held_l0 hC he d (n + 1) (by omega)).step 0 (fun k _ => ?_)
  show thermionref01_held.l0 (k + 1) _ _ _ _ _ _ = _
  rw [thermionref01_held.l0, if_pos (by omega), if_pos (by omega), if_pos (by rw [seedB_len]; omega), hw, Int.toNat_natCast, seedB_succ (by omega)]
theorem around_of_M {i j : Nat} (hi : i < W * H) (hj : j < W * H) (h : 0 < netM W H R i j) : (j : Int) ∈ aroundL W H R i := by
 refine List.mem_filter.2 ⟨?_, ?_⟩
 ·obtain ⟨hW, he, hx, hy⟩ := cell_at hi
  obtain ⟨p, hp, e⟩ := List.mem_map.1 (nb_of_M hi hj h)
  have hu := up_ge (W := W) (i := i) hW
  have hcol := fun h => left_col (W := W) (i := i) h
  unfold nbs at hp
  simp only [List.mem_append] at hp
  unfold cand
  by_cases q : W = 1
  ·rw [if_pos q]
   rcases hp with hp | hp | hp | hp <;> split at hp <;> simp at hp
   ·have h1 := (hcol (by assumption)).2; subst hp; simp at e; subst e; simp; omega
   ·subst hp; simp at e; subst e; simp
   ·have h1 := hu.1 (by assumption); subst hp; simp at e; subst e; simp; omega
   ·subst hp; simp at e; subst e; simp; omega
  ·rw [if_neg q]
   rcases hp with hp | hp | hp | hp <;> split at hp <;> simp at hp
   ·have h1 := (hcol (by assumption)).2; subst hp; simp at e; subst e; simp; omega
   ·subst hp; simp at e; subst e; simp
   ·have h1 := hu.1 (by assumption); subst hp; simp at e; subst e; simp; omega
   ·subst hp; simp at e; subst e; simp
 ·unfold wtR
  rw [if_pos (by omega), Int.toNat_natCast]
  exact decide_eq_true h
theorem held_eq (hW : 1 ≤ W ∧ W ≤ 16) (hH : 1 ≤ H ∧ H ≤ 16) (hC : C.length = W * H) : ∃ r, Ev (fun k => thermionref01_held.f k (W : Int) (H : Int) R C) r ∧ r.length = C.length ∧ ∀ j, j < C.length → (r.getD j false = true ↔ (net W H R C).Reach j) := by
 have hWH : W * H ≤ 256 := Nat.mul_le_mul hW.2 hH.2
 obtain ⟨r, h1, h2, h3, h4, h5⟩ := held_l1 (R := R) hW hH hC (unmarked (seedB C C.length) (W * H)) (seedB C C.length) (by rw [seedB_len]; exact hC) (Nat.le_refl _) (fun j hj hm => by
  rw [seedB_get (by omega)] at hm
  exact .el hj (by simpa [net] using (of_decide_eq_true hm).2))
 refine ⟨r, ?_, by omega, fun j hj => ⟨h3 j (by omega), fun h => ?_⟩⟩
 ·obtain ⟨K, hK⟩ := held_l0 (W := W) (H := H) (R := R) (by omega) h1 C.length 0 (by omega)
  refine ⟨K, fun k hk => ?_⟩
  show thermionref01_held.f k _ _ _ _ = _
  unfold thermionref01_held.f
  rw [if_pos (by omega), Int.toNat_natCast, if_pos (by omega), seedB_zero]
  exact hK k hk
 ·induction h with
  | @el i hi he =>
   refine h4 i ?_
   rw [seedB_get (by omega)]
   exact decide_eq_true ⟨by omega, by simpa [net] using he⟩
  | @step i k hi hM hk ih =>
   have hkl : k < W * H := hk.lt
   refine h5 i hi (k : Int) (around_of_M hi hkl hM) ?_
   rw [Int.toNat_natCast]
   exact ih (by omega)
end
theorem beyond_eq (n a b : Int) : thermionref01_beyond.f n a b = some (decide (n < a ∨ b < n)) := by
 unfold thermionref01_beyond.f
 by_cases q : n < a
 ·rw [if_pos q, decide_eq_true (Or.inl q)]
 ·rw [if_neg q]
  congr 1
  exact decide_eq_decide.2 ⟨fun h => .inr h, fun h => h.resolve_left q⟩
theorem rdOf_at (r : List Bool) (j : Nat) : rdOf false r (j : Int) = r.getD j false := by
 unfold rdOf
 rw [Int.toNat_natCast]
section
variable {W H : Nat} {R : Bool} {C : List Int}
theorem check_l1_ok {r : List Bool} (hr : r.length ≤ 256) (h : ∀ i, i < r.length → r.getD i false = true) : ∀ d j, j + d = r.length → Ev (fun k => thermionref01_Check.l1 k r (j : Int)) 0
 | 0, j, hj => Ev.now (fun k => by rw [thermionref01_Check.l1, if_neg (by omega)])
 | d + 1, j, hj => by
  have hw : wrap64 ((j : Int) + 1) = ((j + 1 : Nat) : Int) := by rw [IntWalk.wrap64_in _ (by omega)]; omega
  refine (check_l1_ok hr h d (j + 1) (by omega)).step 0 (fun k _ => ?_)
  show thermionref01_Check.l1 (k + 1) _ _ = _
  rw [thermionref01_Check.l1, if_pos (by omega), if_pos (by omega), rdOf_at, if_pos (h j (by omega)), hw]
theorem check_l1_bad {r : List Bool} (hr : r.length ≤ 256) {i : Nat} (hi : i < r.length) (h : r.getD i false = false) : ∀ d j, j + d = i → Ev (fun k => thermionref01_Check.l1 k r (j : Int)) 13
 | 0, j, hj => Ev.now (fun k => by
  obtain rfl : j = i := by omega
  rw [thermionref01_Check.l1, if_pos (by omega), if_pos (by omega), rdOf_at, h, if_neg (by simp)])
 | d + 1, j, hj => by
  have hw : wrap64 ((j : Int) + 1) = ((j + 1 : Nat) : Int) := by rw [IntWalk.wrap64_in _ (by omega)]; omega
  by_cases q : r.getD j false = true
  ·refine (check_l1_bad hr hi h d (j + 1) (by omega)).step 0 (fun k _ => ?_)
   show thermionref01_Check.l1 (k + 1) _ _ = _
   rw [thermionref01_Check.l1, if_pos (by omega), if_pos (by omega), rdOf_at, if_pos q, hw]
  ·exact Ev.now (fun k => by rw [thermionref01_Check.l1, if_pos (by omega), if_pos (by omega), rdOf_at, if_neg q])
def endErr (W H : Nat) (R : Bool) (C : List Int) : Int := if ∃ e, e ∈ C ∧ (e < 0 ∨ 6 < e) then 2 else if ∀ e, e ∈ C → e = 0 then 7 else if looseB W H R C = true then 13 else 0
theorem Ev.bind {α β : Type} {f : Nat → Option α} {a : α} {g : Nat → α → Option β} {r : β} (h : Ev f a) (hg : Ev (fun k => g k a) r) : Ev (fun k => (f k).bind (g k)) r := by
 obtain ⟨K1, h1⟩ := h
 obtain ⟨K2, h2⟩ := hg
 refine ⟨K1 + K2, fun k hk => ?_⟩
 show (f k).bind (g k) = _
 rw [obnd (h1 k (by omega))]
 exact h2 k (by omega)
theorem check_l0 (hW : 1 ≤ W ∧ W ≤ 16) (hH : 1 ≤ H ∧ H ≤ 16) (hC : C.length = W * H) : ∀ (d n : Nat), n + d = C.length → (∀ j, j < n → 0 ≤ fn C j ∧ fn C j ≤ 6) → ∀ b : Bool, (b = true ↔ ∃ j, j < n ∧ 0 < fn C j) →
  Ev (fun k => thermionref01_Check.l0 k b (n : Int) (W : Int) (H : Int) R C) (endErr W H R C)
 | 0, n, h, hr, b, hb => by
  have hWH : W * H ≤ 256 := Nat.mul_le_mul hW.2 hH.2
  obtain rfl : n = C.length := by omega
  have h1 : ¬ ∃ e, e ∈ C ∧ (e < 0 ∨ 6 < e) := fun ⟨e, he, hb⟩ => by
   obtain ⟨j, hj, rfl⟩ := mem_fn he
   have := hr j hj
   omega
  unfold endErr
  rw [if_neg h1]
  cases b with
  | false =>
   rw [if_pos]
   ·refine Ev.now (fun k => ?_)
    rw [thermionref01_Check.l0, if_neg (by omega), if_neg (by simp)]
   ·intro e he
    obtain ⟨j, hj, rfl⟩ := mem_fn he
    have := hr j hj
    by_cases q : 0 < fn C j
    ·exact absurd (hb.2 ⟨j, hj, q⟩) (by simp)
    ·omega
  | true =>
   obtain ⟨j, hj, hp⟩ := hb.1 rfl
   rw [if_neg (fun h => by have := h _ (fn_mem hj); omega)]
   obtain ⟨r, e1, e2, e3⟩ := held_eq (R := R) hW hH hC
   have hend : Ev (fun k => thermionref01_Check.l1 k r 0) (if looseB W H R C = true then 13 else 0) := by
    cases q : looseB W H R C with
    | false =>
     have hl := (loose_iff hC (by omega)).1 q
     rw [if_neg (by simp)]
     exact check_l1_ok (by omega) (fun i hi => (e3 i (by omega)).2 (hl i (by omega))) r.length 0 (by omega)
    | true =>
     rw [if_pos rfl]
     have hn : ¬ ∀ i, i < r.length → r.getD i false = true := fun h => by
      have := (loose_iff (R := R) hC (by omega)).2 (fun i hi => (e3 i hi).1 (h i (by omega)))
      rw [q] at this; cases this
     obtain ⟨i, hi⟩ := Classical.not_forall.1 hn
     have hi2 : i < r.length := Classical.byContradiction fun q => hi (fun w => absurd w q)
     have hf : r.getD i false = false := by
      cases z : r.getD i false with
      | false => rfl
      | true => exact absurd (fun _ => z) hi
     exact check_l1_bad (by omega) hi2 hf i 0 (by omega)
   refine (Ev.bind (g := fun k t286 => thermionref01_Check.l1 k t286 0) e1 hend).step 0 (fun k _ => ?_)
   show thermionref01_Check.l0 (k + 1) _ _ _ _ _ _ = _
   rw [thermionref01_Check.l0, if_neg (by omega), if_pos rfl]
 | d + 1, n, h, hr, b, hb => by
  have hWH : W * H ≤ 256 := Nat.mul_le_mul hW.2 hH.2
  have hw : wrap64 ((n : Int) + 1) = ((n + 1 : Nat) : Int) := by rw [IntWalk.wrap64_in _ (by omega)]; omega
  have e : rd C (n : Int) = fn C n := rfl
  by_cases q : fn C n < 0 ∨ 6 < fn C n
  ·unfold endErr
   rw [if_pos ⟨_, fn_mem (show n < C.length by omega), q⟩]
   refine Ev.now (fun k => ?_)
   rw [thermionref01_Check.l0, if_pos (by omega), if_pos (by omega), e, obnd (beyond_eq _ _ _), decide_eq_true q, if_pos rfl]
  ·have hq : 0 ≤ fn C n ∧ fn C n ≤ 6 := by omega
   have ih := check_l0 hW hH hC d (n + 1) (by omega) (fun j hj => by
    by_cases z : j = n
    ·subst z; exact hq
    ·exact hr j (by omega)) (b || decide (fn C n > 0)) (by
     rw [Bool.or_eq_true, hb, decide_eq_true_iff]
     constructor
     ·rintro (⟨j, hj, hp⟩ | hp)
      ·exact ⟨j, by omega, hp⟩
      ·exact ⟨n, by omega, hp⟩
     ·rintro ⟨j, hj, hp⟩
      by_cases z : j = n
      ·subst z; exact .inr hp
      ·exact .inl ⟨j, by omega, hp⟩)
   refine ih.step 0 (fun k _ => ?_)
   show thermionref01_Check.l0 (k + 1) _ _ _ _ _ _ = _
   rw [thermionref01_Check.l0, if_pos (by omega), if_pos (by omega), e, obnd (beyond_eq _ _ _), decide_eq_false q, if_neg (by simp), hw]
   cases b <;> rfl
end
theorem refcheck_eq (W H : Int) (R : Bool) (C : List Int) : Ev (fun k => thermionref01_Check.f k W H R C) (checkErr W H R C) := by
 unfold checkErr
 by_cases q1 : W < 1 ∨ 16 < W
 ·rw [if_pos (by omega)]
  refine Ev.now (fun k => ?_)
  unfold thermionref01_Check.f
  rw [obnd (beyond_eq _ _ _), decide_eq_true q1, if_pos rfl, thermionref01_Check.j0, if_pos rfl]
 ·by_cases q2 : H < 1 ∨ 16 < H
  ·rw [if_pos (by omega)]
   refine Ev.now (fun k => ?_)
   unfold thermionref01_Check.f
   rw [obnd (beyond_eq _ _ _), decide_eq_false q1, if_neg (by simp), obnd (beyond_eq _ _ _), decide_eq_true q2, thermionref01_Check.j0, if_pos rfl]
  ·obtain ⟨W', rfl⟩ : ∃ W' : Nat, W = W' := ⟨W.toNat, by omega⟩
   obtain ⟨H', rfl⟩ : ∃ H' : Nat, H = H' := ⟨H.toNat, by omega⟩
   have hW : 1 ≤ W' ∧ W' ≤ 16 := by omega
   have hH : 1 ≤ H' ∧ H' ≤ 16 := by omega
   have hWH : W' * H' ≤ 256 := Nat.mul_le_mul hW.2 hH.2
   have w0 : wrap64 ((W' : Int) * (H' : Int)) = ((W' * H' : Nat) : Int) := by
    rw [← Int.natCast_mul]; exact IntWalk.wrap64_in _ (by omega)
   rw [if_neg (by omega), ← Int.natCast_mul, Int.toNat_natCast, Int.toNat_natCast]
   by_cases q3 : C.length = W' * H'
   ·rw [if_neg (by rw [q3]; simp)]
    have h0 := check_l0 (R := R) hW hH q3 C.length 0 (by omega) (fun j hj => absurd hj (Nat.not_lt_zero j)) false ⟨fun h => by simp at h, fun ⟨j, hj, _⟩ => absurd hj (Nat.not_lt_zero j)⟩
    refine h0.step 0 (fun k _ => ?_)
    show thermionref01_Check.f (k + 1) _ _ _ _ = _
    unfold thermionref01_Check.f
    rw [obnd (beyond_eq _ _ _), decide_eq_false q1, if_neg (by simp), obnd (beyond_eq _ _ _), decide_eq_false q2, thermionref01_Check.j0, if_neg (by simp), w0, if_pos (by rw [q3])]
    rfl
   ·rw [if_pos (by intro h; exact q3 (by exact Int.ofNat.inj h))]
    refine Ev.now (fun k => ?_)
    unfold thermionref01_Check.f
    rw [obnd (beyond_eq _ _ _), decide_eq_false q1, if_neg (by simp), obnd (beyond_eq _ _ _), decide_eq_false q2, thermionref01_Check.j0, if_neg (by simp), w0, if_neg (by intro h; exact q3 (by exact Int.ofNat.inj h))]
end Go.Proofs.Ytndkkjpgnmahbaa.Print
end

section
namespace Go.Proofs.Field
end Go.Proofs.Field
end

section
namespace Go.Proofs.Ytndkkjpgnmahbaa.Print
open Go.RowKit YtndkkjpgnmahbaaW.PrintWords YtndkkjpgnmahbaaW.PrintLast YtndkkjpgnmahbaaW.PrintMore Ytndkkjpgnmahbaa.H Proofs.Field
structure SR (w W : World) (gp g6 g9 : Nat) (pv : Array Value) (g1 c1 g2 c2 n : Nat) (lo hi : List Int) (k : Nat) (still : Bool) : Prop where
 old : Below w.heap.size w W
 p : W.heap[gp]? = some (.cells pv 24 (0, 0))
 r : W.heap[g6]? = some (.cells #[.slice none 0 0, .slice none 0 0, .int .i64 0, .bool false] 33 (0, 0))
 f : W.heap[g9]? = some (.cells #[.slice (some ⟨g1, 0, none⟩) n c1, .slice (some ⟨g2, 0, none⟩) n c2, .int .i64 (k : Int), .bool still] 33 (0, 0))
 r1 : Row4 W w.heap.size g1 c1 n lo
 r2 : Row4 W w.heap.size g2 c2 n hi
 ne : g1 ≠ g2
 n6 : g6 ≠ g9
 ge : w.heap.size ≤ g9 ∧ w.heap.size ≤ g6
namespace SR
variable {w W W1 : World} {gp g6 g9 : Nat} {pv : Array Value} {g1 c1 g2 c2 n : Nat} {lo hi l1 l2 : List Int} {k : Nat} {still : Bool}
theorem step (h : SR w W gp g6 g9 pv g1 c1 g2 c2 n lo hi k still) (hb : Below W.heap.size W W1) : SR w W1 gp g6 g9 pv g1 c1 g2 c2 n lo hi k still :=
 ⟨below_step h.old hb, blk_below h.p hb, blk_below h.r hb, blk_below h.f hb, h.r1.below hb, h.r2.below hb, h.ne, h.n6, h.ge⟩
theorem away1 (h : SR w W gp g6 g9 pv g1 c1 g2 c2 n lo hi k still) {g t : Nat} {cs : Array Value} (hg : W.heap[g]? = some (.cells cs t (0, 0))) (ht : (3 : Nat) ≠ t) : g ≠ g1 := fun e => Kd.R_ne h.r1.2 hg ht (by rw [e]; rfl)
theorem away2 (h : SR w W gp g6 g9 pv g1 c1 g2 c2 n lo hi k still) {g t : Nat} {cs : Array Value} (hg : W.heap[g]? = some (.cells cs t (0, 0))) (ht : (3 : Nat) ≠ t) : g ≠ g2 := fun e => Kd.R_ne h.r2.2 hg ht (by rw [e]; rfl)
theorem puts (h : SR w W gp g6 g9 pv g1 c1 g2 c2 n lo hi k still) (b : Bool) : SR w (W.setCell ⟨g9, 3, none⟩ (.bool b)) gp g6 g9 pv g1 c1 g2 c2 n lo hi k b :=
 ⟨below_set h.old h.ge.1, blk_far (p := ⟨g9, 3, none⟩) h.p (blk_ne h.p h.f (by decide)) _, blk_far (p := ⟨g9, 3, none⟩) h.r h.n6 _, by rw [blk_set h.f 3]; rfl, h.r1.far (p := ⟨g9, 3, none⟩) (h.away1 h.f (by decide)).symm _, h.r2.far (p := ⟨g9, 3, none⟩) (h.away2 h.f (by decide)).symm _, h.ne, h.n6, h.ge⟩
theorem putk (h : SR w W gp g6 g9 pv g1 c1 g2 c2 n lo hi k still) : SR w (W.setCell ⟨g9, 2, none⟩ (.int .i64 ((k : Int) + 1))) gp g6 g9 pv g1 c1 g2 c2 n lo hi (k + 1) still :=
 ⟨below_set h.old h.ge.1, blk_far (p := ⟨g9, 2, none⟩) h.p (blk_ne h.p h.f (by decide)) _, blk_far (p := ⟨g9, 2, none⟩) h.r h.n6 _, by rw [blk_set h.f 2, show (k : Int) + 1 = ((k + 1 : Nat) : Int) by omega]; rfl, h.r1.far (p := ⟨g9, 2, none⟩) (h.away1 h.f (by decide)).symm _, h.r2.far (p := ⟨g9, 2, none⟩) (h.away2 h.f (by decide)).symm _, h.ne, h.n6, h.ge⟩
theorem row (h : SR w W gp g6 g9 pv g1 c1 g2 c2 n lo hi k still) (cs : Array Value) : Kd.R (Kd.int .i64) 3 (W.setRow g6 cs) w.heap.size (fun k_ => some k_ ≠ (Value.slice (some ⟨g2, 0, none⟩) n c2).ownBlock) (.slice (some ⟨g1, 0, none⟩) n c1) lo ∧ Kd.R (Kd.int .i64) 3 (W.setRow g6 cs) w.heap.size (fun k_ => some k_ ≠ (Value.slice (some ⟨g1, 0, none⟩) n c1).ownBlock) (.slice (some ⟨g2, 0, none⟩) n c2) hi ∧ Below w.heap.size w (W.setRow g6 cs) := by
 refine ⟨?_, ?_, ?_⟩
 ·exact Kd.R_mono (Kd.R_step (Kd.R_types h.r1.2 h.r (by decide)) (fun k hk _ => setRow_other _ _ _ _ hk.2)) (fun k hk e => h.ne (by rw [← hk.1]; exact Option.some.inj e))
 ·exact Kd.R_mono (Kd.R_step (Kd.R_types h.r2.2 h.r (by decide)) (fun k hk _ => setRow_other _ _ _ _ hk.2)) (fun k hk e => h.ne (by rw [← hk.1]; exact (Option.some.inj e).symm))
 ·exact ⟨h.old.os, h.old.tape, h.old.output, by rw [size_setRow]; exact h.old.size, fun i hi => by rw [setRow_other _ g6 i _ (by have := h.ge.2; omega)]; exact h.old.block i hi⟩
end SR
end Go.Proofs.Ytndkkjpgnmahbaa.Print
end

section
namespace Go.Proofs.Ytndkkjpgnmahbaa.Print
open Go.RowKit YtndkkjpgnmahbaaW.PrintWords YtndkkjpgnmahbaaW.PrintLast YtndkkjpgnmahbaaW.PrintMore Ytndkkjpgnmahbaa.H Proofs.Field
end Go.Proofs.Ytndkkjpgnmahbaa.Print
end

section
namespace Go.Proofs.Field
end Go.Proofs.Field
end

section
namespace Go.Proofs.Ytndkkjpgnmahbaa.Print
open Go.RowKit YtndkkjpgnmahbaaW.PrintWords YtndkkjpgnmahbaaW.PrintLast YtndkkjpgnmahbaaW.PrintMore Ytndkkjpgnmahbaa.H Proofs.Field
theorem refweight_eq (W H : Int) (R : Bool) (C : List Int) (a b : Int) : Ev (fun k => thermionref01_Weight.f k W H R C a b) (weightOf W H R C a b) := by
 obtain ⟨K, hK⟩ := refcheck_eq W H R C
 have hK' : ∀ k, K ≤ k → thermionref01_Check.f k W H R C = some (checkErr W H R C) := hK
 by_cases q : checkErr W H R C = 0
 ·obtain ⟨p1, p2, p3, p4, p5, _⟩ := check_parts q
  obtain ⟨W', rfl⟩ : ∃ W' : Nat, W = W' := ⟨W.toNat, by omega⟩
  obtain ⟨H', rfl⟩ : ∃ H' : Nat, H = H' := ⟨H.toNat, by omega⟩
  have hlen : C.length = W' * H' := by rw [← Int.natCast_mul] at p5; omega
  have h256 : W' * H' ≤ 256 := Nat.mul_le_mul (show W' ≤ 16 by omega) (show H' ≤ 16 by omega)
  have hin : ∃ K2, ∀ k, K2 ≤ k → thermionref01_weight.f k (W' : Int) (H' : Int) R C a b = some (weightOf W' H' R C a b) := by
   by_cases g : 0 ≤ a ∧ a < ((W' * H' : Nat) : Int)
   ·obtain ⟨i, rfl⟩ : ∃ i : Nat, a = i := ⟨a.toNat, by omega⟩
    refine ⟨2, fun k hk => ?_⟩
    obtain ⟨k, rfl⟩ : ∃ k', k = k' + 2 := ⟨k - 2, by omega⟩
    rw [weight_eq (by omega) (by omega) R C (by omega) b k]
    unfold wtR weightOf
    congr 1
    by_cases t : b < 0
    ·rw [if_neg (by omega), if_pos (.inr (.inr (.inr t)))]
    ·have hc : ¬ (checkErr (W' : Int) (H' : Int) R C ≠ 0 ∨ (i : Int) < 0 ∨ (C.length : Int) ≤ (i : Int) ∨ b < 0) := fun z => by
      rcases z with z | z
      ·exact z q
      ·rw [hlen] at z; omega
     rw [if_neg hc, Int.toNat_natCast, Int.toNat_natCast, Int.toNat_natCast]
     by_cases u : b < ((W' * H' : Nat) : Int)
     ·rw [if_pos (by omega)]
     ·rw [if_neg (by omega)]
      unfold netM
      rw [if_neg (by omega)]
   ·have hwo : weightOf (W' : Int) (H' : Int) R C a b = 0 := by
     unfold weightOf
     rw [if_pos (by right; rw [hlen]; omega)]
    rw [hwo]
    have w0 : wrap64 ((W' : Int) * (H' : Int)) = ((W' * H' : Nat) : Int) := by
     rw [← Int.natCast_mul]; exact IntWalk.wrap64_in _ (by omega)
    have w1 : wrap64 (((W' * H' : Nat) : Int) - 1) = ((W' * H' : Nat) : Int) - 1 := IntWalk.wrap64_in _ (by omega)
    have hb : thermionref01_beyond.f a 0 (wrap64 ((wrap64 ((W' : Int) * (H' : Int))) - 1)) = some true := by
     rw [beyond_eq, w0, w1, decide_eq_true (by omega)]
    refine ⟨1, fun k hk => ?_⟩
    obtain ⟨k, rfl⟩ : ∃ k', k = k' + 1 := ⟨k - 1, by omega⟩
    unfold thermionref01_weight.f
    rw [obnd hb, if_pos rfl, thermionref01_weight.j0, if_pos rfl]
  obtain ⟨K2, hK2⟩ := hin
  refine ⟨K + K2, fun k hk => ?_⟩
  show (thermionref01_Check.f k _ _ R C).bind _ = _
  rw [obnd (hK' k (by omega)), if_pos q, obnd (hK2 k (by omega))]
 ·have hwo : weightOf W H R C a b = 0 := by unfold weightOf; rw [if_pos (.inl q)]
  rw [hwo]
  refine ⟨K, fun k hk => ?_⟩
  show (thermionref01_Check.f k W H R C).bind _ = _
  rw [obnd (hK' k hk), if_neg q]
end Go.Proofs.Ytndkkjpgnmahbaa.Print
end

section
namespace Go.Proofs.Ytndkkjpgnmahbaa.Print
open Go.RowKit YtndkkjpgnmahbaaW.PrintWords YtndkkjpgnmahbaaW.PrintLast YtndkkjpgnmahbaaW.PrintMore Ytndkkjpgnmahbaa.H Proofs.Field
def ints (l : List Nat) : List Int := l.map Int.ofNat
theorem ints_length (l : List Nat) : (ints l).length = l.length := by simp [ints]
theorem fn_ints {l : List Nat} {i : Nat} (hi : i < l.length) : fn (ints l) i = (l.getD i 0 : Nat) := by
  unfold fn ints
  rw [List.getD_eq_getElem?_getD, List.getD_eq_getElem?_getD, List.getElem?_map, List.getElem?_eq_getElem hi]
  rfl
theorem ints_snoc (l : List Nat) (i : Nat) : ints (l ++ [i]) = ints l ++ [(i : Int)] := by simp [ints]
structure E0 (w W : World) (g : Nat) (s : Int) (g6 : Nat) (PV : Array Value) (gC : Nat) (cu : Array Value) (vA : Value) (zs : List Int) : Prop where
  m : Mem w W [(g, #[.int .u64 s], 79), (gC, cu, 3), (g6, PV, 24)]
  at_ : Kd.R (Kd.int .i64) 3 W w.heap.size (fun k => k ≠ gC ∧ k ≠ g) vA zs
namespace E0
variable {w W W1 : World} {g : Nat} {s s1 : Int} {g6 : Nat} {PV : Array Value} {gC : Nat} {cu : Array Value} {vA v1 : Value} {zs z1 : List Int}
theorem step (h : E0 w W g s g6 PV gC cu vA zs) (hb : Below W.heap.size W W1) : E0 w W1 g s g6 PV gC cu vA zs := ⟨h.m.step hb, Kd.R_below h.at_ hb⟩
theorem dice (h : E0 w W g s g6 PV gC cu vA zs) (hK : KeepBut W W1 g none) (hB : Below w.heap.size w W1) (hI : IsS79 w W1 g s1) : E0 w W1 g s1 g6 PV gC cu vA zs := ⟨h.m.keepd hK hB hI.1, Kd.R_keep h.at_ hK (fun k hk => hk.2)⟩
theorem put (h : E0 w W g s g6 PV gC cu vA zs) (i : Nat) (x : Int) : E0 w (W.setCell ⟨gC, i, none⟩ (.int .i64 x)) g s g6 PV gC (cu.setIfInBounds i (.int .i64 x)) vA zs :=
  ⟨(h.m.swap.put i (.int .i64 x) rfl).swap, Kd.R_far (p := ⟨gC, i, none⟩) h.at_ (fun k hk => hk.1) _⟩
theorem app (h : E0 w W g s g6 PV gC cu vA zs) (hR : Kd.R (Kd.int .i64) 3 W1 w.heap.size (fun k => k ≠ gC ∧ k ≠ g) v1 z1) (hg : W.grownBy W1 vA.ownBlock) : E0 w W1 g s g6 PV gC cu v1 z1 := by
  refine ⟨h.m.grown hg (fun k hk => Kd.R_base h.at_ k hk) (fun p hp => ?_), hR⟩
  simp only [List.mem_cons, List.not_mem_nil, or_false] at hp
  rcases hp with rfl | rfl | rfl
  · exact fun e => (h.at_.1 g e.symm).2 rfl
  · exact fun e => (h.at_.1 gC e.symm).1 rfl
  · exact Kd.R_ne h.at_ (t := 24) (h.m.blk (g6, PV, 24) (by simp)) (by decide)
theorem fresh (h : E0 w W g s g6 PV gC cu vA zs) : ∀ k, W.heap.size ≤ k → k ≠ gC ∧ k ≠ g := fun k hk => by
  have h1 := blk_lt (h.m.blk (g, #[.int .u64 s], 79) (by simp))
  have h2 := blk_lt (h.m.blk (gC, cu, 3) (by simp))
  dsimp only at h1 h2
  omega
theorem done (h : E0 w W g s g6 PV gC cu vA zs) : ∃ (A : Option Addr) (c : Nat) (lA : List (Nat × Array Value × TypeId)), vA = .slice A zs.length c ∧ Mem w W ((g, #[.int .u64 s], 79) :: (gC, cu, 3) :: (g6, PV, 24) :: lA) ∧ zs.length ≤ c ∧
    ∀ V : World, (∀ p, p ∈ lA → V.heap[p.1]? = some (.cells p.2.1 p.2.2 (0, 0))) → Kd.C (Kd.int .i64) V A zs.length zs := by
  by_cases hz : 0 < zs.length
  · obtain ⟨gA, c, cur, e, a1, a2, a3, a4, a5⟩ := R_mem h.at_ hz
    subst e
    refine ⟨_, c, [(gA, cur, 3)], rfl, ⟨h.m.below, fun p hp => ?_, fun p hp => ?_, ?_⟩, a1, fun V hV => C_mem (hV (gA, cur, 3) (by simp)) a5⟩
    · by_cases q : p = (gA, cur, 3)
      · subst q; exact a2
      · exact h.m.blk p (by simp at hp ⊢; rcases hp with e | e | e | e <;> simp_all)
    · by_cases q : p = (gA, cur, 3)
      · subst q; exact a3
      · exact h.m.ge p (by simp at hp ⊢; rcases hp with e | e | e | e <;> simp_all)
    · have h6 := blk_ne (t := 24) (t' := 3) (h.m.blk (g6, PV, 24) (by simp)) a2 (by decide)
      have hh := h.m.apart
      simp only [List.pairwise_cons, List.mem_cons, List.not_mem_nil, or_false] at hh ⊢
      refine ⟨fun p hp => ?_, fun p hp => ?_, fun p hp => ?_, by simp, .nil⟩
      · rcases hp with rfl | rfl | rfl
        · exact hh.1 _ (.inl rfl)
        · exact hh.1 _ (.inr rfl)
        · exact Ne.symm a4.2
      · rcases hp with rfl | rfl
        · exact hh.2.1 _ rfl
        · exact Ne.symm a4.1
      · subst hp; exact h6
  · have e : zs = [] := List.length_eq_zero_iff.1 (by omega)
    subst e
    obtain ⟨A, c, e⟩ := Kd.R_slice h.at_
    subst e
    exact ⟨A, c, [], rfl, h.m, by simp, fun V _ => Kd.C_of_reads (d := (0 : Int)) (h1 := fun _ => rfl) ⟨rfl, by simp, fun h => absurd h (by simp)⟩⟩
end E0
def lessTo (v : List Int) (i : Nat) : List Int := listOf v.length (fun j => if j < i then Int.tmod (fn v j) 1001 else fn v j)
theorem lessTo_zero (v : List Int) : lessTo v 0 = v := list_ext (listOf_length _ _) (fun j hj => by
  unfold lessTo at hj ⊢
  rw [listOf_length] at hj
  rw [fn_listOf _ hj, if_neg (by omega)])
theorem lessTo_length (v : List Int) (i : Nat) : (lessTo v i).length = v.length := listOf_length _ _
theorem fn_lessTo (v : List Int) {i j : Nat} (hj : j < v.length) : fn (lessTo v i) j = if j < i then Int.tmod (fn v j) 1001 else fn v j := by
  unfold lessTo; rw [fn_listOf _ hj]
theorem lessTo_step {v : List Int} {i : Nat} (hi : i < v.length) : (lessTo v i).set i (Int.tmod (fn v i) 1001) = lessTo v (i + 1) := list_ext (by rw [List.length_set, lessTo_length, lessTo_length]) (fun j hj => by
  rw [List.length_set, lessTo_length] at hj
  rw [fn_set (by rw [lessTo_length]; exact hi), fn_lessTo v hj, fn_lessTo v hj]
  by_cases e : j = i
  · subst e; rw [if_pos rfl, if_pos (by omega)]
  · rw [if_neg e]
    by_cases q : j < i
    · rw [if_pos q, if_pos (by omega)]
    · rw [if_neg q, if_neg (by omega)])
theorem lessTo_full (v : List Int) : lessTo v v.length = lessOf v := list_ext (by rw [lessTo_length, lessOf_length]) (fun j hj => by
  rw [lessTo_length] at hj
  rw [fn_lessTo v hj, if_pos hj]
  unfold fn lessOf
  rw [List.getD_eq_getElem?_getD, List.getD_eq_getElem?_getD, List.getElem?_map, List.getElem?_eq_getElem hj]
  rfl)
theorem ev_all {α : Type} {f : Nat → Nat → Option α} {r : Nat → α} : ∀ n : Nat, (∀ i, i < n → ∃ K, ∀ k, K ≤ k → f i k = some (r i)) → ∃ K, ∀ i, i < n → ∀ k, K ≤ k → f i k = some (r i)
  | 0, _ => ⟨0, fun i h => absurd h (by omega)⟩
  | n + 1, h => by
    obtain ⟨K, hK⟩ := ev_all n (fun i hi => h i (by omega))
    obtain ⟨K2, hK2⟩ := h n (by omega)
    exact ⟨K + K2, fun i hi k hk => by
      by_cases e : i = n
      · subst e; exact hK2 k (by omega)
      · exact hK i (by omega) k (by omega)⟩
theorem weights_all {W H : Nat} {R : Bool} {C : List Int} (hc : checkErr W H R C = 0) (hl : C.length = W * H) : ∃ K, ∀ i j, i < W * H → j < W * H → thermionref01_Weight.f K W H R C i j = some (netM W H R i j) := by
  have h : ∀ i, i < W * H → ∃ K, ∀ j, j < W * H → ∀ k, K ≤ k → thermionref01_Weight.f k W H R C i j = some (netM W H R i j) := fun i hi => ev_all (f := fun j k => thermionref01_Weight.f k W H R C i j) (W * H) (fun j hj => by
    obtain ⟨K, hK⟩ := refweight_eq W H R C i j
    refine ⟨K, fun k hk => ?_⟩
    have := hK k hk
    unfold weightOf at this
    rw [if_neg (by rw [hc]; omega)] at this
    simpa using this)
  have h2 : ∃ K, ∀ i, i < W * H → ∀ k, K ≤ k → ∀ j, j < W * H → thermionref01_Weight.f k W H R C i j = some (netM W H R i j) := by
    have : ∀ n, n ≤ W * H → ∃ K, ∀ i, i < n → ∀ k, K ≤ k → ∀ j, j < W * H → thermionref01_Weight.f k W H R C i j = some (netM W H R i j) := by
      intro n
      induction n with
      | zero => exact fun _ => ⟨0, fun i h => absurd h (by omega)⟩
      | succ n ih =>
        intro hn
        obtain ⟨K, hK⟩ := ih (by omega)
        obtain ⟨K2, hK2⟩ := h n (by omega)
        exact ⟨K + K2, fun i hi k hk j hj => by
          by_cases e : i = n
          · subst e; exact hK2 j hj k (by omega)
          · exact hK i (by omega) k (by omega) j hj⟩
    exact this _ (Nat.le_refl _)
  obtain ⟨K, hK⟩ := h2
  exact ⟨K, fun i j hi hj => hK i hi K (Nat.le_refl _) j hj⟩
section
variable (W H : Nat) (R : Bool) (C v : List Int) (s : List Nat)
def rowF (i q k : Nat) : List Int := listOf s.length (fun j => if j = i then sumTo (fun p => netM W H R (s.getD i 0) p) q else if j < k then - netM W H R (s.getD i 0) (s.getD j 0) else 0)
def rightTo (c q : Nat) : Int := sumTo (fun p => if 0 < fn C p then netM W H R c p * volt C v p else 0) q
def bF (i q : Nat) : List Int := listOf s.length (fun j => if j < i then rightOf W H R C v (s.getD j 0) else if j = i then rightTo W H R C v (s.getD i 0) q else 0)
def doneM (i : Nat) : List (List Int) := (List.range i).map (fun r => listOf s.length (matAt W H R s r))
end
section
variable {W H : Nat} {R : Bool} {C v : List Int} {s : List Nat} {i q k : Nat}
theorem rowF_length : (rowF W H R s i q k).length = s.length := listOf_length _ _
theorem bF_length : (bF W H R C v s i q).length = s.length := listOf_length _ _
theorem fn_rowF {j : Nat} (hj : j < s.length) : fn (rowF W H R s i q k) j = if j = i then sumTo (fun p => netM W H R (s.getD i 0) p) q else if j < k then - netM W H R (s.getD i 0) (s.getD j 0) else 0 := by
  unfold rowF; rw [fn_listOf _ hj]
theorem fn_bF {j : Nat} (hj : j < s.length) : fn (bF W H R C v s i q) j = if j < i then rightOf W H R C v (s.getD j 0) else if j = i then rightTo W H R C v (s.getD i 0) q else 0 := by
  unfold bF; rw [fn_listOf _ hj]
theorem rowF_start : rowF W H R s i 0 0 = List.replicate s.length 0 := list_ext (by rw [rowF_length, List.length_replicate]) (fun j hj => by
  rw [rowF_length] at hj
  rw [fn_rowF hj, show fn (List.replicate s.length (0 : Int)) j = 0 by unfold fn; simp [List.getD_eq_getElem?_getD, hj]]
  split
  · rfl
  · rw [if_neg (by omega)])
theorem rowF_add (hi : i < s.length) : (rowF W H R s i q 0).set i (sumTo (fun p => netM W H R (s.getD i 0) p) q + netM W H R (s.getD i 0) q) = rowF W H R s i (q + 1) 0 := list_ext (by rw [List.length_set, rowF_length, rowF_length]) (fun j hj => by
  rw [List.length_set, rowF_length] at hj
  rw [fn_set (by rw [rowF_length]; exact hi), fn_rowF hj, fn_rowF hj]
  by_cases e : j = i
  · rw [if_pos e, if_pos e]; rfl
  · rw [if_neg e, if_neg e, if_neg e])
theorem rowF_neg (hk : k < s.length) (hne : k ≠ i) : (rowF W H R s i q k).set k (- netM W H R (s.getD i 0) (s.getD k 0)) = rowF W H R s i q (k + 1) := list_ext (by rw [List.length_set, rowF_length, rowF_length]) (fun j hj => by
  rw [List.length_set, rowF_length] at hj
  rw [fn_set (by rw [rowF_length]; exact hk), fn_rowF hj, fn_rowF hj]
  by_cases e : j = k
  · subst e; rw [if_pos rfl, if_neg hne, if_pos (by omega)]
  · rw [if_neg e]
    by_cases a : j = i
    · rw [if_pos a, if_pos a]
    · rw [if_neg a, if_neg a]
      by_cases c : j < k
      · rw [if_pos c, if_pos (by omega)]
      · rw [if_neg c, if_neg (by omega)])
theorem rowF_pass : rowF W H R s i q i = rowF W H R s i q (i + 1) := list_ext (by rw [rowF_length, rowF_length]) (fun j hj => by
  rw [rowF_length] at hj
  rw [fn_rowF hj, fn_rowF hj]
  by_cases a : j = i
  · rw [if_pos a, if_pos a]
  · rw [if_neg a, if_neg a]
    by_cases c : j < i
    · rw [if_pos c, if_pos (by omega)]
    · rw [if_neg c, if_neg (by omega)])
theorem rowF_end : rowF W H R s i (W * H) s.length = listOf s.length (matAt W H R s i) := list_ext (by rw [rowF_length, listOf_length]) (fun j hj => by
  rw [rowF_length] at hj
  rw [fn_rowF hj, fn_listOf _ hj]
  unfold matAt
  by_cases a : j = i
  · subst a; rw [if_pos rfl, if_pos rfl]
  · rw [if_neg a, if_pos hj, if_neg (Ne.symm a)])
theorem bF_start : bF W H R C v s 0 0 = List.replicate s.length 0 := list_ext (by rw [bF_length, List.length_replicate]) (fun j hj => by
  rw [bF_length] at hj
  rw [fn_bF hj, if_neg (by omega), show fn (List.replicate s.length (0 : Int)) j = 0 by unfold fn; simp [List.getD_eq_getElem?_getD, hj]]
  split <;> rfl)
theorem rightTo_succ (c q : Nat) : rightTo W H R C v c (q + 1) = rightTo W H R C v c q + (if 0 < fn C q then netM W H R c q * volt C v q else 0) := rfl
theorem bF_add (hi : i < s.length) (hq : 0 < fn C q) : (bF W H R C v s i q).set i (rightTo W H R C v (s.getD i 0) q + netM W H R (s.getD i 0) q * volt C v q) = bF W H R C v s i (q + 1) := list_ext (by rw [List.length_set, bF_length, bF_length]) (fun j hj => by
  rw [List.length_set, bF_length] at hj
  rw [fn_set (by rw [bF_length]; exact hi), fn_bF hj, fn_bF hj]
  by_cases e : j = i
  · subst e; rw [if_pos rfl, if_neg (by omega), if_pos rfl, rightTo_succ, if_pos hq]
  · rw [if_neg e]
    by_cases a : j < i
    · rw [if_pos a, if_pos a]
    · rw [if_neg a, if_neg a, if_neg e, if_neg e])
theorem bF_same (hq : ¬ 0 < fn C q) : bF W H R C v s i q = bF W H R C v s i (q + 1) := list_ext (by rw [bF_length, bF_length]) (fun j hj => by
  rw [bF_length] at hj
  rw [fn_bF hj, fn_bF hj, rightTo_succ, if_neg hq, Int.add_zero])
theorem bF_next : bF W H R C v s i (W * H) = bF W H R C v s (i + 1) 0 := list_ext (by rw [bF_length, bF_length]) (fun j hj => by
  rw [bF_length] at hj
  rw [fn_bF hj, fn_bF hj]
  by_cases a : j < i
  · rw [if_pos a, if_pos (by omega)]
  · rw [if_neg a]
    by_cases e : j = i
    · subst e; rw [if_pos rfl, if_pos (by omega)]; rfl
    · rw [if_neg e, if_neg (by omega)]
      split <;> rfl)
theorem bF_full : bF W H R C v s s.length 0 = listOf s.length (fun k => rightOf W H R C v (s.getD k 0)) := list_ext (by rw [bF_length, listOf_length]) (fun j hj => by
  rw [bF_length] at hj
  rw [fn_bF hj, if_pos hj, fn_listOf _ hj])
theorem doneM_succ : doneM W H R s (i + 1) = doneM W H R s i ++ [listOf s.length (matAt W H R s i)] := by
  unfold doneM
  rw [List.range_succ, List.map_append]
  rfl
theorem doneM_length : (doneM W H R s i).length = i := by simp [doneM]
theorem aug_done (b : List Int) : augOf s.length (fun i j => fn (row (doneM W H R s s.length) i) j) b = augOf s.length (matAt W H R s) b := by
  unfold augOf
  refine List.map_congr_left (fun i hi => ?_)
  rw [List.mem_range] at hi
  apply list_ext
  · rw [listOf_length, listOf_length]
  · intro j hj
    rw [listOf_length] at hj
    rw [fn_listOf _ hj, fn_listOf _ hj]
    by_cases e : j < s.length
    · rw [if_pos e, if_pos e]
      show fn (row (doneM W H R s s.length) i) j = _
      unfold doneM
      rw [row_range hi, fn_listOf _ e]
    · rw [if_neg e, if_neg e]
theorem rightTo_small (hW : W ≤ 3) (hH : H ≤ 3) (hv : ∀ x, x ∈ v → -1000 ≤ x ∧ x ≤ 1000) (c : Nat) {q : Nat} (hq : q ≤ W * H) : -100000 ≤ rightTo W H R C v c q ∧ rightTo W H R C v c q ≤ 100000 := by
  have h := sum_abs (f := fun p => if 0 < fn C p then netM W H R c p * volt C v p else 0) (B := 6000) (fun p => by
    split
    · have h1 := netM_le3 (H := H) R hW c p
      have h2 := netM_nonneg W H R c p
      have h3 : -1000 ≤ volt C v p ∧ volt C v p ≤ 1000 := fn_any (by omega) hv _
      have := mul_abs (x := netM W H R c p) (X := 6) (by omega) h3
      omega
    · omega) q
  unfold rightTo
  have hWH := Nat.mul_le_mul hW hH
  omega
theorem sum_small (hW : W ≤ 3) (hH : H ≤ 3) (c : Nat) {q : Nat} (hq : q ≤ W * H) : 0 ≤ sumTo (fun p => netM W H R c p) q ∧ sumTo (fun p => netM W H R c p) q ≤ 100000 := by
  have h := sum_abs (f := fun p => netM W H R c p) (B := 6) (fun p => by
    have h1 := netM_le3 (H := H) R hW c p
    have h2 := netM_nonneg W H R c p
    omega) q
  have hWH := Nat.mul_le_mul hW hH
  have h0 : 0 ≤ sumTo (fun p => netM W H R c p) q := sumTo_nonneg (fun p _ => netM_nonneg W H R c p)
  omega
end
structure AB (w W : World) (gm n k m : Nat) (gs cap : Nat → Nat) (M : List (List Int)) (gb : Nat) (b : List Int) : Prop where
  tbl : Tbl w W gm n k m gs cap M
  b : W.heap[gb]? = some (.cells (numsA b) 3 (0, 0))
  ge : w.heap.size ≤ gb
  ne : ∀ i, i < k → gs i ≠ gb
theorem AB.start {wb W : World} {gm gb m : Nat} (h : Mem wb W [(gb, numsA (List.replicate m 0), 3), (gm, Array.replicate m (Value.slice none 0 0), 22)]) : AB wb W gm m 0 m (fun _ => 0) (fun _ => 0) [] gb (List.replicate m 0) :=
  ⟨Tbl.start wb h.below h.second (h.ge (gm, Array.replicate m (Value.slice none 0 0), 22) (by simp)) m _ _, h.head, h.geh, fun i hi => absurd hi (by omega)⟩
theorem isnums_A (b : List Int) (h : b.length ≤ 1000000) : IsNums (numsA b) b := ⟨by omega, fun i hi => numsA_get hi⟩
namespace AB
variable {w W W1 : World} {gm n k m : Nat} {gs cap : Nat → Nat} {M : List (List Int)} {gb : Nat} {b : List Int}
theorem step (h : AB w W gm n k m gs cap M gb b) (hb : Below W.heap.size W W1) : AB w W1 gm n k m gs cap M gb b := ⟨h.tbl.step hb, blk_below h.b hb, h.ge, h.ne⟩
theorem putA (h : AB w W gm n k m gs cap M gb b) {i : Nat} (hi : i < k) (j : Nat) (x : Int) : AB w (W.setCell ⟨gs i, j, none⟩ (.int .i64 x)) gm n k m gs cap (M.set i ((row M i).set j x)) gb b :=
  ⟨h.tbl.put hi j x, blk_far (p := ⟨gs i, j, none⟩) h.b (Ne.symm (h.ne i hi)) _, h.ge, h.ne⟩
theorem putB (h : AB w W gm n k m gs cap M gb b) (j : Nat) (x : Int) : AB w (W.setCell ⟨gb, j, none⟩ (.int .i64 x)) gm n k m gs cap M gb (b.set j x) :=
  ⟨⟨below_set h.tbl.below h.ge, blk_far (p := ⟨gb, j, none⟩) h.tbl.top (blk_ne h.tbl.top h.b (by decide)) _, fun i hi => by obtain ⟨cur, a, c⟩ := h.tbl.rows i hi; exact ⟨cur, blk_far (p := ⟨gb, j, none⟩) a (h.ne i hi) _, c⟩, h.tbl.cols, h.tbl.num, h.tbl.caps, h.tbl.kn, h.tbl.ge0, h.tbl.ge, h.tbl.apart⟩,
   by rw [blk_set h.b j, numsA_set], h.ge, h.ne⟩
theorem more (h : AB w W gm n k m gs cap M gb b) (hb : Below W.heap.size W W1) (hk : k < n) {g c : Nat} {cur : Array Value} {r : List Int} (hg : W1.heap[g]? = some (.cells cur 3 (0, 0))) (hr : IsNums cur r) (hge : W.heap.size ≤ g) (hl : r.length = m) (hc : m ≤ c) :
    AB w (W1.setCell ⟨gm, k, none⟩ (.slice (some ⟨g, 0, none⟩) m c)) gm n (k + 1) m (upd gs k g) (upd cap k c) (M ++ [r]) gb b := by
  have h1 := h.step hb
  refine ⟨h.tbl.more hb hk hg hr hge hl hc, blk_far (p := ⟨gm, k, none⟩) h1.b (blk_ne h1.b h1.tbl.top (by decide)) _, h.ge, fun i hi => ?_⟩
  by_cases e : i = k
  · subst e
    have := blk_lt h.b
    simp [upd]; omega
  · simpa [upd, e] using h.ne i (by omega)
theorem cellB (h : AB w W gm n k m gs cap M gb b) {j : Nat} (hj : j < b.length) : W.cell? ⟨gb, j, none⟩ = some (.int .i64 (fn b j)) := (blk_cell h.b j).trans (numsA_get hj)
theorem frozenB (h : AB w W gm n k m gs cap M gb b) (j : Nat) : W.frozen? ⟨gb, j, none⟩ = false := blk_frozen h.b j
end AB
structure EXB (W : World) (g6 : Nat) (Wd Hd : Int) (R : Bool) (gC cC : Nat) (C : List Int) (g11 : Nat) (gl cl gh ch : Nat) (K : Int) (st : Bool) (lo hi : List Int) (A : Option Addr) (cA : Nat) (zs : List Int) (gv cv : Nat) (v : List Int) : Prop where
  plan : W.heap[g6]? = some (.cells (planV Wd Hd R (some ⟨gC, 0, none⟩) C.length cC) 24 (0, 0))
  f : W.heap[g11]? = some (.cells #[.slice (some ⟨gl, 0, none⟩) C.length cl, .slice (some ⟨gh, 0, none⟩) C.length ch, .int .i64 K, .bool st] 33 (0, 0))
  rc : Kd.C (Kd.int .i64) W (some ⟨gC, 0, none⟩) C.length C
  hc : C.length ≤ cC
  rl : Kd.C (Kd.int .i64) W (some ⟨gl, 0, none⟩) lo.length lo
  rh : Kd.C (Kd.int .i64) W (some ⟨gh, 0, none⟩) hi.length hi
  ra : Kd.C (Kd.int .i64) W A zs.length zs
  rv : Kd.C (Kd.int .i64) W (some ⟨gv, 0, none⟩) v.length v
theorem EXB.step {W W1 : World} {g6 : Nat} {Wd Hd : Int} {R : Bool} {gC cC : Nat} {C : List Int} {g11 gl cl gh ch : Nat} {K : Int} {st : Bool} {lo hi : List Int} {A : Option Addr} {cA : Nat} {zs : List Int} {gv cv : Nat} {v : List Int} (h : EXB W g6 Wd Hd R gC cC C g11 gl cl gh ch K st lo hi A cA zs gv cv v) (hb : Below W.heap.size W W1) : EXB W1 g6 Wd Hd R gC cC C g11 gl cl gh ch K st lo hi A cA zs gv cv v :=
  ⟨blk_below h.plan hb, blk_below h.f hb, Kd.C_below h.rc hb, h.hc, Kd.C_below h.rl hb, Kd.C_below h.rh hb, Kd.C_below h.ra hb, Kd.C_below h.rv hb⟩
end Go.Proofs.Ytndkkjpgnmahbaa.Print
end
