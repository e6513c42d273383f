/- Part 4 of the texts of a claim about Ytbcfphoheijmdaa, put together by a program of this work: what the Go functions do, and that their calls do so. -/
import Derived.Test.YtbcfphoheijmdaaMK2
import Derived.Test.YtbcfphoheijmdaaMK3
section
/- What the Go function thermionref04_may does, as a Lean function, and that its call does so. Printed by a program of this work out of the translation. -/
namespace Go.Proofs.Ytbcfphoheijmdaa.Print
open Go.RowKit Go.Proofs.YtbcfphoheijmdaaW.PrintWords Go.Proofs.YtbcfphoheijmdaaW.PrintLast Go.Proofs.YtbcfphoheijmdaaW.PrintMore
attribute [local go_sem] max2_int min2_int max_two min_two max_three min_three max_four min_four
set_option linter.unusedVariables false
set_option linter.unusedSimpArgs false

/-! ### thermionref04_may: function 98 -/
mutual
def thermionref04_may.l0 : Nat → Int → Int → Int → List Int → List Int → Int → Int → Option (Bool)
 | 0, _, _, _, _, _, _, _ => none
 | k + 1, x1, x2, x8, x350000, x350001, x350002, x350003 => if x8 < (x350000.length : Int) then (if 0 ≤ x8 then ((thermionref04_in.f x1 (rd x350000 x8)).bind fun t351 => (if t351 = true then (thermionref04_may.l0 k x1 x2 (wrap64 (x8 + 1)) x350000 x350001 x350002 x350003) else (some false))) else (none)) else (thermionref04_may.l1 k x1 x2 0 x350000 x350001 x350002 x350003)
def thermionref04_may.l1 : Nat → Int → Int → Int → List Int → List Int → Int → Int → Option (Bool)
 | 0, _, _, _, _, _, _, _ => none
 | k + 1, x1, x2, x9, x350000, x350001, x350002, x350003 => if x9 < (x350001.length : Int) then (if 0 ≤ x9 then ((thermionref04_in.f x1 (rd x350001 x9)).bind fun t353 => (if t353 = true then (some false) else (thermionref04_may.l1 k x1 x2 (wrap64 (x9 + 1)) x350000 x350001 x350002 x350003))) else (none)) else ((thermionref04_in.f x1 x2).bind fun t354 => (some (!t354)))
end
def thermionref04_may.f (k : Nat) (l0_0 : List (S57)) (a0_1 : Int) (a1 : Int) (a2 : Int) : Option (Bool) := if 0 ≤ a2 then (if a2 < (l0_0.length : Int) then (thermionref04_may.l0 k a1 a2 0 ((rd_T57 l0_0 a2).f0) ((rd_T57 l0_0 a2).f1) ((rd_T57 l0_0 a2).f2) ((rd_T57 l0_0 a2).f3)) else (none)) else (none)
theorem thermionref04_may.mono_l : ∀ k, (∀ y0 y1 y2 y3 y4 y5 y6, LeO (thermionref04_may.l0 k y0 y1 y2 y3 y4 y5 y6) (thermionref04_may.l0 (k + 1) y0 y1 y2 y3 y4 y5 y6)) ∧ (∀ y0 y1 y2 y3 y4 y5 y6, LeO (thermionref04_may.l1 k y0 y1 y2 y3 y4 y5 y6) (thermionref04_may.l1 (k + 1) y0 y1 y2 y3 y4 y5 y6))
 | 0 => ⟨fun _ _ _ _ _ _ _ r h => by simp [thermionref04_may.l0] at h, fun _ _ _ _ _ _ _ r h => by simp [thermionref04_may.l1] at h⟩
 | k + 1 => by
  obtain ⟨ih0, ih1⟩ := thermionref04_may.mono_l k
  refine ⟨?_, ?_⟩
  ·intro y0 y1 y2 y3 y4 y5 y6
   unfold thermionref04_may.l0
   repeat' first
   | (with_reducible exact ih0 _ _ _ _ _ _ _)
   | (with_reducible exact ih1 _ _ _ _ _ _ _)
   | (with_reducible exact LeO.refl _)
   | (with_reducible exact LeO.none _)
   | (with_reducible refine LeO.ite ?_ ?_)
   | (with_reducible refine LeO.bind ?_ (fun _ => ?_))
   | exact ih0 _ _ _ _ _ _ _
   | exact ih1 _ _ _ _ _ _ _
   | exact LeO.none _
   | refine LeO.ite ?_ ?_
   | refine LeO.bind ?_ (fun _ => ?_)
  ·intro y0 y1 y2 y3 y4 y5 y6
   unfold thermionref04_may.l1
   repeat' first
   | (with_reducible exact ih0 _ _ _ _ _ _ _)
   | (with_reducible exact ih1 _ _ _ _ _ _ _)
   | (with_reducible exact LeO.refl _)
   | (with_reducible exact LeO.none _)
   | (with_reducible refine LeO.ite ?_ ?_)
   | (with_reducible refine LeO.bind ?_ (fun _ => ?_))
   | exact ih0 _ _ _ _ _ _ _
   | exact ih1 _ _ _ _ _ _ _
   | exact LeO.none _
   | refine LeO.ite ?_ ?_
   | refine LeO.bind ?_ (fun _ => ?_)
theorem thermionref04_may.mono : ∀ a0 a1 a2 a3 k, LeO (thermionref04_may.f k a0 a1 a2 a3) (thermionref04_may.f (k + 1) a0 a1 a2 a3) := by
 intro a0 a1 a2 a3 k
 obtain ⟨ih0, ih1⟩ := thermionref04_may.mono_l k
 unfold thermionref04_may.f
 repeat' first
   | (with_reducible exact ih0 _ _ _ _ _ _ _)
   | (with_reducible exact ih1 _ _ _ _ _ _ _)
   | (with_reducible exact LeO.refl _)
   | (with_reducible exact LeO.none _)
   | (with_reducible refine LeO.ite ?_ ?_)
   | (with_reducible refine LeO.bind ?_ (fun _ => ?_))
   | exact ih0 _ _ _ _ _ _ _
   | exact ih1 _ _ _ _ _ _ _
   | exact LeO.none _
   | refine LeO.ite ?_ ?_
   | refine LeO.bind ?_ (fun _ => ?_)
set_option maxHeartbeats 8000000 in
set_option maxRecDepth 100000 in
theorem thermionref04_may.calls (k : Nat) (A0_0 : Option Addr) (c0_0 : Nat) (l0_0 : List (S57)) (a0_1 : Int) (a1 : Int) (a2 : Int) (r : Bool) (w : World) (hr0_0 : Kd.C k57 w A0_0 l0_0.length l0_0) (hc0_0 : l0_0.length ≤ c0_0) (h : thermionref04_may.f k l0_0 a0_1 a1 a2 = some r) :
  Calls Try.prog 98 #[.agg #[.slice A0_0 l0_0.length c0_0, .int .i64 a0_1], .int .i64 a1, .int .i64 a2] w fun e w' => e = .returned (.bool r) ∧ Below w.heap.size w w' := by
 have hu49 := Try.underlying49
 have hu57 := Try.underlying57
 have HR0_0 := Aside0.mk hr0_0
 have HC0_0 := Aside0.mk hc0_0
 clear hr0_0 hc0_0
 have HB := Aside0.mk (Below.refl w.heap.size w)
 have H : (if 0 ≤ a2 then (if a2 < (l0_0.length : Int) then (thermionref04_may.l0 k a1 a2 0 ((rd_T57 l0_0 a2).f0) ((rd_T57 l0_0 a2).f1) ((rd_T57 l0_0 a2).f2) ((rd_T57 l0_0 a2).f3)) else (none)) else (none)) = some r := h
 clear h
 by_cases c4 : 0 ≤ a2
 ·rw [if_pos c4] at H
  have c4b0 : decide (0 ≤ a2) = true := decide_eq_true c4
  clear c4
  by_cases c5 : a2 < (l0_0.length : Int)
  ·rw [if_pos c5] at H
   have c5b0 : decide (a2 < (l0_0.length : Int)) = true := decide_eq_true c5
   clear c5
   have H' := Aside0.mk H
   clear H
   go_enter Try.func98, Try.ntmps98
   go_wp2_with (first | ((with_reducible refine gate_dst (N := 3) rfl ?_); refine box_event ?hg (N := 3) ?hd (cs := #[.slice A0_0 l0_0.length c0_0, .int .i64 a0_1]) (t := 49) ?hr ?_; (case hd => rfl); (case hg => rfl); (case hr => first | (go_simp; done) | (go_simp; rfl)); intro gb347 hg w6 hbox hb; have n0_ := Aside0.mk (below_step (by repeat (first | (with_reducible first | exact HB.out | apply below_alloc | apply pw_below_drewN | apply below_drew1) | exact HB.out)) hb); have n1_ := Aside0.mk (hbox); have n2_ := Aside0.mk ((by rw [hg]; exact (below_size (by repeat (first | (with_reducible first | exact HB.out | apply below_alloc | apply pw_below_drewN | apply below_drew1) | exact HB.out))) : w.heap.size ≤ gb347)); have n3_ := Aside0.mk ((by rw [hg]; exact (below_size (by repeat (first | (with_reducible first | exact HB.out | apply below_alloc | apply pw_below_drewN | apply below_drew1) | exact HB.out))) : w.heap.size ≤ gb347)); clear HB; have HB := n0_; have BK347 := n1_; have GW347 := n2_; have GE347 := n3_; clear n0_ n1_ n2_ n3_; clear hb hbox hg; have hcz7_0 : w6.cell? ⟨gb347, 0, none⟩ = some (.slice A0_0 l0_0.length c0_0) := (blk_cell BK347.out 0).trans rfl; have hcz7_1 : w6.cell? ⟨gb347, 1, none⟩ = some (.int .i64 a0_1) := (blk_cell BK347.out 1).trans rfl; have hfz7_0 := blk_frozen BK347.out 0; have hfz7_1 := blk_frozen BK347.out 1; have p348 : 0 ≤ (a2 : Int) := of_decide_eq_true (by first | (with_reducible assumption) | assumption); have q348 : a2 < (l0_0.length : Int) := of_decide_eq_true (by first | (with_reducible assumption) | assumption); obtain ⟨ad348, A348_0, c348_0, A348_1, c348_1, e348, hx348_0, hx348_1, hx348_2, hx348_3, hl348_0, hi348_0, hl348_1, hi348_1⟩ := at_T57 HR0_0.out a2 p348 q348; cases e348; replace hx348_0 := (HB.out.cell (World.block_lt_of_cell? w _ hx348_0)).trans hx348_0; replace hx348_1 := (HB.out.cell (World.block_lt_of_cell? w _ hx348_1)).trans hx348_1; replace hx348_2 := (HB.out.cell (World.block_lt_of_cell? w _ hx348_2)).trans hx348_2; replace hx348_3 := (HB.out.cell (World.block_lt_of_cell? w _ hx348_3)).trans hx348_3; have HR348_0 := Aside0.mk hi348_0; have HC348_0 := Aside0.mk hl348_0; clear hi348_0 hl348_0; have HR348_1 := Aside0.mk hi348_1; have HC348_1 := Aside0.mk hl348_1; clear hi348_1 hl348_1; replace p348 := eq_true p348; replace q348 := eq_true q348) | ((with_reducible refine gate_dst (N := 7) rfl ?_); refine box_event ?hg (N := 7) ?hd (cs := #[.slice none 0 0, .slice none 0 0, .int .i64 0, .int .i64 0]) (t := 57) ?hr ?_; (case hd => rfl); (case hg => rfl); (case hr => first | (go_simp; done) | (go_simp; rfl)); intro gb349 hg w8 hbox hb; have n0_ := Aside0.mk (blk_below (g := gb347) (o := .cells #[.slice (some ad348) l0_0.length c0_0, .int .i64 a0_1] 49 (0, 0)) (by (with_reducible repeat (first | refine blk_drewN ?_ _ | refine blk_drew ?_ | refine blk_alloc ?_ _)); exact BK347.out) hb); have n1_ := Aside0.mk (below_step (by repeat (first | (with_reducible first | exact HB.out | apply below_alloc | apply pw_below_drewN | apply below_drew1 | refine below_set ?_ GE347.out) | exact HB.out)) hb); have n2_ := Aside0.mk (hbox); have n3_ := Aside0.mk ((by rw [hg]; exact (below_size (by repeat (first | (with_reducible first | exact HB.out | apply below_alloc | apply pw_below_drewN | apply below_drew1 | refine below_set ?_ GE347.out) | exact HB.out))) : w.heap.size ≤ gb349)); have n4_ := Aside0.mk ((by rw [hg]; exact (below_size (by repeat (first | (with_reducible first | exact HB.out | apply below_alloc | apply pw_below_drewN | apply below_drew1 | refine below_set ?_ GE347.out) | exact HB.out))) : w.heap.size ≤ gb349)); have n5_ := Aside0.mk ((by rw [hg]; exact Nat.ne_of_lt (blk_lt (g := gb347) (o := .cells #[.slice (some ad348) l0_0.length c0_0, .int .i64 a0_1] 49 (0, 0)) (by (with_reducible repeat (first | refine blk_drewN ?_ _ | refine blk_drew ?_ | refine blk_alloc ?_ _)); exact BK347.out)) : gb347 ≠ gb349)); have n6_ := Aside0.mk ((by rw [hg]; exact Nat.ne_of_gt (blk_lt (g := gb347) (o := .cells #[.slice (some ad348) l0_0.length c0_0, .int .i64 a0_1] 49 (0, 0)) (by (with_reducible repeat (first | refine blk_drewN ?_ _ | refine blk_drew ?_ | refine blk_alloc ?_ _)); exact BK347.out)) : gb349 ≠ gb347)); clear BK347; clear HB; have BK347 := n0_; have HB := n1_; have BK349 := n2_; have GW349 := n3_; have GE349 := n4_; have NB347_349 := n5_; have NB349_347 := n6_; clear n0_ n1_ n2_ n3_ n4_ n5_ n6_; clear hb hbox hg; have hnb9 := NB349_347.out; have hnc9 := NB347_349.out; have hcz10_0 : w8.cell? ⟨gb349, 0, none⟩ = some (.slice none 0 0) := (blk_cell BK349.out 0).trans rfl; have hcz10_1 : w8.cell? ⟨gb349, 1, none⟩ = some (.slice none 0 0) := (blk_cell BK349.out 1).trans rfl; have hcz10_2 : w8.cell? ⟨gb349, 2, none⟩ = some (.int .i64 0) := (blk_cell BK349.out 2).trans rfl; have hcz10_3 : w8.cell? ⟨gb349, 3, none⟩ = some (.int .i64 0) := (blk_cell BK349.out 3).trans rfl; have hfz10_0 := blk_frozen BK349.out 0; have hfz10_1 := blk_frozen BK349.out 1; have hfz10_2 := blk_frozen BK349.out 2; have hfz10_3 := blk_frozen BK349.out 3))
   go_loopg [8] k (fun kq v8 w' => ∃ (x8_1 : Int), v8 = .int .i64 x8_1 ∧ Aside0 (thermionref04_may.l0 kq a1 a2 x8_1 ((rd_T57 l0_0 a2).f0) ((rd_T57 l0_0 a2).f1) ((rd_T57 l0_0 a2).f2) ((rd_T57 l0_0 a2).f3) = some r) ∧ Aside0 (kq ≤ k) ∧ Aside0 (w'.heap[gb347]? = some (.cells #[(.slice (some ad348) l0_0.length c0_0), .int .i64 a0_1] 49 (0, 0))) ∧ Aside0 (w'.heap[gb349]? = some (.cells #[(.slice A348_0 ((rd_T57 l0_0 a2).f0).length c348_0), (.slice A348_1 ((rd_T57 l0_0 a2).f1).length c348_1), .int .i64 ((rd_T57 l0_0 a2).f2), .int .i64 ((rd_T57 l0_0 a2).f3)] 57 (0, 0))) ∧ Aside0 (Below w.heap.size w w'))
   case atStart => exact ⟨(0), (by first | rfl | (simp; done) | (simp [*]; done)), H', ⟨Nat.le_refl _⟩, ⟨by (with_reducible repeat (first | refine blk_drewN ?_ _ | refine blk_drew ?_ | refine blk_alloc ?_ _)); refine blk_far ?_ NB347_349.out _; (with_reducible repeat (first | refine blk_drewN ?_ _ | refine blk_drew ?_ | refine blk_alloc ?_ _)); refine blk_far ?_ NB347_349.out _; (with_reducible repeat (first | refine blk_drewN ?_ _ | refine blk_drew ?_ | refine blk_alloc ?_ _)); refine blk_far ?_ NB347_349.out _; (with_reducible repeat (first | refine blk_drewN ?_ _ | refine blk_drew ?_ | refine blk_alloc ?_ _)); refine blk_far ?_ NB347_349.out _; (with_reducible repeat (first | refine blk_drewN ?_ _ | refine blk_drew ?_ | refine blk_alloc ?_ _)); exact BK347.out⟩, ⟨by (with_reducible repeat (first | refine blk_drewN ?_ _ | refine blk_drew ?_ | refine blk_alloc ?_ _)); refine blk_put (cs := #[.slice A348_0 ((rd_T57 l0_0 a2).f0).length c348_0, .slice A348_1 ((rd_T57 l0_0 a2).f1).length c348_1, .int .i64 ((rd_T57 l0_0 a2).f2), .int .i64 0]) ?_ 3 _ rfl; (with_reducible repeat (first | refine blk_drewN ?_ _ | refine blk_drew ?_ | refine blk_alloc ?_ _)); refine blk_put (cs := #[.slice A348_0 ((rd_T57 l0_0 a2).f0).length c348_0, .slice A348_1 ((rd_T57 l0_0 a2).f1).length c348_1, .int .i64 0, .int .i64 0]) ?_ 2 _ rfl; (with_reducible repeat (first | refine blk_drewN ?_ _ | refine blk_drew ?_ | refine blk_alloc ?_ _)); refine blk_put (cs := #[.slice A348_0 ((rd_T57 l0_0 a2).f0).length c348_0, .slice none 0 0, .int .i64 0, .int .i64 0]) ?_ 1 _ rfl; (with_reducible repeat (first | refine blk_drewN ?_ _ | refine blk_drew ?_ | refine blk_alloc ?_ _)); refine blk_put (cs := #[.slice none 0 0, .slice none 0 0, .int .i64 0, .int .i64 0]) ?_ 0 _ rfl; (with_reducible repeat (first | refine blk_drewN ?_ _ | refine blk_drew ?_ | refine blk_alloc ?_ _)); exact BK349.out⟩, ⟨by repeat (first | (with_reducible first | exact HB.out | apply below_alloc | apply pw_below_drewN | apply below_drew1 | refine below_set ?_ GE347.out | refine below_set ?_ GE349.out) | exact HB.out)⟩⟩
   case round =>
    clear H'
    try clear p2
    try clear c3
    try clear p3
    try clear q3
    try clear hx3
    try clear c4
    try clear c4b0
    try clear c5
    try clear c5b0
    try clear c9
    try clear hcz10_0
    try clear hcz10_1
    try clear hcz10_2
    try clear hcz10_3
    try clear hcz7_0
    try clear hcz7_1
    try clear hfz10_0
    try clear hfz10_1
    try clear hfz10_2
    try clear hfz10_3
    try clear hfz7_0
    try clear hfz7_1
    try clear hx348_0
    try clear hx348_1
    try clear hx348_2
    try clear hx348_3
    try clear p348
    try clear q348
    obtain ⟨x8_1, rfl, HA, HK1, BK347, BK349, HB⟩ := hrel
    cases gk with
    | zero => exact absurd HA.out (by simp [thermionref04_may.l0])
    | succ k1 =>
     have H := HA.out
     clear HA
     simp only [thermionref04_may.l0] at H
     by_cases c11 : x8_1 < (((rd_T57 l0_0 a2).f0).length : Int)
     ·rw [if_pos c11] at H
      have c11b0 : decide (x8_1 < (((rd_T57 l0_0 a2).f0).length : Int)) = true := decide_eq_true c11
      clear c11
      by_cases c12 : 0 ≤ x8_1
      ·rw [if_pos c12] at H
       have c12b0 : decide (0 ≤ x8_1) = true := decide_eq_true c12
       clear c12
       replace H := Option.bind_eq_some_iff.mp H
       obtain ⟨t351, A130, H⟩ := H
       replace H : (if t351 = true then (thermionref04_may.l0 k1 a1 a2 (wrap64 (x8_1 + 1)) ((rd_T57 l0_0 a2).f0) ((rd_T57 l0_0 a2).f1) ((rd_T57 l0_0 a2).f2) ((rd_T57 l0_0 a2).f3)) else (some false)) = some r := H
       have A13 := Aside0.mk A130
       clear A130
       by_cases c14 : t351 = true
       ·subst c14
        have H1 : (thermionref04_may.l0 k1 a1 a2 (wrap64 (x8_1 + 1)) ((rd_T57 l0_0 a2).f0) ((rd_T57 l0_0 a2).f1) ((rd_T57 l0_0 a2).f2) ((rd_T57 l0_0 a2).f3)) = some r := by rw [if_pos rfl] at H; exact H
        clear H
        have H := H1
        clear H1
        have H' := Aside0.mk H
        clear H
        have hnb15 := NB349_347.out
        have hnc15 := NB347_349.out
        have hcz16_0 : wr.cell? ⟨gb349, 0, none⟩ = some (.slice A348_0 ((rd_T57 l0_0 a2).f0).length c348_0) := (blk_cell BK349.out 0).trans rfl
        have hcz16_1 : wr.cell? ⟨gb349, 1, none⟩ = some (.slice A348_1 ((rd_T57 l0_0 a2).f1).length c348_1) := (blk_cell BK349.out 1).trans rfl
        have hcz16_2 : wr.cell? ⟨gb349, 2, none⟩ = some (.int .i64 ((rd_T57 l0_0 a2).f2)) := (blk_cell BK349.out 2).trans rfl
        have hcz16_3 : wr.cell? ⟨gb349, 3, none⟩ = some (.int .i64 ((rd_T57 l0_0 a2).f3)) := (blk_cell BK349.out 3).trans rfl
        have hfz16_0 := blk_frozen BK349.out 0
        have hfz16_1 := blk_frozen BK349.out 1
        have hfz16_2 := blk_frozen BK349.out 2
        have hfz16_3 := blk_frozen BK349.out 3
        have p350 : 0 ≤ (x8_1 : Int) := of_decide_eq_true (by first | (with_reducible assumption) | assumption)
        have q350 : x8_1 < (((rd_T57 l0_0 a2).f0).length : Int) := of_decide_eq_true (by first | (with_reducible assumption) | assumption)
        obtain ⟨ad350, e350, hx350_0⟩ := Kd.at_int HR348_0.out x8_1 p350 q350
        cases e350
        replace hx350_0 := (HB.out.cell (World.block_lt_of_cell? w _ hx350_0)).trans hx350_0
        replace p350 := eq_true p350
        replace q350 := eq_true q350
        go_wp2_with (first | ((with_reducible refine gate_callee (f := 136) rfl ?_); refine goesL_ (some 28) rfl rfl Try.func136 (by kernel_rfl) rfl #[.int .i64 a1, .int .i64 (rd ((rd_T57 l0_0 a2).f0) x8_1)] rfl (by (try simp only [List.map_toArray, List.map_cons, List.map_nil]); first | done | rfl | (simp only [List.length_drop, List.length_take]; rfl)) ?_; (with_reducible refine (thermionref04_in.calls a1 (rd ((rd_T57 l0_0 a2).f0) x8_1) true _ A13.out).mono ?_); rintro e w' ⟨rfl, ⟨nd, rfl⟩⟩; refine ⟨_, rfl, ?_⟩))
        go_roundg k1
        case measure => have := HK1.out; omega
        case rel => exact ⟨(wrap64 (x8_1 + 1)), (by first | rfl | (simp; done) | (simp [*]; done)), H', ⟨by have := HK1.out; omega⟩, ⟨by (with_reducible repeat (first | refine blk_drewN ?_ _ | refine blk_drew ?_ | refine blk_alloc ?_ _)); exact BK347.out⟩, ⟨by (with_reducible repeat (first | refine blk_drewN ?_ _ | refine blk_drew ?_ | refine blk_alloc ?_ _)); exact BK349.out⟩, ⟨by repeat (first | (with_reducible first | exact HB.out | apply below_alloc | apply pw_below_drewN | apply below_drew1 | refine below_set ?_ GE347.out | refine below_set ?_ GE349.out) | exact HB.out)⟩⟩
       ·replace c14 := Bool.eq_false_iff.mpr c14
        subst c14
        have H1 : (some false) = some r := by rw [if_neg (show ¬ (false = true) by decide)] at H; exact H
        clear H
        have H := H1
        clear H1
        obtain rfl := Option.some.inj H
        have hnb17 := NB349_347.out
        have hnc17 := NB347_349.out
        have hcz18_0 : wr.cell? ⟨gb349, 0, none⟩ = some (.slice A348_0 ((rd_T57 l0_0 a2).f0).length c348_0) := (blk_cell BK349.out 0).trans rfl
        have hcz18_1 : wr.cell? ⟨gb349, 1, none⟩ = some (.slice A348_1 ((rd_T57 l0_0 a2).f1).length c348_1) := (blk_cell BK349.out 1).trans rfl
        have hcz18_2 : wr.cell? ⟨gb349, 2, none⟩ = some (.int .i64 ((rd_T57 l0_0 a2).f2)) := (blk_cell BK349.out 2).trans rfl
        have hcz18_3 : wr.cell? ⟨gb349, 3, none⟩ = some (.int .i64 ((rd_T57 l0_0 a2).f3)) := (blk_cell BK349.out 3).trans rfl
        have hfz18_0 := blk_frozen BK349.out 0
        have hfz18_1 := blk_frozen BK349.out 1
        have hfz18_2 := blk_frozen BK349.out 2
        have hfz18_3 := blk_frozen BK349.out 3
        have p350 : 0 ≤ (x8_1 : Int) := of_decide_eq_true (by first | (with_reducible assumption) | assumption)
        have q350 : x8_1 < (((rd_T57 l0_0 a2).f0).length : Int) := of_decide_eq_true (by first | (with_reducible assumption) | assumption)
        obtain ⟨ad350, e350, hx350_0⟩ := Kd.at_int HR348_0.out x8_1 p350 q350
        cases e350
        replace hx350_0 := (HB.out.cell (World.block_lt_of_cell? w _ hx350_0)).trans hx350_0
        replace p350 := eq_true p350
        replace q350 := eq_true q350
        go_wp2_with (first | ((with_reducible refine gate_callee (f := 136) rfl ?_); refine goesL_ (some 28) rfl rfl Try.func136 (by kernel_rfl) rfl #[.int .i64 a1, .int .i64 (rd ((rd_T57 l0_0 a2).f0) x8_1)] rfl (by (try simp only [List.map_toArray, List.map_cons, List.map_nil]); first | done | rfl | (simp only [List.length_drop, List.length_take]; rfl)) ?_; (with_reducible refine (thermionref04_in.calls a1 (rd ((rd_T57 l0_0 a2).f0) x8_1) false _ A13.out).mono ?_); rintro e w' ⟨rfl, ⟨nd, rfl⟩⟩; refine ⟨_, rfl, ?_⟩))
        go_ret
        exact ⟨by first | rfl | (simp [errW_none, errW_some] <;> rfl) | (simp [*, errW_none, errW_some] <;> rfl), by repeat (first | (with_reducible first | exact HB.out | apply below_alloc | apply pw_below_drewN | apply below_drew1 | refine below_set ?_ GE347.out | refine below_set ?_ GE349.out) | exact HB.out)⟩
      ·rw [if_neg c12] at H
       exact absurd H (by simp)
     ·rw [if_neg c11] at H
      have c11b0 : decide (x8_1 < (((rd_T57 l0_0 a2).f0).length : Int)) = false := decide_eq_false c11
      clear c11
      have H' := Aside0.mk H
      clear H
      have hnb19 := NB349_347.out
      have hnc19 := NB347_349.out
      have hcz20_0 : wr.cell? ⟨gb349, 0, none⟩ = some (.slice A348_0 ((rd_T57 l0_0 a2).f0).length c348_0) := (blk_cell BK349.out 0).trans rfl
      have hcz20_1 : wr.cell? ⟨gb349, 1, none⟩ = some (.slice A348_1 ((rd_T57 l0_0 a2).f1).length c348_1) := (blk_cell BK349.out 1).trans rfl
      have hcz20_2 : wr.cell? ⟨gb349, 2, none⟩ = some (.int .i64 ((rd_T57 l0_0 a2).f2)) := (blk_cell BK349.out 2).trans rfl
      have hcz20_3 : wr.cell? ⟨gb349, 3, none⟩ = some (.int .i64 ((rd_T57 l0_0 a2).f3)) := (blk_cell BK349.out 3).trans rfl
      have hfz20_0 := blk_frozen BK349.out 0
      have hfz20_1 := blk_frozen BK349.out 1
      have hfz20_2 := blk_frozen BK349.out 2
      have hfz20_3 := blk_frozen BK349.out 3
      go_wp2
      go_loopg [9] k1 (fun kq v9 w' => ∃ (x9_2 : Int), v9 = .int .i64 x9_2 ∧ Aside0 (thermionref04_may.l1 kq a1 a2 x9_2 ((rd_T57 l0_0 a2).f0) ((rd_T57 l0_0 a2).f1) ((rd_T57 l0_0 a2).f2) ((rd_T57 l0_0 a2).f3) = some r) ∧ Aside0 (kq ≤ k1) ∧ Aside0 (w'.heap[gb347]? = some (.cells #[(.slice (some ad348) l0_0.length c0_0), .int .i64 a0_1] 49 (0, 0))) ∧ Aside0 (w'.heap[gb349]? = some (.cells #[(.slice A348_0 ((rd_T57 l0_0 a2).f0).length c348_0), (.slice A348_1 ((rd_T57 l0_0 a2).f1).length c348_1), .int .i64 ((rd_T57 l0_0 a2).f2), .int .i64 ((rd_T57 l0_0 a2).f3)] 57 (0, 0))) ∧ Aside0 (Below w.heap.size w w'))
      case atStart => exact ⟨(0), (by first | rfl | (simp; done) | (simp [*]; done)), H', ⟨Nat.le_refl _⟩, ⟨by (with_reducible repeat (first | refine blk_drewN ?_ _ | refine blk_drew ?_ | refine blk_alloc ?_ _)); exact BK347.out⟩, ⟨by (with_reducible repeat (first | refine blk_drewN ?_ _ | refine blk_drew ?_ | refine blk_alloc ?_ _)); exact BK349.out⟩, ⟨by repeat (first | (with_reducible first | exact HB.out | apply below_alloc | apply pw_below_drewN | apply below_drew1 | refine below_set ?_ GE347.out | refine below_set ?_ GE349.out) | exact HB.out)⟩⟩
      case round =>
       clear H'
       try clear c1
       try clear p2
       try clear c3
       try clear p3
       try clear q3
       try clear hx3
       try clear c4
       try clear c4b0
       try clear c5
       try clear c5b0
       try clear p6
       try clear c9
       try clear c11
       try clear c11b0
       try clear c12
       try clear c12b0
       try clear c13
       try clear c14
       try clear c15
       try clear c17
       try clear c19
       try clear hcz10_0
       try clear hcz10_1
       try clear hcz10_2
       try clear hcz10_3
       try clear hcz16_0
       try clear hcz16_1
       try clear hcz16_2
       try clear hcz16_3
       try clear hcz18_0
       try clear hcz18_1
       try clear hcz18_2
       try clear hcz18_3
       try clear hcz20_0
       try clear hcz20_1
       try clear hcz20_2
       try clear hcz20_3
       try clear hcz7_0
       try clear hcz7_1
       try clear hfz10_0
       try clear hfz10_1
       try clear hfz10_2
       try clear hfz10_3
       try clear hfz16_0
       try clear hfz16_1
       try clear hfz16_2
       try clear hfz16_3
       try clear hfz18_0
       try clear hfz18_1
       try clear hfz18_2
       try clear hfz18_3
       try clear hfz20_0
       try clear hfz20_1
       try clear hfz20_2
       try clear hfz20_3
       try clear hfz7_0
       try clear hfz7_1
       try clear hx348_0
       try clear hx348_1
       try clear hx348_2
       try clear hx348_3
       try clear hx350_0
       try clear p2
       try clear p3
       try clear p348
       try clear p350
       try clear q3
       try clear q348
       try clear q350
       obtain ⟨x9_2, rfl, HA, HK2, BK347, BK349, HB⟩ := hrel
       cases gk with
       | zero => exact absurd HA.out (by simp [thermionref04_may.l1])
       | succ k2 =>
        have H := HA.out
        clear HA
        simp only [thermionref04_may.l1] at H
        by_cases c21 : x9_2 < (((rd_T57 l0_0 a2).f1).length : Int)
        ·rw [if_pos c21] at H
         have c21b0 : decide (x9_2 < (((rd_T57 l0_0 a2).f1).length : Int)) = true := decide_eq_true c21
         clear c21
         by_cases c22 : 0 ≤ x9_2
         ·rw [if_pos c22] at H
          have c22b0 : decide (0 ≤ x9_2) = true := decide_eq_true c22
          clear c22
          replace H := Option.bind_eq_some_iff.mp H
          obtain ⟨t353, A230, H⟩ := H
          replace H : (if t353 = true then (some false) else (thermionref04_may.l1 k2 a1 a2 (wrap64 (x9_2 + 1)) ((rd_T57 l0_0 a2).f0) ((rd_T57 l0_0 a2).f1) ((rd_T57 l0_0 a2).f2) ((rd_T57 l0_0 a2).f3))) = some r := H
          have A23 := Aside0.mk A230
          clear A230
          by_cases c24 : t353 = true
          ·subst c24
           have H1 : (some false) = some r := by rw [if_pos rfl] at H; exact H
           clear H
           have H := H1
           clear H1
           obtain rfl := Option.some.inj H
           have hnb25 := NB349_347.out
           have hnc25 := NB347_349.out
           have hcz26_0 : wr.cell? ⟨gb349, 0, none⟩ = some (.slice A348_0 ((rd_T57 l0_0 a2).f0).length c348_0) := (blk_cell BK349.out 0).trans rfl
           have hcz26_1 : wr.cell? ⟨gb349, 1, none⟩ = some (.slice A348_1 ((rd_T57 l0_0 a2).f1).length c348_1) := (blk_cell BK349.out 1).trans rfl
           have hcz26_2 : wr.cell? ⟨gb349, 2, none⟩ = some (.int .i64 ((rd_T57 l0_0 a2).f2)) := (blk_cell BK349.out 2).trans rfl
           have hcz26_3 : wr.cell? ⟨gb349, 3, none⟩ = some (.int .i64 ((rd_T57 l0_0 a2).f3)) := (blk_cell BK349.out 3).trans rfl
           have hfz26_0 := blk_frozen BK349.out 0
           have hfz26_1 := blk_frozen BK349.out 1
           have hfz26_2 := blk_frozen BK349.out 2
           have hfz26_3 := blk_frozen BK349.out 3
           have p352 : 0 ≤ (x9_2 : Int) := of_decide_eq_true (by first | (with_reducible assumption) | assumption)
           have q352 : x9_2 < (((rd_T57 l0_0 a2).f1).length : Int) := of_decide_eq_true (by first | (with_reducible assumption) | assumption)
           obtain ⟨ad352, e352, hx352_0⟩ := Kd.at_int HR348_1.out x9_2 p352 q352
           cases e352
           replace hx352_0 := (HB.out.cell (World.block_lt_of_cell? w _ hx352_0)).trans hx352_0
           replace p352 := eq_true p352
           replace q352 := eq_true q352
           go_wp2_with (first | ((with_reducible refine gate_callee (f := 136) rfl ?_); refine goesL_ (some 43) rfl rfl Try.func136 (by kernel_rfl) rfl #[.int .i64 a1, .int .i64 (rd ((rd_T57 l0_0 a2).f1) x9_2)] rfl (by (try simp only [List.map_toArray, List.map_cons, List.map_nil]); first | done | rfl | (simp only [List.length_drop, List.length_take]; rfl)) ?_; (with_reducible refine (thermionref04_in.calls a1 (rd ((rd_T57 l0_0 a2).f1) x9_2) true _ A23.out).mono ?_); rintro e w' ⟨rfl, ⟨nd, rfl⟩⟩; refine ⟨_, rfl, ?_⟩))
           go_ret
           exact ⟨by first | rfl | (simp [errW_none, errW_some] <;> rfl) | (simp [*, errW_none, errW_some] <;> rfl), by repeat (first | (with_reducible first | exact HB.out | apply below_alloc | apply pw_below_drewN | apply below_drew1 | refine below_set ?_ GE347.out | refine below_set ?_ GE349.out) | exact HB.out)⟩
          ·replace c24 := Bool.eq_false_iff.mpr c24
           subst c24
           have H1 : (thermionref04_may.l1 k2 a1 a2 (wrap64 (x9_2 + 1)) ((rd_T57 l0_0 a2).f0) ((rd_T57 l0_0 a2).f1) ((rd_T57 l0_0 a2).f2) ((rd_T57 l0_0 a2).f3)) = some r := by rw [if_neg (show ¬ (false = true) by decide)] at H; exact H
           clear H
           have H := H1
           clear H1
           have H' := Aside0.mk H
           clear H
           have hnb27 := NB349_347.out
           have hnc27 := NB347_349.out
           have hcz28_0 : wr.cell? ⟨gb349, 0, none⟩ = some (.slice A348_0 ((rd_T57 l0_0 a2).f0).length c348_0) := (blk_cell BK349.out 0).trans rfl
           have hcz28_1 : wr.cell? ⟨gb349, 1, none⟩ = some (.slice A348_1 ((rd_T57 l0_0 a2).f1).length c348_1) := (blk_cell BK349.out 1).trans rfl
           have hcz28_2 : wr.cell? ⟨gb349, 2, none⟩ = some (.int .i64 ((rd_T57 l0_0 a2).f2)) := (blk_cell BK349.out 2).trans rfl
           have hcz28_3 : wr.cell? ⟨gb349, 3, none⟩ = some (.int .i64 ((rd_T57 l0_0 a2).f3)) := (blk_cell BK349.out 3).trans rfl
           have hfz28_0 := blk_frozen BK349.out 0
           have hfz28_1 := blk_frozen BK349.out 1
           have hfz28_2 := blk_frozen BK349.out 2
           have hfz28_3 := blk_frozen BK349.out 3
           have p352 : 0 ≤ (x9_2 : Int) := of_decide_eq_true (by first | (with_reducible assumption) | assumption)
           have q352 : x9_2 < (((rd_T57 l0_0 a2).f1).length : Int) := of_decide_eq_true (by first | (with_reducible assumption) | assumption)
           obtain ⟨ad352, e352, hx352_0⟩ := Kd.at_int HR348_1.out x9_2 p352 q352
           cases e352
           replace hx352_0 := (HB.out.cell (World.block_lt_of_cell? w _ hx352_0)).trans hx352_0
           replace p352 := eq_true p352
           replace q352 := eq_true q352
           go_wp2_with (first | ((with_reducible refine gate_callee (f := 136) rfl ?_); refine goesL_ (some 43) rfl rfl Try.func136 (by kernel_rfl) rfl #[.int .i64 a1, .int .i64 (rd ((rd_T57 l0_0 a2).f1) x9_2)] rfl (by (try simp only [List.map_toArray, List.map_cons, List.map_nil]); first | done | rfl | (simp only [List.length_drop, List.length_take]; rfl)) ?_; (with_reducible refine (thermionref04_in.calls a1 (rd ((rd_T57 l0_0 a2).f1) x9_2) false _ A23.out).mono ?_); rintro e w' ⟨rfl, ⟨nd, rfl⟩⟩; refine ⟨_, rfl, ?_⟩))
           go_roundg k2
           case measure => have := HK1.out; have := HK2.out; omega
           case rel => exact ⟨(wrap64 (x9_2 + 1)), (by first | rfl | (simp; done) | (simp [*]; done)), H', ⟨by have := HK1.out; have := HK2.out; omega⟩, ⟨by (with_reducible repeat (first | refine blk_drewN ?_ _ | refine blk_drew ?_ | refine blk_alloc ?_ _)); exact BK347.out⟩, ⟨by (with_reducible repeat (first | refine blk_drewN ?_ _ | refine blk_drew ?_ | refine blk_alloc ?_ _)); exact BK349.out⟩, ⟨by repeat (first | (with_reducible first | exact HB.out | apply below_alloc | apply pw_below_drewN | apply below_drew1 | refine below_set ?_ GE347.out | refine below_set ?_ GE349.out) | exact HB.out)⟩⟩
         ·rw [if_neg c22] at H
          exact absurd H (by simp)
        ·rw [if_neg c21] at H
         have c21b0 : decide (x9_2 < (((rd_T57 l0_0 a2).f1).length : Int)) = false := decide_eq_false c21
         clear c21
         replace H := Option.bind_eq_some_iff.mp H
         obtain ⟨t354, A290, H⟩ := H
         replace H : (some (!t354)) = some r := H
         have A29 := Aside0.mk A290
         clear A290
         obtain rfl := Option.some.inj H
         have hnb30 := NB349_347.out
         have hnc30 := NB347_349.out
         have hcz31_0 : wr.cell? ⟨gb349, 0, none⟩ = some (.slice A348_0 ((rd_T57 l0_0 a2).f0).length c348_0) := (blk_cell BK349.out 0).trans rfl
         have hcz31_1 : wr.cell? ⟨gb349, 1, none⟩ = some (.slice A348_1 ((rd_T57 l0_0 a2).f1).length c348_1) := (blk_cell BK349.out 1).trans rfl
         have hcz31_2 : wr.cell? ⟨gb349, 2, none⟩ = some (.int .i64 ((rd_T57 l0_0 a2).f2)) := (blk_cell BK349.out 2).trans rfl
         have hcz31_3 : wr.cell? ⟨gb349, 3, none⟩ = some (.int .i64 ((rd_T57 l0_0 a2).f3)) := (blk_cell BK349.out 3).trans rfl
         have hfz31_0 := blk_frozen BK349.out 0
         have hfz31_1 := blk_frozen BK349.out 1
         have hfz31_2 := blk_frozen BK349.out 2
         have hfz31_3 := blk_frozen BK349.out 3
         go_wp2_with (first | ((with_reducible refine gate_callee (f := 136) rfl ?_); refine goesL_ (some 46) rfl rfl Try.func136 (by kernel_rfl) rfl #[.int .i64 a1, .int .i64 a2] rfl (by (try simp only [List.map_toArray, List.map_cons, List.map_nil]); first | done | rfl | (simp only [List.length_drop, List.length_take]; rfl)) ?_; (with_reducible refine (thermionref04_in.calls a1 a2 t354 _ A29.out).mono ?_); rintro e w' ⟨rfl, ⟨nd, rfl⟩⟩; refine ⟨_, rfl, ?_⟩))
         go_ret
         exact ⟨by first | rfl | (simp [errW_none, errW_some] <;> rfl) | (simp [*, errW_none, errW_some] <;> rfl), by repeat (first | (with_reducible first | exact HB.out | apply below_alloc | apply pw_below_drewN | apply below_drew1 | refine below_set ?_ GE347.out | refine below_set ?_ GE349.out) | exact HB.out)⟩
  ·rw [if_neg c5] at H
   exact absurd H (by simp)
 ·rw [if_neg c4] at H
  exact absurd H (by simp)

end Go.Proofs.Ytbcfphoheijmdaa.Print
end

section
/- What the Go function thermionref04_May does, as a Lean function, and that its call does so. Printed by a program of this work out of the translation. -/
namespace Go.Proofs.Ytbcfphoheijmdaa.Print
open Go.RowKit Go.Proofs.YtbcfphoheijmdaaW.PrintWords Go.Proofs.YtbcfphoheijmdaaW.PrintLast Go.Proofs.YtbcfphoheijmdaaW.PrintMore
attribute [local go_sem] max2_int min2_int max_two min_two max_three min_three max_four min_four
set_option linter.unusedVariables false
set_option linter.unusedSimpArgs false

/-! ### thermionref04_May: function 37 -/
def thermionref04_May.l0 : Nat → Int → List Int → Int → List (S57) → Int → Option (List Int × Int)
 | 0, _, _, _, _, _ => none
 | k + 1, x6, x8, x9, x356000, x356001 => if x9 < (x356000.length : Int) then ((thermionref04_may.f k x356000 x356001 x6 x9).bind fun t358 => (if t358 = true then (if x8.length < 17592186044416 then (thermionref04_May.l0 k x6 (x8 ++ [x9]) (wrap64 (x9 + 1)) x356000 x356001) else (none)) else (thermionref04_May.l0 k x6 x8 (wrap64 (x9 + 1)) x356000 x356001))) else (some (x8, 0))
def thermionref04_May.f (k : Nat) (l0_0 : List (S57)) (a0_1 : Int) (l1 : List Int) : Option (List Int × Int) := (thermionref04_checkState.f k l0_0 a0_1 l1).bind fun bt356 => (if bt356.2 = 0 then (thermionref04_May.l0 k bt356.1 ([] : List Int) 0 l0_0 a0_1) else (some (([] : List Int), bt356.2)))
theorem thermionref04_May.mono_l : ∀ k, (∀ y0 y1 y2 y3 y4, LeO (thermionref04_May.l0 k y0 y1 y2 y3 y4) (thermionref04_May.l0 (k + 1) y0 y1 y2 y3 y4))
 | 0 => fun _ _ _ _ _ r h => by simp [thermionref04_May.l0] at h
 | k + 1 => by
  have ih0 := thermionref04_May.mono_l k
  ·intro y0 y1 y2 y3 y4
   unfold thermionref04_May.l0
   repeat' first
   | (with_reducible exact ih0 _ _ _ _ _)
   | (with_reducible exact thermionref04_checkState.mono _ _ _ _)
   | (with_reducible exact thermionref04_may.mono _ _ _ _ _)
   | (with_reducible exact LeO.refl _)
   | (with_reducible exact LeO.none _)
   | (with_reducible refine LeO.ite ?_ ?_)
   | (with_reducible refine LeO.bind ?_ (fun _ => ?_))
   | exact ih0 _ _ _ _ _
   | exact thermionref04_checkState.mono _ _ _ _
   | exact thermionref04_may.mono _ _ _ _ _
   | exact LeO.none _
   | refine LeO.ite ?_ ?_
   | refine LeO.bind ?_ (fun _ => ?_)
theorem thermionref04_May.mono : ∀ a0 a1 a2 k, LeO (thermionref04_May.f k a0 a1 a2) (thermionref04_May.f (k + 1) a0 a1 a2) := by
 intro a0 a1 a2 k
 have ih0 := thermionref04_May.mono_l k
 unfold thermionref04_May.f
 repeat' first
   | (with_reducible exact ih0 _ _ _ _ _)
   | (with_reducible exact thermionref04_checkState.mono _ _ _ _)
   | (with_reducible exact thermionref04_may.mono _ _ _ _ _)
   | (with_reducible exact LeO.refl _)
   | (with_reducible exact LeO.none _)
   | (with_reducible refine LeO.ite ?_ ?_)
   | (with_reducible refine LeO.bind ?_ (fun _ => ?_))
   | exact ih0 _ _ _ _ _
   | exact thermionref04_checkState.mono _ _ _ _
   | exact thermionref04_may.mono _ _ _ _ _
   | exact LeO.none _
   | refine LeO.ite ?_ ?_
   | refine LeO.bind ?_ (fun _ => ?_)
set_option maxHeartbeats 8000000 in
set_option maxRecDepth 100000 in
theorem thermionref04_May.calls (k : Nat) (A0_0 : Option Addr) (c0_0 : Nat) (l0_0 : List (S57)) (a0_1 : Int) (A1 : Option Addr) (c1 : Nat) (l1 : List Int) (r1 : List Int) (r2 : Int) (w : World) (hr0_0 : Kd.C k57 w A0_0 l0_0.length l0_0) (hc0_0 : l0_0.length ≤ c0_0) (hr1 : Kd.C (Kd.int .i64) w A1 l1.length l1) (hc1 : l1.length ≤ c1) (h : thermionref04_May.f k l0_0 a0_1 l1 = some (r1, r2)) :
  Calls Try.prog 37 #[.agg #[.slice A0_0 l0_0.length c0_0, .int .i64 a0_1], .slice A1 l1.length c1] w fun e w' => ∃ v0_ : Value, e = .returned (.tuple #[v0_, .int .i64 r2]) ∧ Kd.R (Kd.int .i64) 3 w' w.heap.size (fun _ => True) v0_ r1 ∧ Below w.heap.size w w' := by
 have hu49 := Try.underlying49
 have HR0_0 := Aside0.mk hr0_0
 have HC0_0 := Aside0.mk hc0_0
 clear hr0_0 hc0_0
 have HR1 := Aside0.mk hr1
 have HC1 := Aside0.mk hc1
 clear hr1 hc1
 have HB := Aside0.mk (Below.refl w.heap.size w)
 have H : ((thermionref04_checkState.f k l0_0 a0_1 l1).bind fun bt356 => (if bt356.2 = 0 then (thermionref04_May.l0 k bt356.1 ([] : List Int) 0 l0_0 a0_1) else (some (([] : List Int), bt356.2)))) = some (r1, r2) := h
 clear h
 replace H := Option.bind_eq_some_iff.mp H
 obtain ⟨⟨t356, t357⟩, A30, H⟩ := H
 replace H : (if t357 = 0 then (thermionref04_May.l0 k t356 ([] : List Int) 0 l0_0 a0_1) else (some (([] : List Int), t357))) = some (r1, r2) := H
 have A3 := Aside0.mk A30
 clear A30
 by_cases c4 : t357 = 0
 ·rw [if_pos c4] at H
  have c4b0 : (t357 == 0) = true := beq_iff_eq.mpr c4
  have c4b1 : (t357 != 0) = false := bne_eq_false_iff_eq.mpr c4
  clear c4
  have H' := Aside0.mk H
  clear H
  go_enter Try.func37, Try.ntmps37
  go_wp2_with (first | ((with_reducible refine gate_dst (N := 2) rfl ?_); refine box_event ?hg (N := 2) ?hd (cs := #[.slice A0_0 l0_0.length c0_0, .int .i64 a0_1]) (t := 49) ?hr ?_; (case hd => rfl); (case hg => rfl); (case hr => first | (go_simp; done) | (go_simp; rfl)); intro gb355 hg w5 hbox hb; have n0_ := Aside0.mk (below_step (by repeat (first | (with_reducible first | exact HB.out | apply below_alloc | apply pw_below_drewN | apply below_drew1) | exact HB.out)) hb); have n1_ := Aside0.mk (hbox); have n2_ := Aside0.mk ((by rw [hg]; exact (below_size (by repeat (first | (with_reducible first | exact HB.out | apply below_alloc | apply pw_below_drewN | apply below_drew1) | exact HB.out))) : w.heap.size ≤ gb355)); have n3_ := Aside0.mk ((by rw [hg]; exact (below_size (by repeat (first | (with_reducible first | exact HB.out | apply below_alloc | apply pw_below_drewN | apply below_drew1) | exact HB.out))) : w.heap.size ≤ gb355)); clear HB; have HB := n0_; have BK355 := n1_; have GW355 := n2_; have GE355 := n3_; clear n0_ n1_ n2_ n3_; clear hb hbox hg; have hcz6_0 : w5.cell? ⟨gb355, 0, none⟩ = some (.slice A0_0 l0_0.length c0_0) := (blk_cell BK355.out 0).trans rfl; have hcz6_1 : w5.cell? ⟨gb355, 1, none⟩ = some (.int .i64 a0_1) := (blk_cell BK355.out 1).trans rfl; have hfz6_0 := blk_frozen BK355.out 0; have hfz6_1 := blk_frozen BK355.out 1) | ((with_reducible refine gate_callee (f := 97) rfl ?_); refine goesL_ (some 13) rfl rfl Try.func97 (by kernel_rfl) rfl #[.agg #[.slice A0_0 l0_0.length c0_0, .int .i64 a0_1], .slice A1 l1.length c1] rfl (by (try simp only [List.map_toArray, List.map_cons, List.map_nil]); first | done | rfl | (simp only [List.length_drop, List.length_take]; rfl)) ?_; (with_reducible refine (thermionref04_checkState.calls k _ _ l0_0 a0_1 _ _ l1 t356 t357 _ ?side1 ?side2 ?side3 ?side4 A3.out).mono ?_); (case side1 => repeat (first | exact (Kd.C_below HR0_0.out HB.out) | (with_reducible refine Kd.C_alloc ?_ _) | (with_reducible refine Kd.C_drewN ?_ _) | (with_reducible refine Kd.C_drew ?_))); (case side2 => exact HC0_0.out); (case side3 => repeat (first | exact (Kd.C_below HR1.out HB.out) | (with_reducible refine Kd.C_alloc ?_ _) | (with_reducible refine Kd.C_drewN ?_ _) | (with_reducible refine Kd.C_drew ?_))); (case side4 => exact HC1.out); rintro e w7 ⟨rfl, hb⟩; refine ⟨_, rfl, ?_⟩; have n0_ := Aside0.mk (blk_below (g := gb355) (o := .cells #[.slice A0_0 l0_0.length c0_0, .int .i64 a0_1] 49 (0, 0)) (by (with_reducible repeat (first | refine blk_drewN ?_ _ | refine blk_drew ?_ | refine blk_alloc ?_ _)); exact BK355.out) hb); have n1_ := Aside0.mk (below_step (by repeat (first | (with_reducible first | exact HB.out | apply below_alloc | apply pw_below_drewN | apply below_drew1 | refine below_set ?_ GE355.out) | exact HB.out)) hb); clear BK355; clear HB; have BK355 := n0_; have HB := n1_; clear n0_ n1_; (try clear hb); (try clear hb2); (try clear hk); (try clear hi)))
  go_loopg [8, 9] k (fun kq v8 v9 w' => ∃ (x8_1 : List Int) (x9_1 : Int), v9 = .int .i64 x9_1 ∧ Aside0 (thermionref04_May.l0 kq t356 x8_1 x9_1 l0_0 a0_1 = some (r1, r2)) ∧ Aside0 (kq ≤ k) ∧ Aside0 (Kd.R (Kd.int .i64) 3 w' w.heap.size (fun _ => True) v8 x8_1) ∧ Aside0 (w'.heap[gb355]? = some (.cells #[(.slice A0_0 l0_0.length c0_0), .int .i64 a0_1] 49 (0, 0))) ∧ Aside0 (Below w.heap.size w w'))
  case atStart => exact ⟨(([] : List Int)), (0), (by first | rfl | (simp; done) | (simp [*]; done)), H', ⟨Nat.le_refl _⟩, ⟨by first | exact Kd.R_nil _ _ _ _ _ | exact Kd.N_nil _ _ _ _ _ | exact Kd.V_nil _ _ _ _ _ | exact Kd.Q_nil _ _ _ _ _ | exact Kd.S_nil _ _ _ _ _⟩, ⟨by (with_reducible repeat (first | refine blk_drewN ?_ _ | refine blk_drew ?_ | refine blk_alloc ?_ _)); exact BK355.out⟩, ⟨by repeat (first | (with_reducible first | exact HB.out | apply below_alloc | apply pw_below_drewN | apply below_drew1 | refine below_set ?_ GE355.out) | exact HB.out)⟩⟩
  case round =>
   clear H'
   try clear c1
   try clear p2
   try clear c3
   try clear c4
   try clear c4b0
   try clear c4b1
   try clear hcz6_0
   try clear hcz6_1
   try clear hfz6_0
   try clear hfz6_1
   obtain ⟨x8_1, x9_1, rfl, HA, HK1, HO_8, BK355, HB⟩ := hrel
   cases gk with
   | zero => exact absurd HA.out (by simp [thermionref04_May.l0])
   | succ k1 =>
    have H := HA.out
    clear HA
    simp only [thermionref04_May.l0] at H
    by_cases c8 : x9_1 < (l0_0.length : Int)
    ·rw [if_pos c8] at H
     have c8b0 : decide (x9_1 < (l0_0.length : Int)) = true := decide_eq_true c8
     clear c8
     replace H := Option.bind_eq_some_iff.mp H
     obtain ⟨t358, A90, H⟩ := H
     replace H : (if t358 = true then (if x8_1.length < 17592186044416 then (thermionref04_May.l0 k1 t356 (x8_1 ++ [x9_1]) (wrap64 (x9_1 + 1)) l0_0 a0_1) else (none)) else (thermionref04_May.l0 k1 t356 x8_1 (wrap64 (x9_1 + 1)) l0_0 a0_1)) = some (r1, r2) := H
     have A9 := Aside0.mk A90
     clear A90
     by_cases c10 : t358 = true
     ·subst c10
      have H1 : (if x8_1.length < 17592186044416 then (thermionref04_May.l0 k1 t356 (x8_1 ++ [x9_1]) (wrap64 (x9_1 + 1)) l0_0 a0_1) else (none)) = some (r1, r2) := by rw [if_pos rfl] at H; exact H
      clear H
      have H := H1
      clear H1
      by_cases c11 : x8_1.length < 17592186044416
      ·rw [if_pos c11] at H
       have LMc11 := Aside0.mk c11
       clear c11
       obtain ⟨y359, hy359⟩ : ∃ y_ : List Int, y_ = (x8_1 ++ [x9_1]) := ⟨_, rfl⟩
       replace H : (thermionref04_May.l0 k1 t356 y359 (wrap64 (x9_1 + 1)) l0_0 a0_1) = some (r1, r2) := by first | (rw [hy359]; with_reducible exact H) | (have H2_ := (Option.bind_some _ _).symm.trans H; rw [hy359]; with_reducible exact H2_) | (have H2_ := (Option.bind_some _ _).symm.trans H; with_reducible exact H2_) | with_reducible exact H | (rw [hy359]; exact H) | exact H
       have Ny359 := Aside0.mk hy359
       clear hy359
       have H' := Aside0.mk H
       clear H
       have hcz12_0 : wr.cell? ⟨gb355, 0, none⟩ = some (.slice A0_0 l0_0.length c0_0) := (blk_cell BK355.out 0).trans rfl
       have hcz12_1 : wr.cell? ⟨gb355, 1, none⟩ = some (.int .i64 a0_1) := (blk_cell BK355.out 1).trans rfl
       have hfz12_0 := blk_frozen BK355.out 0
       have hfz12_1 := blk_frozen BK355.out 1
       go_wp2_with (first | ((with_reducible refine gate_callee (f := 98) rfl ?_); refine goesL_ (some 29) rfl rfl Try.func98 (by kernel_rfl) rfl #[.agg #[.slice A0_0 l0_0.length c0_0, .int .i64 a0_1], .int .i64 t356, .int .i64 x9_1] rfl (by (try simp only [List.map_toArray, List.map_cons, List.map_nil]); first | done | rfl | (simp only [List.length_drop, List.length_take]; rfl)) ?_; (with_reducible refine (thermionref04_may.calls k1 _ _ l0_0 a0_1 t356 x9_1 true _ ?side1 ?side2 A9.out).mono ?_); (case side1 => repeat (first | exact (Kd.C_below HR0_0.out HB.out) | (with_reducible refine Kd.C_alloc ?_ _) | (with_reducible refine Kd.C_drewN ?_ _) | (with_reducible refine Kd.C_drew ?_))); (case side2 => exact HC0_0.out); rintro e w13 ⟨rfl, hb⟩; refine ⟨_, rfl, ?_⟩; have n0_ := Aside0.mk (Kd.R_below (by (with_reducible repeat (first | apply Kd.R_alloc | apply Kd.R_drewN | apply Kd.R_drew)); exact HO_8.out) hb); have n1_ := Aside0.mk (blk_below (g := gb355) (o := .cells #[.slice A0_0 l0_0.length c0_0, .int .i64 a0_1] 49 (0, 0)) (by (with_reducible repeat (first | refine blk_drewN ?_ _ | refine blk_drew ?_ | refine blk_alloc ?_ _)); exact BK355.out) hb); have n2_ := Aside0.mk (below_step (by repeat (first | (with_reducible first | exact HB.out | apply below_alloc | apply pw_below_drewN | apply below_drew1 | refine below_set ?_ GE355.out) | exact HB.out)) hb); clear HO_8; clear BK355; clear HB; have HO_8 := n0_; have BK355 := n1_; have HB := n2_; clear n0_ n1_ n2_; (try clear hb); (try clear hb2); (try clear hk); (try clear hi)) | ((with_reducible refine gate_builtin (b := .append) (xs := #[.tmp 30, .tmp 32]) rfl ?_); at_builtin; refine Kd.R_append (Kd.int .i64) (w0 := w) w.heap.size rfl (.tmp 30) (.tmp 32) 22 3 (.int .i64 0) 8 rfl Try.underlying22 info3 rfl (by decide) (by omega) u8 x8_1 x9_1 [.int .i64 x9_1] (fun _ => True) (fun _ => False) rfl rfl ?aP (fun _ hk => hk.elim) ?aF ?aO ?aB ?aS ?aL ?_; (case aP => exact rfl); (case aB => exact (by repeat (first | (with_reducible first | exact HB.out | apply below_alloc | apply pw_below_drewN | apply below_drew1 | refine below_set ?_ GE355.out) | exact HB.out))); (case aF => exact (fun _ _ => trivial)); (case aO => exact (by (with_reducible repeat (first | apply Kd.R_alloc | apply Kd.R_drewN | apply Kd.R_drew)); exact HO_8.out)); (case aS => exact (below_size (by repeat (first | (with_reducible first | exact HB.out | apply below_alloc | apply pw_below_drewN | apply below_drew1 | refine below_set ?_ GE355.out) | exact HB.out)))); (case aL => have := LMc11.out; omega); intro v360 w14 ho hb hg hat; rw [← Ny359.out] at ho; have n0_ := Aside0.mk (blk_grown (g := gb355) (o := .cells #[.slice A0_0 l0_0.length c0_0, .int .i64 a0_1] 49 (0, 0)) (by (with_reducible repeat (first | refine blk_drewN ?_ _ | refine blk_drew ?_ | refine blk_alloc ?_ _)); exact BK355.out) hg (Kd.R_ne HO_8.out BK355.out (by decide))); have n1_ := Aside0.mk (hb); have n2_ := Aside0.mk (ho); clear BK355; clear HB; clear HO_8; have BK355 := n0_; have HB := n1_; have HO361 := n2_; clear n0_ n1_ n2_; clear ho hb hg hat))
       go_roundg k1
       case measure => have := HK1.out; omega
       case rel => exact ⟨(y359), (wrap64 (x9_1 + 1)), (by first | rfl | (simp; done) | (simp [*]; done)), H', ⟨by have := HK1.out; omega⟩, ⟨by (with_reducible repeat (first | apply Kd.R_alloc | apply Kd.R_drewN | apply Kd.R_drew)); exact HO361.out⟩, ⟨by (with_reducible repeat (first | refine blk_drewN ?_ _ | refine blk_drew ?_ | refine blk_alloc ?_ _)); exact BK355.out⟩, ⟨by repeat (first | (with_reducible first | exact HB.out | apply below_alloc | apply pw_below_drewN | apply below_drew1 | refine below_set ?_ GE355.out) | exact HB.out)⟩⟩
      ·rw [if_neg c11] at H
       exact absurd H (by simp)
     ·replace c10 := Bool.eq_false_iff.mpr c10
      subst c10
      have H1 : (thermionref04_May.l0 k1 t356 x8_1 (wrap64 (x9_1 + 1)) l0_0 a0_1) = some (r1, r2) := by rw [if_neg (show ¬ (false = true) by decide)] at H; exact H
      clear H
      have H := H1
      clear H1
      have H' := Aside0.mk H
      clear H
      have hcz15_0 : wr.cell? ⟨gb355, 0, none⟩ = some (.slice A0_0 l0_0.length c0_0) := (blk_cell BK355.out 0).trans rfl
      have hcz15_1 : wr.cell? ⟨gb355, 1, none⟩ = some (.int .i64 a0_1) := (blk_cell BK355.out 1).trans rfl
      have hfz15_0 := blk_frozen BK355.out 0
      have hfz15_1 := blk_frozen BK355.out 1
      go_wp2_with (first | ((with_reducible refine gate_callee (f := 98) rfl ?_); refine goesL_ (some 29) rfl rfl Try.func98 (by kernel_rfl) rfl #[.agg #[.slice A0_0 l0_0.length c0_0, .int .i64 a0_1], .int .i64 t356, .int .i64 x9_1] rfl (by (try simp only [List.map_toArray, List.map_cons, List.map_nil]); first | done | rfl | (simp only [List.length_drop, List.length_take]; rfl)) ?_; (with_reducible refine (thermionref04_may.calls k1 _ _ l0_0 a0_1 t356 x9_1 false _ ?side1 ?side2 A9.out).mono ?_); (case side1 => repeat (first | exact (Kd.C_below HR0_0.out HB.out) | (with_reducible refine Kd.C_alloc ?_ _) | (with_reducible refine Kd.C_drewN ?_ _) | (with_reducible refine Kd.C_drew ?_))); (case side2 => exact HC0_0.out); rintro e w16 ⟨rfl, hb⟩; refine ⟨_, rfl, ?_⟩; have n0_ := Aside0.mk (Kd.R_below (by (with_reducible repeat (first | apply Kd.R_alloc | apply Kd.R_drewN | apply Kd.R_drew)); exact HO_8.out) hb); have n1_ := Aside0.mk (blk_below (g := gb355) (o := .cells #[.slice A0_0 l0_0.length c0_0, .int .i64 a0_1] 49 (0, 0)) (by (with_reducible repeat (first | refine blk_drewN ?_ _ | refine blk_drew ?_ | refine blk_alloc ?_ _)); exact BK355.out) hb); have n2_ := Aside0.mk (below_step (by repeat (first | (with_reducible first | exact HB.out | apply below_alloc | apply pw_below_drewN | apply below_drew1 | refine below_set ?_ GE355.out) | exact HB.out)) hb); clear HO_8; clear BK355; clear HB; have HO_8 := n0_; have BK355 := n1_; have HB := n2_; clear n0_ n1_ n2_; (try clear hb); (try clear hb2); (try clear hk); (try clear hi)))
      go_roundg k1
      case measure => have := HK1.out; omega
      case rel => exact ⟨(x8_1), (wrap64 (x9_1 + 1)), (by first | rfl | (simp; done) | (simp [*]; done)), H', ⟨by have := HK1.out; omega⟩, ⟨by (with_reducible repeat (first | apply Kd.R_alloc | apply Kd.R_drewN | apply Kd.R_drew)); exact HO_8.out⟩, ⟨by (with_reducible repeat (first | refine blk_drewN ?_ _ | refine blk_drew ?_ | refine blk_alloc ?_ _)); exact BK355.out⟩, ⟨by repeat (first | (with_reducible first | exact HB.out | apply below_alloc | apply pw_below_drewN | apply below_drew1 | refine below_set ?_ GE355.out) | exact HB.out)⟩⟩
    ·rw [if_neg c8] at H
     have c8b0 : decide (x9_1 < (l0_0.length : Int)) = false := decide_eq_false c8
     clear c8
     simp only [Option.some.injEq, Prod.mk.injEq] at H
     obtain ⟨rfl, rfl⟩ := H
     have hcz17_0 : wr.cell? ⟨gb355, 0, none⟩ = some (.slice A0_0 l0_0.length c0_0) := (blk_cell BK355.out 0).trans rfl
     have hcz17_1 : wr.cell? ⟨gb355, 1, none⟩ = some (.int .i64 a0_1) := (blk_cell BK355.out 1).trans rfl
     have hfz17_0 := blk_frozen BK355.out 0
     have hfz17_1 := blk_frozen BK355.out 1
     go_wp2
     go_ret2
     exact ⟨_, by first | rfl | (simp [errW_none, errW_some] <;> rfl) | (simp [*, errW_none, errW_some] <;> rfl), by (with_reducible repeat (first | apply Kd.R_alloc | apply Kd.R_drewN | apply Kd.R_drew)); exact HO_8.out, by repeat (first | (with_reducible first | exact HB.out | apply below_alloc | apply pw_below_drewN | apply below_drew1 | refine below_set ?_ GE355.out) | exact HB.out)⟩
 ·rw [if_neg c4] at H
  have c4b0 : (t357 == 0) = false := beq_eq_false_iff_ne.mpr c4
  have c4b1 : (t357 != 0) = true := bne_iff_ne.mpr c4
  simp only [Option.some.injEq, Prod.mk.injEq] at H
  obtain ⟨rfl, rfl⟩ := H
  go_enter Try.func37, Try.ntmps37
  go_wp2_with (first | ((with_reducible refine gate_dst (N := 2) rfl ?_); refine box_event ?hg (N := 2) ?hd (cs := #[.slice A0_0 l0_0.length c0_0, .int .i64 a0_1]) (t := 49) ?hr ?_; (case hd => rfl); (case hg => rfl); (case hr => first | (go_simp; done) | (go_simp; rfl)); intro gb355 hg w18 hbox hb; have n0_ := Aside0.mk (below_step (by repeat (first | (with_reducible first | exact HB.out | apply below_alloc | apply pw_below_drewN | apply below_drew1) | exact HB.out)) hb); have n1_ := Aside0.mk (hbox); have n2_ := Aside0.mk ((by rw [hg]; exact (below_size (by repeat (first | (with_reducible first | exact HB.out | apply below_alloc | apply pw_below_drewN | apply below_drew1) | exact HB.out))) : w.heap.size ≤ gb355)); have n3_ := Aside0.mk ((by rw [hg]; exact (below_size (by repeat (first | (with_reducible first | exact HB.out | apply below_alloc | apply pw_below_drewN | apply below_drew1) | exact HB.out))) : w.heap.size ≤ gb355)); clear HB; have HB := n0_; have BK355 := n1_; have GW355 := n2_; have GE355 := n3_; clear n0_ n1_ n2_ n3_; clear hb hbox hg; have hcz19_0 : w18.cell? ⟨gb355, 0, none⟩ = some (.slice A0_0 l0_0.length c0_0) := (blk_cell BK355.out 0).trans rfl; have hcz19_1 : w18.cell? ⟨gb355, 1, none⟩ = some (.int .i64 a0_1) := (blk_cell BK355.out 1).trans rfl; have hfz19_0 := blk_frozen BK355.out 0; have hfz19_1 := blk_frozen BK355.out 1) | ((with_reducible refine gate_callee (f := 97) rfl ?_); refine goesL_ (some 13) rfl rfl Try.func97 (by kernel_rfl) rfl #[.agg #[.slice A0_0 l0_0.length c0_0, .int .i64 a0_1], .slice A1 l1.length c1] rfl (by (try simp only [List.map_toArray, List.map_cons, List.map_nil]); first | done | rfl | (simp only [List.length_drop, List.length_take]; rfl)) ?_; (with_reducible refine (thermionref04_checkState.calls k _ _ l0_0 a0_1 _ _ l1 t356 t357 _ ?side1 ?side2 ?side3 ?side4 A3.out).mono ?_); (case side1 => repeat (first | exact (Kd.C_below HR0_0.out HB.out) | (with_reducible refine Kd.C_alloc ?_ _) | (with_reducible refine Kd.C_drewN ?_ _) | (with_reducible refine Kd.C_drew ?_))); (case side2 => exact HC0_0.out); (case side3 => repeat (first | exact (Kd.C_below HR1.out HB.out) | (with_reducible refine Kd.C_alloc ?_ _) | (with_reducible refine Kd.C_drewN ?_ _) | (with_reducible refine Kd.C_drew ?_))); (case side4 => exact HC1.out); rintro e w20 ⟨rfl, hb⟩; refine ⟨_, rfl, ?_⟩; have n0_ := Aside0.mk (blk_below (g := gb355) (o := .cells #[.slice A0_0 l0_0.length c0_0, .int .i64 a0_1] 49 (0, 0)) (by (with_reducible repeat (first | refine blk_drewN ?_ _ | refine blk_drew ?_ | refine blk_alloc ?_ _)); exact BK355.out) hb); have n1_ := Aside0.mk (below_step (by repeat (first | (with_reducible first | exact HB.out | apply below_alloc | apply pw_below_drewN | apply below_drew1 | refine below_set ?_ GE355.out) | exact HB.out)) hb); clear BK355; clear HB; have BK355 := n0_; have HB := n1_; clear n0_ n1_; (try clear hb); (try clear hb2); (try clear hk); (try clear hi)))
  go_ret2
  exact ⟨_, by first | rfl | (simp [errW_none, errW_some] <;> rfl) | (simp [*, errW_none, errW_some] <;> rfl), by first | exact Kd.R_nil _ _ _ _ _ | exact Kd.N_nil _ _ _ _ _ | exact Kd.V_nil _ _ _ _ _ | exact Kd.Q_nil _ _ _ _ _ | exact Kd.S_nil _ _ _ _ _, by repeat (first | (with_reducible first | exact HB.out | apply below_alloc | apply pw_below_drewN | apply below_drew1 | refine below_set ?_ GE355.out) | exact HB.out)⟩

end Go.Proofs.Ytbcfphoheijmdaa.Print
end

section
/- What the Go function thermionref04_goods does, as a Lean function, and that its call does so. Printed by a program of this work out of the translation. -/
namespace Go.Proofs.Ytbcfphoheijmdaa.Print
open Go.RowKit Go.Proofs.YtbcfphoheijmdaaW.PrintWords Go.Proofs.YtbcfphoheijmdaaW.PrintLast Go.Proofs.YtbcfphoheijmdaaW.PrintMore
attribute [local go_sem] max2_int min2_int max_two min_two max_three min_three max_four min_four
set_option linter.unusedVariables false
set_option linter.unusedSimpArgs false

/-! ### thermionref04_goods: function 101 -/
mutual
def thermionref04_goods.l0 : Nat → Int → List Int → Int → List (S57) → Int → Option (List Int)
 | 0, _, _, _, _, _ => none
 | k + 1, x3, x4, x5, x363000, x363001 => if x5 ≥ 0 then (thermionref04_goods.l1 k x3 x4 x5 0 x363000 x363001) else (some x4)
def thermionref04_goods.l1 : Nat → Int → List Int → Int → Int → List (S57) → Int → Option (List Int)
 | 0, _, _, _, _, _, _ => none
 | k + 1, x3, x4, x5, x6, x363000, x363001 => if x6 < x3 then ((thermionref04_may.f k x363000 x363001 x5 x6).bind fun t367 => (if t367 = true then (if 0 ≤ x5 then (if x5 < (x4.length : Int) then (if 0 ≤ x6 then (if 0 ≤ (Go.bits .or .i64 x5 (shl .i64 1 x6)) then (if (Go.bits .or .i64 x5 (shl .i64 1 x6)) < (x4.length : Int) then (thermionref04_goods.l1 k x3 (x4.set (x5 : Int).toNat (wrap64 ((rd x4 x5) + (rd x4 (Go.bits .or .i64 x5 (shl .i64 1 x6)))))) x5 (wrap64 (x6 + 1)) x363000 x363001) else (none)) else (none)) else (none)) else (none)) else (none)) else (thermionref04_goods.l1 k x3 x4 x5 (wrap64 (x6 + 1)) x363000 x363001))) else (thermionref04_goods.l0 k x3 x4 (wrap64 (x5 - 1)) x363000 x363001)
end
def thermionref04_goods.f (k : Nat) (l0_0 : List (S57)) (a0_1 : Int) : Option (List Int) := if 0 ≤ (shl .i64 1 (l0_0.length : Int)) then (if (shl .i64 1 (l0_0.length : Int) : Int).toNat ≤ 35184372088832 then ((some (List.replicate (shl .i64 1 (l0_0.length : Int) : Int).toNat 0 : List Int)).bind fun y363 => (if 0 ≤ (wrap64 ((y363.length : Int) - 1)) then (if (wrap64 ((y363.length : Int) - 1)) < (y363.length : Int) then (thermionref04_goods.l0 k (l0_0.length : Int) (y363.set ((wrap64 ((y363.length : Int) - 1)) : Int).toNat 1) (wrap64 ((y363.length : Int) - 2)) l0_0 a0_1) else (none)) else (none))) else (none)) else (none)
theorem thermionref04_goods.mono_l : ∀ k, (∀ y0 y1 y2 y3 y4, LeO (thermionref04_goods.l0 k y0 y1 y2 y3 y4) (thermionref04_goods.l0 (k + 1) y0 y1 y2 y3 y4)) ∧ (∀ y0 y1 y2 y3 y4 y5, LeO (thermionref04_goods.l1 k y0 y1 y2 y3 y4 y5) (thermionref04_goods.l1 (k + 1) y0 y1 y2 y3 y4 y5))
 | 0 => ⟨fun _ _ _ _ _ r h => by simp [thermionref04_goods.l0] at h, fun _ _ _ _ _ _ r h => by simp [thermionref04_goods.l1] at h⟩
 | k + 1 => by
  obtain ⟨ih0, ih1⟩ := thermionref04_goods.mono_l k
  refine ⟨?_, ?_⟩
  ·intro y0 y1 y2 y3 y4
   unfold thermionref04_goods.l0
   repeat' first
   | (with_reducible exact ih0 _ _ _ _ _)
   | (with_reducible exact ih1 _ _ _ _ _ _)
   | (with_reducible exact thermionref04_may.mono _ _ _ _ _)
   | (with_reducible exact LeO.refl _)
   | (with_reducible exact LeO.none _)
   | (with_reducible refine LeO.ite ?_ ?_)
   | (with_reducible refine LeO.bind ?_ (fun _ => ?_))
   | exact ih0 _ _ _ _ _
   | exact ih1 _ _ _ _ _ _
   | exact thermionref04_may.mono _ _ _ _ _
   | exact LeO.none _
   | refine LeO.ite ?_ ?_
   | refine LeO.bind ?_ (fun _ => ?_)
  ·intro y0 y1 y2 y3 y4 y5
   unfold thermionref04_goods.l1
   repeat' first
   | (with_reducible exact ih0 _ _ _ _ _)
   | (with_reducible exact ih1 _ _ _ _ _ _)
   | (with_reducible exact thermionref04_may.mono _ _ _ _ _)
   | (with_reducible exact LeO.refl _)
   | (with_reducible exact LeO.none _)
   | (with_reducible refine LeO.ite ?_ ?_)
   | (with_reducible refine LeO.bind ?_ (fun _ => ?_))
   | exact ih0 _ _ _ _ _
   | exact ih1 _ _ _ _ _ _
   | exact thermionref04_may.mono _ _ _ _ _
   | exact LeO.none _
   | refine LeO.ite ?_ ?_
   | refine LeO.bind ?_ (fun _ => ?_)
theorem thermionref04_goods.mono : ∀ a0 a1 k, LeO (thermionref04_goods.f k a0 a1) (thermionref04_goods.f (k + 1) a0 a1) := by
 intro a0 a1 k
 obtain ⟨ih0, ih1⟩ := thermionref04_goods.mono_l k
 unfold thermionref04_goods.f
 repeat' first
   | (with_reducible exact ih0 _ _ _ _ _)
   | (with_reducible exact ih1 _ _ _ _ _ _)
   | (with_reducible exact thermionref04_may.mono _ _ _ _ _)
   | (with_reducible exact LeO.refl _)
   | (with_reducible exact LeO.none _)
   | (with_reducible refine LeO.ite ?_ ?_)
   | (with_reducible refine LeO.bind ?_ (fun _ => ?_))
   | exact ih0 _ _ _ _ _
   | exact ih1 _ _ _ _ _ _
   | exact thermionref04_may.mono _ _ _ _ _
   | exact LeO.none _
   | refine LeO.ite ?_ ?_
   | refine LeO.bind ?_ (fun _ => ?_)
def thermionref04_goods.T11 : Bool × List (List Nat × List Nat) := (true, [([], []), ([], []), ([], []), ([], []), ([2, 3], [2, 3]), ([4], [4]), ([], []), ([], []), ([], []), ([8], [8]), ([7, 9], [7, 9]), ([6, 10], [6, 10]), ([11], [11]), ([5, 12], [5, 12]), ([0, 1, 0, 1, 2, 3, 4, 5, 6, 7, 8, 9, 10, 11, 12, 13], [0, 1]), ([14, 13, 0, 1, 2, 3, 4, 5, 6, 7, 8, 9, 10, 11, 12, 13], [13, 14])])
def thermionref04_goods.B11 : List Nat := [0, 0, 0, 0, 12, 28, 0, 0, 0, 256, 896, 1984, 4032, 8188, 16383, 32767]
theorem thermionref04_goods.tab11 : rtab .any (opsOf Try.f101 11) = thermionref04_goods.T11 := by kernel_rfl
theorem thermionref04_goods.bits11 : waitsOk thermionref04_goods.T11.2 thermionref04_goods.B11 = true := by kernel_rfl
set_option maxHeartbeats 8000000 in
set_option maxRecDepth 100000 in
theorem thermionref04_goods.calls (k : Nat) (A0_0 : Option Addr) (c0_0 : Nat) (l0_0 : List (S57)) (a0_1 : Int) (r : List Int) (w : World) (hr0_0 : Kd.C k57 w A0_0 l0_0.length l0_0) (hc0_0 : l0_0.length ≤ c0_0) (h : thermionref04_goods.f k l0_0 a0_1 = some r) :
  Calls Try.prog 101 #[.agg #[.slice A0_0 l0_0.length c0_0, .int .i64 a0_1]] w fun e w' => ∃ v0_ : Value, e = .returned (v0_) ∧ Kd.R (Kd.int .i64) 3 w' w.heap.size (fun _ => True) v0_ r ∧ Below w.heap.size w w' := by
 have hu49 := Try.underlying49
 have HR0_0 := Aside0.mk hr0_0
 have HC0_0 := Aside0.mk hc0_0
 clear hr0_0 hc0_0
 have HB := Aside0.mk (Below.refl w.heap.size w)
 have H : (if 0 ≤ (shl .i64 1 (l0_0.length : Int)) then (if (shl .i64 1 (l0_0.length : Int) : Int).toNat ≤ 35184372088832 then ((some (List.replicate (shl .i64 1 (l0_0.length : Int) : Int).toNat 0 : List Int)).bind fun y363 => (if 0 ≤ (wrap64 ((y363.length : Int) - 1)) then (if (wrap64 ((y363.length : Int) - 1)) < (y363.length : Int) then (thermionref04_goods.l0 k (l0_0.length : Int) (y363.set ((wrap64 ((y363.length : Int) - 1)) : Int).toNat 1) (wrap64 ((y363.length : Int) - 2)) l0_0 a0_1) else (none)) else (none))) else (none)) else (none)) = some r := h
 clear h
 obtain ⟨ji2, hji2⟩ : ∃ j_ : Int, (shl .i64 1 (l0_0.length : Int)) = j_ := ⟨_, rfl⟩
 replace H : (if 0 ≤ (ji2) then (if (ji2 : Int).toNat ≤ 35184372088832 then ((some (List.replicate (ji2 : Int).toNat 0 : List Int)).bind fun y363 => (if 0 ≤ (wrap64 ((y363.length : Int) - 1)) then (if (wrap64 ((y363.length : Int) - 1)) < (y363.length : Int) then (thermionref04_goods.l0 k (l0_0.length : Int) (y363.set ((wrap64 ((y363.length : Int) - 1)) : Int).toNat 1) (wrap64 ((y363.length : Int) - 2)) l0_0 a0_1) else (none)) else (none))) else (none)) else (none)) = some r := by first | (rw [hji2] at H; exact H) | (simp only [hji2] at H ⊢; exact H)
 have hji2_ : (IntKind.i64.wrap (1 * 2 ^ min (l0_0.length : Int).toNat 64)) = ji2 := hji2
 have hji2z : (l0_0.length : Int) ≤ 64 → (IntKind.i64.wrap (1 * 2 ^ (l0_0.length : Int).toNat)) = ji2 := shl_small hji2
 have hji2p : (IntKind.i64.wrap (1 * 2 ^ min l0_0.length 64)) = ji2 := hji2_
 have hji2q : (l0_0.length : Int) ≤ 64 → (IntKind.i64.wrap (1 * 2 ^ l0_0.length)) = ji2 := hji2z
 have hji2r : (IntKind.i64.wrap (2 ^ min l0_0.length 64)) = ji2 := by have h_ := hji2p; rw [Int.one_mul] at h_; exact h_
 have hji2s : (l0_0.length : Int) ≤ 64 → (IntKind.i64.wrap (2 ^ l0_0.length)) = ji2 := fun hle_ => by have h_ := hji2q hle_; rw [Int.one_mul] at h_; exact h_
 have hji2u : (IntKind.i64.wrap (2 ^ min (l0_0.length : Int).toNat 64)) = ji2 := by have h_ := hji2_; rw [Int.one_mul] at h_; exact h_
 have hji2v : (l0_0.length : Int) ≤ 64 → (IntKind.i64.wrap (2 ^ (l0_0.length : Int).toNat)) = ji2 := fun hle_ => by have h_ := hji2z hle_; rw [Int.one_mul] at h_; exact h_
 have hji2y : (wrap64 (1 * 2 ^ min (l0_0.length : Int).toNat 64)) = ji2 := (i64_w _).symm.trans hji2_
 have hji2x : (l0_0.length : Int) ≤ 64 → (wrap64 (1 * 2 ^ (l0_0.length : Int).toNat)) = ji2 := fun h_ => (i64_w _).symm.trans (hji2z h_)
 by_cases c3 : 0 ≤ (ji2)
 ·rw [if_pos c3] at H
  have c3b0 := eq_true c3
  have c3b1 : decide (0 ≤ (ji2)) = true := decide_eq_true c3
  clear c3
  by_cases c4 : (ji2 : Int).toNat ≤ 35184372088832
  ·rw [if_pos c4] at H
   have c4b0 := eq_true c4
   have c4b1 : decide ((ji2 : Int).toNat ≤ 35184372088832) = true := decide_eq_true c4
   clear c4
   obtain ⟨y363, hy363⟩ : ∃ y_ : List Int, y_ = (List.replicate (ji2 : Int).toNat 0) := ⟨_, rfl⟩
   replace H : (if 0 ≤ (wrap64 ((y363.length : Int) - 1)) then (if (wrap64 ((y363.length : Int) - 1)) < (y363.length : Int) then (thermionref04_goods.l0 k (l0_0.length : Int) (y363.set ((wrap64 ((y363.length : Int) - 1)) : Int).toNat 1) (wrap64 ((y363.length : Int) - 2)) l0_0 a0_1) else (none)) else (none)) = some r := by first | (rw [hy363]; with_reducible exact H) | (have H2_ := (Option.bind_some _ _).symm.trans H; rw [hy363]; with_reducible exact H2_) | (have H2_ := (Option.bind_some _ _).symm.trans H; with_reducible exact H2_) | with_reducible exact H | (rw [hy363]; exact H) | exact H
   have Ny363 := Aside0.mk hy363
   clear hy363
   obtain ⟨ji5, hji5⟩ : ∃ j_ : Int, (wrap64 ((y363.length : Int) - 1)) = j_ := ⟨_, rfl⟩
   replace H : (if 0 ≤ (ji5) then (if (ji5) < (y363.length : Int) then (thermionref04_goods.l0 k (l0_0.length : Int) (y363.set ((ji5) : Int).toNat 1) (wrap64 ((y363.length : Int) - 2)) l0_0 a0_1) else (none)) else (none)) = some r := by first | (rw [hji5] at H; exact H) | (simp only [hji5] at H ⊢; exact H)
   have hji5w : (IntKind.i64.wrap ((y363.length : Int) - 1)) = ji5 := (i64_w _).trans hji5
   by_cases c6 : 0 ≤ (ji5)
   ·rw [if_pos c6] at H
    have c6b0 : decide (0 ≤ (ji5)) = true := decide_eq_true c6
    clear c6
    by_cases c7 : (ji5) < (y363.length : Int)
    ·rw [if_pos c7] at H
     have c7b0 : decide ((ji5) < (y363.length : Int)) = true := decide_eq_true c7
     clear c7
     obtain ⟨y366, hy366⟩ : ∃ y_ : List Int, y_ = (y363.set ((ji5) : Int).toNat 1) := ⟨_, rfl⟩
     replace H : (thermionref04_goods.l0 k (l0_0.length : Int) y366 (wrap64 ((y363.length : Int) - 2)) l0_0 a0_1) = some r := by first | (rw [hy366]; with_reducible exact H) | (have H2_ := (Option.bind_some _ _).symm.trans H; rw [hy366]; with_reducible exact H2_) | (have H2_ := (Option.bind_some _ _).symm.trans H; with_reducible exact H2_) | with_reducible exact H | (rw [hy366]; exact H) | exact H
     have Ny366 := Aside0.mk hy366
     clear hy366
     have H' := Aside0.mk H
     clear H
     go_enter Try.func101, Try.ntmps101
     go_wp2_with (first | ((with_reducible refine gate_dst (N := 1) rfl ?_); refine box_event ?hg (N := 1) ?hd (cs := #[.slice A0_0 l0_0.length c0_0, .int .i64 a0_1]) (t := 49) ?hr ?_; (case hd => rfl); (case hg => rfl); (case hr => first | (go_simp; done) | (go_simp; rfl)); intro gb362 hg w9 hbox hb; have n0_ := Aside0.mk (below_step (by repeat (first | (with_reducible first | exact HB.out | apply below_alloc | apply pw_below_drewN | apply below_drew1) | exact HB.out)) hb); have n1_ := Aside0.mk (hbox); have n2_ := Aside0.mk ((by rw [hg]; exact (below_size (by repeat (first | (with_reducible first | exact HB.out | apply below_alloc | apply pw_below_drewN | apply below_drew1) | exact HB.out))) : w.heap.size ≤ gb362)); have n3_ := Aside0.mk ((by rw [hg]; exact (below_size (by repeat (first | (with_reducible first | exact HB.out | apply below_alloc | apply pw_below_drewN | apply below_drew1) | exact HB.out))) : w.heap.size ≤ gb362)); clear HB; have HB := n0_; have BK362 := n1_; have GW362 := n2_; have GE362 := n3_; clear n0_ n1_ n2_ n3_; clear hb hbox hg; have hcz10_0 : w9.cell? ⟨gb362, 0, none⟩ = some (.slice A0_0 l0_0.length c0_0) := (blk_cell BK362.out 0).trans rfl; have hcz10_1 : w9.cell? ⟨gb362, 1, none⟩ = some (.int .i64 a0_1) := (blk_cell BK362.out 1).trans rfl; have hfz10_0 := blk_frozen BK362.out 0; have hfz10_1 := blk_frozen BK362.out 1) | ((with_reducible refine gate_dst (N := 12) rfl ?_); refine Kd.R_make (Kd.int .i64) _ 3 rfl (N := 12) rfl 22 _ _ rfl ji2 rfl rfl Try.underlying22 (.int .i64 0) 8 info3 rfl (by decide) (by omega) 0 (ok := fun _ => True) (okp := fun _ => True) rfl (fun _ hk => hk) trivial (of_decide_eq_true (by first | (with_reducible assumption) | assumption)) (Nat.le_trans (Nat.mul_le_mul_right _ (of_decide_eq_true (by first | (with_reducible assumption) | assumption) : ji2.toNat ≤ 35184372088832)) (by omega)) (Below.refl _ _) (Nat.le_refl _) ?_; intro v364 w11 ho12 hb hg_ hnew_; clear hg_ hnew_; (first | rw [← Ny363.out] at ho12 | (simp only [Int.reduceToNat] at ho12; rw [← Ny363.out] at ho12)); have n0_ := Aside0.mk (Kd.R_lower ho12 (below_size (by repeat (first | (with_reducible first | exact HB.out | apply below_alloc | apply pw_below_drewN | apply below_drew1 | refine below_set ?_ GE362.out) | exact HB.out)))); have n1_ := Aside0.mk (blk_below (g := gb362) (o := .cells #[.slice A0_0 l0_0.length c0_0, .int .i64 a0_1] 49 (0, 0)) (by (with_reducible repeat (first | refine blk_drewN ?_ _ | refine blk_drew ?_ | refine blk_alloc ?_ _)); exact BK362.out) hb); have n2_ := Aside0.mk (below_step (by repeat (first | (with_reducible first | exact HB.out | apply below_alloc | apply pw_below_drewN | apply below_drew1 | refine below_set ?_ GE362.out) | exact HB.out)) hb); clear BK362; clear HB; have HO365 := n0_; have BK362 := n1_; have HB := n2_; clear n0_ n1_ n2_; clear hb ho12; obtain ⟨Ao13, co13, eo13⟩ := Kd.R_slice HO365.out; subst eo13; have p8 : 0 ≤ ((ji5) : Int) := of_decide_eq_true (by first | (with_reducible assumption) | assumption); have q8 : ((ji5) : Int) < ((y363.length : Int) : Int) := of_decide_eq_true (by first | (with_reducible assumption) | assumption); obtain ⟨go8, co8, eo8, gb8, gl8, cl8, HG8⟩ := Kd.R_form HO365.out (by omega); (first | cases eo8 | (injection eo8 with ea_ en_ ec_; (first | subst ea_ | (injection ea_ with ea_; subst ea_)); subst ec_; clear en_)); have GB8 := Aside0.mk gb8; have GG8 := Aside0.mk HG8; clear gb8 gl8 HG8; obtain ⟨hx8_0, hf8_0⟩ := Kd.R_celln 0 HO365.out ((ji5) : Int) p8 q8; replace p8 := eq_true p8; replace q8 := eq_true q8; obtain ⟨hy14_, hz14_⟩ := Kd.R_celln 0 HO365.out ((ji5) : Int) (of_decide_eq_true (by first | (with_reducible assumption) | assumption)) (of_decide_eq_true (by first | (with_reducible assumption) | assumption)); have HP14 := Kd.R_putg HO365.out ((ji5) : Int) 1) | ((with_reducible refine gate_store (t := 3) (p := 17) rfl ?_); refine store_event (t := 3) (p := 17) (v := ?vo_w15) (w1 := (w11.setCell ⟨go8, ((ji5) : Int).toNat, none⟩ (.int .i64 1))) ?hg ?ho ?hn ?hr ?_; (case ho => rfl); (case hg => rfl); (case hn => rfl); (case hr => first | (go_simp; done) | (go_simp; rfl)); intro w15 hw; have hg : w11.grownBy w15 (some go8) := (by rw [hw]; exact HP14.2); have hp_ : Kd.R (Kd.int .i64) 3 w15 w.heap.size (fun _ => True) (.slice (some ⟨go8, 0, none⟩) y363.length co13) y366 := (by rw [hw, Ny366.out]; exact HP14.1); clear HP14; have n0_ := Aside0.mk (blk_grown (g := gb362) (o := .cells #[.slice A0_0 l0_0.length c0_0, .int .i64 a0_1] 49 (0, 0)) (by (with_reducible repeat (first | refine blk_drewN ?_ _ | refine blk_drew ?_ | refine blk_alloc ?_ _)); exact BK362.out) hg (Kd.R_ne HO365.out BK362.out (by decide))); have n1_ := Aside0.mk (hp_); have n2_ := Aside0.mk ((by rw [hw]; exact below_set (HB.out) GB8.out : Below w.heap.size w w15)); clear BK362; clear HO365; clear HB; have BK362 := n0_; have HO365 := n1_; have HB := n2_; clear n0_ n1_ n2_; clear hg hw hp_))
     go_loopg [5] k (fun kq v5 w' => ∃ (x4_1 : List Int) (x5_1 : Int), v5 = .int .i64 x5_1 ∧ Aside0 (thermionref04_goods.l0 kq (l0_0.length : Int) x4_1 x5_1 l0_0 a0_1 = some r) ∧ Aside0 (kq ≤ k) ∧ Aside0 (Kd.R (Kd.int .i64) 3 w' w.heap.size (fun _ => True) (.slice (some ⟨go8, 0, none⟩) y363.length co13) x4_1) ∧ Aside0 (w'.heap[gb362]? = some (.cells #[(.slice A0_0 l0_0.length c0_0), .int .i64 a0_1] 49 (0, 0))) ∧ Aside0 (Below w.heap.size w w'))
     case atStart => exact ⟨(y366), (wrap64 ((y363.length : Int) - 2)), (by first | rfl | (simp; done) | (simp [*]; done)), H', ⟨Nat.le_refl _⟩, ⟨by (with_reducible repeat (first | apply Kd.R_alloc | apply Kd.R_drewN | apply Kd.R_drew)); exact HO365.out⟩, ⟨by (with_reducible repeat (first | refine blk_drewN ?_ _ | refine blk_drew ?_ | refine blk_alloc ?_ _)); exact BK362.out⟩, ⟨by repeat (first | (with_reducible first | exact HB.out | apply below_alloc | apply pw_below_drewN | apply below_drew1 | refine below_set ?_ GE362.out) | exact HB.out)⟩⟩
     case round =>
      clear H'
      try clear c1
      try clear p2
      try clear c3
      try clear c3b0
      try clear c3b1
      try clear c4
      try clear c4b0
      try clear c4b1
      try clear c6
      try clear c6b0
      try clear p6
      try clear c7
      try clear c7b0
      try clear p8
      try clear q8
      try clear hx8
      try clear hf8
      try clear c10
      try clear hcz10_0
      try clear hcz10_1
      try clear hfz10_0
      try clear hfz10_1
      try clear hx8_0
      try clear p8
      try clear q8
      obtain ⟨x4_1, x5_1, rfl, HA, HK1, HO_4, BK362, HB⟩ := hrel
      have hl4_1 := (Kd.R_reads' HO_4.out).1
      rw [hl4_1] at HO_4
      (try simp only [hl4_1])
      (try simp only [hl4_1] at BK362)
      cases gk with
      | zero => exact absurd HA.out (by simp [thermionref04_goods.l0])
      | succ k1 =>
       have H := HA.out
       clear HA
       simp only [thermionref04_goods.l0] at H
       by_cases c16 : x5_1 ≥ 0
       ·rw [if_pos c16] at H
        have c16b0 : decide (0 ≤ x5_1) = true := decide_eq_true c16
        clear c16
        have H' := Aside0.mk H
        clear H
        go_wp2
        go_loopg [6] k1 (fun kq v6 w' => ∃ (x4_2 : List Int) (x6_2 : Int), v6 = .int .i64 x6_2 ∧ Aside0 (thermionref04_goods.l1 kq (l0_0.length : Int) x4_2 x5_1 x6_2 l0_0 a0_1 = some r) ∧ Aside0 (kq ≤ k1) ∧ Aside0 (Kd.R (Kd.int .i64) 3 w' w.heap.size (fun _ => True) (.slice (some ⟨go8, 0, none⟩) x4_1.length co13) x4_2) ∧ Aside0 (w'.heap[gb362]? = some (.cells #[(.slice A0_0 l0_0.length c0_0), .int .i64 a0_1] 49 (0, 0))) ∧ Aside0 (Below w.heap.size w w'))
        case atStart => exact ⟨(x4_1), (0), (by first | rfl | (simp; done) | (simp [*]; done)), H', ⟨Nat.le_refl _⟩, ⟨by (try simp only [hl4_1]); (with_reducible repeat (first | apply Kd.R_alloc | apply Kd.R_drewN | apply Kd.R_drew)); exact HO_4.out⟩, ⟨by (try simp only [hl4_1]); (with_reducible repeat (first | refine blk_drewN ?_ _ | refine blk_drew ?_ | refine blk_alloc ?_ _)); exact BK362.out⟩, ⟨by repeat (first | (with_reducible first | exact HB.out | apply below_alloc | apply pw_below_drewN | apply below_drew1 | refine below_set ?_ GE362.out) | exact HB.out)⟩⟩
        case round =>
         clear H'
         try clear c1
         try clear p2
         try clear c3
         try clear c3b0
         try clear c3b1
         try clear c4
         try clear c4b0
         try clear c4b1
         try clear c6
         try clear c6b0
         try clear p6
         try clear c7
         try clear c7b0
         try clear p8
         try clear q8
         try clear hx8
         try clear hf8
         try clear c10
         try clear c16
         try clear c16b0
         try clear hcz10_0
         try clear hcz10_1
         try clear hfz10_0
         try clear hfz10_1
         try clear hx8_0
         try clear p2
         try clear p6
         try clear p8
         try clear q8
         obtain ⟨x4_2, x6_2, rfl, HA, HK2, HO_4, BK362, HB⟩ := hrel
         have hl4_2 := (Kd.R_reads' HO_4.out).1
         rw [hl4_2] at HO_4
         (try simp only [hl4_2])
         (try simp only [hl4_2] at BK362)
         cases gk with
         | zero => exact absurd HA.out (by simp [thermionref04_goods.l1])
         | succ k2 =>
          have H := HA.out
          clear HA
          simp only [thermionref04_goods.l1] at H
          by_cases c17 : x6_2 < (l0_0.length : Int)
          ·rw [if_pos c17] at H
           have c17b0 : decide (x6_2 < (l0_0.length : Int)) = true := decide_eq_true c17
           clear c17
           replace H := Option.bind_eq_some_iff.mp H
           obtain ⟨t367, A180, H⟩ := H
           replace H : (if t367 = true then (if 0 ≤ x5_1 then (if x5_1 < (x4_2.length : Int) then (if 0 ≤ x6_2 then (if 0 ≤ (Go.bits .or .i64 x5_1 (shl .i64 1 x6_2)) then (if (Go.bits .or .i64 x5_1 (shl .i64 1 x6_2)) < (x4_2.length : Int) then (thermionref04_goods.l1 k2 (l0_0.length : Int) (x4_2.set (x5_1 : Int).toNat (wrap64 ((rd x4_2 x5_1) + (rd x4_2 (Go.bits .or .i64 x5_1 (shl .i64 1 x6_2)))))) x5_1 (wrap64 (x6_2 + 1)) l0_0 a0_1) else (none)) else (none)) else (none)) else (none)) else (none)) else (thermionref04_goods.l1 k2 (l0_0.length : Int) x4_2 x5_1 (wrap64 (x6_2 + 1)) l0_0 a0_1)) = some r := H
           have A18 := Aside0.mk A180
           clear A180
           by_cases c19 : t367 = true
           ·subst c19
            have H1 : (if 0 ≤ x5_1 then (if x5_1 < (x4_2.length : Int) then (if 0 ≤ x6_2 then (if 0 ≤ (Go.bits .or .i64 x5_1 (shl .i64 1 x6_2)) then (if (Go.bits .or .i64 x5_1 (shl .i64 1 x6_2)) < (x4_2.length : Int) then (thermionref04_goods.l1 k2 (l0_0.length : Int) (x4_2.set (x5_1 : Int).toNat (wrap64 ((rd x4_2 x5_1) + (rd x4_2 (Go.bits .or .i64 x5_1 (shl .i64 1 x6_2)))))) x5_1 (wrap64 (x6_2 + 1)) l0_0 a0_1) else (none)) else (none)) else (none)) else (none)) else (none)) = some r := by rw [if_pos rfl] at H; exact H
            clear H
            have H := H1
            clear H1
            by_cases c20 : 0 ≤ x5_1
            ·rw [if_pos c20] at H
             have c20b0 : decide (0 ≤ x5_1) = true := decide_eq_true c20
             clear c20
             by_cases c21 : x5_1 < (x4_2.length : Int)
             ·rw [if_pos c21] at H
              have c21b0 : decide (x5_1 < (x4_2.length : Int)) = true := decide_eq_true c21
              clear c21
              by_cases c22 : 0 ≤ x6_2
              ·rw [if_pos c22] at H
               have c22b0 := eq_true c22
               have c22b1 : decide (0 ≤ x6_2) = true := decide_eq_true c22
               clear c22
               obtain ⟨ji23, hji23⟩ : ∃ j_ : Int, (shl .i64 1 x6_2) = j_ := ⟨_, rfl⟩
               replace H : (if 0 ≤ (Go.bits .or .i64 x5_1 (ji23)) then (if (Go.bits .or .i64 x5_1 (ji23)) < (x4_2.length : Int) then (thermionref04_goods.l1 k2 (l0_0.length : Int) (x4_2.set (x5_1 : Int).toNat (wrap64 ((rd x4_2 x5_1) + (rd x4_2 (Go.bits .or .i64 x5_1 (ji23)))))) x5_1 (wrap64 (x6_2 + 1)) l0_0 a0_1) else (none)) else (none)) = some r := by first | (rw [hji23] at H; exact H) | (simp only [hji23] at H ⊢; exact H)
               (try rw [hji23] at A18)
               have hji23_ : (IntKind.i64.wrap (1 * 2 ^ min x6_2.toNat 64)) = ji23 := hji23
               have hji23z : x6_2 ≤ 64 → (IntKind.i64.wrap (1 * 2 ^ x6_2.toNat)) = ji23 := shl_small hji23
               have hji23u : (IntKind.i64.wrap (2 ^ min x6_2.toNat 64)) = ji23 := by have h_ := hji23_; rw [Int.one_mul] at h_; exact h_
               have hji23v : x6_2 ≤ 64 → (IntKind.i64.wrap (2 ^ x6_2.toNat)) = ji23 := fun hle_ => by have h_ := hji23z hle_; rw [Int.one_mul] at h_; exact h_
               have hji23y : (wrap64 (1 * 2 ^ min x6_2.toNat 64)) = ji23 := (i64_w _).symm.trans hji23_
               have hji23x : x6_2 ≤ 64 → (wrap64 (1 * 2 ^ x6_2.toNat)) = ji23 := fun h_ => (i64_w _).symm.trans (hji23z h_)
               by_cases c24 : 0 ≤ (Go.bits .or .i64 x5_1 (ji23))
               ·rw [if_pos c24] at H
                have c24b0 : decide (0 ≤ (Go.bits .or .i64 x5_1 (ji23))) = true := decide_eq_true c24
                clear c24
                by_cases c25 : (Go.bits .or .i64 x5_1 (ji23)) < (x4_2.length : Int)
                ·rw [if_pos c25] at H
                 have c25b0 : decide ((Go.bits .or .i64 x5_1 (ji23)) < (x4_2.length : Int)) = true := decide_eq_true c25
                 clear c25
                 obtain ⟨y370, hy370⟩ : ∃ y_ : List Int, y_ = (x4_2.set (x5_1 : Int).toNat (wrap64 ((rd x4_2 x5_1) + (rd x4_2 (Go.bits .or .i64 x5_1 (ji23)))))) := ⟨_, rfl⟩
                 replace H : (thermionref04_goods.l1 k2 (l0_0.length : Int) y370 x5_1 (wrap64 (x6_2 + 1)) l0_0 a0_1) = some r := by first | (rw [hy370]; with_reducible exact H) | (have H2_ := (Option.bind_some _ _).symm.trans H; rw [hy370]; with_reducible exact H2_) | (have H2_ := (Option.bind_some _ _).symm.trans H; with_reducible exact H2_) | with_reducible exact H | (rw [hy370]; exact H) | exact H
                 have Ny370 := Aside0.mk hy370
                 clear hy370
                 have H' := Aside0.mk H
                 clear H
                 have hcz27_0 : wr.cell? ⟨gb362, 0, none⟩ = some (.slice A0_0 l0_0.length c0_0) := (blk_cell BK362.out 0).trans rfl
                 have hcz27_1 : wr.cell? ⟨gb362, 1, none⟩ = some (.int .i64 a0_1) := (blk_cell BK362.out 1).trans rfl
                 have hfz27_0 := blk_frozen BK362.out 0
                 have hfz27_1 := blk_frozen BK362.out 1
                 try go_wp2_with (first | ((with_reducible refine gate_callee (f := 98) rfl ?_); refine goesL_ (some 33) rfl rfl Try.func98 (by kernel_rfl) rfl #[.agg #[.slice A0_0 l0_0.length c0_0, .int .i64 a0_1], .int .i64 x5_1, .int .i64 x6_2] rfl (by (try simp only [List.map_toArray, List.map_cons, List.map_nil]); first | done | rfl | (simp only [List.length_drop, List.length_take]; rfl)) ?_; (with_reducible refine (thermionref04_may.calls k2 _ _ l0_0 a0_1 x5_1 x6_2 true _ ?side1 ?side2 A18.out).mono ?_); (case side1 => repeat (first | exact (Kd.C_below HR0_0.out HB.out) | (with_reducible refine Kd.C_alloc ?_ _) | (with_reducible refine Kd.C_drewN ?_ _) | (with_reducible refine Kd.C_drew ?_))); (case side2 => exact HC0_0.out); rintro e w28 ⟨rfl, hb⟩; refine ⟨_, rfl, ?_⟩; have n0_ := Aside0.mk (Kd.R_below (by (with_reducible repeat (first | apply Kd.R_alloc | apply Kd.R_drewN | apply Kd.R_drew)); exact HO_4.out) hb); have n1_ := Aside0.mk (blk_below (g := gb362) (o := .cells #[.slice A0_0 l0_0.length c0_0, .int .i64 a0_1] 49 (0, 0)) (by (with_reducible repeat (first | refine blk_drewN ?_ _ | refine blk_drew ?_ | refine blk_alloc ?_ _)); exact BK362.out) hb); have n2_ := Aside0.mk (below_step (by repeat (first | (with_reducible first | exact HB.out | apply below_alloc | apply pw_below_drewN | apply below_drew1 | refine below_set ?_ GE362.out) | exact HB.out)) hb); clear HO_4; clear BK362; clear HB; have HO_4 := n0_; have BK362 := n1_; have HB := n2_; clear n0_ n1_ n2_; (try clear hb); (try clear hb2); (try clear hk); (try clear hi)))
                 have n0_ := Aside0.mk (Kd.R_drew HO_4.out)
                 have n1_ := Aside0.mk (blk_drew BK362.out)
                 have n2_ := Aside0.mk (below_drew1 HB.out)
                 clear HO_4
                 clear BK362
                 clear HB
                 have HO_4 := n0_
                 have BK362 := n1_
                 have HB := n2_
                 clear n0_ n1_ n2_
                 have p368 : 0 ≤ (x5_1 : Int) := of_decide_eq_true (by first | (with_reducible assumption) | assumption)
                 have q368 : x5_1 < (x4_2.length : Int) := of_decide_eq_true (by first | (with_reducible assumption) | assumption)
                 obtain ⟨ad368, e368, hx368_0⟩ := Kd.at_int (Kd.R_reads' HO_4.out).2.2 x5_1 p368 q368
                 obtain rfl : (⟨go8, 0, none⟩ : Addr) = ad368 := (by injection e368)
                 (first | simp only [add_plain] at hx368_0 | simp only [add_at] at hx368_0 | simp only [Addr.add, Nat.zero_add] at hx368_0 | skip)
                 replace p368 := eq_true p368
                 replace q368 := eq_true q368
                 have p369 : 0 ≤ ((Go.bits .or .i64 x5_1 (ji23)) : Int) := of_decide_eq_true (by first | (with_reducible assumption) | assumption)
                 have q369 : (Go.bits .or .i64 x5_1 (ji23)) < (x4_2.length : Int) := of_decide_eq_true (by first | (with_reducible assumption) | assumption)
                 obtain ⟨ad369, e369, hx369_0⟩ := Kd.at_int (Kd.R_reads' HO_4.out).2.2 (Go.bits .or .i64 x5_1 (ji23)) p369 q369
                 obtain rfl : (⟨go8, 0, none⟩ : Addr) = ad369 := (by injection e369)
                 (first | simp only [add_plain] at hx369_0 | simp only [add_at] at hx369_0 | simp only [Addr.add, Nat.zero_add] at hx369_0 | skip)
                 replace p369 := eq_true p369
                 replace q369 := eq_true q369
                 have p26 : 0 ≤ (x5_1 : Int) := of_decide_eq_true (by first | (with_reducible assumption) | assumption)
                 have q26 : (x5_1 : Int) < ((x4_2.length : Int) : Int) := of_decide_eq_true (by first | (with_reducible assumption) | assumption)
                 obtain ⟨hx26_0, hf26_0⟩ := Kd.R_celln 0 HO_4.out (x5_1 : Int) p26 q26
                 replace p26 := eq_true p26
                 replace q26 := eq_true q26
                 have HP30 := Kd.R_putn HO_4.out (x5_1 : Int) (wrap64 ((rd x4_2 x5_1) + (rd x4_2 (Go.bits .or .i64 x5_1 (ji23)))))
                 rw [← Ny370.out] at HP30
                 have HQ30 := Aside0.mk HP30
                 clear HP30
                 refine start_ (n := 16) (S := fun w' => w'.cell? ⟨go8, (x5_1).toNat, none⟩ = some (.int .i64 (rd x4_2 x5_1)) ∧ w'.cell? ⟨go8, ((Go.bits .or .i64 x5_1 (ji23))).toNat, none⟩ = some (.int .i64 (rd x4_2 (Go.bits .or .i64 x5_1 (ji23))))) (ds := [15]) #[false, false, false, false, false, false, false, false, false, false, false, false, false, false, false, false] (by kernel_rfl) rfl rfl ⟨hx368_0, hx369_0⟩ (fun hHeld => ?_); refine with_tabW thermionref04_goods.tab11 thermionref04_goods.bits11 (fun HT_ HW_ => ?_)
                 generalize w28.drew = w29 at HO_4 BK362 HB HQ30 hf26_0 hx26_0 hx368_0 hx369_0 hHeld ⊢
                 refine pure_ (i := 0) (N := some 34) (v := ?_) (a' := ?_) #[true, false, false, false, false, false, false, false, false, false, false, false, false, false, false, false] rfl rfl (any_of HT_.out (by kernel_rfl)) (fun _ _ _ h => h) (Or.inl ⟨by rfl, ?_⟩) ?_ ?_
                 rotate_left
                 ·intro w'
                  go_simp
                  with_reducible rfl
                 rotate_left
                 ·simp only [Act.put, List.setIfInBounds_toArray, List.set_cons_zero, List.set_cons_succ, i64_w, i32_w]
                  rfl
                 refine pure_ (i := 1) (N := some 35) (v := ?_) (a' := ?_) #[true, true, false, false, false, false, false, false, false, false, false, false, false, false, false, false] rfl rfl (any_of HT_.out (by kernel_rfl)) (fun _ _ _ h => h) (Or.inl ⟨by rfl, ?_⟩) ?_ ?_
                 rotate_left
                 ·intro w'
                  go_simp
                  with_reducible rfl
                 rotate_left
                 ·simp only [Act.put, List.setIfInBounds_toArray, List.set_cons_zero, List.set_cons_succ, i64_w, i32_w]
                  rfl
                 refine pure_ (i := 2) (N := some 36) (v := ?_) (a' := ?_) #[true, true, true, false, false, false, false, false, false, false, false, false, false, false, false, false] rfl rfl (any_of HT_.out (by kernel_rfl)) (fun _ _ _ h => h) (Or.inl ⟨by rfl, ?_⟩) ?_ ?_
                 rotate_left
                 ·intro w'
                  go_simp
                  with_reducible rfl
                 rotate_left
                 ·simp only [Act.put, List.setIfInBounds_toArray, List.set_cons_zero, List.set_cons_succ, i64_w, i32_w]
                  rfl
                 refine pure_ (i := 3) (N := some 37) (v := ?_) (a' := ?_) #[true, true, true, true, false, false, false, false, false, false, false, false, false, false, false, false] rfl rfl (any_of HT_.out (by kernel_rfl)) (fun _ _ _ h => h) (Or.inl ⟨by rfl, ?_⟩) ?_ ?_
                 rotate_left
                 ·intro w'
                  go_simp
                  with_reducible rfl
                 rotate_left
                 ·simp only [Act.put, List.setIfInBounds_toArray, List.set_cons_zero, List.set_cons_succ, i64_w, i32_w]
                  rfl
                 refine pure_ (i := 4) (N := some 38) (v := ?_) (a' := ?_) #[true, true, true, true, true, false, false, false, false, false, false, false, false, false, false, false] rfl rfl (any_of HT_.out (by kernel_rfl)) (fun _ _ _ h => h) (Or.inl ⟨by rfl, ?_⟩) ?_ ?_
                 rotate_left
                 ·intro w'
                  go_simp
                  with_reducible rfl
                 rotate_left
                 ·simp only [Act.put, List.setIfInBounds_toArray, List.set_cons_zero, List.set_cons_succ, i64_w, i32_w]
                  rfl
                 refine pure_ (i := 6) (N := some 40) (v := ?_) (a' := ?_) #[true, true, true, true, true, false, true, false, false, false, false, false, false, false, false, false] rfl rfl (any_of HT_.out (by kernel_rfl)) (fun _ _ _ h => h) (Or.inl ⟨by rfl, ?_⟩) ?_ ?_
                 rotate_left
                 ·intro w'
                  go_simp
                  with_reducible rfl
                 rotate_left
                 ·simp only [Act.put, List.setIfInBounds_toArray, List.set_cons_zero, List.set_cons_succ, i64_w, i32_w]
                  rfl
                 refine pure_ (i := 7) (N := some 41) (v := ?_) (a' := ?_) #[true, true, true, true, true, false, true, true, false, false, false, false, false, false, false, false] rfl rfl (any_of HT_.out (by kernel_rfl)) (fun _ _ _ h => h) (Or.inl ⟨by rfl, ?_⟩) ?_ ?_
                 rotate_left
                 ·intro w'
                  go_simp
                  with_reducible rfl
                 rotate_left
                 ·simp only [Act.put, List.setIfInBounds_toArray, List.set_cons_zero, List.set_cons_succ, i64_w, i32_w]
                  rfl
                 refine pure_ (i := 8) (N := some 42) (v := ?_) (a' := ?_) #[true, true, true, true, true, false, true, true, true, false, false, false, false, false, false, false] rfl rfl (any_of HT_.out (by kernel_rfl)) (fun _ _ _ h => h) (Or.inl ⟨by rfl, ?_⟩) ?_ ?_
                 rotate_left
                 ·intro w'
                  go_simp
                  with_reducible rfl
                 rotate_left
                 ·simp only [Act.put, List.setIfInBounds_toArray, List.set_cons_zero, List.set_cons_succ, i64_w, i32_w]
                  rfl
                 refine pure_ (i := 9) (N := some 43) (v := ?_) (a' := ?_) #[true, true, true, true, true, false, true, true, true, true, false, false, false, false, false, false] rfl rfl (any_of HT_.out (by kernel_rfl)) (fun _ _ _ h => h) (Or.inl ⟨by rfl, ?_⟩) ?_ ?_
                 rotate_left
                 ·intro w'
                  go_simp
                  with_reducible rfl
                 rotate_left
                 ·simp only [Act.put, List.setIfInBounds_toArray, List.set_cons_zero, List.set_cons_succ, i64_w, i32_w]
                  rfl
                 refine pure_ (i := 10) (N := some 44) (v := ?_) (a' := ?_) #[true, true, true, true, true, false, true, true, true, true, true, false, false, false, false, false] rfl rfl (any_of HT_.out (by kernel_rfl)) (fun _ _ _ h => h) (Or.inl ⟨by rfl, ?_⟩) ?_ ?_
                 rotate_left
                 ·intro w'
                  go_simp
                  with_reducible rfl
                 rotate_left
                 ·simp only [Act.put, List.setIfInBounds_toArray, List.set_cons_zero, List.set_cons_succ, i64_w, i32_w]
                  rfl
                 refine pure_ (i := 11) (N := some 45) (v := ?_) (a' := ?_) #[true, true, true, true, true, false, true, true, true, true, true, true, false, false, false, false] rfl rfl (any_of HT_.out (by kernel_rfl)) (fun _ _ _ h => h) (Or.inl ⟨by rfl, ?_⟩) ?_ ?_
                 rotate_left
                 ·intro w'
                  go_simp
                  with_reducible rfl
                 rotate_left
                 ·simp only [Act.put, List.setIfInBounds_toArray, List.set_cons_zero, List.set_cons_succ, i64_w, i32_w]
                  rfl
                 refine take_ (i := 5) (N := some 39) (v := ?_) (a' := ?_) #[true, true, true, true, true, true, true, true, true, true, true, true, false, false, false, false] rfl rfl (take_ofW HT_.out HW_.out (by kernel_rfl)) (fun _ _ _ h => h) (Or.inl ⟨by rfl, ?_⟩) hHeld ?_ ?_
                 rotate_left
                 ·rintro w' ⟨s0, s1⟩
                  go_simp
                  with_reducible rfl
                 rotate_left
                 ·simp only [Act.put, List.setIfInBounds_toArray, List.set_cons_zero, List.set_cons_succ, i64_w, i32_w]
                  rfl
                 refine take_ (i := 12) (N := some 46) (v := ?_) (a' := ?_) #[true, true, true, true, true, true, true, true, true, true, true, true, true, false, false, false] rfl rfl (take_ofW HT_.out HW_.out (by kernel_rfl)) (fun _ _ _ h => h) (Or.inl ⟨by rfl, ?_⟩) hHeld ?_ ?_
                 rotate_left
                 ·rintro w' ⟨s0, s1⟩
                  go_simp
                  with_reducible rfl
                 rotate_left
                 ·simp only [Act.put, List.setIfInBounds_toArray, List.set_cons_zero, List.set_cons_succ, i64_w, i32_w]
                  rfl
                 refine pure_ (i := 13) (N := some 47) (v := ?_) (a' := ?_) #[true, true, true, true, true, true, true, true, true, true, true, true, true, true, false, false] rfl rfl (any_of HT_.out (by kernel_rfl)) (fun _ _ _ h => h) (Or.inl ⟨by rfl, ?_⟩) ?_ ?_
                 rotate_left
                 ·intro w'
                  go_simp
                  with_reducible rfl
                 rotate_left
                 ·simp only [Act.put, List.setIfInBounds_toArray, List.set_cons_zero, List.set_cons_succ, i64_w, i32_w]
                  rfl
                 refine pure_ (i := 14) (N := some 48) (v := ?_) (a' := ?_) #[true, true, true, true, true, true, true, true, true, true, true, true, true, true, true, false] rfl rfl (any_of HT_.out (by kernel_rfl)) (fun _ _ _ h => h) (Or.inl ⟨by rfl, ?_⟩) ?_ ?_
                 rotate_left
                 ·intro w'
                  go_simp
                  with_reducible rfl
                 rotate_left
                 ·simp only [Act.put, List.setIfInBounds_toArray, List.set_cons_zero, List.set_cons_succ, i64_w, i32_w]
                  rfl
                 refine last_ (i := 15) (N := none) #[true, true, true, true, true, true, true, true, true, true, true, true, true, true, true, true] rfl rfl (one_of HT_.out (by kernel_rfl)) (by decide) (fun K hK => ?_)
                 refine skip_ (w1 := ?_) (by rfl) rfl ?_ ?_
                 rotate_left
                 ·go_simp
                  rfl
                 refine hK.out _ _ ?_
                 clear hK K
                 refine done_ (done_of HT_.out (by kernel_rfl)) ?_
                 try go_wp2
                 (try simp only [← hl4_2])
                 go_roundg k2
                 case measure => have := HK1.out; have := HK2.out; omega
                 case rel => exact ⟨(y370), (wrap64 (x6_2 + 1)), (by first | rfl | (simp; done) | (simp [*]; done)), H', ⟨by have := HK1.out; have := HK2.out; omega⟩, ⟨by (try simp only [hl4_1]); (try simp only [hl4_2]); (with_reducible repeat (first | apply Kd.R_alloc | apply Kd.R_drewN | apply Kd.R_drew)); exact HQ30.out⟩, ⟨by (try simp only [hl4_1]); (try simp only [hl4_2]); (with_reducible repeat (first | refine blk_drewN ?_ _ | refine blk_drew ?_ | refine blk_alloc ?_ _)); refine blk_far ?_ (by have h_ := Kd.R_ne HO_4.out BK362.out (by decide); intro e_; exact h_ (by rw [e_]; rfl)) _; (with_reducible repeat (first | refine blk_drewN ?_ _ | refine blk_drew ?_ | refine blk_alloc ?_ _)); exact BK362.out⟩, ⟨by repeat (first | (with_reducible first | exact HB.out | apply below_alloc | apply pw_below_drewN | apply below_drew1 | refine below_set ?_ GB8.out | refine below_set ?_ GE362.out) | exact HB.out)⟩⟩
                ·rw [if_neg c25] at H
                 exact absurd H (by simp)
               ·rw [if_neg c24] at H
                exact absurd H (by simp)
              ·rw [if_neg c22] at H
               exact absurd H (by simp)
             ·rw [if_neg c21] at H
              exact absurd H (by simp)
            ·rw [if_neg c20] at H
             exact absurd H (by simp)
           ·replace c19 := Bool.eq_false_iff.mpr c19
            subst c19
            have H1 : (thermionref04_goods.l1 k2 (l0_0.length : Int) x4_2 x5_1 (wrap64 (x6_2 + 1)) l0_0 a0_1) = some r := by rw [if_neg (show ¬ (false = true) by decide)] at H; exact H
            clear H
            have H := H1
            clear H1
            have H' := Aside0.mk H
            clear H
            have hcz31_0 : wr.cell? ⟨gb362, 0, none⟩ = some (.slice A0_0 l0_0.length c0_0) := (blk_cell BK362.out 0).trans rfl
            have hcz31_1 : wr.cell? ⟨gb362, 1, none⟩ = some (.int .i64 a0_1) := (blk_cell BK362.out 1).trans rfl
            have hfz31_0 := blk_frozen BK362.out 0
            have hfz31_1 := blk_frozen BK362.out 1
            go_wp2_with (first | ((with_reducible refine gate_callee (f := 98) rfl ?_); refine goesL_ (some 33) rfl rfl Try.func98 (by kernel_rfl) rfl #[.agg #[.slice A0_0 l0_0.length c0_0, .int .i64 a0_1], .int .i64 x5_1, .int .i64 x6_2] rfl (by (try simp only [List.map_toArray, List.map_cons, List.map_nil]); first | done | rfl | (simp only [List.length_drop, List.length_take]; rfl)) ?_; (with_reducible refine (thermionref04_may.calls k2 _ _ l0_0 a0_1 x5_1 x6_2 false _ ?side1 ?side2 A18.out).mono ?_); (case side1 => repeat (first | exact (Kd.C_below HR0_0.out HB.out) | (with_reducible refine Kd.C_alloc ?_ _) | (with_reducible refine Kd.C_drewN ?_ _) | (with_reducible refine Kd.C_drew ?_))); (case side2 => exact HC0_0.out); rintro e w32 ⟨rfl, hb⟩; refine ⟨_, rfl, ?_⟩; have n0_ := Aside0.mk (Kd.R_below (by (with_reducible repeat (first | apply Kd.R_alloc | apply Kd.R_drewN | apply Kd.R_drew)); exact HO_4.out) hb); have n1_ := Aside0.mk (blk_below (g := gb362) (o := .cells #[.slice A0_0 l0_0.length c0_0, .int .i64 a0_1] 49 (0, 0)) (by (with_reducible repeat (first | refine blk_drewN ?_ _ | refine blk_drew ?_ | refine blk_alloc ?_ _)); exact BK362.out) hb); have n2_ := Aside0.mk (below_step (by repeat (first | (with_reducible first | exact HB.out | apply below_alloc | apply pw_below_drewN | apply below_drew1 | refine below_set ?_ GE362.out) | exact HB.out)) hb); clear HO_4; clear BK362; clear HB; have HO_4 := n0_; have BK362 := n1_; have HB := n2_; clear n0_ n1_ n2_; (try clear hb); (try clear hb2); (try clear hk); (try clear hi)))
            (try simp only [← hl4_2])
            go_roundg k2
            case measure => have := HK1.out; have := HK2.out; omega
            case rel => exact ⟨(x4_2), (wrap64 (x6_2 + 1)), (by first | rfl | (simp; done) | (simp [*]; done)), H', ⟨by have := HK1.out; have := HK2.out; omega⟩, ⟨by (try simp only [hl4_1]); (try simp only [hl4_2]); (with_reducible repeat (first | apply Kd.R_alloc | apply Kd.R_drewN | apply Kd.R_drew)); exact HO_4.out⟩, ⟨by (try simp only [hl4_1]); (try simp only [hl4_2]); (with_reducible repeat (first | refine blk_drewN ?_ _ | refine blk_drew ?_ | refine blk_alloc ?_ _)); exact BK362.out⟩, ⟨by repeat (first | (with_reducible first | exact HB.out | apply below_alloc | apply pw_below_drewN | apply below_drew1 | refine below_set ?_ GE362.out) | exact HB.out)⟩⟩
          ·rw [if_neg c17] at H
           have c17b0 : decide (x6_2 < (l0_0.length : Int)) = false := decide_eq_false c17
           clear c17
           have H' := Aside0.mk H
           clear H
           go_wp2
           (try simp only [← hl4_1, ← hl4_2])
           go_roundg k2
           case measure => have := HK1.out; have := HK2.out; omega
           case rel => exact ⟨(x4_2), (wrap64 (x5_1 - 1)), (by first | rfl | (simp; done) | (simp [*]; done)), H', ⟨by have := HK1.out; have := HK2.out; omega⟩, ⟨by (try simp only [hl4_1]); (try simp only [hl4_2]); (with_reducible repeat (first | apply Kd.R_alloc | apply Kd.R_drewN | apply Kd.R_drew)); exact HO_4.out⟩, ⟨by (try simp only [hl4_1]); (try simp only [hl4_2]); (with_reducible repeat (first | refine blk_drewN ?_ _ | refine blk_drew ?_ | refine blk_alloc ?_ _)); exact BK362.out⟩, ⟨by repeat (first | (with_reducible first | exact HB.out | apply below_alloc | apply pw_below_drewN | apply below_drew1 | refine below_set ?_ GE362.out) | exact HB.out)⟩⟩
       ·rw [if_neg c16] at H
        have c16b0 : decide (0 ≤ x5_1) = false := decide_eq_false c16
        clear c16
        obtain rfl := Option.some.inj H
        go_wp2
        go_ret
        exact ⟨_, by first | rfl | (simp [errW_none, errW_some] <;> rfl) | (simp only [← hji2, ← hji5]; first | rfl | (simp [errW_none, errW_some] <;> rfl)) | (simp [*, errW_none, errW_some] <;> rfl), by (with_reducible repeat (first | apply Kd.R_alloc | apply Kd.R_drewN | apply Kd.R_drew)); exact HO_4.out, by repeat (first | (with_reducible first | exact HB.out | apply below_alloc | apply pw_below_drewN | apply below_drew1 | refine below_set ?_ GE362.out) | exact HB.out)⟩
    ·rw [if_neg c7] at H
     exact absurd H (by simp)
   ·rw [if_neg c6] at H
    exact absurd H (by simp)
  ·rw [if_neg c4] at H
   exact absurd H (by simp)
 ·rw [if_neg c3] at H
  exact absurd H (by simp)

end Go.Proofs.Ytbcfphoheijmdaa.Print
end

section
/- What the Go function thermionref04_Guard does, as a Lean function, and that its call does so. Printed by a program of this work out of the translation. -/
namespace Go.Proofs.Ytbcfphoheijmdaa.Print
open Go.RowKit Go.Proofs.YtbcfphoheijmdaaW.PrintWords Go.Proofs.YtbcfphoheijmdaaW.PrintLast Go.Proofs.YtbcfphoheijmdaaW.PrintMore
attribute [local go_sem] max2_int min2_int max_two min_two max_three min_three max_four min_four
set_option linter.unusedVariables false
set_option linter.unusedSimpArgs false

/-! ### thermionref04_Guard: function 39 -/
def thermionref04_Guard.l0 : Nat → Int → List Int → List Int → Int → List (S57) → Int → Option (List Int × Int)
 | 0, _, _, _, _, _, _ => none
 | k + 1, x6, x8, x9, x10, x372000, x372001 => if x10 < (x372000.length : Int) then ((thermionref04_may.f k x372000 x372001 x6 x10).bind fun t377 => (if t377 = true then (if 0 ≤ x10 then (if 0 ≤ (Go.bits .or .i64 x6 (shl .i64 1 x10)) then (if (Go.bits .or .i64 x6 (shl .i64 1 x10)) < (x8.length : Int) then (if (rd x8 (Go.bits .or .i64 x6 (shl .i64 1 x10))) > 0 then (if x9.length < 17592186044416 then (thermionref04_Guard.l0 k x6 x8 (x9 ++ [x10]) (wrap64 (x10 + 1)) x372000 x372001) else (none)) else (thermionref04_Guard.l0 k x6 x8 x9 (wrap64 (x10 + 1)) x372000 x372001)) else (none)) else (none)) else (none)) else (thermionref04_Guard.l0 k x6 x8 x9 (wrap64 (x10 + 1)) x372000 x372001))) else (some (x9, 0))
def thermionref04_Guard.f (k : Nat) (l0_0 : List (S57)) (a0_1 : Int) (l1 : List Int) : Option (List Int × Int) := (thermionref04_checkState.f k l0_0 a0_1 l1).bind fun bt372 => (if bt372.2 = 0 then ((thermionref04_goods.f k l0_0 a0_1).bind fun t374 => (thermionref04_Guard.l0 k bt372.1 t374 ([] : List Int) 0 l0_0 a0_1)) else (some (([] : List Int), bt372.2)))
theorem thermionref04_Guard.mono_l : ∀ k, (∀ y0 y1 y2 y3 y4 y5, LeO (thermionref04_Guard.l0 k y0 y1 y2 y3 y4 y5) (thermionref04_Guard.l0 (k + 1) y0 y1 y2 y3 y4 y5))
 | 0 => fun _ _ _ _ _ _ r h => by simp [thermionref04_Guard.l0] at h
 | k + 1 => by
  have ih0 := thermionref04_Guard.mono_l k
  ·intro y0 y1 y2 y3 y4 y5
   unfold thermionref04_Guard.l0
   repeat' first
   | (with_reducible exact ih0 _ _ _ _ _ _)
   | (with_reducible exact thermionref04_checkState.mono _ _ _ _)
   | (with_reducible exact thermionref04_goods.mono _ _ _)
   | (with_reducible exact thermionref04_may.mono _ _ _ _ _)
   | (with_reducible exact LeO.refl _)
   | (with_reducible exact LeO.none _)
   | (with_reducible refine LeO.ite ?_ ?_)
   | (with_reducible refine LeO.bind ?_ (fun _ => ?_))
   | exact ih0 _ _ _ _ _ _
   | exact thermionref04_checkState.mono _ _ _ _
   | exact thermionref04_goods.mono _ _ _
   | exact thermionref04_may.mono _ _ _ _ _
   | exact LeO.none _
   | refine LeO.ite ?_ ?_
   | refine LeO.bind ?_ (fun _ => ?_)
theorem thermionref04_Guard.mono : ∀ a0 a1 a2 k, LeO (thermionref04_Guard.f k a0 a1 a2) (thermionref04_Guard.f (k + 1) a0 a1 a2) := by
 intro a0 a1 a2 k
 have ih0 := thermionref04_Guard.mono_l k
 unfold thermionref04_Guard.f
 repeat' first
   | (with_reducible exact ih0 _ _ _ _ _ _)
   | (with_reducible exact thermionref04_checkState.mono _ _ _ _)
   | (with_reducible exact thermionref04_goods.mono _ _ _)
   | (with_reducible exact thermionref04_may.mono _ _ _ _ _)
   | (with_reducible exact LeO.refl _)
   | (with_reducible exact LeO.none _)
   | (with_reducible refine LeO.ite ?_ ?_)
   | (with_reducible refine LeO.bind ?_ (fun _ => ?_))
   | exact ih0 _ _ _ _ _ _
   | exact thermionref04_checkState.mono _ _ _ _
   | exact thermionref04_goods.mono _ _ _
   | exact thermionref04_may.mono _ _ _ _ _
   | exact LeO.none _
   | refine LeO.ite ?_ ?_
   | refine LeO.bind ?_ (fun _ => ?_)
set_option maxHeartbeats 8000000 in
set_option maxRecDepth 100000 in
theorem thermionref04_Guard.calls (k : Nat) (A0_0 : Option Addr) (c0_0 : Nat) (l0_0 : List (S57)) (a0_1 : Int) (A1 : Option Addr) (c1 : Nat) (l1 : List Int) (r1 : List Int) (r2 : Int) (w : World) (hr0_0 : Kd.C k57 w A0_0 l0_0.length l0_0) (hc0_0 : l0_0.length ≤ c0_0) (hr1 : Kd.C (Kd.int .i64) w A1 l1.length l1) (hc1 : l1.length ≤ c1) (h : thermionref04_Guard.f k l0_0 a0_1 l1 = some (r1, r2)) :
  Calls Try.prog 39 #[.agg #[.slice A0_0 l0_0.length c0_0, .int .i64 a0_1], .slice A1 l1.length c1] w fun e w' => ∃ v0_ : Value, e = .returned (.tuple #[v0_, .int .i64 r2]) ∧ Kd.R (Kd.int .i64) 3 w' w.heap.size (fun _ => True) v0_ r1 ∧ Below w.heap.size w w' := by
 have hu49 := Try.underlying49
 have HR0_0 := Aside0.mk hr0_0
 have HC0_0 := Aside0.mk hc0_0
 clear hr0_0 hc0_0
 have HR1 := Aside0.mk hr1
 have HC1 := Aside0.mk hc1
 clear hr1 hc1
 have HB := Aside0.mk (Below.refl w.heap.size w)
 have H : ((thermionref04_checkState.f k l0_0 a0_1 l1).bind fun bt372 => (if bt372.2 = 0 then ((thermionref04_goods.f k l0_0 a0_1).bind fun t374 => (thermionref04_Guard.l0 k bt372.1 t374 ([] : List Int) 0 l0_0 a0_1)) else (some (([] : List Int), bt372.2)))) = some (r1, r2) := h
 clear h
 replace H := Option.bind_eq_some_iff.mp H
 obtain ⟨⟨t372, t373⟩, A30, H⟩ := H
 replace H : (if t373 = 0 then ((thermionref04_goods.f k l0_0 a0_1).bind fun t374 => (thermionref04_Guard.l0 k t372 t374 ([] : List Int) 0 l0_0 a0_1)) else (some (([] : List Int), t373))) = some (r1, r2) := H
 have A3 := Aside0.mk A30
 clear A30
 by_cases c4 : t373 = 0
 ·rw [if_pos c4] at H
  have c4b0 : (t373 == 0) = true := beq_iff_eq.mpr c4
  have c4b1 : (t373 != 0) = false := bne_eq_false_iff_eq.mpr c4
  clear c4
  replace H := Option.bind_eq_some_iff.mp H
  obtain ⟨t374, A50, H⟩ := H
  replace H : (thermionref04_Guard.l0 k t372 t374 ([] : List Int) 0 l0_0 a0_1) = some (r1, r2) := H
  have A5 := Aside0.mk A50
  clear A50
  have H' := Aside0.mk H
  clear H
  go_enter Try.func39, Try.ntmps39
  go_wp2_with (first | ((with_reducible refine gate_dst (N := 2) rfl ?_); refine box_event ?hg (N := 2) ?hd (cs := #[.slice A0_0 l0_0.length c0_0, .int .i64 a0_1]) (t := 49) ?hr ?_; (case hd => rfl); (case hg => rfl); (case hr => first | (go_simp; done) | (go_simp; rfl)); intro gb371 hg w6 hbox hb; have n0_ := Aside0.mk (below_step (by repeat (first | (with_reducible first | exact HB.out | apply below_alloc | apply pw_below_drewN | apply below_drew1) | exact HB.out)) hb); have n1_ := Aside0.mk (hbox); have n2_ := Aside0.mk ((by rw [hg]; exact (below_size (by repeat (first | (with_reducible first | exact HB.out | apply below_alloc | apply pw_below_drewN | apply below_drew1) | exact HB.out))) : w.heap.size ≤ gb371)); have n3_ := Aside0.mk ((by rw [hg]; exact (below_size (by repeat (first | (with_reducible first | exact HB.out | apply below_alloc | apply pw_below_drewN | apply below_drew1) | exact HB.out))) : w.heap.size ≤ gb371)); clear HB; have HB := n0_; have BK371 := n1_; have GW371 := n2_; have GE371 := n3_; clear n0_ n1_ n2_ n3_; clear hb hbox hg; have hcz7_0 : w6.cell? ⟨gb371, 0, none⟩ = some (.slice A0_0 l0_0.length c0_0) := (blk_cell BK371.out 0).trans rfl; have hcz7_1 : w6.cell? ⟨gb371, 1, none⟩ = some (.int .i64 a0_1) := (blk_cell BK371.out 1).trans rfl; have hfz7_0 := blk_frozen BK371.out 0; have hfz7_1 := blk_frozen BK371.out 1) | ((with_reducible refine gate_callee (f := 97) rfl ?_); refine goesL_ (some 14) rfl rfl Try.func97 (by kernel_rfl) rfl #[.agg #[.slice A0_0 l0_0.length c0_0, .int .i64 a0_1], .slice A1 l1.length c1] rfl (by (try simp only [List.map_toArray, List.map_cons, List.map_nil]); first | done | rfl | (simp only [List.length_drop, List.length_take]; rfl)) ?_; (with_reducible refine (thermionref04_checkState.calls k _ _ l0_0 a0_1 _ _ l1 t372 t373 _ ?side1 ?side2 ?side3 ?side4 A3.out).mono ?_); (case side1 => repeat (first | exact (Kd.C_below HR0_0.out HB.out) | (with_reducible refine Kd.C_alloc ?_ _) | (with_reducible refine Kd.C_drewN ?_ _) | (with_reducible refine Kd.C_drew ?_))); (case side2 => exact HC0_0.out); (case side3 => repeat (first | exact (Kd.C_below HR1.out HB.out) | (with_reducible refine Kd.C_alloc ?_ _) | (with_reducible refine Kd.C_drewN ?_ _) | (with_reducible refine Kd.C_drew ?_))); (case side4 => exact HC1.out); rintro e w8 ⟨rfl, hb⟩; refine ⟨_, rfl, ?_⟩; have n0_ := Aside0.mk (blk_below (g := gb371) (o := .cells #[.slice A0_0 l0_0.length c0_0, .int .i64 a0_1] 49 (0, 0)) (by (with_reducible repeat (first | refine blk_drewN ?_ _ | refine blk_drew ?_ | refine blk_alloc ?_ _)); exact BK371.out) hb); have n1_ := Aside0.mk (below_step (by repeat (first | (with_reducible first | exact HB.out | apply below_alloc | apply pw_below_drewN | apply below_drew1 | refine below_set ?_ GE371.out) | exact HB.out)) hb); clear BK371; clear HB; have BK371 := n0_; have HB := n1_; clear n0_ n1_; (try clear hb); (try clear hb2); (try clear hk); (try clear hi); have hcz9_0 : w8.cell? ⟨gb371, 0, none⟩ = some (.slice A0_0 l0_0.length c0_0) := (blk_cell BK371.out 0).trans rfl; have hcz9_1 : w8.cell? ⟨gb371, 1, none⟩ = some (.int .i64 a0_1) := (blk_cell BK371.out 1).trans rfl; have hfz9_0 := blk_frozen BK371.out 0; have hfz9_1 := blk_frozen BK371.out 1) | ((with_reducible refine gate_callee (f := 101) rfl ?_); refine goesL_ (some 21) rfl rfl Try.func101 (by kernel_rfl) rfl #[.agg #[.slice A0_0 l0_0.length c0_0, .int .i64 a0_1]] rfl (by (try simp only [List.map_toArray, List.map_cons, List.map_nil]); first | done | rfl | (simp only [List.length_drop, List.length_take]; rfl)) ?_; (with_reducible refine (thermionref04_goods.calls k _ _ l0_0 a0_1 t374 _ ?side1 ?side2 A5.out).mono ?_); (case side1 => repeat (first | exact (Kd.C_below HR0_0.out HB.out) | (with_reducible refine Kd.C_alloc ?_ _) | (with_reducible refine Kd.C_drewN ?_ _) | (with_reducible refine Kd.C_drew ?_))); (case side2 => exact HC0_0.out); rintro e w10 ⟨v375, rfl, ho0, hb⟩; refine ⟨_, rfl, ?_⟩; have n0_ := Aside0.mk (Kd.R_lower ho0 (below_size (by repeat (first | (with_reducible first | exact HB.out | apply below_alloc | apply pw_below_drewN | apply below_drew1 | refine below_set ?_ GE371.out) | exact HB.out)))); have n1_ := Aside0.mk (blk_below (g := gb371) (o := .cells #[.slice A0_0 l0_0.length c0_0, .int .i64 a0_1] 49 (0, 0)) (by (with_reducible repeat (first | refine blk_drewN ?_ _ | refine blk_drew ?_ | refine blk_alloc ?_ _)); exact BK371.out) hb); have n2_ := Aside0.mk (below_step (by repeat (first | (with_reducible first | exact HB.out | apply below_alloc | apply pw_below_drewN | apply below_drew1 | refine below_set ?_ GE371.out) | exact HB.out)) hb); clear BK371; clear HB; have HO376 := n0_; have BK371 := n1_; have HB := n2_; clear n0_ n1_ n2_; (try clear hb); (try clear hb2); (try clear hk); (try clear hi); (try clear ho0)))
  go_loopg [9, 10] k (fun kq v9 v10 w' => ∃ (x9_1 : List Int) (x10_1 : Int), v10 = .int .i64 x10_1 ∧ Aside0 (thermionref04_Guard.l0 kq t372 t374 x9_1 x10_1 l0_0 a0_1 = some (r1, r2)) ∧ Aside0 (kq ≤ k) ∧ Aside0 (Kd.R (Kd.int .i64) 3 w' w.heap.size (fun k_ => some k_ ≠ (v9 : Value).ownBlock) v375 t374) ∧ Aside0 (Kd.R (Kd.int .i64) 3 w' w.heap.size (fun k_ => some k_ ≠ (v375 : Value).ownBlock) v9 x9_1) ∧ Aside0 (w'.heap[gb371]? = some (.cells #[(.slice A0_0 l0_0.length c0_0), .int .i64 a0_1] 49 (0, 0))) ∧ Aside0 (Below w.heap.size w w'))
  case atStart => exact ⟨(([] : List Int)), (0), (by first | rfl | (simp; done) | (simp [*]; done)), H', ⟨Nat.le_refl _⟩, ⟨by (with_reducible repeat (first | apply Kd.R_alloc | apply Kd.R_drewN | apply Kd.R_drew)); exact Kd.R_mono HO376.out (fun _ hk => (by simp [Value.ownBlock]))⟩, ⟨by first | exact Kd.R_nil _ _ _ _ _ | exact Kd.N_nil _ _ _ _ _ | exact Kd.V_nil _ _ _ _ _ | exact Kd.Q_nil _ _ _ _ _ | exact Kd.S_nil _ _ _ _ _⟩, ⟨by (with_reducible repeat (first | refine blk_drewN ?_ _ | refine blk_drew ?_ | refine blk_alloc ?_ _)); exact BK371.out⟩, ⟨by repeat (first | (with_reducible first | exact HB.out | apply below_alloc | apply pw_below_drewN | apply below_drew1 | refine below_set ?_ GE371.out) | exact HB.out)⟩⟩
  case round =>
   clear H'
   try clear c1
   try clear p2
   try clear c3
   try clear c4
   try clear c4b0
   try clear c4b1
   try clear c9
   try clear c10
   try clear hcz7_0
   try clear hcz7_1
   try clear hcz9_0
   try clear hcz9_1
   try clear hfz7_0
   try clear hfz7_1
   try clear hfz9_0
   try clear hfz9_1
   obtain ⟨x9_1, x10_1, rfl, HA, HK1, HO_8, HO_9, BK371, HB⟩ := hrel
   cases gk with
   | zero => exact absurd HA.out (by simp [thermionref04_Guard.l0])
   | succ k1 =>
    have H := HA.out
    clear HA
    simp only [thermionref04_Guard.l0] at H
    by_cases c11 : x10_1 < (l0_0.length : Int)
    ·rw [if_pos c11] at H
     have c11b0 : decide (x10_1 < (l0_0.length : Int)) = true := decide_eq_true c11
     clear c11
     replace H := Option.bind_eq_some_iff.mp H
     obtain ⟨t377, A120, H⟩ := H
     replace H : (if t377 = true then (if 0 ≤ x10_1 then (if 0 ≤ (Go.bits .or .i64 t372 (shl .i64 1 x10_1)) then (if (Go.bits .or .i64 t372 (shl .i64 1 x10_1)) < (t374.length : Int) then (if (rd t374 (Go.bits .or .i64 t372 (shl .i64 1 x10_1))) > 0 then (if x9_1.length < 17592186044416 then (thermionref04_Guard.l0 k1 t372 t374 (x9_1 ++ [x10_1]) (wrap64 (x10_1 + 1)) l0_0 a0_1) else (none)) else (thermionref04_Guard.l0 k1 t372 t374 x9_1 (wrap64 (x10_1 + 1)) l0_0 a0_1)) else (none)) else (none)) else (none)) else (thermionref04_Guard.l0 k1 t372 t374 x9_1 (wrap64 (x10_1 + 1)) l0_0 a0_1)) = some (r1, r2) := H
     have A12 := Aside0.mk A120
     clear A120
     by_cases c13 : t377 = true
     ·subst c13
      have H1 : (if 0 ≤ x10_1 then (if 0 ≤ (Go.bits .or .i64 t372 (shl .i64 1 x10_1)) then (if (Go.bits .or .i64 t372 (shl .i64 1 x10_1)) < (t374.length : Int) then (if (rd t374 (Go.bits .or .i64 t372 (shl .i64 1 x10_1))) > 0 then (if x9_1.length < 17592186044416 then (thermionref04_Guard.l0 k1 t372 t374 (x9_1 ++ [x10_1]) (wrap64 (x10_1 + 1)) l0_0 a0_1) else (none)) else (thermionref04_Guard.l0 k1 t372 t374 x9_1 (wrap64 (x10_1 + 1)) l0_0 a0_1)) else (none)) else (none)) else (none)) = some (r1, r2) := by rw [if_pos rfl] at H; exact H
      clear H
      have H := H1
      clear H1
      by_cases c14 : 0 ≤ x10_1
      ·rw [if_pos c14] at H
       have c14b0 := eq_true c14
       have c14b1 : decide (0 ≤ x10_1) = true := decide_eq_true c14
       clear c14
       obtain ⟨ji15, hji15⟩ : ∃ j_ : Int, (shl .i64 1 x10_1) = j_ := ⟨_, rfl⟩
       replace H : (if 0 ≤ (Go.bits .or .i64 t372 (ji15)) then (if (Go.bits .or .i64 t372 (ji15)) < (t374.length : Int) then (if (rd t374 (Go.bits .or .i64 t372 (ji15))) > 0 then (if x9_1.length < 17592186044416 then (thermionref04_Guard.l0 k1 t372 t374 (x9_1 ++ [x10_1]) (wrap64 (x10_1 + 1)) l0_0 a0_1) else (none)) else (thermionref04_Guard.l0 k1 t372 t374 x9_1 (wrap64 (x10_1 + 1)) l0_0 a0_1)) else (none)) else (none)) = some (r1, r2) := by first | (rw [hji15] at H; exact H) | (simp only [hji15] at H ⊢; exact H)
       (try rw [hji15] at A12)
       have hji15_ : (IntKind.i64.wrap (1 * 2 ^ min x10_1.toNat 64)) = ji15 := hji15
       have hji15z : x10_1 ≤ 64 → (IntKind.i64.wrap (1 * 2 ^ x10_1.toNat)) = ji15 := shl_small hji15
       have hji15u : (IntKind.i64.wrap (2 ^ min x10_1.toNat 64)) = ji15 := by have h_ := hji15_; rw [Int.one_mul] at h_; exact h_
       have hji15v : x10_1 ≤ 64 → (IntKind.i64.wrap (2 ^ x10_1.toNat)) = ji15 := fun hle_ => by have h_ := hji15z hle_; rw [Int.one_mul] at h_; exact h_
       have hji15y : (wrap64 (1 * 2 ^ min x10_1.toNat 64)) = ji15 := (i64_w _).symm.trans hji15_
       have hji15x : x10_1 ≤ 64 → (wrap64 (1 * 2 ^ x10_1.toNat)) = ji15 := fun h_ => (i64_w _).symm.trans (hji15z h_)
       by_cases c16 : 0 ≤ (Go.bits .or .i64 t372 (ji15))
       ·rw [if_pos c16] at H
        have c16b0 : decide (0 ≤ (Go.bits .or .i64 t372 (ji15))) = true := decide_eq_true c16
        clear c16
        by_cases c17 : (Go.bits .or .i64 t372 (ji15)) < (t374.length : Int)
        ·rw [if_pos c17] at H
         have c17b0 : decide ((Go.bits .or .i64 t372 (ji15)) < (t374.length : Int)) = true := decide_eq_true c17
         clear c17
         by_cases c18 : (rd t374 (Go.bits .or .i64 t372 (ji15))) > 0
         ·rw [if_pos c18] at H
          have c18b0 : decide (0 < (rd t374 (Go.bits .or .i64 t372 (ji15)))) = true := decide_eq_true c18
          clear c18
          by_cases c19 : x9_1.length < 17592186044416
          ·rw [if_pos c19] at H
           have LMc19 := Aside0.mk c19
           clear c19
           obtain ⟨y379, hy379⟩ : ∃ y_ : List Int, y_ = (x9_1 ++ [x10_1]) := ⟨_, rfl⟩
           replace H : (thermionref04_Guard.l0 k1 t372 t374 y379 (wrap64 (x10_1 + 1)) l0_0 a0_1) = some (r1, r2) := by first | (rw [hy379]; with_reducible exact H) | (have H2_ := (Option.bind_some _ _).symm.trans H; rw [hy379]; with_reducible exact H2_) | (have H2_ := (Option.bind_some _ _).symm.trans H; with_reducible exact H2_) | with_reducible exact H | (rw [hy379]; exact H) | exact H
           have Ny379 := Aside0.mk hy379
           clear hy379
           have H' := Aside0.mk H
           clear H
           have hcz20_0 : wr.cell? ⟨gb371, 0, none⟩ = some (.slice A0_0 l0_0.length c0_0) := (blk_cell BK371.out 0).trans rfl
           have hcz20_1 : wr.cell? ⟨gb371, 1, none⟩ = some (.int .i64 a0_1) := (blk_cell BK371.out 1).trans rfl
           have hfz20_0 := blk_frozen BK371.out 0
           have hfz20_1 := blk_frozen BK371.out 1
           go_wp2_with (first | ((with_reducible refine gate_callee (f := 98) rfl ?_); refine goesL_ (some 32) rfl rfl Try.func98 (by kernel_rfl) rfl #[.agg #[.slice A0_0 l0_0.length c0_0, .int .i64 a0_1], .int .i64 t372, .int .i64 x10_1] rfl (by (try simp only [List.map_toArray, List.map_cons, List.map_nil]); first | done | rfl | (simp only [List.length_drop, List.length_take]; rfl)) ?_; (with_reducible refine (thermionref04_may.calls k1 _ _ l0_0 a0_1 t372 x10_1 true _ ?side1 ?side2 A12.out).mono ?_); (case side1 => repeat (first | exact (Kd.C_below HR0_0.out HB.out) | (with_reducible refine Kd.C_alloc ?_ _) | (with_reducible refine Kd.C_drewN ?_ _) | (with_reducible refine Kd.C_drew ?_))); (case side2 => exact HC0_0.out); rintro e w21 ⟨rfl, hb⟩; refine ⟨_, rfl, ?_⟩; have n0_ := Aside0.mk (Kd.R_below (by (with_reducible repeat (first | apply Kd.R_alloc | apply Kd.R_drewN | apply Kd.R_drew)); exact HO_8.out) hb); have n1_ := Aside0.mk (Kd.R_below (by (with_reducible repeat (first | apply Kd.R_alloc | apply Kd.R_drewN | apply Kd.R_drew)); exact HO_9.out) hb); have n2_ := Aside0.mk (blk_below (g := gb371) (o := .cells #[.slice A0_0 l0_0.length c0_0, .int .i64 a0_1] 49 (0, 0)) (by (with_reducible repeat (first | refine blk_drewN ?_ _ | refine blk_drew ?_ | refine blk_alloc ?_ _)); exact BK371.out) hb); have n3_ := Aside0.mk (below_step (by repeat (first | (with_reducible first | exact HB.out | apply below_alloc | apply pw_below_drewN | apply below_drew1 | refine below_set ?_ GE371.out) | exact HB.out)) hb); clear HO_8; clear HO_9; clear BK371; clear HB; have HO_8 := n0_; have HO_9 := n1_; have BK371 := n2_; have HB := n3_; clear n0_ n1_ n2_ n3_; (try clear hb); (try clear hb2); (try clear hk); (try clear hi); obtain ⟨Ao22, co22, eo22⟩ := Kd.R_slice HO_8.out; subst eo22; have p378 : 0 ≤ ((Go.bits .or .i64 t372 (ji15)) : Int) := of_decide_eq_true (by first | (with_reducible assumption) | assumption); have q378 : (Go.bits .or .i64 t372 (ji15)) < (t374.length : Int) := of_decide_eq_true (by first | (with_reducible assumption) | assumption); obtain ⟨ad378, e378, hx378_0⟩ := Kd.at_int (Kd.R_reads' HO_8.out).2.2 (Go.bits .or .i64 t372 (ji15)) p378 q378; cases e378; replace p378 := eq_true p378; replace q378 := eq_true q378) | ((with_reducible refine gate_builtin (b := .append) (xs := #[.tmp 43, .tmp 45]) rfl ?_); at_builtin; refine Kd.R_append (Kd.int .i64) (w0 := w) w.heap.size rfl (.tmp 43) (.tmp 45) 22 3 (.int .i64 0) 8 rfl Try.underlying22 info3 rfl (by decide) (by omega) u9 x9_1 x10_1 [.int .i64 x10_1] (fun k_ => some k_ ≠ (.slice (some ad378) t374.length co22 : Value).ownBlock) (fun _ => False) rfl rfl ?aP (fun _ hk => hk.elim) ?aF ?aO ?aB ?aS ?aL ?_; (case aP => exact rfl); (case aB => exact (by repeat (first | (with_reducible first | exact HB.out | apply below_alloc | apply pw_below_drewN | apply below_drew1 | refine below_set ?_ GE371.out) | exact HB.out))); (case aF => exact (fun k_ hk => Kd.fresh' (Kd.R_lt (by (with_reducible repeat (first | apply Kd.R_alloc | apply Kd.R_drewN | apply Kd.R_drew)); exact HO_8.out)) k_ hk)); (case aO => exact (by (with_reducible repeat (first | apply Kd.R_alloc | apply Kd.R_drewN | apply Kd.R_drew)); exact HO_9.out)); (case aS => exact (below_size (by repeat (first | (with_reducible first | exact HB.out | apply below_alloc | apply pw_below_drewN | apply below_drew1 | refine below_set ?_ GE371.out) | exact HB.out)))); (case aL => have := LMc19.out; omega); intro v380 w23 ho hb hg hat; rw [← Ny379.out] at ho; have n0_ := Aside0.mk (Kd.R_after (ok := (fun _ => True)) (by (with_reducible repeat (first | apply Kd.R_alloc | apply Kd.R_drewN | apply Kd.R_drew)); exact Kd.R_mono HO_8.out (fun _ hk => ⟨trivial, hk⟩)) hg hat); have n1_ := Aside0.mk (blk_grown (g := gb371) (o := .cells #[.slice A0_0 l0_0.length c0_0, .int .i64 a0_1] 49 (0, 0)) (by (with_reducible repeat (first | refine blk_drewN ?_ _ | refine blk_drew ?_ | refine blk_alloc ?_ _)); exact BK371.out) hg (Kd.R_ne HO_9.out BK371.out (by decide))); have n2_ := Aside0.mk (hb); have n3_ := Aside0.mk (ho); clear HO_8; clear BK371; clear HB; clear HO_9; have HO_8 := n0_; have BK371 := n1_; have HB := n2_; have HO381 := n3_; clear n0_ n1_ n2_ n3_; clear ho hb hg hat))
           go_roundg k1
           case measure => have := HK1.out; omega
           case rel => exact ⟨(y379), (wrap64 (x10_1 + 1)), (by first | rfl | (simp; done) | (simp [*]; done)), H', ⟨by have := HK1.out; omega⟩, ⟨by (with_reducible repeat (first | apply Kd.R_alloc | apply Kd.R_drewN | apply Kd.R_drew)); exact Kd.R_mono HO_8.out (fun _ hk => hk.2)⟩, ⟨by (with_reducible repeat (first | apply Kd.R_alloc | apply Kd.R_drewN | apply Kd.R_drew)); exact HO381.out⟩, ⟨by (with_reducible repeat (first | refine blk_drewN ?_ _ | refine blk_drew ?_ | refine blk_alloc ?_ _)); exact BK371.out⟩, ⟨by repeat (first | (with_reducible first | exact HB.out | apply below_alloc | apply pw_below_drewN | apply below_drew1 | refine below_set ?_ GE371.out) | exact HB.out)⟩⟩
          ·rw [if_neg c19] at H
           exact absurd H (by simp)
         ·rw [if_neg c18] at H
          have c18b0 : decide (0 < (rd t374 (Go.bits .or .i64 t372 (ji15)))) = false := decide_eq_false c18
          clear c18
          have H' := Aside0.mk H
          clear H
          have hcz24_0 : wr.cell? ⟨gb371, 0, none⟩ = some (.slice A0_0 l0_0.length c0_0) := (blk_cell BK371.out 0).trans rfl
          have hcz24_1 : wr.cell? ⟨gb371, 1, none⟩ = some (.int .i64 a0_1) := (blk_cell BK371.out 1).trans rfl
          have hfz24_0 := blk_frozen BK371.out 0
          have hfz24_1 := blk_frozen BK371.out 1
          go_wp2_with (first | ((with_reducible refine gate_callee (f := 98) rfl ?_); refine goesL_ (some 32) rfl rfl Try.func98 (by kernel_rfl) rfl #[.agg #[.slice A0_0 l0_0.length c0_0, .int .i64 a0_1], .int .i64 t372, .int .i64 x10_1] rfl (by (try simp only [List.map_toArray, List.map_cons, List.map_nil]); first | done | rfl | (simp only [List.length_drop, List.length_take]; rfl)) ?_; (with_reducible refine (thermionref04_may.calls k1 _ _ l0_0 a0_1 t372 x10_1 true _ ?side1 ?side2 A12.out).mono ?_); (case side1 => repeat (first | exact (Kd.C_below HR0_0.out HB.out) | (with_reducible refine Kd.C_alloc ?_ _) | (with_reducible refine Kd.C_drewN ?_ _) | (with_reducible refine Kd.C_drew ?_))); (case side2 => exact HC0_0.out); rintro e w25 ⟨rfl, hb⟩; refine ⟨_, rfl, ?_⟩; have n0_ := Aside0.mk (Kd.R_below (by (with_reducible repeat (first | apply Kd.R_alloc | apply Kd.R_drewN | apply Kd.R_drew)); exact HO_8.out) hb); have n1_ := Aside0.mk (Kd.R_below (by (with_reducible repeat (first | apply Kd.R_alloc | apply Kd.R_drewN | apply Kd.R_drew)); exact HO_9.out) hb); have n2_ := Aside0.mk (blk_below (g := gb371) (o := .cells #[.slice A0_0 l0_0.length c0_0, .int .i64 a0_1] 49 (0, 0)) (by (with_reducible repeat (first | refine blk_drewN ?_ _ | refine blk_drew ?_ | refine blk_alloc ?_ _)); exact BK371.out) hb); have n3_ := Aside0.mk (below_step (by repeat (first | (with_reducible first | exact HB.out | apply below_alloc | apply pw_below_drewN | apply below_drew1 | refine below_set ?_ GE371.out) | exact HB.out)) hb); clear HO_8; clear HO_9; clear BK371; clear HB; have HO_8 := n0_; have HO_9 := n1_; have BK371 := n2_; have HB := n3_; clear n0_ n1_ n2_ n3_; (try clear hb); (try clear hb2); (try clear hk); (try clear hi); obtain ⟨Ao26, co26, eo26⟩ := Kd.R_slice HO_8.out; subst eo26; have p378 : 0 ≤ ((Go.bits .or .i64 t372 (ji15)) : Int) := of_decide_eq_true (by first | (with_reducible assumption) | assumption); have q378 : (Go.bits .or .i64 t372 (ji15)) < (t374.length : Int) := of_decide_eq_true (by first | (with_reducible assumption) | assumption); obtain ⟨ad378, e378, hx378_0⟩ := Kd.at_int (Kd.R_reads' HO_8.out).2.2 (Go.bits .or .i64 t372 (ji15)) p378 q378; cases e378; replace p378 := eq_true p378; replace q378 := eq_true q378))
          go_roundg k1
          case measure => have := HK1.out; omega
          case rel => exact ⟨(x9_1), (wrap64 (x10_1 + 1)), (by first | rfl | (simp; done) | (simp [*]; done)), H', ⟨by have := HK1.out; omega⟩, ⟨by (with_reducible repeat (first | apply Kd.R_alloc | apply Kd.R_drewN | apply Kd.R_drew)); exact HO_8.out⟩, ⟨by (with_reducible repeat (first | apply Kd.R_alloc | apply Kd.R_drewN | apply Kd.R_drew)); exact HO_9.out⟩, ⟨by (with_reducible repeat (first | refine blk_drewN ?_ _ | refine blk_drew ?_ | refine blk_alloc ?_ _)); exact BK371.out⟩, ⟨by repeat (first | (with_reducible first | exact HB.out | apply below_alloc | apply pw_below_drewN | apply below_drew1 | refine below_set ?_ GE371.out) | exact HB.out)⟩⟩
        ·rw [if_neg c17] at H
         exact absurd H (by simp)
       ·rw [if_neg c16] at H
        exact absurd H (by simp)
      ·rw [if_neg c14] at H
       exact absurd H (by simp)
     ·replace c13 := Bool.eq_false_iff.mpr c13
      subst c13
      have H1 : (thermionref04_Guard.l0 k1 t372 t374 x9_1 (wrap64 (x10_1 + 1)) l0_0 a0_1) = some (r1, r2) := by rw [if_neg (show ¬ (false = true) by decide)] at H; exact H
      clear H
      have H := H1
      clear H1
      have H' := Aside0.mk H
      clear H
      have hcz27_0 : wr.cell? ⟨gb371, 0, none⟩ = some (.slice A0_0 l0_0.length c0_0) := (blk_cell BK371.out 0).trans rfl
      have hcz27_1 : wr.cell? ⟨gb371, 1, none⟩ = some (.int .i64 a0_1) := (blk_cell BK371.out 1).trans rfl
      have hfz27_0 := blk_frozen BK371.out 0
      have hfz27_1 := blk_frozen BK371.out 1
      go_wp2_with (first | ((with_reducible refine gate_callee (f := 98) rfl ?_); refine goesL_ (some 32) rfl rfl Try.func98 (by kernel_rfl) rfl #[.agg #[.slice A0_0 l0_0.length c0_0, .int .i64 a0_1], .int .i64 t372, .int .i64 x10_1] rfl (by (try simp only [List.map_toArray, List.map_cons, List.map_nil]); first | done | rfl | (simp only [List.length_drop, List.length_take]; rfl)) ?_; (with_reducible refine (thermionref04_may.calls k1 _ _ l0_0 a0_1 t372 x10_1 false _ ?side1 ?side2 A12.out).mono ?_); (case side1 => repeat (first | exact (Kd.C_below HR0_0.out HB.out) | (with_reducible refine Kd.C_alloc ?_ _) | (with_reducible refine Kd.C_drewN ?_ _) | (with_reducible refine Kd.C_drew ?_))); (case side2 => exact HC0_0.out); rintro e w28 ⟨rfl, hb⟩; refine ⟨_, rfl, ?_⟩; have n0_ := Aside0.mk (Kd.R_below (by (with_reducible repeat (first | apply Kd.R_alloc | apply Kd.R_drewN | apply Kd.R_drew)); exact HO_8.out) hb); have n1_ := Aside0.mk (Kd.R_below (by (with_reducible repeat (first | apply Kd.R_alloc | apply Kd.R_drewN | apply Kd.R_drew)); exact HO_9.out) hb); have n2_ := Aside0.mk (blk_below (g := gb371) (o := .cells #[.slice A0_0 l0_0.length c0_0, .int .i64 a0_1] 49 (0, 0)) (by (with_reducible repeat (first | refine blk_drewN ?_ _ | refine blk_drew ?_ | refine blk_alloc ?_ _)); exact BK371.out) hb); have n3_ := Aside0.mk (below_step (by repeat (first | (with_reducible first | exact HB.out | apply below_alloc | apply pw_below_drewN | apply below_drew1 | refine below_set ?_ GE371.out) | exact HB.out)) hb); clear HO_8; clear HO_9; clear BK371; clear HB; have HO_8 := n0_; have HO_9 := n1_; have BK371 := n2_; have HB := n3_; clear n0_ n1_ n2_ n3_; (try clear hb); (try clear hb2); (try clear hk); (try clear hi)))
      go_roundg k1
      case measure => have := HK1.out; omega
      case rel => exact ⟨(x9_1), (wrap64 (x10_1 + 1)), (by first | rfl | (simp; done) | (simp [*]; done)), H', ⟨by have := HK1.out; omega⟩, ⟨by (with_reducible repeat (first | apply Kd.R_alloc | apply Kd.R_drewN | apply Kd.R_drew)); exact HO_8.out⟩, ⟨by (with_reducible repeat (first | apply Kd.R_alloc | apply Kd.R_drewN | apply Kd.R_drew)); exact HO_9.out⟩, ⟨by (with_reducible repeat (first | refine blk_drewN ?_ _ | refine blk_drew ?_ | refine blk_alloc ?_ _)); exact BK371.out⟩, ⟨by repeat (first | (with_reducible first | exact HB.out | apply below_alloc | apply pw_below_drewN | apply below_drew1 | refine below_set ?_ GE371.out) | exact HB.out)⟩⟩
    ·rw [if_neg c11] at H
     have c11b0 : decide (x10_1 < (l0_0.length : Int)) = false := decide_eq_false c11
     clear c11
     simp only [Option.some.injEq, Prod.mk.injEq] at H
     obtain ⟨rfl, rfl⟩ := H
     have hcz29_0 : wr.cell? ⟨gb371, 0, none⟩ = some (.slice A0_0 l0_0.length c0_0) := (blk_cell BK371.out 0).trans rfl
     have hcz29_1 : wr.cell? ⟨gb371, 1, none⟩ = some (.int .i64 a0_1) := (blk_cell BK371.out 1).trans rfl
     have hfz29_0 := blk_frozen BK371.out 0
     have hfz29_1 := blk_frozen BK371.out 1
     go_wp2
     go_ret2
     exact ⟨_, by first | rfl | (simp [errW_none, errW_some] <;> rfl) | (simp [*, errW_none, errW_some] <;> rfl), by (with_reducible repeat (first | apply Kd.R_alloc | apply Kd.R_drewN | apply Kd.R_drew)); exact Kd.R_mono HO_9.out (fun _ hk => trivial), by repeat (first | (with_reducible first | exact HB.out | apply below_alloc | apply pw_below_drewN | apply below_drew1 | refine below_set ?_ GE371.out) | exact HB.out)⟩
 ·rw [if_neg c4] at H
  have c4b0 : (t373 == 0) = false := beq_eq_false_iff_ne.mpr c4
  have c4b1 : (t373 != 0) = true := bne_iff_ne.mpr c4
  simp only [Option.some.injEq, Prod.mk.injEq] at H
  obtain ⟨rfl, rfl⟩ := H
  go_enter Try.func39, Try.ntmps39
  go_wp2_with (first | ((with_reducible refine gate_dst (N := 2) rfl ?_); refine box_event ?hg (N := 2) ?hd (cs := #[.slice A0_0 l0_0.length c0_0, .int .i64 a0_1]) (t := 49) ?hr ?_; (case hd => rfl); (case hg => rfl); (case hr => first | (go_simp; done) | (go_simp; rfl)); intro gb371 hg w30 hbox hb; have n0_ := Aside0.mk (below_step (by repeat (first | (with_reducible first | exact HB.out | apply below_alloc | apply pw_below_drewN | apply below_drew1) | exact HB.out)) hb); have n1_ := Aside0.mk (hbox); have n2_ := Aside0.mk ((by rw [hg]; exact (below_size (by repeat (first | (with_reducible first | exact HB.out | apply below_alloc | apply pw_below_drewN | apply below_drew1) | exact HB.out))) : w.heap.size ≤ gb371)); have n3_ := Aside0.mk ((by rw [hg]; exact (below_size (by repeat (first | (with_reducible first | exact HB.out | apply below_alloc | apply pw_below_drewN | apply below_drew1) | exact HB.out))) : w.heap.size ≤ gb371)); clear HB; have HB := n0_; have BK371 := n1_; have GW371 := n2_; have GE371 := n3_; clear n0_ n1_ n2_ n3_; clear hb hbox hg; have hcz31_0 : w30.cell? ⟨gb371, 0, none⟩ = some (.slice A0_0 l0_0.length c0_0) := (blk_cell BK371.out 0).trans rfl; have hcz31_1 : w30.cell? ⟨gb371, 1, none⟩ = some (.int .i64 a0_1) := (blk_cell BK371.out 1).trans rfl; have hfz31_0 := blk_frozen BK371.out 0; have hfz31_1 := blk_frozen BK371.out 1) | ((with_reducible refine gate_callee (f := 97) rfl ?_); refine goesL_ (some 14) rfl rfl Try.func97 (by kernel_rfl) rfl #[.agg #[.slice A0_0 l0_0.length c0_0, .int .i64 a0_1], .slice A1 l1.length c1] rfl (by (try simp only [List.map_toArray, List.map_cons, List.map_nil]); first | done | rfl | (simp only [List.length_drop, List.length_take]; rfl)) ?_; (with_reducible refine (thermionref04_checkState.calls k _ _ l0_0 a0_1 _ _ l1 t372 t373 _ ?side1 ?side2 ?side3 ?side4 A3.out).mono ?_); (case side1 => repeat (first | exact (Kd.C_below HR0_0.out HB.out) | (with_reducible refine Kd.C_alloc ?_ _) | (with_reducible refine Kd.C_drewN ?_ _) | (with_reducible refine Kd.C_drew ?_))); (case side2 => exact HC0_0.out); (case side3 => repeat (first | exact (Kd.C_below HR1.out HB.out) | (with_reducible refine Kd.C_alloc ?_ _) | (with_reducible refine Kd.C_drewN ?_ _) | (with_reducible refine Kd.C_drew ?_))); (case side4 => exact HC1.out); rintro e w32 ⟨rfl, hb⟩; refine ⟨_, rfl, ?_⟩; have n0_ := Aside0.mk (blk_below (g := gb371) (o := .cells #[.slice A0_0 l0_0.length c0_0, .int .i64 a0_1] 49 (0, 0)) (by (with_reducible repeat (first | refine blk_drewN ?_ _ | refine blk_drew ?_ | refine blk_alloc ?_ _)); exact BK371.out) hb); have n1_ := Aside0.mk (below_step (by repeat (first | (with_reducible first | exact HB.out | apply below_alloc | apply pw_below_drewN | apply below_drew1 | refine below_set ?_ GE371.out) | exact HB.out)) hb); clear BK371; clear HB; have BK371 := n0_; have HB := n1_; clear n0_ n1_; (try clear hb); (try clear hb2); (try clear hk); (try clear hi)))
  go_ret2
  exact ⟨_, by first | rfl | (simp [errW_none, errW_some] <;> rfl) | (simp [*, errW_none, errW_some] <;> rfl), by first | exact Kd.R_nil _ _ _ _ _ | exact Kd.N_nil _ _ _ _ _ | exact Kd.V_nil _ _ _ _ _ | exact Kd.Q_nil _ _ _ _ _ | exact Kd.S_nil _ _ _ _ _, by repeat (first | (with_reducible first | exact HB.out | apply below_alloc | apply pw_below_drewN | apply below_drew1 | refine below_set ?_ GE371.out) | exact HB.out)⟩

end Go.Proofs.Ytbcfphoheijmdaa.Print
end

section
/- What the Go function thermionref04_Orders does, as a Lean function, and that its call does so. Printed by a program of this work out of the translation. -/
namespace Go.Proofs.Ytbcfphoheijmdaa.Print
open Go.RowKit Go.Proofs.YtbcfphoheijmdaaW.PrintWords Go.Proofs.YtbcfphoheijmdaaW.PrintLast Go.Proofs.YtbcfphoheijmdaaW.PrintMore
attribute [local go_sem] max2_int min2_int max_two min_two max_three min_three max_four min_four
set_option linter.unusedVariables false
set_option linter.unusedSimpArgs false

/-! ### thermionref04_Orders: function 75 -/
def thermionref04_Orders.f (k : Nat) (l0_0 : List (S57)) (a0_1 : Int) : Option (Int × Int) := (thermionref04_CheckKit.f k l0_0 a0_1).bind fun t1187 => (if t1187 = 0 then ((thermionref04_goods.f k l0_0 a0_1).bind fun t1188 => (if 0 < (t1188.length : Int) then (some (rd t1188 0, 0)) else (none))) else (some (0, t1187)))
theorem thermionref04_Orders.mono : ∀ a0 a1 k, LeO (thermionref04_Orders.f k a0 a1) (thermionref04_Orders.f (k + 1) a0 a1) := by
 intro a0 a1 k
 unfold thermionref04_Orders.f
 repeat' first
   | (with_reducible exact thermionref04_CheckKit.mono _ _ _)
   | (with_reducible exact thermionref04_goods.mono _ _ _)
   | (with_reducible exact LeO.refl _)
   | (with_reducible exact LeO.none _)
   | (with_reducible refine LeO.ite ?_ ?_)
   | (with_reducible refine LeO.bind ?_ (fun _ => ?_))
   | exact thermionref04_CheckKit.mono _ _ _
   | exact thermionref04_goods.mono _ _ _
   | exact LeO.none _
   | refine LeO.ite ?_ ?_
   | refine LeO.bind ?_ (fun _ => ?_)
set_option maxHeartbeats 8000000 in
set_option maxRecDepth 100000 in
theorem thermionref04_Orders.calls (k : Nat) (A0_0 : Option Addr) (c0_0 : Nat) (l0_0 : List (S57)) (a0_1 : Int) (r1 : Int) (r2 : Int) (w : World) (hr0_0 : Kd.C k57 w A0_0 l0_0.length l0_0) (hc0_0 : l0_0.length ≤ c0_0) (h : thermionref04_Orders.f k l0_0 a0_1 = some (r1, r2)) :
  Calls Try.prog 75 #[.agg #[.slice A0_0 l0_0.length c0_0, .int .i64 a0_1]] w fun e w' => e = .returned (.tuple #[.int .i64 r1, .int .i64 r2]) ∧ Below w.heap.size w w' := by
 have hu49 := Try.underlying49
 have HR0_0 := Aside0.mk hr0_0
 have HC0_0 := Aside0.mk hc0_0
 clear hr0_0 hc0_0
 have HB := Aside0.mk (Below.refl w.heap.size w)
 have H : ((thermionref04_CheckKit.f k l0_0 a0_1).bind fun t1187 => (if t1187 = 0 then ((thermionref04_goods.f k l0_0 a0_1).bind fun t1188 => (if 0 < (t1188.length : Int) then (some (rd t1188 0, 0)) else (none))) else (some (0, t1187)))) = some (r1, r2) := h
 clear h
 replace H := Option.bind_eq_some_iff.mp H
 obtain ⟨t1187, A20, H⟩ := H
 replace H : (if t1187 = 0 then ((thermionref04_goods.f k l0_0 a0_1).bind fun t1188 => (if 0 < (t1188.length : Int) then (some (rd t1188 0, 0)) else (none))) else (some (0, t1187))) = some (r1, r2) := H
 have A2 := Aside0.mk A20
 clear A20
 by_cases c3 : t1187 = 0
 ·rw [if_pos c3] at H
  have c3b0 : (t1187 == 0) = true := beq_iff_eq.mpr c3
  have c3b1 : (t1187 != 0) = false := bne_eq_false_iff_eq.mpr c3
  clear c3
  replace H := Option.bind_eq_some_iff.mp H
  obtain ⟨t1188, A40, H⟩ := H
  replace H : (if 0 < (t1188.length : Int) then (some (rd t1188 0, 0)) else (none)) = some (r1, r2) := H
  have A4 := Aside0.mk A40
  clear A40
  by_cases c5 : 0 < (t1188.length : Int)
  ·rw [if_pos c5] at H
   have c5b0 : decide (0 < (t1188.length : Int)) = true := decide_eq_true c5
   have c5b1 : decide (0 < t1188.length) = true := decide_eq_true (by omega)
   clear c5
   simp only [Option.some.injEq, Prod.mk.injEq] at H
   obtain ⟨rfl, rfl⟩ := H
   go_enter Try.func75, Try.ntmps75
   go_wp2_with (first | ((with_reducible refine gate_dst (N := 1) rfl ?_); refine box_event ?hg (N := 1) ?hd (cs := #[.slice A0_0 l0_0.length c0_0, .int .i64 a0_1]) (t := 49) ?hr ?_; (case hd => rfl); (case hg => rfl); (case hr => first | (go_simp; done) | (go_simp; rfl)); intro gb1186 hg w6 hbox hb; have n0_ := Aside0.mk (below_step (by repeat (first | (with_reducible first | exact HB.out | apply below_alloc | apply pw_below_drewN | apply below_drew1) | exact HB.out)) hb); have n1_ := Aside0.mk (hbox); have n2_ := Aside0.mk ((by rw [hg]; exact (below_size (by repeat (first | (with_reducible first | exact HB.out | apply below_alloc | apply pw_below_drewN | apply below_drew1) | exact HB.out))) : w.heap.size ≤ gb1186)); have n3_ := Aside0.mk ((by rw [hg]; exact (below_size (by repeat (first | (with_reducible first | exact HB.out | apply below_alloc | apply pw_below_drewN | apply below_drew1) | exact HB.out))) : w.heap.size ≤ gb1186)); clear HB; have HB := n0_; have BK1186 := n1_; have GW1186 := n2_; have GE1186 := n3_; clear n0_ n1_ n2_ n3_; clear hb hbox hg; have hcz7_0 : w6.cell? ⟨gb1186, 0, none⟩ = some (.slice A0_0 l0_0.length c0_0) := (blk_cell BK1186.out 0).trans rfl; have hcz7_1 : w6.cell? ⟨gb1186, 1, none⟩ = some (.int .i64 a0_1) := (blk_cell BK1186.out 1).trans rfl; have hfz7_0 := blk_frozen BK1186.out 0; have hfz7_1 := blk_frozen BK1186.out 1) | ((with_reducible refine gate_callee (f := 41) rfl ?_); refine goesL_ (some 6) rfl rfl Try.func41 (by kernel_rfl) rfl #[.agg #[.slice A0_0 l0_0.length c0_0, .int .i64 a0_1]] rfl (by (try simp only [List.map_toArray, List.map_cons, List.map_nil]); first | done | rfl | (simp only [List.length_drop, List.length_take]; rfl)) ?_; (with_reducible refine (thermionref04_CheckKit.calls k _ _ l0_0 a0_1 t1187 _ ?side1 ?side2 A2.out).mono ?_); (case side1 => repeat (first | exact (Kd.C_below HR0_0.out HB.out) | (with_reducible refine Kd.C_alloc ?_ _) | (with_reducible refine Kd.C_drewN ?_ _) | (with_reducible refine Kd.C_drew ?_))); (case side2 => exact HC0_0.out); rintro e w8 ⟨rfl, hb⟩; refine ⟨_, rfl, ?_⟩; have n0_ := Aside0.mk (blk_below (g := gb1186) (o := .cells #[.slice A0_0 l0_0.length c0_0, .int .i64 a0_1] 49 (0, 0)) (by (with_reducible repeat (first | refine blk_drewN ?_ _ | refine blk_drew ?_ | refine blk_alloc ?_ _)); exact BK1186.out) hb); have n1_ := Aside0.mk (below_step (by repeat (first | (with_reducible first | exact HB.out | apply below_alloc | apply pw_below_drewN | apply below_drew1 | refine below_set ?_ GE1186.out) | exact HB.out)) hb); clear BK1186; clear HB; have BK1186 := n0_; have HB := n1_; clear n0_ n1_; (try clear hb); (try clear hb2); (try clear hk); (try clear hi); have hcz9_0 : w8.cell? ⟨gb1186, 0, none⟩ = some (.slice A0_0 l0_0.length c0_0) := (blk_cell BK1186.out 0).trans rfl; have hcz9_1 : w8.cell? ⟨gb1186, 1, none⟩ = some (.int .i64 a0_1) := (blk_cell BK1186.out 1).trans rfl; have hfz9_0 := blk_frozen BK1186.out 0; have hfz9_1 := blk_frozen BK1186.out 1) | ((with_reducible refine gate_callee (f := 101) rfl ?_); refine goesL_ (some 11) rfl rfl Try.func101 (by kernel_rfl) rfl #[.agg #[.slice A0_0 l0_0.length c0_0, .int .i64 a0_1]] rfl (by (try simp only [List.map_toArray, List.map_cons, List.map_nil]); first | done | rfl | (simp only [List.length_drop, List.length_take]; rfl)) ?_; (with_reducible refine (thermionref04_goods.calls k _ _ l0_0 a0_1 t1188 _ ?side1 ?side2 A4.out).mono ?_); (case side1 => repeat (first | exact (Kd.C_below HR0_0.out HB.out) | (with_reducible refine Kd.C_alloc ?_ _) | (with_reducible refine Kd.C_drewN ?_ _) | (with_reducible refine Kd.C_drew ?_))); (case side2 => exact HC0_0.out); rintro e w10 ⟨v1189, rfl, ho0, hb⟩; refine ⟨_, rfl, ?_⟩; have n0_ := Aside0.mk (Kd.R_lower ho0 (below_size (by repeat (first | (with_reducible first | exact HB.out | apply below_alloc | apply pw_below_drewN | apply below_drew1 | refine below_set ?_ GE1186.out) | exact HB.out)))); have n1_ := Aside0.mk (blk_below (g := gb1186) (o := .cells #[.slice A0_0 l0_0.length c0_0, .int .i64 a0_1] 49 (0, 0)) (by (with_reducible repeat (first | refine blk_drewN ?_ _ | refine blk_drew ?_ | refine blk_alloc ?_ _)); exact BK1186.out) hb); have n2_ := Aside0.mk (below_step (by repeat (first | (with_reducible first | exact HB.out | apply below_alloc | apply pw_below_drewN | apply below_drew1 | refine below_set ?_ GE1186.out) | exact HB.out)) hb); clear BK1186; clear HB; have HO1190 := n0_; have BK1186 := n1_; have HB := n2_; clear n0_ n1_ n2_; (try clear hb); (try clear hb2); (try clear hk); (try clear hi); (try clear ho0); obtain ⟨Ao11, co11, eo11⟩ := Kd.R_slice HO1190.out; subst eo11; have p1191 : 0 ≤ (0 : Int) := (by omega); have q1191 : 0 < (t1188.length : Int) := of_decide_eq_true (by first | (with_reducible assumption) | assumption); obtain ⟨ad1191, e1191, hx1191_0⟩ := Kd.at_int (Kd.R_reads' HO1190.out).2.2 0 p1191 q1191; cases e1191; have qi1191 : (0 < t1188.length) = True := eq_true (by omega); (try rw [show ((0 : Int)).toNat = 0 from rfl] at hx1191_0); (try rw [Addr.add_zero'] at hx1191_0); replace p1191 := eq_true p1191; replace q1191 := eq_true q1191))
   go_ret2
   exact ⟨by first | rfl | (simp [errW_none, errW_some] <;> rfl) | (simp [*, errW_none, errW_some] <;> rfl), by repeat (first | (with_reducible first | exact HB.out | apply below_alloc | apply pw_below_drewN | apply below_drew1 | refine below_set ?_ GE1186.out) | exact HB.out)⟩
  ·rw [if_neg c5] at H
   exact absurd H (by simp)
 ·rw [if_neg c3] at H
  have c3b0 : (t1187 == 0) = false := beq_eq_false_iff_ne.mpr c3
  have c3b1 : (t1187 != 0) = true := bne_iff_ne.mpr c3
  simp only [Option.some.injEq, Prod.mk.injEq] at H
  obtain ⟨rfl, rfl⟩ := H
  go_enter Try.func75, Try.ntmps75
  go_wp2_with (first | ((with_reducible refine gate_dst (N := 1) rfl ?_); refine box_event ?hg (N := 1) ?hd (cs := #[.slice A0_0 l0_0.length c0_0, .int .i64 a0_1]) (t := 49) ?hr ?_; (case hd => rfl); (case hg => rfl); (case hr => first | (go_simp; done) | (go_simp; rfl)); intro gb1186 hg w12 hbox hb; have n0_ := Aside0.mk (below_step (by repeat (first | (with_reducible first | exact HB.out | apply below_alloc | apply pw_below_drewN | apply below_drew1) | exact HB.out)) hb); have n1_ := Aside0.mk (hbox); have n2_ := Aside0.mk ((by rw [hg]; exact (below_size (by repeat (first | (with_reducible first | exact HB.out | apply below_alloc | apply pw_below_drewN | apply below_drew1) | exact HB.out))) : w.heap.size ≤ gb1186)); have n3_ := Aside0.mk ((by rw [hg]; exact (below_size (by repeat (first | (with_reducible first | exact HB.out | apply below_alloc | apply pw_below_drewN | apply below_drew1) | exact HB.out))) : w.heap.size ≤ gb1186)); clear HB; have HB := n0_; have BK1186 := n1_; have GW1186 := n2_; have GE1186 := n3_; clear n0_ n1_ n2_ n3_; clear hb hbox hg; have hcz13_0 : w12.cell? ⟨gb1186, 0, none⟩ = some (.slice A0_0 l0_0.length c0_0) := (blk_cell BK1186.out 0).trans rfl; have hcz13_1 : w12.cell? ⟨gb1186, 1, none⟩ = some (.int .i64 a0_1) := (blk_cell BK1186.out 1).trans rfl; have hfz13_0 := blk_frozen BK1186.out 0; have hfz13_1 := blk_frozen BK1186.out 1) | ((with_reducible refine gate_callee (f := 41) rfl ?_); refine goesL_ (some 6) rfl rfl Try.func41 (by kernel_rfl) rfl #[.agg #[.slice A0_0 l0_0.length c0_0, .int .i64 a0_1]] rfl (by (try simp only [List.map_toArray, List.map_cons, List.map_nil]); first | done | rfl | (simp only [List.length_drop, List.length_take]; rfl)) ?_; (with_reducible refine (thermionref04_CheckKit.calls k _ _ l0_0 a0_1 t1187 _ ?side1 ?side2 A2.out).mono ?_); (case side1 => repeat (first | exact (Kd.C_below HR0_0.out HB.out) | (with_reducible refine Kd.C_alloc ?_ _) | (with_reducible refine Kd.C_drewN ?_ _) | (with_reducible refine Kd.C_drew ?_))); (case side2 => exact HC0_0.out); rintro e w14 ⟨rfl, hb⟩; refine ⟨_, rfl, ?_⟩; have n0_ := Aside0.mk (blk_below (g := gb1186) (o := .cells #[.slice A0_0 l0_0.length c0_0, .int .i64 a0_1] 49 (0, 0)) (by (with_reducible repeat (first | refine blk_drewN ?_ _ | refine blk_drew ?_ | refine blk_alloc ?_ _)); exact BK1186.out) hb); have n1_ := Aside0.mk (below_step (by repeat (first | (with_reducible first | exact HB.out | apply below_alloc | apply pw_below_drewN | apply below_drew1 | refine below_set ?_ GE1186.out) | exact HB.out)) hb); clear BK1186; clear HB; have BK1186 := n0_; have HB := n1_; clear n0_ n1_; (try clear hb); (try clear hb2); (try clear hk); (try clear hi)))
  go_ret2
  exact ⟨by first | rfl | (simp [errW_none, errW_some] <;> rfl) | (simp [*, errW_none, errW_some] <;> rfl), by repeat (first | (with_reducible first | exact HB.out | apply below_alloc | apply pw_below_drewN | apply below_drew1 | refine below_set ?_ GE1186.out) | exact HB.out)⟩

end Go.Proofs.Ytbcfphoheijmdaa.Print
end

section
/- Plain laws: the reference's functions of kits give what the program's give. -/
namespace Go.Proofs.Ytbcfphoheijmdaa.Print
open Go.RowKit Go.Proofs.YtbcfphoheijmdaaW.PrintWords Go.Proofs.YtbcfphoheijmdaaW.PrintLast Go.Proofs.YtbcfphoheijmdaaW.PrintMore Go.Proofs.Ytbcfphoheijmdaa.H
set_option linter.unusedVariables false
set_option linter.unusedSimpArgs false

theorem within_all (x lo hi : Int) : thermionref04_within.f x lo hi = some (decide (lo ≤ x ∧ x ≤ hi)) := by
  unfold thermionref04_within.f
  by_cases q : lo ≤ x
  · simp [q]
  · simp [q]
theorem wrap_up (i : Nat) (h : i ≤ 100000000) : wrap64 ((i : Int) + 1) = ((i + 1 : Nat) : Int) := by rw [IntWalk.wrap64_in _ (by omega)]; omega
theorem wrap_down (n : Int) (h : 0 ≤ n ∧ n ≤ 100000000) : wrap64 (n - 1) = n - 1 := IntWalk.wrap64_in _ (by omega)
/-- A loop that stops at the first error. -/
theorem first_loop {F : Nat → Nat → Option Int} {e : Nat → Int} {n K0 : Nat} (h0 : ∀ K, F (K + 1) n = some 0) (hs : ∀ K i, K0 ≤ K → i < n → (∀ j, j < i → e j = 0) → F (K + 1) i = if e i ≠ 0 then some (e i) else F K (i + 1)) :
    ∀ d i K, i + d = n → K0 + d + 1 ≤ K → (∀ j, j < i → e j = 0) → F K i = some (firstErr e n)
  | 0, i, K, hi, hK, hz => by
    obtain ⟨K, rfl⟩ : ∃ m, K = m + 1 := ⟨K - 1, by omega⟩
    obtain rfl : i = n := by omega
    rw [h0, firstErr_ok hz]
  | d + 1, i, K, hi, hK, hz => by
    obtain ⟨K, rfl⟩ : ∃ m, K = m + 1 := ⟨K - 1, by omega⟩
    rw [hs K i (by omega) (by omega) hz]
    by_cases q : e i = 0
    · rw [if_neg (by simpa using q)]
      refine first_loop h0 hs d (i + 1) K (by omega) (by omega) (fun j hj => ?_)
      by_cases e2 : j = i
      · rw [e2]; exact q
      · exact hz j (by omega)
    · rw [if_pos q, firstErr_at (by omega) hz q]
theorem rd_get (l : List Int) (i : Nat) : rd l (i : Int) = l.getD i 0 := by simp [rd]
theorem others_ref (own n : Nat) (l : List Int) (hn : n ≤ 1000) (hl : l.length ≤ 1000) {K : Nat} (hK : l.length + 1 ≤ K) : thermionref04_checkOthers.f K l (own : Int) (n : Int) = some (othersErr n own l) := by
  refine first_loop (F := fun K i => thermionref04_checkOthers.l0 K l (own : Int) (n : Int) (i : Int)) (e := otherErr n own l) (n := l.length) (K0 := 0) (fun K => ?_) (fun K i _ hi _ => ?_) l.length 0 K (by omega) (by omega) (fun j hj => absurd hj (by omega))
  · show thermionref04_checkOthers.l0 (K + 1) l (own : Int) (n : Int) (l.length : Int) = some 0
    rw [thermionref04_checkOthers.l0, if_neg (by omega)]
  · show thermionref04_checkOthers.l0 (K + 1) l (own : Int) (n : Int) (i : Int) = if otherErr n own l i ≠ 0 then some (otherErr n own l i) else thermionref04_checkOthers.l0 K l (own : Int) (n : Int) ((i + 1 : Nat) : Int)
    have hw : wrap64 ((n : Int) - 1) = (n : Int) - 1 := IntWalk.wrap64_in _ (by omega)
    have hv : wrap64 ((i : Int) - 1) = (i : Int) - 1 := IntWalk.wrap64_in _ (by omega)
    rw [thermionref04_checkOthers.l0, if_pos (by omega), if_pos (by omega), within_all, Option.bind_some, hw, wrap_up i (by omega), rd_get, hv]
    have hval : otherErr n own l i = if l.getD i 0 < 0 ∨ (n : Int) - 1 < l.getD i 0 then 7 else if l.getD i 0 = own then 9 else if 0 < i ∧ l.getD i 0 ≤ l.getD (i - 1) 0 then 11 else 0 := rfl
    generalize otherErr n own l i = e at hval ⊢
    by_cases q1 : l.getD i 0 < 0 ∨ (n : Int) - 1 < l.getD i 0
    · rw [if_pos q1] at hval
      subst hval
      rw [decide_eq_false (by omega), if_neg (by simp), if_pos (by decide)]
    · rw [if_neg q1] at hval
      rw [decide_eq_true (by omega), if_pos rfl]
      by_cases q2 : l.getD i 0 = own
      · rw [if_pos q2] at hval
        subst hval
        rw [if_pos q2, if_pos (by decide)]
      · rw [if_neg q2] at hval
        rw [if_neg q2]
        by_cases q3 : 0 < i
        · rw [if_pos (by omega), if_pos (by omega), if_pos (by omega), show (i : Int) - 1 = ((i - 1 : Nat) : Int) by omega, rd_get]
          by_cases q4 : l.getD i 0 ≤ l.getD (i - 1) 0
          · rw [if_pos ⟨q3, q4⟩] at hval
            subst hval
            rw [if_pos q4, if_pos (by decide)]
          · rw [if_neg (fun h => q4 h.2)] at hval
            subst hval
            rw [if_neg q4, if_neg (by decide)]
        · rw [if_neg (fun h => q3 h.1)] at hval
          subst hval
          rw [if_neg (by omega), if_neg (by decide)]
/-- The lists of a kit are short. -/
def Short (L : List S57) : Prop := ∀ i, (L.getD i z57).f0.length ≤ 100 ∧ (L.getD i z57).f1.length ≤ 100
theorem rd57 (L : List S57) (i : Nat) : rd_T57 L (i : Int) = L.getD i z57 := by simp [rd_T57]
theorem firstErr2 (e : Nat → Int) : firstErr e 2 = if e 0 ≠ 0 then e 0 else e 1 := by
  by_cases q : e 0 = 0
  · rw [if_neg (by simpa using q)]
    by_cases r : e 1 = 0
    · rw [r]
      exact firstErr_ok (fun i hi => by rcases (by omega : i = 0 ∨ i = 1) with rfl | rfl <;> assumption)
    · exact firstErr_at (by omega) (fun j hj => by rw [show j = 0 by omega]; exact q) r
  · rw [if_pos q]
    exact firstErr_at (by omega) (fun j hj => absurd hj (by omega)) q
theorem kit_ref {L : List S57} (hs : Short L) (c : Int) {K : Nat} (hK : 300 ≤ K) : thermionref04_CheckKit.f K L c = some (kitErr L c) := by
  unfold thermionref04_CheckKit.f kitErr
  by_cases q : 14 < L.length
  · rw [if_pos (by omega), if_pos q]
  · rw [if_neg (by omega), if_neg q, within_all, Option.bind_some]
    by_cases r : c < 0 ∨ 10000 < c
    · rw [decide_eq_false (by omega), if_neg (by simp), if_pos r]
    · rw [decide_eq_true (by omega), if_pos rfl, if_neg r]
      refine first_loop (F := fun K i => thermionref04_CheckKit.l0 K (i : Int) L c) (e := fun i => partErr L.length i (L.getD i z57)) (n := L.length) (K0 := 200) (fun K => ?_) (fun K i hK2 hi _ => ?_) L.length 0 K (by omega) (by omega) (fun j hj => absurd hj (by omega))
      · show thermionref04_CheckKit.l0 (K + 1) (L.length : Int) L c = some 0
        rw [thermionref04_CheckKit.l0, if_neg (by omega)]
      · show thermionref04_CheckKit.l0 (K + 1) (i : Int) L c = if partErr L.length i (L.getD i z57) ≠ 0 then some (partErr L.length i (L.getD i z57)) else thermionref04_CheckKit.l0 K ((i + 1 : Nat) : Int) L c
        have hp := hs i
        rw [thermionref04_CheckKit.l0, if_pos (by omega), if_pos (by omega), rd57, others_ref i L.length _ (by omega) (by omega) (by omega), Option.bind_some, others_ref i L.length _ (by omega) (by omega) (by omega), wrap_up i (by omega)]
        have hval : partErr L.length i (L.getD i z57) = if (if othersErr L.length i (L.getD i z57).f0 ≠ 0 then othersErr L.length i (L.getD i z57).f0 else othersErr L.length i (L.getD i z57).f1) ≠ 0 then (if othersErr L.length i (L.getD i z57).f0 ≠ 0 then othersErr L.length i (L.getD i z57).f0 else othersErr L.length i (L.getD i z57).f1) else if (L.getD i z57).f2 < 0 ∨ 8 < (L.getD i z57).f2 ∨ (L.getD i z57).f3 < 0 ∨ 10000 < (L.getD i z57).f3 then 2 else 0 := by
          unfold partErr
          rw [firstErr2]
          rfl
        generalize partErr L.length i (L.getD i z57) = e at hval ⊢
        generalize othersErr (L.length : Int) (i : Int) (L.getD i z57).f0 = x0 at hval ⊢
        generalize othersErr (L.length : Int) (i : Int) (L.getD i z57).f1 = x1 at hval ⊢
        by_cases a0 : x0 = 0
        · rw [if_neg (show ¬ x0 ≠ 0 from fun h => h a0)] at hval
          rw [if_pos a0, Option.bind_some]
          by_cases a1 : x1 = 0
          · rw [if_neg (show ¬ x1 ≠ 0 from fun h => h a1)] at hval
            rw [if_pos a1, within_all, Option.bind_some]
            by_cases b0 : 0 ≤ (L.getD i z57).f2 ∧ (L.getD i z57).f2 ≤ 8
            · rw [decide_eq_true b0, if_pos rfl, within_all, Option.bind_some]
              by_cases b1 : 0 ≤ (L.getD i z57).f3 ∧ (L.getD i z57).f3 ≤ 10000
              · rw [if_neg (by omega)] at hval
                subst hval
                rw [decide_eq_true b1, if_pos rfl, if_neg (by decide)]
              · rw [if_pos (by omega)] at hval
                subst hval
                rw [decide_eq_false b1, if_neg (by simp), if_pos (by decide)]
            · rw [if_pos (by omega)] at hval
              subst hval
              rw [decide_eq_false b0, if_neg (by simp), if_pos (by decide)]
          · rw [if_pos a1] at hval
            subst hval
            rw [if_neg a1, if_pos a1]
        · rw [if_pos (show x0 ≠ 0 from a0), if_pos a0] at hval
          subst hval
          rw [if_neg a0, if_pos a0]
/-! Bits of int. -/
theorem ofInt_i64 (a : Nat) : (BitVec.ofInt IntKind.i64.bits (a : Int)).toNat = a % 2 ^ 64 := by
  rw [BitVec.toNat_ofInt]
  show ((a : Int) % ((2 ^ 64 : Nat) : Int)).toNat = _
  omega
theorem wrap_i64 {a : Nat} (h : a < 2 ^ 62) : IntKind.i64.wrap (a : Int) = (a : Int) := IntWalk.i64_in _ (by omega)
theorem and_i64 {a b : Nat} (ha : a < 2 ^ 62) (hb : b < 2 ^ 62) : Go.bits .and .i64 (a : Int) (b : Int) = ((a &&& b : Nat) : Int) := by
  unfold Go.bits
  simp only
  rw [BitVec.toNat_and, ofInt_i64, ofInt_i64, Nat.mod_eq_of_lt (by omega), Nat.mod_eq_of_lt (by omega)]
  exact wrap_i64 (Nat.lt_of_le_of_lt Nat.and_le_left ha)
theorem or_i64 {a b : Nat} (ha : a < 2 ^ 62) (hb : b < 2 ^ 62) : Go.bits .or .i64 (a : Int) (b : Int) = ((a ||| b : Nat) : Int) := by
  unfold Go.bits
  simp only
  rw [BitVec.toNat_or, ofInt_i64, ofInt_i64, Nat.mod_eq_of_lt (by omega), Nat.mod_eq_of_lt (by omega)]
  exact wrap_i64 (Nat.or_lt_two_pow ha hb)
theorem shl_i64 {p : Nat} (hp : p < 62) : shl .i64 1 (p : Int) = ((2 ^ p : Nat) : Int) := by
  have h2 : (2 : Nat) ^ p < 2 ^ 62 := Nat.pow_lt_pow_right (by omega) hp
  have e : min ((p : Int).toNat) 64 = p := by omega
  show IntKind.i64.wrap (1 * 2 ^ min ((p : Int).toNat) 64) = _
  rw [e, Int.one_mul]
  have := wrap_i64 h2
  rw [Int.natCast_pow] at this ⊢
  exact this
theorem shr_i64 {s p : Nat} (hp : p < 62) : shr .i64 (s : Int) (p : Int) = ((s / 2 ^ p : Nat) : Int) := by
  show (s : Int) / 2 ^ min ((p : Int).toNat) 64 = _
  have e : min ((p : Int).toNat) 64 = p := by omega
  rw [e, Int.natCast_ediv, Int.natCast_pow]
  rfl
theorem in_ref {s p : Nat} (hs : s < 2 ^ 62) (hp : p < 62) : thermionref04_in.f (s : Int) (p : Int) = some (s.testBit p) := by
  unfold thermionref04_in.f
  rw [if_pos (by omega), shr_i64 hp]
  have h1 : s / 2 ^ p < 2 ^ 62 := Nat.lt_of_le_of_lt (Nat.div_le_self _ _) hs
  have := and_i64 h1 (b := 1) (by omega)
  rw [show ((1 : Nat) : Int) = 1 from rfl] at this
  rw [this, Nat.testBit_eq_decide_div_mod_eq, Nat.and_one_is_mod]
  congr 1
  by_cases q : s / 2 ^ p % 2 = 1
  · rw [q]; simp
  · rw [decide_eq_false q]
    have : s / 2 ^ p % 2 = 0 := by omega
    rw [this]; rfl
theorem bit_ref {s p : Nat} (hs : s < 2 ^ 62) (hp : p < 62) : Go.bits .or .i64 (s : Int) (shl .i64 1 (p : Int)) = ((s ||| 2 ^ p : Nat) : Int) := by
  rw [shl_i64 hp]
  exact or_i64 hs (Nat.pow_lt_pow_right (by omega) hp)
/-! The state. -/
theorem setN_snoc (l : List Int) (x : Int) : setN (l ++ [x]) = setN l ||| 2 ^ x.toNat := by simp [setN]
theorem state_loop {L : List S57} (hL : L.length ≤ 14) (c : Int) (l : List Int) (hl : l.length ≤ 1000) : ∀ d i K, i + d = l.length → d + 1 ≤ K → (∀ j, j < i → inErr L.length l j = 0) →
    thermionref04_checkState.l0 K l ((setN (l.take i) : Nat) : Int) (i : Int) L c = some (if firstErr (inErr L.length l) l.length = 0 then (((setN l : Nat) : Int), 0) else (0, firstErr (inErr L.length l) l.length))
  | 0, i, K, hi, hK, hz => by
    obtain ⟨K, rfl⟩ : ∃ m, K = m + 1 := ⟨K - 1, by omega⟩
    obtain rfl : i = l.length := by omega
    rw [thermionref04_checkState.l0, if_neg (by omega), firstErr_ok hz, if_pos rfl, List.take_length]
  | d + 1, i, K, hi, hK, hz => by
    obtain ⟨K, rfl⟩ : ∃ m, K = m + 1 := ⟨K - 1, by omega⟩
    have hil : i < l.length := by omega
    have hw : wrap64 ((L.length : Int) - 1) = (L.length : Int) - 1 := IntWalk.wrap64_in _ (by omega)
    have hv : wrap64 ((i : Int) - 1) = (i : Int) - 1 := IntWalk.wrap64_in _ (by omega)
    have ht : setN (l.take i) < 2 ^ 14 := setN_lt _ (fun p hp => by
      obtain ⟨j, hj, rfl⟩ := List.mem_iff_getElem.1 hp
      have hji : j < i := by rw [List.length_take] at hj; omega
      have := inErr_ok (hz j hji)
      rw [List.getElem_take]
      have e : l.getD j 0 = l[j]'(by omega) := by simp [List.getD_eq_getElem?_getD, show j < l.length by omega]
      rw [e] at this
      omega)
    rw [thermionref04_checkState.l0, if_pos (by omega), if_pos (by omega), within_all, Option.bind_some, hw, wrap_up i (by omega), hv, rd_get]
    have hx : l.getD i 0 = l[i] := by simp [List.getD_eq_getElem?_getD, hil]
    have hgo : inErr L.length l i = 0 → thermionref04_checkState.l0 K l (Go.bits .or .i64 ((setN (l.take i) : Nat) : Int) (shl .i64 1 (l.getD i 0))) ((i + 1 : Nat) : Int) L c = some (if firstErr (inErr L.length l) l.length = 0 then (((setN l : Nat) : Int), 0) else (0, firstErr (inErr L.length l) l.length)) := fun h0 => by
      have hb := inErr_ok h0
      obtain ⟨p, hp⟩ : ∃ p : Nat, l.getD i 0 = p := ⟨(l.getD i 0).toNat, by omega⟩
      rw [hp, bit_ref (by omega) (by omega)]
      have e : setN (l.take (i + 1)) = setN (l.take i) ||| 2 ^ p := by
        rw [List.take_add_one, List.getElem?_eq_getElem hil, Option.toList_some, setN_snoc, ← hx, hp]
        rfl
      rw [← e]
      refine state_loop hL c l hl d (i + 1) K (by omega) (by omega) (fun j hj => ?_)
      by_cases e2 : j = i
      · rw [e2]; exact h0
      · exact hz j (by omega)
    by_cases q1 : l.getD i 0 < 0 ∨ (L.length : Int) - 1 < l.getD i 0
    · have e7 : inErr L.length l i = 7 := by unfold inErr; rw [if_pos q1]
      rw [decide_eq_false (by omega), if_neg (by simp), firstErr_at hil hz (by rw [e7]; decide), e7, if_neg (by decide)]
    · rw [decide_eq_true (by omega), if_pos rfl]
      by_cases q3 : 0 < i
      · rw [if_pos (by omega), if_pos (by omega), if_pos (by omega), show (i : Int) - 1 = ((i - 1 : Nat) : Int) by omega, rd_get]
        by_cases q4 : l.getD i 0 ≤ l.getD (i - 1) 0
        · have e11 : inErr L.length l i = 11 := by unfold inErr; rw [if_neg q1, if_pos ⟨q3, q4⟩]
          rw [if_pos q4, firstErr_at hil hz (by rw [e11]; decide), e11, if_neg (by decide)]
        · rw [if_neg q4, if_pos (by omega)]
          exact hgo (by unfold inErr; rw [if_neg q1, if_neg (fun h => q4 h.2)])
      · rw [if_neg (by omega), if_pos (by omega)]
        exact hgo (by unfold inErr; rw [if_neg q1, if_neg (fun h => q3 h.1)])
theorem state_ref {L : List S57} (hs : Short L) (c : Int) (l : List Int) (hl : l.length ≤ 1000) {K : Nat} (hK : 2000 ≤ K) : thermionref04_checkState.f K L c l = some (if stErr L c l = 0 then (((setN l : Nat) : Int), 0) else (0, stErr L c l)) := by
  unfold thermionref04_checkState.f
  rw [kit_ref hs c (by omega), Option.bind_some]
  have hval : stErr L c l = if kitErr L c ≠ 0 then kitErr L c else firstErr (inErr L.length l) l.length := rfl
  by_cases q : kitErr L c = 0
  · rw [if_neg (fun h => h q)] at hval
    rw [hval, if_pos q]
    have hL : L.length ≤ 14 := (kitErr_fine q).short
    exact state_loop hL c l hl l.length 0 K (by omega) (by omega) (fun j hj => absurd hj (by omega))
  · rw [if_pos q] at hval
    rw [hval, if_neg q, if_neg q]
/-! What may go in. -/
theorem rd_at2 (l : List Int) (i : Nat) (hi : i < l.length) : rd l (i : Int) = l[i] := by simp [rd, hi]
theorem may_bars {n : Nat} (hn : n ≤ 14) {s p : Nat} (hs : s < 2 ^ 14) (hp : p < 14) (N B : List Int) (x y : Int) (hB : ∀ b, b ∈ B → 0 ≤ b ∧ b < 14) (hl : B.length ≤ 1000) : ∀ d i K, i + d = B.length → d + 1 ≤ K →
    thermionref04_may.l1 K (s : Int) (p : Int) (i : Int) N B x y = some ((B.drop i).all (fun b => !s.testBit b.toNat) && !s.testBit p)
  | 0, i, K, hi, hK => by
    obtain ⟨K, rfl⟩ : ∃ m, K = m + 1 := ⟨K - 1, by omega⟩
    rw [thermionref04_may.l1, if_neg (by omega), in_ref (by omega) (by omega), Option.bind_some, List.drop_eq_nil_of_le (by omega)]
    rfl
  | d + 1, i, K, hi, hK => by
    obtain ⟨K, rfl⟩ : ∃ m, K = m + 1 := ⟨K - 1, by omega⟩
    have hil : i < B.length := by omega
    have hb := hB B[i] (List.getElem_mem _)
    obtain ⟨b, e⟩ : ∃ b : Nat, B[i] = b := ⟨B[i].toNat, by omega⟩
    rw [thermionref04_may.l1, if_pos (by omega), if_pos (by omega), rd_at2 B i hil, e, in_ref (by omega) (by omega), Option.bind_some, wrap_up i (by omega), List.drop_eq_getElem_cons hil, List.all_cons, e]
    cases ht : s.testBit b with
    | true => simp [ht]
    | false =>
      rw [if_neg (by simp), may_bars hn hs hp N B x y hB hl d (i + 1) K (by omega) (by omega)]
      simp [ht]
theorem may_needs {n : Nat} (hn : n ≤ 14) {s p : Nat} (hs : s < 2 ^ 14) (hp : p < 14) (N B : List Int) (x y : Int) (hN : ∀ b, b ∈ N → 0 ≤ b ∧ b < 14) (hB : ∀ b, b ∈ B → 0 ≤ b ∧ b < 14) (hl : N.length ≤ 1000) (hl2 : B.length ≤ 1000) : ∀ d i K, i + d = N.length → d + B.length + 2 ≤ K →
    thermionref04_may.l0 K (s : Int) (p : Int) (i : Int) N B x y = some ((N.drop i).all (fun b => s.testBit b.toNat) && (B.all (fun b => !s.testBit b.toNat) && !s.testBit p))
  | 0, i, K, hi, hK => by
    obtain ⟨K, rfl⟩ : ∃ m, K = m + 1 := ⟨K - 1, by omega⟩
    rw [thermionref04_may.l0, if_neg (by omega), List.drop_eq_nil_of_le (by omega)]
    have := may_bars hn hs hp N B x y hB hl2 B.length 0 K (by omega) (by omega)
    rw [List.drop_zero] at this
    simpa using this
  | d + 1, i, K, hi, hK => by
    obtain ⟨K, rfl⟩ : ∃ m, K = m + 1 := ⟨K - 1, by omega⟩
    have hil : i < N.length := by omega
    have hb := hN N[i] (List.getElem_mem _)
    obtain ⟨b, e⟩ : ∃ b : Nat, N[i] = b := ⟨N[i].toNat, by omega⟩
    rw [thermionref04_may.l0, if_pos (by omega), if_pos (by omega), rd_at2 N i hil, e, in_ref (by omega) (by omega), Option.bind_some, wrap_up i (by omega), List.drop_eq_getElem_cons hil, List.all_cons, e]
    cases ht : s.testBit b with
    | false => simp [ht]
    | true =>
      rw [if_pos rfl, may_needs hn hs hp N B x y hN hB hl hl2 d (i + 1) K (by omega) (by omega)]
      simp [ht]
theorem all_needs {s : Nat} (N : List Int) (hN : ∀ b, b ∈ N → 0 ≤ b) : N.all (fun b => s.testBit b.toNat) = (s &&& setN N == setN N) := by
  rw [Bool.eq_iff_iff, List.all_eq_true, beq_iff_eq]
  constructor
  · intro h
    apply Nat.eq_of_testBit_eq
    intro q
    rw [Nat.testBit_and, testBit_setN N q hN]
    by_cases m : (q : Int) ∈ N
    · have := h _ m
      rw [show ((q : Int)).toNat = q by omega] at this
      simp [m, this]
    · simp [m]
  · intro h b hb
    have := congrArg (fun x => x.testBit b.toNat) h
    simp only [Nat.testBit_and] at this
    rw [testBit_setN N b.toNat hN, show ((b.toNat : Nat) : Int) = b by have := hN b hb; omega, decide_eq_true hb] at this
    simpa using this
theorem all_bars {s : Nat} (B : List Int) (hB : ∀ b, b ∈ B → 0 ≤ b) : B.all (fun b => !s.testBit b.toNat) = (s &&& setN B == 0) := by
  rw [Bool.eq_iff_iff, List.all_eq_true, beq_iff_eq]
  constructor
  · intro h
    apply Nat.eq_of_testBit_eq
    intro q
    rw [Nat.testBit_and, testBit_setN B q hB, Nat.zero_testBit]
    by_cases m : (q : Int) ∈ B
    · have := h _ m
      rw [show ((q : Int)).toNat = q by omega] at this
      have h2 : s.testBit q = false := by simpa using this
      rw [h2]
      rfl
    · simp [m]
  · intro h b hb
    have := congrArg (fun x => x.testBit b.toNat) h
    simp only [Nat.testBit_and, Nat.zero_testBit] at this
    rw [testBit_setN B b.toNat hB, show ((b.toNat : Nat) : Int) = b by have := hB b hb; omega, decide_eq_true hb] at this
    have h2 : s.testBit b.toNat = false := by simpa using this
    rw [h2]
    rfl
theorem may_ref {L : List S57} (hF : Fine L) (hs : Short L) (c : Int) {s p : Nat} (hss : s < 2 ^ L.length) (hp : p < L.length) {K : Nat} (hK : 300 ≤ K) : thermionref04_may.f K L c (s : Int) (p : Int) = some (canGo L s p) := by
  have hsm := hF.small
  have h14 := hF.short
  have hsp := hs p
  have hN := hF.needs p hp
  have hB := hF.bars p hp
  unfold thermionref04_may.f
  rw [if_pos (by omega), if_pos (by omega), rd57]
  have := may_needs (n := L.length) h14 (s := s) (p := p) (by omega) (by omega) (L.getD p z57).f0 (L.getD p z57).f1 (L.getD p z57).f2 (L.getD p z57).f3 (fun b hb => by have := hN b hb; omega) (fun b hb => by have := hB b hb; omega) (by omega) (by omega) (L.getD p z57).f0.length 0 K (by omega) (by omega)
  rw [List.drop_zero, all_needs _ (fun b hb => (hN b hb).1), all_bars _ (fun b hb => (hB b hb).1)] at this
  refine (show _ = _ from this).trans ?_
  unfold canGo needsN barsN
  congr 1
  cases s.testBit p <;> cases (s &&& setN (L.getD p z57).f0 == setN (L.getD p z57).f0) <;> cases (s &&& setN (L.getD p z57).f1 == 0) <;> rfl
theorem May_loop {L : List S57} (hF : Fine L) (hs : Short L) (c : Int) {s : Nat} (hss : s < 2 ^ L.length) : ∀ d i K, i + d = L.length → 300 + d + 1 ≤ K → thermionref04_May.l0 K (s : Int) (ints (partsTo L s (fun _ => true) i)) (i : Int) L c = some (ints (partsOf L s (fun _ => true)), 0)
  | 0, i, K, hi, hK => by
    obtain ⟨K, rfl⟩ : ∃ m, K = m + 1 := ⟨K - 1, by omega⟩
    obtain rfl : i = L.length := by omega
    rw [thermionref04_May.l0, if_neg (by omega)]
    rfl
  | d + 1, i, K, hi, hK => by
    obtain ⟨K, rfl⟩ : ∃ m, K = m + 1 := ⟨K - 1, by omega⟩
    have h14 := hF.short
    have hlen := partsTo_length L s (fun _ => true) i
    have ih := May_loop hF hs c hss d (i + 1) K (by omega) (by omega)
    rw [partsTo_next] at ih
    rw [thermionref04_May.l0, if_pos (by omega), may_ref hF hs c hss (by omega) (by omega), Option.bind_some, wrap_up i (by omega)]
    cases hc : canGo L s i with
    | true =>
      rw [hc] at ih
      rw [if_pos rfl, if_pos (by simp [ints]; omega)]
      simpa [ints] using ih
    | false =>
      rw [hc] at ih
      rw [if_neg (by simp)]
      simpa [ints] using ih
theorem May_ref {L : List S57} (hs : Short L) (c : Int) (l : List Int) (hl : l.length ≤ 1000) {K : Nat} (hK : 2000 ≤ K) : thermionref04_May.f K L c l = some (if stErr L c l = 0 then (ints (partsOf L (setN l) (fun _ => true)), 0) else ([], stErr L c l)) := by
  unfold thermionref04_May.f
  rw [state_ref hs c l hl hK, Option.bind_some]
  by_cases q : stErr L c l = 0
  · rw [if_pos q, if_pos q, if_pos rfl]
    have hk : kitErr L c = 0 := by
      by_cases r : kitErr L c = 0
      · exact r
      · unfold stErr at q; rw [if_pos r] at q; exact absurd q r
    have hF := kitErr_fine hk
    have h14 := hF.short
    have hst : firstErr (inErr L.length l) l.length = 0 := by unfold stErr at q; rw [if_neg (fun h => h hk)] at q; exact q
    have hlt : setN l < 2 ^ L.length := setN_lt _ (fun p hp => by
      obtain ⟨j, hj, rfl⟩ := List.mem_iff_getElem.1 hp
      have := inErr_ok (firstErr_zero hst j hj)
      have e : l.getD j 0 = l[j] := by simp [List.getD_eq_getElem?_getD, hj]
      rw [e] at this
      omega)
    exact May_loop hF hs c hlt L.length 0 K (by omega) (by omega)
  · rw [if_neg q, if_neg q, if_neg q]
end Go.Proofs.Ytbcfphoheijmdaa.Print
end

section
/- Plain laws: the reference's table of orders, its Guard and its Orders give what the program's give. -/
namespace Go.Proofs.Ytbcfphoheijmdaa.Print
open Go.RowKit Go.Proofs.YtbcfphoheijmdaaW.PrintWords Go.Proofs.YtbcfphoheijmdaaW.PrintLast Go.Proofs.YtbcfphoheijmdaaW.PrintMore Go.Proofs.Ytbcfphoheijmdaa.H
set_option linter.unusedVariables false
set_option linter.unusedSimpArgs false

def tab (n : Nat) (f : Nat → Int) : List Int := (List.range n).map f
@[simp] theorem tab_length (n : Nat) (f : Nat → Int) : (tab n f).length = n := by simp [tab]
theorem tab_rd {n : Nat} {f : Nat → Int} {i : Nat} (h : i < n) : rd (tab n f) (i : Int) = f i := by
  rw [rd_get]
  simp [tab, List.getD_eq_getElem?_getD, h]
theorem tab_set {n : Nat} {f : Nat → Int} {i : Nat} (v : Int) : (tab n f).set i v = tab n (fun t => if t = i then v else f t) := by
  apply List.ext_getElem?
  intro j
  unfold tab
  rw [List.getElem?_set, List.getElem?_map, List.getElem?_map, List.length_map, List.length_range]
  by_cases hj : j < n
  · rw [List.getElem?_range hj]
    by_cases e : i = j
    · subst e
      simp [hj]
    · rw [if_neg e]
      simp [show ¬ j = i from fun h => e h.symm]
  · rw [List.getElem?_eq_none (by simpa using hj)]
    by_cases e : i = j
    · simp [e, hj]
    · simp [e]
theorem tab_congr {n : Nat} {f g : Nat → Int} (h : ∀ i, i < n → f i = g i) : tab n f = tab n g := by
  unfold tab
  apply List.map_congr_left
  intro i hi
  exact h i (List.mem_range.1 hi)
/-- The table while state s is summed. -/
def gAt (L : List S57) (s : Nat) (a : Int) (t : Nat) : Int := if s < t then waysOf L t else if t = s then a else 0
def hAt (L : List S57) (s : Nat) (t : Nat) : Int := if s ≤ t then waysOf L t else 0
theorem bit_above {s p : Nat} (h : s.testBit p = false) : s < s ||| 2 ^ p := by
  have h1 : s ≤ s ||| 2 ^ p := Nat.left_le_or
  have h2 : s ≠ s ||| 2 ^ p := fun e => by
    have := testBit_with s p p
    rw [← e, h] at this
    simp at this
  omega
theorem canGo_bit {L : List S57} {s p : Nat} (h : canGo L s p = true) : s.testBit p = false := by
  unfold canGo at h
  rw [Bool.and_eq_true, Bool.and_eq_true] at h
  simpa using h.1.1
theorem goods_inner {L : List S57} (hF : Fine L) (hs : Short L) (c : Int) {s : Nat} (hss : s + 1 < 2 ^ L.length) : ∀ d p K, p + d = L.length → 300 + d + 1 ≤ K →
    thermionref04_goods.l1 K (L.length : Int) (tab (2 ^ L.length) (gAt L s (sumW L s (partsTo L s (fun _ => true) p)))) (s : Int) (p : Int) L c = thermionref04_goods.l0 (K - (d + 1)) (L.length : Int) (tab (2 ^ L.length) (hAt L s)) ((s : Int) - 1) L c
  | 0, p, K, hi, hK => by
    obtain ⟨K, rfl⟩ : ∃ m, K = m + 1 := ⟨K - 1, by omega⟩
    obtain rfl : p = L.length := by omega
    have hsm := hF.small
    rw [thermionref04_goods.l1, if_neg (by omega), wrap_down (s : Int) (by omega)]
    have e : tab (2 ^ L.length) (gAt L s (sumW L s (partsTo L s (fun _ => true) L.length))) = tab (2 ^ L.length) (hAt L s) := tab_congr fun i _ => by
      unfold gAt hAt
      by_cases q : s < i
      · rw [if_pos q, if_pos (by omega)]
      · rw [if_neg q]
        by_cases r : i = s
        · subst r
          rw [if_pos rfl, if_pos (Nat.le_refl _), waysOf_step (by omega)]
          rfl
        · rw [if_neg r, if_neg (by omega)]
    rw [e]
    rfl
  | d + 1, p, K, hi, hK => by
    obtain ⟨K, rfl⟩ : ∃ m, K = m + 1 := ⟨K - 1, by omega⟩
    have hsm := hF.small
    have h14 := hF.short
    have ih := goods_inner hF hs c hss d (p + 1) K (by omega) (by omega)
    rw [show K + 1 - (d + 1 + 1) = K - (d + 1) by omega, ← ih]
    rw [thermionref04_goods.l1, if_pos (by omega), may_ref hF hs c (by omega) (by omega) (by omega), Option.bind_some, wrap_up p (by omega), partsTo_next]
    cases hc : canGo L s p with
    | false => rw [if_neg (by simp)]; simp
    | true =>
      have hb := canGo_bit hc
      have h1 := bit_above hb
      have h2 : s ||| 2 ^ p < 2 ^ L.length := with_lt (by omega) (by omega)
      rw [if_pos rfl, bit_ref (by omega) (by omega), tab_length, if_pos (by omega), if_pos (by omega), if_pos (by omega), if_pos (by omega), if_pos (by omega), tab_rd (by omega), tab_rd (by omega)]
      rw [show ((s : Int)).toNat = s by omega, tab_set, if_pos (by simp), sumW_snoc]
      have e1 : gAt L s (sumW L s (partsTo L s (fun _ => true) p)) s = sumW L s (partsTo L s (fun _ => true) p) := by unfold gAt; rw [if_neg (by omega), if_pos rfl]
      have e2 : gAt L s (sumW L s (partsTo L s (fun _ => true) p)) (s ||| 2 ^ p) = waysOf L (s ||| 2 ^ p) := by unfold gAt; rw [if_pos h1]
      rw [e1, e2]
      congr 1
      refine tab_congr fun i _ => ?_
      unfold gAt
      by_cases q : i = s
      · subst q
        rw [if_pos rfl, if_neg (by omega), if_pos rfl]
      · rw [if_neg q, if_neg q, if_neg q]
theorem goods_outer {L : List S57} (hF : Fine L) (hs : Short L) (c : Int) : ∀ (m : Nat) (K : Nat), m < 2 ^ L.length → 400 + 20 * m ≤ K →
    thermionref04_goods.l0 K (L.length : Int) (tab (2 ^ L.length) (hAt L m)) ((m : Int) - 1) L c = some (tab (2 ^ L.length) (waysOf L))
  | 0, K, hm, hK => by
    obtain ⟨K, rfl⟩ : ∃ m, K = m + 1 := ⟨K - 1, by omega⟩
    rw [thermionref04_goods.l0, if_neg (by omega)]
    congr 1
  | m + 1, K, hm, hK => by
    obtain ⟨K, rfl⟩ : ∃ m, K = m + 1 := ⟨K - 1, by omega⟩
    have h14 := hF.short
    have ih := goods_outer hF hs c m (K - (L.length + 1)) (by omega) (by omega)
    rw [thermionref04_goods.l0, if_pos (by omega), show ((m + 1 : Nat) : Int) - 1 = (m : Int) by omega]
    have := goods_inner hF hs c (s := m) (by omega) L.length 0 K (by omega) (by omega)
    rw [← this] at ih
    refine Eq.trans ?_ ih
    have e : tab (2 ^ L.length) (hAt L (m + 1)) = tab (2 ^ L.length) (gAt L m (sumW L m (partsTo L m (fun _ => true) 0))) := tab_congr fun i _ => by
      unfold gAt hAt
      by_cases q : m < i
      · rw [if_pos q, if_pos (by omega)]
      · rw [if_neg q, if_neg (by omega)]
        split <;> rfl
    rw [e]
    rfl
theorem goods_ref {L : List S57} (hF : Fine L) (hs : Short L) (c : Int) {K : Nat} (hK : 400000 ≤ K) : thermionref04_goods.f K L c = some (tab (2 ^ L.length) (waysOf L)) := by
  have h14 := hF.short
  have hsm := hF.small
  have hpos : 1 ≤ 2 ^ L.length := Nat.one_le_two_pow
  have hup : 2 ^ L.length ≤ 2 ^ 14 := Nat.pow_le_pow_right (by omega) h14
  unfold thermionref04_goods.f
  rw [shl_i64 (by omega), if_pos (by omega), if_pos (by omega), Option.bind_some, List.length_replicate]
  have e1 : (((2 ^ L.length : Nat) : Int)).toNat = 2 ^ L.length := by omega
  rw [e1]
  have w1 : wrap64 (((2 ^ L.length : Nat) : Int) - 1) = ((2 ^ L.length - 1 : Nat) : Int) := by rw [IntWalk.wrap64_in _ (by omega)]; omega
  have w2 : wrap64 (((2 ^ L.length : Nat) : Int) - 2) = ((2 ^ L.length - 1 : Nat) : Int) - 1 := by rw [IntWalk.wrap64_in _ (by omega)]; omega
  rw [w1, w2, if_pos (by omega), if_pos (by omega)]
  have e2 : (List.replicate (2 ^ L.length) (0 : Int)).set (((2 ^ L.length - 1 : Nat) : Int)).toNat 1 = tab (2 ^ L.length) (hAt L (2 ^ L.length - 1)) := by
    have e3 : List.replicate (2 ^ L.length) (0 : Int) = tab (2 ^ L.length) (fun _ => 0) := by
      unfold tab
      apply List.ext_getElem
      · simp
      · intro i h1 h2
        simp
    rw [e3, show (((2 ^ L.length - 1 : Nat) : Int)).toNat = 2 ^ L.length - 1 by omega, tab_set]
    refine tab_congr fun i hi => ?_
    unfold hAt
    by_cases q : i = 2 ^ L.length - 1
    · rw [if_pos q, if_pos (by omega), q, waysOf_all]
    · rw [if_neg q, if_neg (by omega)]
  rw [e2]
  exact goods_outer hF hs c _ K (by omega) (by omega)
theorem Guard_loop {L : List S57} (hF : Fine L) (hs : Short L) (c : Int) {s : Nat} (hss : s < 2 ^ L.length) : ∀ d i K, i + d = L.length → 300 + d + 1 ≤ K → thermionref04_Guard.l0 K (s : Int) (tab (2 ^ L.length) (waysOf L)) (ints (partsTo L s (leads L s) i)) (i : Int) L c = some (ints (partsOf L s (leads L s)), 0)
  | 0, i, K, hi, hK => by
    obtain ⟨K, rfl⟩ : ∃ m, K = m + 1 := ⟨K - 1, by omega⟩
    obtain rfl : i = L.length := by omega
    rw [thermionref04_Guard.l0, if_neg (by omega)]
    rfl
  | d + 1, i, K, hi, hK => by
    obtain ⟨K, rfl⟩ : ∃ m, K = m + 1 := ⟨K - 1, by omega⟩
    have h14 := hF.short
    have hsm := hF.small
    have hlen := partsTo_length L s (leads L s) i
    have ih := Guard_loop hF hs c hss d (i + 1) K (by omega) (by omega)
    rw [partsTo_next] at ih
    rw [thermionref04_Guard.l0, if_pos (by omega), may_ref hF hs c hss (by omega) (by omega), Option.bind_some, wrap_up i (by omega)]
    cases hc : canGo L s i with
    | true =>
      rw [hc, Bool.true_and] at ih
      have h2 : s ||| 2 ^ i < 2 ^ L.length := with_lt hss (by omega)
      rw [if_pos rfl, bit_ref (by omega) (by omega), tab_length, if_pos (by omega), if_pos (by omega), if_pos (by omega), tab_rd h2]
      by_cases q : 0 < waysOf L (s ||| 2 ^ i)
      · rw [if_pos q, if_pos (by simp [ints]; omega)]
        have hl : leads L s i = true := decide_eq_true q
        rw [hl] at ih
        simpa [ints] using ih
      · rw [if_neg q]
        have hl : leads L s i = false := decide_eq_false q
        rw [hl] at ih
        simpa [ints] using ih
    | false =>
      rw [hc] at ih
      rw [if_neg (by simp)]
      simpa [ints] using ih
theorem stErr_zero {L : List S57} {c : Int} {l : List Int} (q : stErr L c l = 0) : Fine L ∧ setN l < 2 ^ L.length := ⟨kitErr_fine (stErr_ok q).1, setN_fine q⟩
theorem Guard_ref {L : List S57} (hs : Short L) (c : Int) (l : List Int) (hl : l.length ≤ 1000) {K : Nat} (hK : 400000 ≤ K) : thermionref04_Guard.f K L c l = some (if stErr L c l = 0 then (ints (partsOf L (setN l) (leads L (setN l))), 0) else ([], stErr L c l)) := by
  unfold thermionref04_Guard.f
  rw [state_ref hs c l hl (by omega), Option.bind_some]
  by_cases q : stErr L c l = 0
  · rw [if_pos q, if_pos q, if_pos rfl]
    obtain ⟨hF, hlt⟩ := stErr_zero q
    have h14 := hF.short
    rw [goods_ref hF hs c hK, Option.bind_some]
    exact Guard_loop hF hs c hlt L.length 0 K (by omega) (by omega)
  · rw [if_neg q, if_neg q, if_neg q]
end Go.Proofs.Ytbcfphoheijmdaa.Print
end

section
/- What the Go function thermionlaw04_huge does, as a Lean function, and that its call does so. Printed by a program of this work out of the translation. -/
namespace Go.Proofs.Ytbcfphoheijmdaa.Print
open Go.RowKit Go.Proofs.YtbcfphoheijmdaaW.PrintWords Go.Proofs.YtbcfphoheijmdaaW.PrintLast Go.Proofs.YtbcfphoheijmdaaW.PrintMore
attribute [local go_sem] max2_int min2_int max_two min_two max_three min_three max_four min_four
set_option linter.unusedVariables false
set_option linter.unusedSimpArgs false

/-! ### thermionlaw04_huge: function 34 -/
def thermionlaw04_huge.l0 : Nat → Int → List (S57) → Int → Option (Bool)
 | 0, _, _, _ => none
 | k + 1, x3, x324000, x324001 => if x3 < (x324000.length : Int) then (if 0 ≤ x3 then (if (((rd_T57 x324000 x3).f0).length : Int) > 30 then (some true) else (if (((rd_T57 x324000 x3).f1).length : Int) > 30 then (some true) else (thermionlaw04_huge.l0 k (wrap64 (x3 + 1)) x324000 x324001))) else (none)) else (some false)
def thermionlaw04_huge.f (k : Nat) (l0_0 : List (S57)) (a0_1 : Int) : Option (Bool) := if (l0_0.length : Int) > 20 then (some true) else (thermionlaw04_huge.l0 k 0 l0_0 a0_1)
theorem thermionlaw04_huge.mono_l : ∀ k, (∀ y0 y1 y2, LeO (thermionlaw04_huge.l0 k y0 y1 y2) (thermionlaw04_huge.l0 (k + 1) y0 y1 y2))
 | 0 => fun _ _ _ r h => by simp [thermionlaw04_huge.l0] at h
 | k + 1 => by
  have ih0 := thermionlaw04_huge.mono_l k
  ·intro y0 y1 y2
   unfold thermionlaw04_huge.l0
   repeat' first
   | (with_reducible exact ih0 _ _ _)
   | (with_reducible exact LeO.refl _)
   | (with_reducible exact LeO.none _)
   | (with_reducible refine LeO.ite ?_ ?_)
   | (with_reducible refine LeO.bind ?_ (fun _ => ?_))
   | exact ih0 _ _ _
   | exact LeO.none _
   | refine LeO.ite ?_ ?_
   | refine LeO.bind ?_ (fun _ => ?_)
theorem thermionlaw04_huge.mono : ∀ a0 a1 k, LeO (thermionlaw04_huge.f k a0 a1) (thermionlaw04_huge.f (k + 1) a0 a1) := by
 intro a0 a1 k
 have ih0 := thermionlaw04_huge.mono_l k
 unfold thermionlaw04_huge.f
 repeat' first
   | (with_reducible exact ih0 _ _ _)
   | (with_reducible exact LeO.refl _)
   | (with_reducible exact LeO.none _)
   | (with_reducible refine LeO.ite ?_ ?_)
   | (with_reducible refine LeO.bind ?_ (fun _ => ?_))
   | exact ih0 _ _ _
   | exact LeO.none _
   | refine LeO.ite ?_ ?_
   | refine LeO.bind ?_ (fun _ => ?_)
set_option maxHeartbeats 8000000 in
set_option maxRecDepth 100000 in
theorem thermionlaw04_huge.calls (k : Nat) (A0_0 : Option Addr) (c0_0 : Nat) (l0_0 : List (S57)) (a0_1 : Int) (r : Bool) (w : World) (hr0_0 : Kd.C k57 w A0_0 l0_0.length l0_0) (hc0_0 : l0_0.length ≤ c0_0) (h : thermionlaw04_huge.f k l0_0 a0_1 = some r) :
  Calls Try.prog 34 #[.agg #[.slice A0_0 l0_0.length c0_0, .int .i64 a0_1]] w fun e w' => e = .returned (.bool r) ∧ Below w.heap.size w w' := by
 have hu49 := Try.underlying49
 have HR0_0 := Aside0.mk hr0_0
 have HC0_0 := Aside0.mk hc0_0
 clear hr0_0 hc0_0
 have HB := Aside0.mk (Below.refl w.heap.size w)
 have H : (if (l0_0.length : Int) > 20 then (some true) else (thermionlaw04_huge.l0 k 0 l0_0 a0_1)) = some r := h
 clear h
 by_cases c2 : (l0_0.length : Int) > 20
 ·rw [if_pos c2] at H
  have c2b0 : decide (20 < (l0_0.length : Int)) = true := decide_eq_true c2
  have c2b1 : decide (20 < l0_0.length) = true := decide_eq_true (by omega)
  clear c2
  obtain rfl := Option.some.inj H
  go_enter Try.func34, Try.ntmps34
  go_wp2_with (first | ((with_reducible refine gate_dst (N := 1) rfl ?_); (try (refine gate_guard (by rfl) ?_; dsimp only)); refine box_event ?hg (N := 1) ?hd (cs := #[.slice A0_0 l0_0.length c0_0, .int .i64 a0_1]) (t := 49) ?hr ?_; (case hd => rfl); (case hg => rfl); (case hr => first | (go_simp; done) | (go_simp; rfl)); intro gb323 hg w3 hbox hb; have n0_ := Aside0.mk (below_step (by repeat (first | (with_reducible first | exact HB.out | apply below_alloc | apply pw_below_drewN | apply below_drew1) | exact HB.out)) hb); have n1_ := Aside0.mk (hbox); have n2_ := Aside0.mk ((by rw [hg]; exact (below_size (by repeat (first | (with_reducible first | exact HB.out | apply below_alloc | apply pw_below_drewN | apply below_drew1) | exact HB.out))) : w.heap.size ≤ gb323)); have n3_ := Aside0.mk ((by rw [hg]; exact (below_size (by repeat (first | (with_reducible first | exact HB.out | apply below_alloc | apply pw_below_drewN | apply below_drew1) | exact HB.out))) : w.heap.size ≤ gb323)); clear HB; have HB := n0_; have BK323 := n1_; have GW323 := n2_; have GE323 := n3_; clear n0_ n1_ n2_ n3_; clear hb hbox hg; have hcz4_0 : w3.cell? ⟨gb323, 0, none⟩ = some (.slice A0_0 l0_0.length c0_0) := (blk_cell BK323.out 0).trans rfl; have hcz4_1 : w3.cell? ⟨gb323, 1, none⟩ = some (.int .i64 a0_1) := (blk_cell BK323.out 1).trans rfl; have hfz4_0 := blk_frozen BK323.out 0; have hfz4_1 := blk_frozen BK323.out 1))
  go_ret
  exact ⟨by first | rfl | (simp [errW_none, errW_some] <;> rfl) | (simp [*, errW_none, errW_some] <;> rfl), by repeat (first | (with_reducible first | exact HB.out | apply below_alloc | apply pw_below_drewN | apply below_drew1 | refine below_set ?_ GE323.out) | exact HB.out)⟩
 ·rw [if_neg c2] at H
  have c2b0 : decide (20 < (l0_0.length : Int)) = false := decide_eq_false c2
  have c2b1 : decide (20 < l0_0.length) = false := decide_eq_false (by omega)
  clear c2
  have H' := Aside0.mk H
  clear H
  go_enter Try.func34, Try.ntmps34
  go_wp2_with (first | ((with_reducible refine gate_dst (N := 1) rfl ?_); (try (refine gate_guard (by rfl) ?_; dsimp only)); refine box_event ?hg (N := 1) ?hd (cs := #[.slice A0_0 l0_0.length c0_0, .int .i64 a0_1]) (t := 49) ?hr ?_; (case hd => rfl); (case hg => rfl); (case hr => first | (go_simp; done) | (go_simp; rfl)); intro gb323 hg w5 hbox hb; have n0_ := Aside0.mk (below_step (by repeat (first | (with_reducible first | exact HB.out | apply below_alloc | apply pw_below_drewN | apply below_drew1) | exact HB.out)) hb); have n1_ := Aside0.mk (hbox); have n2_ := Aside0.mk ((by rw [hg]; exact (below_size (by repeat (first | (with_reducible first | exact HB.out | apply below_alloc | apply pw_below_drewN | apply below_drew1) | exact HB.out))) : w.heap.size ≤ gb323)); have n3_ := Aside0.mk ((by rw [hg]; exact (below_size (by repeat (first | (with_reducible first | exact HB.out | apply below_alloc | apply pw_below_drewN | apply below_drew1) | exact HB.out))) : w.heap.size ≤ gb323)); clear HB; have HB := n0_; have BK323 := n1_; have GW323 := n2_; have GE323 := n3_; clear n0_ n1_ n2_ n3_; clear hb hbox hg; have hcz6_0 : w5.cell? ⟨gb323, 0, none⟩ = some (.slice A0_0 l0_0.length c0_0) := (blk_cell BK323.out 0).trans rfl; have hcz6_1 : w5.cell? ⟨gb323, 1, none⟩ = some (.int .i64 a0_1) := (blk_cell BK323.out 1).trans rfl; have hfz6_0 := blk_frozen BK323.out 0; have hfz6_1 := blk_frozen BK323.out 1))
  go_loopg [3] k (fun kq v3 w' => ∃ (x3_1 : Int), v3 = .int .i64 x3_1 ∧ Aside0 (thermionlaw04_huge.l0 kq x3_1 l0_0 a0_1 = some r) ∧ Aside0 (kq ≤ k) ∧ Aside0 (w'.heap[gb323]? = some (.cells #[(.slice A0_0 l0_0.length c0_0), .int .i64 a0_1] 49 (0, 0))) ∧ Aside0 (Below w.heap.size w w'))
  case atStart => exact ⟨(0), (by first | rfl | (simp; done) | (simp [*]; done)), H', ⟨Nat.le_refl _⟩, ⟨by (with_reducible repeat (first | refine blk_drewN ?_ _ | refine blk_drew ?_ | refine blk_alloc ?_ _)); exact BK323.out⟩, ⟨by repeat (first | (with_reducible first | exact HB.out | apply below_alloc | apply pw_below_drewN | apply below_drew1 | refine below_set ?_ GE323.out) | exact HB.out)⟩⟩
  case round =>
   clear H'
   try clear c2
   try clear c2b0
   try clear c2b1
   try clear p2
   try clear c3
   try clear hcz4_0
   try clear hcz4_1
   try clear hcz6_0
   try clear hcz6_1
   try clear hfz4_0
   try clear hfz4_1
   try clear hfz6_0
   try clear hfz6_1
   obtain ⟨x3_1, rfl, HA, HK1, BK323, HB⟩ := hrel
   cases gk with
   | zero => exact absurd HA.out (by simp [thermionlaw04_huge.l0])
   | succ k1 =>
    have H := HA.out
    clear HA
    simp only [thermionlaw04_huge.l0] at H
    by_cases c7 : x3_1 < (l0_0.length : Int)
    ·rw [if_pos c7] at H
     have c7b0 : decide (x3_1 < (l0_0.length : Int)) = true := decide_eq_true c7
     clear c7
     by_cases c8 : 0 ≤ x3_1
     ·rw [if_pos c8] at H
      have c8b0 : decide (0 ≤ x3_1) = true := decide_eq_true c8
      clear c8
      by_cases c9 : (((rd_T57 l0_0 x3_1).f0).length : Int) > 30
      ·rw [if_pos c9] at H
       have c9b0 : decide (30 < (((rd_T57 l0_0 x3_1).f0).length : Int)) = true := decide_eq_true c9
       have c9b1 : decide (30 < ((rd_T57 l0_0 x3_1).f0).length) = true := decide_eq_true (by omega)
       clear c9
       obtain rfl := Option.some.inj H
       have hcz10_0 : wr.cell? ⟨gb323, 0, none⟩ = some (.slice A0_0 l0_0.length c0_0) := (blk_cell BK323.out 0).trans rfl
       have hcz10_1 : wr.cell? ⟨gb323, 1, none⟩ = some (.int .i64 a0_1) := (blk_cell BK323.out 1).trans rfl
       have hfz10_0 := blk_frozen BK323.out 0
       have hfz10_1 := blk_frozen BK323.out 1
       have p324 : 0 ≤ (x3_1 : Int) := of_decide_eq_true (by first | (with_reducible assumption) | assumption)
       have q324 : x3_1 < (l0_0.length : Int) := of_decide_eq_true (by first | (with_reducible assumption) | assumption)
       obtain ⟨ad324, A324_0, c324_0, A324_1, c324_1, e324, hx324_0, hx324_1, hx324_2, hx324_3, hl324_0, hi324_0, hl324_1, hi324_1⟩ := at_T57 HR0_0.out x3_1 p324 q324
       cases e324
       replace hx324_0 := (HB.out.cell (World.block_lt_of_cell? w _ hx324_0)).trans hx324_0
       replace hx324_1 := (HB.out.cell (World.block_lt_of_cell? w _ hx324_1)).trans hx324_1
       replace hx324_2 := (HB.out.cell (World.block_lt_of_cell? w _ hx324_2)).trans hx324_2
       replace hx324_3 := (HB.out.cell (World.block_lt_of_cell? w _ hx324_3)).trans hx324_3
       have HR324_0 := Aside0.mk hi324_0
       have HC324_0 := Aside0.mk hl324_0
       clear hi324_0 hl324_0
       have HR324_1 := Aside0.mk hi324_1
       have HC324_1 := Aside0.mk hl324_1
       clear hi324_1 hl324_1
       replace p324 := eq_true p324
       replace q324 := eq_true q324
       go_wp2
       go_ret
       exact ⟨by first | rfl | (simp [errW_none, errW_some] <;> rfl) | (simp [*, errW_none, errW_some] <;> rfl), by repeat (first | (with_reducible first | exact HB.out | apply below_alloc | apply pw_below_drewN | apply below_drew1 | refine below_set ?_ GE323.out) | exact HB.out)⟩
      ·rw [if_neg c9] at H
       have c9b0 : decide (30 < (((rd_T57 l0_0 x3_1).f0).length : Int)) = false := decide_eq_false c9
       have c9b1 : decide (30 < ((rd_T57 l0_0 x3_1).f0).length) = false := decide_eq_false (by omega)
       clear c9
       by_cases c11 : (((rd_T57 l0_0 x3_1).f1).length : Int) > 30
       ·rw [if_pos c11] at H
        have c11b0 : decide (30 < (((rd_T57 l0_0 x3_1).f1).length : Int)) = true := decide_eq_true c11
        have c11b1 : decide (30 < ((rd_T57 l0_0 x3_1).f1).length) = true := decide_eq_true (by omega)
        clear c11
        obtain rfl := Option.some.inj H
        have hcz12_0 : wr.cell? ⟨gb323, 0, none⟩ = some (.slice A0_0 l0_0.length c0_0) := (blk_cell BK323.out 0).trans rfl
        have hcz12_1 : wr.cell? ⟨gb323, 1, none⟩ = some (.int .i64 a0_1) := (blk_cell BK323.out 1).trans rfl
        have hfz12_0 := blk_frozen BK323.out 0
        have hfz12_1 := blk_frozen BK323.out 1
        have p324 : 0 ≤ (x3_1 : Int) := of_decide_eq_true (by first | (with_reducible assumption) | assumption)
        have q324 : x3_1 < (l0_0.length : Int) := of_decide_eq_true (by first | (with_reducible assumption) | assumption)
        obtain ⟨ad324, A324_0, c324_0, A324_1, c324_1, e324, hx324_0, hx324_1, hx324_2, hx324_3, hl324_0, hi324_0, hl324_1, hi324_1⟩ := at_T57 HR0_0.out x3_1 p324 q324
        cases e324
        replace hx324_0 := (HB.out.cell (World.block_lt_of_cell? w _ hx324_0)).trans hx324_0
        replace hx324_1 := (HB.out.cell (World.block_lt_of_cell? w _ hx324_1)).trans hx324_1
        replace hx324_2 := (HB.out.cell (World.block_lt_of_cell? w _ hx324_2)).trans hx324_2
        replace hx324_3 := (HB.out.cell (World.block_lt_of_cell? w _ hx324_3)).trans hx324_3
        have HR324_0 := Aside0.mk hi324_0
        have HC324_0 := Aside0.mk hl324_0
        clear hi324_0 hl324_0
        have HR324_1 := Aside0.mk hi324_1
        have HC324_1 := Aside0.mk hl324_1
        clear hi324_1 hl324_1
        replace p324 := eq_true p324
        replace q324 := eq_true q324
        have p325 : 0 ≤ (x3_1 : Int) := of_decide_eq_true (by first | (with_reducible assumption) | assumption)
        have q325 : x3_1 < (l0_0.length : Int) := of_decide_eq_true (by first | (with_reducible assumption) | assumption)
        obtain ⟨ad325, A325_0, c325_0, A325_1, c325_1, e325, hx325_0, hx325_1, hx325_2, hx325_3, hl325_0, hi325_0, hl325_1, hi325_1⟩ := at_T57 HR0_0.out x3_1 p325 q325
        obtain rfl : ad324 = ad325 := (by injection e325)
        replace hx325_0 := (HB.out.cell (World.block_lt_of_cell? w _ hx325_0)).trans hx325_0
        replace hx325_1 := (HB.out.cell (World.block_lt_of_cell? w _ hx325_1)).trans hx325_1
        replace hx325_2 := (HB.out.cell (World.block_lt_of_cell? w _ hx325_2)).trans hx325_2
        replace hx325_3 := (HB.out.cell (World.block_lt_of_cell? w _ hx325_3)).trans hx325_3
        have HR325_0 := Aside0.mk hi325_0
        have HC325_0 := Aside0.mk hl325_0
        clear hi325_0 hl325_0
        have HR325_1 := Aside0.mk hi325_1
        have HC325_1 := Aside0.mk hl325_1
        clear hi325_1 hl325_1
        replace p325 := eq_true p325
        replace q325 := eq_true q325
        have ea_ := Option.some.inj (hx324_0.symm.trans hx325_0)
        injection ea_ with ea_ en_ ec_
        subst ea_
        subst ec_
        clear en_
        have ea_ := Option.some.inj (hx324_1.symm.trans hx325_1)
        injection ea_ with ea_ en_ ec_
        subst ea_
        subst ec_
        clear en_
        go_wp2
        go_ret
        exact ⟨by first | rfl | (simp [errW_none, errW_some] <;> rfl) | (simp [*, errW_none, errW_some] <;> rfl), by repeat (first | (with_reducible first | exact HB.out | apply below_alloc | apply pw_below_drewN | apply below_drew1 | refine below_set ?_ GE323.out) | exact HB.out)⟩
       ·rw [if_neg c11] at H
        have c11b0 : decide (30 < (((rd_T57 l0_0 x3_1).f1).length : Int)) = false := decide_eq_false c11
        have c11b1 : decide (30 < ((rd_T57 l0_0 x3_1).f1).length) = false := decide_eq_false (by omega)
        clear c11
        have H' := Aside0.mk H
        clear H
        have hcz13_0 : wr.cell? ⟨gb323, 0, none⟩ = some (.slice A0_0 l0_0.length c0_0) := (blk_cell BK323.out 0).trans rfl
        have hcz13_1 : wr.cell? ⟨gb323, 1, none⟩ = some (.int .i64 a0_1) := (blk_cell BK323.out 1).trans rfl
        have hfz13_0 := blk_frozen BK323.out 0
        have hfz13_1 := blk_frozen BK323.out 1
        have p324 : 0 ≤ (x3_1 : Int) := of_decide_eq_true (by first | (with_reducible assumption) | assumption)
        have q324 : x3_1 < (l0_0.length : Int) := of_decide_eq_true (by first | (with_reducible assumption) | assumption)
        obtain ⟨ad324, A324_0, c324_0, A324_1, c324_1, e324, hx324_0, hx324_1, hx324_2, hx324_3, hl324_0, hi324_0, hl324_1, hi324_1⟩ := at_T57 HR0_0.out x3_1 p324 q324
        cases e324
        replace hx324_0 := (HB.out.cell (World.block_lt_of_cell? w _ hx324_0)).trans hx324_0
        replace hx324_1 := (HB.out.cell (World.block_lt_of_cell? w _ hx324_1)).trans hx324_1
        replace hx324_2 := (HB.out.cell (World.block_lt_of_cell? w _ hx324_2)).trans hx324_2
        replace hx324_3 := (HB.out.cell (World.block_lt_of_cell? w _ hx324_3)).trans hx324_3
        have HR324_0 := Aside0.mk hi324_0
        have HC324_0 := Aside0.mk hl324_0
        clear hi324_0 hl324_0
        have HR324_1 := Aside0.mk hi324_1
        have HC324_1 := Aside0.mk hl324_1
        clear hi324_1 hl324_1
        replace p324 := eq_true p324
        replace q324 := eq_true q324
        have p325 : 0 ≤ (x3_1 : Int) := of_decide_eq_true (by first | (with_reducible assumption) | assumption)
        have q325 : x3_1 < (l0_0.length : Int) := of_decide_eq_true (by first | (with_reducible assumption) | assumption)
        obtain ⟨ad325, A325_0, c325_0, A325_1, c325_1, e325, hx325_0, hx325_1, hx325_2, hx325_3, hl325_0, hi325_0, hl325_1, hi325_1⟩ := at_T57 HR0_0.out x3_1 p325 q325
        obtain rfl : ad324 = ad325 := (by injection e325)
        replace hx325_0 := (HB.out.cell (World.block_lt_of_cell? w _ hx325_0)).trans hx325_0
        replace hx325_1 := (HB.out.cell (World.block_lt_of_cell? w _ hx325_1)).trans hx325_1
        replace hx325_2 := (HB.out.cell (World.block_lt_of_cell? w _ hx325_2)).trans hx325_2
        replace hx325_3 := (HB.out.cell (World.block_lt_of_cell? w _ hx325_3)).trans hx325_3
        have HR325_0 := Aside0.mk hi325_0
        have HC325_0 := Aside0.mk hl325_0
        clear hi325_0 hl325_0
        have HR325_1 := Aside0.mk hi325_1
        have HC325_1 := Aside0.mk hl325_1
        clear hi325_1 hl325_1
        replace p325 := eq_true p325
        replace q325 := eq_true q325
        have ea_ := Option.some.inj (hx324_0.symm.trans hx325_0)
        injection ea_ with ea_ en_ ec_
        subst ea_
        subst ec_
        clear en_
        have ea_ := Option.some.inj (hx324_1.symm.trans hx325_1)
        injection ea_ with ea_ en_ ec_
        subst ea_
        subst ec_
        clear en_
        go_wp2
        go_roundg k1
        case measure => have := HK1.out; omega
        case rel => exact ⟨(wrap64 (x3_1 + 1)), (by first | rfl | (simp; done) | (simp [*]; done)), H', ⟨by have := HK1.out; omega⟩, ⟨by (with_reducible repeat (first | refine blk_drewN ?_ _ | refine blk_drew ?_ | refine blk_alloc ?_ _)); exact BK323.out⟩, ⟨by repeat (first | (with_reducible first | exact HB.out | apply below_alloc | apply pw_below_drewN | apply below_drew1 | refine below_set ?_ GE323.out) | exact HB.out)⟩⟩
     ·rw [if_neg c8] at H
      exact absurd H (by simp)
    ·rw [if_neg c7] at H
     have c7b0 : decide (x3_1 < (l0_0.length : Int)) = false := decide_eq_false c7
     clear c7
     obtain rfl := Option.some.inj H
     have hcz14_0 : wr.cell? ⟨gb323, 0, none⟩ = some (.slice A0_0 l0_0.length c0_0) := (blk_cell BK323.out 0).trans rfl
     have hcz14_1 : wr.cell? ⟨gb323, 1, none⟩ = some (.int .i64 a0_1) := (blk_cell BK323.out 1).trans rfl
     have hfz14_0 := blk_frozen BK323.out 0
     have hfz14_1 := blk_frozen BK323.out 1
     go_wp2
     go_ret
     exact ⟨by first | rfl | (simp [errW_none, errW_some] <;> rfl) | (simp [*, errW_none, errW_some] <;> rfl), by repeat (first | (with_reducible first | exact HB.out | apply below_alloc | apply pw_below_drewN | apply below_drew1 | refine below_set ?_ GE323.out) | exact HB.out)⟩

end Go.Proofs.Ytbcfphoheijmdaa.Print
end

section
/- What the Go function thermionkit_Same does, as a Lean function, and that its call does so. Printed by a program of this work out of the translation. -/
namespace Go.Proofs.Ytbcfphoheijmdaa.Print
open Go.RowKit Go.Proofs.YtbcfphoheijmdaaW.PrintWords Go.Proofs.YtbcfphoheijmdaaW.PrintLast Go.Proofs.YtbcfphoheijmdaaW.PrintMore
attribute [local go_sem] max2_int min2_int max_two min_two max_three min_three max_four min_four
set_option linter.unusedVariables false
set_option linter.unusedSimpArgs false

/-! ### thermionkit_Same: function 42 -/
def thermionkit_Same.l0 : Nat → List Int → List Int → Int → Option (Bool)
 | 0, _, _, _ => none
 | k + 1, x0, x1, x5 => if x5 < (x0.length : Int) then (if 0 ≤ x5 then (if x5 < (x1.length : Int) then (if (rd x0 x5) = (rd x1 x5) then (thermionkit_Same.l0 k x0 x1 (wrap64 (x5 + 1))) else (some false)) else (none)) else (none)) else (some true)
def thermionkit_Same.f (k : Nat) (l0 : List Int) (l1 : List Int) : Option (Bool) := if (l0.length : Int) = (l1.length : Int) then (thermionkit_Same.l0 k l0 l1 0) else (some false)
theorem thermionkit_Same.mono_l : ∀ k, (∀ y0 y1 y2, LeO (thermionkit_Same.l0 k y0 y1 y2) (thermionkit_Same.l0 (k + 1) y0 y1 y2))
 | 0 => fun _ _ _ r h => by simp [thermionkit_Same.l0] at h
 | k + 1 => by
  have ih0 := thermionkit_Same.mono_l k
  ·intro y0 y1 y2
   unfold thermionkit_Same.l0
   repeat' first
   | (with_reducible exact ih0 _ _ _)
   | (with_reducible exact LeO.refl _)
   | (with_reducible exact LeO.none _)
   | (with_reducible refine LeO.ite ?_ ?_)
   | (with_reducible refine LeO.bind ?_ (fun _ => ?_))
   | exact ih0 _ _ _
   | exact LeO.none _
   | refine LeO.ite ?_ ?_
   | refine LeO.bind ?_ (fun _ => ?_)
theorem thermionkit_Same.mono : ∀ a0 a1 k, LeO (thermionkit_Same.f k a0 a1) (thermionkit_Same.f (k + 1) a0 a1) := by
 intro a0 a1 k
 have ih0 := thermionkit_Same.mono_l k
 unfold thermionkit_Same.f
 repeat' first
   | (with_reducible exact ih0 _ _ _)
   | (with_reducible exact LeO.refl _)
   | (with_reducible exact LeO.none _)
   | (with_reducible refine LeO.ite ?_ ?_)
   | (with_reducible refine LeO.bind ?_ (fun _ => ?_))
   | exact ih0 _ _ _
   | exact LeO.none _
   | refine LeO.ite ?_ ?_
   | refine LeO.bind ?_ (fun _ => ?_)
set_option maxHeartbeats 8000000 in
set_option maxRecDepth 100000 in
theorem thermionkit_Same.calls (k : Nat) (A0 : Option Addr) (c0 : Nat) (l0 : List Int) (A1 : Option Addr) (c1 : Nat) (l1 : List Int) (r : Bool) (w : World) (hr0 : Kd.C (Kd.int .i64) w A0 l0.length l0) (hc0 : l0.length ≤ c0) (hr1 : Kd.C (Kd.int .i64) w A1 l1.length l1) (hc1 : l1.length ≤ c1) (h : thermionkit_Same.f k l0 l1 = some r) :
  Calls Try.prog 42 #[.slice A0 l0.length c0, .slice A1 l1.length c1] w fun e w' => e = .returned (.bool r) ∧ Drawn0 w w' := by
 have HR0 := Aside0.mk hr0
 have HC0 := Aside0.mk hc0
 clear hr0 hc0
 have HR1 := Aside0.mk hr1
 have HC1 := Aside0.mk hc1
 clear hr1 hc1
 have H : (if (l0.length : Int) = (l1.length : Int) then (thermionkit_Same.l0 k l0 l1 0) else (some false)) = some r := h
 clear h
 by_cases c3 : (l0.length : Int) = (l1.length : Int)
 ·rw [if_pos c3] at H
  have c3b0 : ((l0.length : Int) == (l1.length : Int)) = true := beq_iff_eq.mpr c3
  have c3b1 : ((l0.length : Int) != (l1.length : Int)) = false := bne_eq_false_iff_eq.mpr c3
  have c3b2 : (l0.length == l1.length) = true := by first | simpa using c3 | (simp at c3 ⊢; omega)
  clear c3
  have H' := Aside0.mk H
  clear H
  go_enter Try.func42, Try.ntmps42
  go_wp2
  repeat (go_quiet (fail); try go_wp2)
  go_loopg [5] k (fun kq v5 w' => ∃ (x5_1 : Int), v5 = .int .i64 x5_1 ∧ Aside0 (thermionkit_Same.l0 kq l0 l1 x5_1 = some r) ∧ Aside0 (kq ≤ k) ∧ Drawn0 w w')
  case atStart => exact ⟨(0), (by first | rfl | (simp; done) | (simp [*]; done)), H', ⟨Nat.le_refl _⟩, by repeat (first | exact Drawn0.refl _ | apply Drawn0.step)⟩
  case round =>
   clear H'
   try clear c1
   try clear p2
   try clear c3
   try clear c3b0
   try clear c3b1
   try clear c3b2
   obtain ⟨x5_1, rfl, HA, HK1, ⟨m1, rfl⟩⟩ := hrel
   cases gk with
   | zero => exact absurd HA.out (by simp [thermionkit_Same.l0])
   | succ k1 =>
    have H := HA.out
    clear HA
    simp only [thermionkit_Same.l0] at H
    by_cases c4 : x5_1 < (l0.length : Int)
    ·rw [if_pos c4] at H
     have c4b0 : decide (x5_1 < (l0.length : Int)) = true := decide_eq_true c4
     clear c4
     by_cases c5 : 0 ≤ x5_1
     ·rw [if_pos c5] at H
      have c5b0 : decide (0 ≤ x5_1) = true := decide_eq_true c5
      clear c5
      by_cases c6 : x5_1 < (l1.length : Int)
      ·rw [if_pos c6] at H
       have c6b0 : decide (x5_1 < (l1.length : Int)) = true := decide_eq_true c6
       clear c6
       by_cases c7 : (rd l0 x5_1) = (rd l1 x5_1)
       ·rw [if_pos c7] at H
        have c7b0 : ((rd l0 x5_1) == (rd l1 x5_1)) = true := beq_iff_eq.mpr c7
        have c7b1 : ((rd l0 x5_1) != (rd l1 x5_1)) = false := bne_eq_false_iff_eq.mpr c7
        clear c7
        have H' := Aside0.mk H
        clear H
        have p382 : 0 ≤ (x5_1 : Int) := of_decide_eq_true (by first | (with_reducible assumption) | assumption)
        have q382 : x5_1 < (l0.length : Int) := of_decide_eq_true (by first | (with_reducible assumption) | assumption)
        obtain ⟨ad382, e382, hx382_0⟩ := Kd.at_int HR0.out x5_1 p382 q382
        cases e382
        replace p382 := eq_true p382
        replace q382 := eq_true q382
        have p383 : 0 ≤ (x5_1 : Int) := of_decide_eq_true (by first | (with_reducible assumption) | assumption)
        have q383 : x5_1 < (l1.length : Int) := of_decide_eq_true (by first | (with_reducible assumption) | assumption)
        obtain ⟨ad383, e383, hx383_0⟩ := Kd.at_int HR1.out x5_1 p383 q383
        cases e383
        replace p383 := eq_true p383
        replace q383 := eq_true q383
        go_wp2
        repeat (go_quiet (fail); try go_wp2)
        go_roundg k1
        case measure => have := HK1.out; omega
        case rel => exact ⟨(wrap64 (x5_1 + 1)), (by first | rfl | (simp; done) | (simp [*]; done)), H', ⟨by have := HK1.out; omega⟩, by repeat (first | exact Drawn0.refl _ | apply Drawn0.step)⟩
       ·rw [if_neg c7] at H
        have c7b0 : ((rd l0 x5_1) == (rd l1 x5_1)) = false := beq_eq_false_iff_ne.mpr c7
        have c7b1 : ((rd l0 x5_1) != (rd l1 x5_1)) = true := bne_iff_ne.mpr c7
        obtain rfl := Option.some.inj H
        have p382 : 0 ≤ (x5_1 : Int) := of_decide_eq_true (by first | (with_reducible assumption) | assumption)
        have q382 : x5_1 < (l0.length : Int) := of_decide_eq_true (by first | (with_reducible assumption) | assumption)
        obtain ⟨ad382, e382, hx382_0⟩ := Kd.at_int HR0.out x5_1 p382 q382
        cases e382
        replace p382 := eq_true p382
        replace q382 := eq_true q382
        have p383 : 0 ≤ (x5_1 : Int) := of_decide_eq_true (by first | (with_reducible assumption) | assumption)
        have q383 : x5_1 < (l1.length : Int) := of_decide_eq_true (by first | (with_reducible assumption) | assumption)
        obtain ⟨ad383, e383, hx383_0⟩ := Kd.at_int HR1.out x5_1 p383 q383
        cases e383
        replace p383 := eq_true p383
        replace q383 := eq_true q383
        go_wp2
        repeat (go_quiet (fail); try go_wp2)
        go_ret
        exact ⟨by first | rfl | (simp; done) | (simp [*]; done), by repeat (first | exact Drawn0.refl _ | apply Drawn0.step)⟩
      ·rw [if_neg c6] at H
       exact absurd H (by simp)
     ·rw [if_neg c5] at H
      exact absurd H (by simp)
    ·rw [if_neg c4] at H
     have c4b0 : decide (x5_1 < (l0.length : Int)) = false := decide_eq_false c4
     clear c4
     obtain rfl := Option.some.inj H
     go_wp2
     repeat (go_quiet (fail); try go_wp2)
     go_ret
     exact ⟨by first | rfl | (simp; done) | (simp [*]; done), by repeat (first | exact Drawn0.refl _ | apply Drawn0.step)⟩
 ·rw [if_neg c3] at H
  have c3b0 : ((l0.length : Int) == (l1.length : Int)) = false := beq_eq_false_iff_ne.mpr c3
  have c3b1 : ((l0.length : Int) != (l1.length : Int)) = true := bne_iff_ne.mpr c3
  have c3b2 : (l0.length == l1.length) = false := by first | simpa using c3 | (simp at c3 ⊢; omega)
  obtain rfl := Option.some.inj H
  go_enter Try.func42, Try.ntmps42
  go_wp2
  repeat (go_quiet (fail); try go_wp2)
  go_ret
  exact ⟨by first | rfl | (simp; done) | (simp [*]; done), by repeat (first | exact Drawn0.refl _ | apply Drawn0.step)⟩

end Go.Proofs.Ytbcfphoheijmdaa.Print
end

section
/- What the Go function thermionlaw04_of does, as a Lean function, and that its call does so. Printed by a program of this work out of the translation. -/
namespace Go.Proofs.Ytbcfphoheijmdaa.Print
open Go.RowKit Go.Proofs.YtbcfphoheijmdaaW.PrintWords Go.Proofs.YtbcfphoheijmdaaW.PrintLast Go.Proofs.YtbcfphoheijmdaaW.PrintMore
attribute [local go_sem] max2_int min2_int max_two min_two max_three min_three max_four min_four
set_option linter.unusedVariables false
set_option linter.unusedSimpArgs false

/-! ### thermionlaw04_of: function 52 -/
def thermionlaw04_of.f (a0 : Int) (a1 : Int) : Option (Int × Int) := some (a0, a1)
set_option maxHeartbeats 8000000 in
set_option maxRecDepth 100000 in
theorem thermionlaw04_of.calls (a0 : Int) (a1 : Int) (r1 : Int) (r2 : Int) (w : World) (h : thermionlaw04_of.f a0 a1 = some (r1, r2)) :
  Calls Try.prog 52 #[.int .i64 a0, .int .i64 a1] w fun e w' => e = .returned (.agg #[.int .i64 r1, .int .i64 r2]) ∧ Below w.heap.size w w' := by
 have hu32 := Try.underlying32
 have HB := Aside0.mk (Below.refl w.heap.size w)
 have H : (some (a0, a1)) = some (r1, r2) := h
 clear h
 simp only [Option.some.injEq, Prod.mk.injEq] at H
 obtain ⟨rfl, rfl⟩ := H
 go_enter Try.func52, Try.ntmps52
 go_wp2_with (first | ((with_reducible refine gate_dst (N := 4) rfl ?_); refine box_event ?hg (N := 4) ?hd (cs := #[.int .i64 0, .int .i64 0]) (t := 32) ?hr ?_; (case hd => rfl); (case hg => rfl); (case hr => first | (go_simp; done) | (go_simp; rfl)); intro gb112 hg w3 hbox hb; have n0_ := Aside0.mk (below_step (by repeat (first | (with_reducible first | exact HB.out | apply below_alloc | apply pw_below_drewN | apply below_drew1) | exact HB.out)) hb); have n1_ := Aside0.mk (hbox); have n2_ := Aside0.mk ((by rw [hg]; exact (below_size (by repeat (first | (with_reducible first | exact HB.out | apply below_alloc | apply pw_below_drewN | apply below_drew1) | exact HB.out))) : w.heap.size ≤ gb112)); have n3_ := Aside0.mk ((by rw [hg]; exact (below_size (by repeat (first | (with_reducible first | exact HB.out | apply below_alloc | apply pw_below_drewN | apply below_drew1) | exact HB.out))) : w.heap.size ≤ gb112)); clear HB; have HB := n0_; have BK112 := n1_; have GW112 := n2_; have GE112 := n3_; clear n0_ n1_ n2_ n3_; clear hb hbox hg; have hcz4_0 : w3.cell? ⟨gb112, 0, none⟩ = some (.int .i64 0) := (blk_cell BK112.out 0).trans rfl; have hcz4_1 : w3.cell? ⟨gb112, 1, none⟩ = some (.int .i64 0) := (blk_cell BK112.out 1).trans rfl; have hfz4_0 := blk_frozen BK112.out 0; have hfz4_1 := blk_frozen BK112.out 1))
 refine bodyPost_ret (results_cell_row rfl _ _ gb112 32 #[.int .i64 a0, .int .i64 a1] (0, 0) _ rfl (by (with_reducible repeat (first | refine blk_drewN ?_ _ | refine blk_drew ?_ | refine blk_alloc ?_ _)); refine blk_put (cs := #[.int .i64 a0, .int .i64 0]) ?_ 1 _ rfl; (with_reducible repeat (first | refine blk_drewN ?_ _ | refine blk_drew ?_ | refine blk_alloc ?_ _)); refine blk_put (cs := #[.int .i64 0, .int .i64 0]) ?_ 0 _ rfl; (with_reducible repeat (first | refine blk_drewN ?_ _ | refine blk_drew ?_ | refine blk_alloc ?_ _)); exact BK112.out) Try.underlying32 rfl (by kernel_rfl)) rfl ?_
 exact ⟨by first | rfl | (simp [errW_none, errW_some] <;> rfl) | (simp [*, errW_none, errW_some] <;> rfl), by repeat (first | (with_reducible first | exact HB.out | apply below_alloc | apply pw_below_drewN | apply below_drew1 | refine below_set ?_ GE112.out) | exact HB.out)⟩

end Go.Proofs.Ytbcfphoheijmdaa.Print
end

section
/- What the Go function thermionlaw04_kit does, as a Lean function, and that its call does so. Printed by a program of this work out of the translation. -/
namespace Go.Proofs.Ytbcfphoheijmdaa.Print
open Go.RowKit Go.Proofs.YtbcfphoheijmdaaW.PrintWords Go.Proofs.YtbcfphoheijmdaaW.PrintLast Go.Proofs.YtbcfphoheijmdaaW.PrintMore
attribute [local go_sem] max2_int min2_int max_two min_two max_three min_three max_four min_four
set_option linter.unusedVariables false
set_option linter.unusedSimpArgs false

/-! ### thermionlaw04_kit: function 59 -/
def thermionlaw04_kit.f  : Option ((List (S57)) × Int) := some ((([(⟨([] : List Int), ([] : List Int), 0, 2⟩ : S57), (⟨(([0] : List Int)), ([] : List Int), 1, 3⟩ : S57), (⟨([] : List Int), (([1] : List Int)), 0, 4⟩ : S57)] : List (S57))), 10)
set_option maxHeartbeats 8000000 in
set_option maxRecDepth 100000 in
theorem thermionlaw04_kit.calls  (r1 : List (S57)) (r2 : Int) (w : World) (h : thermionlaw04_kit.f  = some (r1, r2)) :
  Calls Try.prog 59 #[] w fun e w' => ∃ v0_ : Value, e = .returned (.agg #[v0_, .int .i64 r2]) ∧ Kd.N k57 57 w' w.heap.size (fun k_ => (w.heap.size ≤ k_)) v0_ r1 ∧ Below w.heap.size w w' := by
 have hu49 := Try.underlying49
 have hu57 := Try.underlying57
 have HB := Aside0.mk (Below.refl w.heap.size w)
 have H : (some ((([(⟨([] : List Int), ([] : List Int), 0, 2⟩ : S57), (⟨(([0] : List Int)), ([] : List Int), 1, 3⟩ : S57), (⟨([] : List Int), (([1] : List Int)), 0, 4⟩ : S57)] : List (S57))), 10)) = some (r1, r2) := h
 clear h
 obtain ⟨y114, hy114⟩ : ∃ y_ : List Int, y_ = (([0] : List Int)) := ⟨_, rfl⟩
 replace H : (some ((([(⟨([] : List Int), ([] : List Int), 0, 2⟩ : S57), (⟨y114, ([] : List Int), 1, 3⟩ : S57), (⟨([] : List Int), (([1] : List Int)), 0, 4⟩ : S57)] : List (S57))), 10)) = some (r1, r2) := by first | (rw [hy114]; with_reducible exact H) | (have H2_ := (Option.bind_some _ _).symm.trans H; rw [hy114]; with_reducible exact H2_) | (have H2_ := (Option.bind_some _ _).symm.trans H; with_reducible exact H2_) | with_reducible exact H | (rw [hy114]; exact H) | exact H
 have Ny114 := Aside0.mk hy114
 clear hy114
 obtain ⟨y117, hy117⟩ : ∃ y_ : List Int, y_ = (([1] : List Int)) := ⟨_, rfl⟩
 replace H : (some ((([(⟨([] : List Int), ([] : List Int), 0, 2⟩ : S57), (⟨y114, ([] : List Int), 1, 3⟩ : S57), (⟨([] : List Int), y117, 0, 4⟩ : S57)] : List (S57))), 10)) = some (r1, r2) := by first | (rw [hy117]; with_reducible exact H) | (have H2_ := (Option.bind_some _ _).symm.trans H; rw [hy117]; with_reducible exact H2_) | (have H2_ := (Option.bind_some _ _).symm.trans H; with_reducible exact H2_) | with_reducible exact H | (rw [hy117]; exact H) | exact H
 have Ny117 := Aside0.mk hy117
 clear hy117
 obtain ⟨y120, hy120⟩ : ∃ y_ : List (S57), y_ = (([(⟨([] : List Int), ([] : List Int), 0, 2⟩ : S57), (⟨y114, ([] : List Int), 1, 3⟩ : S57), (⟨([] : List Int), y117, 0, 4⟩ : S57)] : List (S57))) := ⟨_, rfl⟩
 replace H : (some (y120, 10)) = some (r1, r2) := by first | (rw [hy120]; with_reducible exact H) | (have H2_ := (Option.bind_some _ _).symm.trans H; rw [hy120]; with_reducible exact H2_) | (have H2_ := (Option.bind_some _ _).symm.trans H; with_reducible exact H2_) | with_reducible exact H | (rw [hy120]; exact H) | exact H
 have Ny120 := Aside0.mk hy120
 clear hy120
 simp only [Option.some.injEq, Prod.mk.injEq] at H
 obtain ⟨rfl, rfl⟩ := H
 go_enter Try.func59, Try.ntmps59
 go_wp2_with (first | ((with_reducible refine gate_dst (N := 0) rfl ?_); refine box_event ?hg (N := 0) ?hd (cs := #[.slice none 0 0, .int .i64 0]) (t := 49) ?hr ?_; (case hd => rfl); (case hg => rfl); (case hr => first | (go_simp; done) | (go_simp; rfl)); intro gb113 hg w1 hbox hb; have n0_ := Aside0.mk (below_step (by repeat (first | (with_reducible first | exact HB.out | apply below_alloc | apply pw_below_drewN | apply below_drew1) | exact HB.out)) hb); have n1_ := Aside0.mk (hbox); have n2_ := Aside0.mk ((by rw [hg]; exact (below_size (by repeat (first | (with_reducible first | exact HB.out | apply below_alloc | apply pw_below_drewN | apply below_drew1) | exact HB.out))) : w.heap.size ≤ gb113)); have n3_ := Aside0.mk ((by rw [hg]; exact (below_size (by repeat (first | (with_reducible first | exact HB.out | apply below_alloc | apply pw_below_drewN | apply below_drew1) | exact HB.out))) : w.heap.size ≤ gb113)); clear HB; have HB := n0_; have BK113 := n1_; have GW113 := n2_; have GE113 := n3_; clear n0_ n1_ n2_ n3_; clear hb hbox hg) | ((with_reducible refine gate_dst (N := 2) rfl ?_); refine Kd.R_lit (Kd.int .i64) _ 3 ?hg (N := 2) ?hd (xs := ([0] : List Int)) (inner := [.int .i64 0]) (ok := fun _ => True) (okp := fun _ => True) ?hr ?hp (fun _ hk => hk) trivial (Below.refl _ _) (Nat.le_refl _) (by simp) ?_; (case hd => rfl); (case hg => rfl); (case hr => first | (go_simp; done) | (go_simp; rfl)); (case hp => exact (Reps.one (show Kd.M (Kd.int .i64) _ _ _ 0 [.int .i64 0] from rfl) (Reps.none _ _))); intro v115 w2 ho3 hb hg_ hnew_; clear hg_ hnew_; (first | rw [← Ny114.out] at ho3 | (simp only [Int.reduceToNat] at ho3; rw [← Ny114.out] at ho3)); have n0_ := Aside0.mk (Kd.R_lower (Kd.R_newM (M := fun k_ => (w.heap.size ≤ k_)) ho3 (below_size (by repeat (first | (with_reducible first | exact HB.out | apply below_alloc | apply pw_below_drewN | apply below_drew1 | refine below_set ?_ GE113.out) | exact HB.out))) (fun k_ h_ => h_)) (below_size (by repeat (first | (with_reducible first | exact HB.out | apply below_alloc | apply pw_below_drewN | apply below_drew1 | refine below_set ?_ GE113.out) | exact HB.out)))); have n1_ := Aside0.mk (blk_below (g := gb113) (o := .cells #[.slice none 0 0, .int .i64 0] 49 (0, 0)) (by (with_reducible repeat (first | refine blk_drewN ?_ _ | refine blk_drew ?_ | refine blk_alloc ?_ _)); exact BK113.out) hb); have n2_ := Aside0.mk (below_step (by repeat (first | (with_reducible first | exact HB.out | apply below_alloc | apply pw_below_drewN | apply below_drew1 | refine below_set ?_ GE113.out) | exact HB.out)) hb); clear BK113; clear HB; have HO116 := n0_; have BK113 := n1_; have HB := n2_; clear n0_ n1_ n2_; clear hb ho3; obtain ⟨Ao4, co4, eo4⟩ := Kd.R_slice HO116.out; subst eo4) | ((with_reducible refine gate_dst (N := 4) rfl ?_); refine Kd.R_lit (Kd.int .i64) _ 3 ?hg (N := 4) ?hd (xs := ([1] : List Int)) (inner := [.int .i64 1]) (ok := fun _ => True) (okp := fun _ => True) ?hr ?hp (fun _ hk => hk) trivial (Below.refl _ _) (Nat.le_refl _) (by simp) ?_; (case hd => rfl); (case hg => rfl); (case hr => first | (go_simp; done) | (go_simp; rfl)); (case hp => exact (Reps.one (show Kd.M (Kd.int .i64) _ _ _ 1 [.int .i64 1] from rfl) (Reps.none _ _))); intro v118 w5 ho6 hb hg_ hnew_; clear hg_ hnew_; (first | rw [← Ny117.out] at ho6 | (simp only [Int.reduceToNat] at ho6; rw [← Ny117.out] at ho6)); have n0_ := Aside0.mk (Kd.R_elder' (by (with_reducible repeat (first | apply Kd.R_alloc | apply Kd.R_drewN | apply Kd.R_drew)); exact HO116.out) (Kd.R_base ho6) hb); have n1_ := Aside0.mk (Kd.R_lower (Kd.R_new' (Kd.R_newM (M := fun k_ => (w.heap.size ≤ k_)) ho6 (below_size (by repeat (first | (with_reducible first | exact HB.out | apply below_alloc | apply pw_below_drewN | apply below_drew1 | refine below_set ?_ GE113.out) | exact HB.out))) (fun k_ h_ => h_)) (Kd.R_lt (by (with_reducible repeat (first | apply Kd.R_alloc | apply Kd.R_drewN | apply Kd.R_drew)); exact HO116.out))) (below_size (by repeat (first | (with_reducible first | exact HB.out | apply below_alloc | apply pw_below_drewN | apply below_drew1 | refine below_set ?_ GE113.out) | exact HB.out)))); have n2_ := Aside0.mk (blk_below (g := gb113) (o := .cells #[.slice none 0 0, .int .i64 0] 49 (0, 0)) (by (with_reducible repeat (first | refine blk_drewN ?_ _ | refine blk_drew ?_ | refine blk_alloc ?_ _)); exact BK113.out) hb); have n3_ := Aside0.mk (below_step (by repeat (first | (with_reducible first | exact HB.out | apply below_alloc | apply pw_below_drewN | apply below_drew1 | refine below_set ?_ GE113.out) | exact HB.out)) hb); clear HO116; clear BK113; clear HB; have HO116 := n0_; have HO119 := n1_; have BK113 := n2_; have HB := n3_; clear n0_ n1_ n2_ n3_; clear hb ho6; obtain ⟨Ao7, co7, eo7⟩ := Kd.R_slice HO119.out; subst eo7) | ((with_reducible refine gate_dst (N := 6) rfl ?_); refine Kd.N_lit k57 _ 57 ?hg (N' := 6) ?hd (xs := ([(⟨([] : List Int), ([] : List Int), 0, 2⟩ : S57), (⟨y114, ([] : List Int), 1, 3⟩ : S57), (⟨([] : List Int), y117, 0, 4⟩ : S57)] : List (S57))) (inner := [.slice none 0 0, .slice none 0 0, .int .i64 0, .int .i64 2, .slice Ao4 y114.length co4, .slice none 0 0, .int .i64 1, .int .i64 3, .slice none 0 0, .slice Ao7 y117.length co7, .int .i64 0, .int .i64 4]) (ok := (fun k_ => (w.heap.size ≤ k_) ∧ k_ ≠ gb113)) (okp := (fun k_ => (w.heap.size ≤ k_) ∧ k_ ≠ gb113)) ?hr ?hp (fun _ hk => hk) ((show ∀ k_, w5.heap.size ≤ k_ → (fun k_ => (w.heap.size ≤ k_) ∧ k_ ≠ gb113) k_ from fun k_ hk => ⟨(Nat.le_trans (below_size (by repeat (first | (with_reducible first | exact HB.out | apply below_alloc | apply pw_below_drewN | apply below_drew1 | refine below_set ?_ GE113.out) | exact HB.out))) hk), Kd.freshB (g := gb113) (o := .cells #[.slice none 0 0, .int .i64 0] 49 (0, 0)) (by (with_reducible repeat (first | refine blk_drewN ?_ _ | refine blk_drew ?_ | refine blk_alloc ?_ _)); exact BK113.out) k_ hk⟩) _ (Nat.le_refl _)) (Below.refl _ _) (Nat.le_refl _) (by simp) ?_; (case hd => rfl); (case hg => rfl); (case hr => first | (go_simp; done) | (go_simp; rfl)); (case hp => exact (Reps.c4 (show Kd.FK k57 _ _ (⟨([] : List Int), ([] : List Int), 0, 2⟩ : S57) [.slice none 0 0, .slice none 0 0, .int .i64 0, .int .i64 2] from (k57_mkF _ _ (⟨([] : List Int), ([] : List Int), 0, 2⟩ : S57) (Nat.le_refl _) (Kd.F_nil _ _ _) (Nat.le_refl _) (Kd.F_nil _ _ _))) (Reps.c4 (show Kd.FK k57 _ _ (⟨y114, ([] : List Int), 1, 3⟩ : S57) [.slice Ao4 y114.length co4, .slice none 0 0, .int .i64 1, .int .i64 3] from (k57_mkF _ _ (⟨y114, ([] : List Int), 1, 3⟩ : S57) (Kd.R_reads' (Kd.R_mono (ok' := (fun k_ => (w.heap.size ≤ k_) ∧ k_ ≠ gb113)) (Kd.R_types (HO116.out) BK113.out (by decide)) (fun k_ hk => ⟨hk.1.1.1, hk.2⟩))).2.1 (Kd.R_F (Kd.R_mono (ok' := (fun k_ => (w.heap.size ≤ k_) ∧ k_ ≠ gb113)) (Kd.R_types (HO116.out) BK113.out (by decide)) (fun k_ hk => ⟨hk.1.1.1, hk.2⟩))) (Nat.le_refl _) (Kd.F_nil _ _ _))) (Reps.c4 (show Kd.FK k57 _ _ (⟨([] : List Int), y117, 0, 4⟩ : S57) [.slice none 0 0, .slice Ao7 y117.length co7, .int .i64 0, .int .i64 4] from (k57_mkF _ _ (⟨([] : List Int), y117, 0, 4⟩ : S57) (Nat.le_refl _) (Kd.F_nil _ _ _) (Kd.R_reads' (Kd.R_mono (ok' := (fun k_ => (w.heap.size ≤ k_) ∧ k_ ≠ gb113)) (Kd.R_types (HO119.out) BK113.out (by decide)) (fun k_ hk => ⟨hk.1.1.1, hk.2⟩))).2.1 (Kd.R_F (Kd.R_mono (ok' := (fun k_ => (w.heap.size ≤ k_) ∧ k_ ≠ gb113)) (Kd.R_types (HO119.out) BK113.out (by decide)) (fun k_ hk => ⟨hk.1.1.1, hk.2⟩))))) (Reps.none _ _))))); intro v121 w8 ho9 hb hg_ hnew_; clear hg_ hnew_; (first | rw [← Ny120.out] at ho9 | (simp only [Int.reduceToNat] at ho9; rw [← Ny120.out] at ho9)); have n0_ := Aside0.mk (Kd.N_lower ho9 (below_size (by repeat (first | (with_reducible first | exact HB.out | apply below_alloc | apply pw_below_drewN | apply below_drew1 | refine below_set ?_ GE113.out) | exact HB.out)))); have n1_ := Aside0.mk (blk_below (g := gb113) (o := .cells #[.slice none 0 0, .int .i64 0] 49 (0, 0)) (by (with_reducible repeat (first | refine blk_drewN ?_ _ | refine blk_drew ?_ | refine blk_alloc ?_ _)); exact BK113.out) hb); have n2_ := Aside0.mk (below_step (by repeat (first | (with_reducible first | exact HB.out | apply below_alloc | apply pw_below_drewN | apply below_drew1 | refine below_set ?_ GE113.out) | exact HB.out)) hb); clear BK113; clear HB; clear HO116; clear HO119; have HO122 := n0_; have BK113 := n1_; have HB := n2_; clear n0_ n1_ n2_; clear hb ho9; obtain ⟨Ao10, co10, eo10⟩ := Kd.N_slice HO122.out; subst eo10; have hcz11_0 : w8.cell? ⟨gb113, 0, none⟩ = some (.slice none 0 0) := (blk_cell BK113.out 0).trans rfl; have hcz11_1 : w8.cell? ⟨gb113, 1, none⟩ = some (.int .i64 0) := (blk_cell BK113.out 1).trans rfl; have hfz11_0 := blk_frozen BK113.out 0; have hfz11_1 := blk_frozen BK113.out 1))
 refine bodyPost_ret (results_cell_row rfl _ _ gb113 49 #[.slice Ao10 y120.length co10, .int .i64 10] (0, 0) _ rfl (by (with_reducible repeat (first | refine blk_drewN ?_ _ | refine blk_drew ?_ | refine blk_alloc ?_ _)); refine blk_put (cs := #[.slice Ao10 y120.length co10, .int .i64 0]) ?_ 1 _ rfl; (with_reducible repeat (first | refine blk_drewN ?_ _ | refine blk_drew ?_ | refine blk_alloc ?_ _)); refine blk_put (cs := #[.slice none 0 0, .int .i64 0]) ?_ 0 _ rfl; (with_reducible repeat (first | refine blk_drewN ?_ _ | refine blk_drew ?_ | refine blk_alloc ?_ _)); exact BK113.out) Try.underlying49 rfl (by kernel_rfl)) rfl ?_
 exact ⟨_, by first | rfl | (simp [errW_none, errW_some] <;> rfl) | (simp [*, errW_none, errW_some] <;> rfl), by (with_reducible repeat (first | apply Kd.N_alloc | apply Kd.N_drewN | apply Kd.N_drew)); exact Kd.N_mono (Kd.N_far (p := ⟨gb113, 1, none⟩) (Kd.N_far (p := ⟨gb113, 0, none⟩) (Kd.N_mono HO122.out (fun k_ hk => (⟨hk, hk.2⟩ : _ ∧ k_ ≠ gb113))) (fun _ hk => hk.2) (.slice Ao10 y120.length co10)) (fun _ hk => hk.2) (.int .i64 10)) (fun _ hk => hk.1.1), by repeat (first | (with_reducible first | exact HB.out | apply below_alloc | apply pw_below_drewN | apply below_drew1 | refine below_set ?_ GE113.out) | exact HB.out)⟩

end Go.Proofs.Ytbcfphoheijmdaa.Print
end

section
/- What the Go function thermionlaw04_link does, as a Lean function, and that its call does so. Printed by a program of this work out of the translation. -/
namespace Go.Proofs.Ytbcfphoheijmdaa.Print
open Go.RowKit Go.Proofs.YtbcfphoheijmdaaW.PrintWords Go.Proofs.YtbcfphoheijmdaaW.PrintLast Go.Proofs.YtbcfphoheijmdaaW.PrintMore
attribute [local go_sem] max2_int min2_int max_two min_two max_three min_three max_four min_four
set_option linter.unusedVariables false
set_option linter.unusedSimpArgs false

/-! ### thermionlaw04_link: function 58 -/
def thermionlaw04_link.f (a0 : Int) (a1 : Int) (a2 : Int) (a3 : Int) : Option (Int × Int × Int × Int) := (thermionlaw04_of.f a2 a3).bind fun bt124 => (some (a0, a1, bt124.1, bt124.2))
set_option maxHeartbeats 8000000 in
set_option maxRecDepth 100000 in
theorem thermionlaw04_link.calls (a0 : Int) (a1 : Int) (a2 : Int) (a3 : Int) (r1 : Int) (r2 : Int) (r3 : Int) (r4 : Int) (w : World) (h : thermionlaw04_link.f a0 a1 a2 a3 = some (r1, r2, r3, r4)) :
  Calls Try.prog 58 #[.int .i64 a0, .int .i64 a1, .int .i64 a2, .int .i64 a3] w fun e w' => e = .returned (.agg #[.int .i64 r1, .int .i64 r2, .int .i64 r3, .int .i64 r4]) ∧ Below w.heap.size w w' := by
 have hu35 := Try.underlying35
 have HB := Aside0.mk (Below.refl w.heap.size w)
 have H : ((thermionlaw04_of.f a2 a3).bind fun bt124 => (some (a0, a1, bt124.1, bt124.2))) = some (r1, r2, r3, r4) := h
 clear h
 replace H := Option.bind_eq_some_iff.mp H
 obtain ⟨⟨t124, t125⟩, A50, H⟩ := H
 replace H : (some (a0, a1, t124, t125)) = some (r1, r2, r3, r4) := H
 have A5 := Aside0.mk A50
 clear A50
 simp only [Option.some.injEq, Prod.mk.injEq] at H
 obtain ⟨rfl, rfl, rfl, rfl⟩ := H
 go_enter Try.func58, Try.ntmps58
 go_wp2_with (first | ((with_reducible refine gate_dst (N := 8) rfl ?_); refine box_event ?hg (N := 8) ?hd (cs := #[.int .i64 0, .int .i64 0, .int .i64 0, .int .i64 0]) (t := 35) ?hr ?_; (case hd => rfl); (case hg => rfl); (case hr => first | (go_simp; done) | (go_simp; rfl)); intro gb123 hg w6 hbox hb; have n0_ := Aside0.mk (below_step (by repeat (first | (with_reducible first | exact HB.out | apply below_alloc | apply pw_below_drewN | apply below_drew1) | exact HB.out)) hb); have n1_ := Aside0.mk (hbox); have n2_ := Aside0.mk ((by rw [hg]; exact (below_size (by repeat (first | (with_reducible first | exact HB.out | apply below_alloc | apply pw_below_drewN | apply below_drew1) | exact HB.out))) : w.heap.size ≤ gb123)); have n3_ := Aside0.mk ((by rw [hg]; exact (below_size (by repeat (first | (with_reducible first | exact HB.out | apply below_alloc | apply pw_below_drewN | apply below_drew1) | exact HB.out))) : w.heap.size ≤ gb123)); clear HB; have HB := n0_; have BK123 := n1_; have GW123 := n2_; have GE123 := n3_; clear n0_ n1_ n2_ n3_; clear hb hbox hg) | ((with_reducible refine gate_callee (f := 52) rfl ?_); refine goesL_ (some 13) rfl rfl Try.func52 (by kernel_rfl) rfl #[.int .i64 a2, .int .i64 a3] rfl (by (try simp only [List.map_toArray, List.map_cons, List.map_nil]); first | done | rfl | (simp only [List.length_drop, List.length_take]; rfl)) ?_; (with_reducible refine (thermionlaw04_of.calls a2 a3 t124 t125 _ A5.out).mono ?_); rintro e w7 ⟨rfl, hb⟩; refine ⟨_, rfl, ?_⟩; have n0_ := Aside0.mk (blk_below (g := gb123) (o := .cells #[.int .i64 0, .int .i64 0, .int .i64 0, .int .i64 0] 35 (0, 0)) (by (with_reducible repeat (first | refine blk_drewN ?_ _ | refine blk_drew ?_ | refine blk_alloc ?_ _)); exact BK123.out) hb); have n1_ := Aside0.mk (below_step (by repeat (first | (with_reducible first | exact HB.out | apply below_alloc | apply pw_below_drewN | apply below_drew1 | refine below_set ?_ GE123.out) | exact HB.out)) hb); clear BK123; clear HB; have BK123 := n0_; have HB := n1_; clear n0_ n1_; (try clear hb); (try clear hb2); (try clear hk); (try clear hi); have hcz8_0 : w7.cell? ⟨gb123, 0, none⟩ = some (.int .i64 0) := (blk_cell BK123.out 0).trans rfl; have hcz8_1 : w7.cell? ⟨gb123, 1, none⟩ = some (.int .i64 0) := (blk_cell BK123.out 1).trans rfl; have hcz8_2 : w7.cell? ⟨gb123, 2, none⟩ = some (.int .i64 0) := (blk_cell BK123.out 2).trans rfl; have hcz8_3 : w7.cell? ⟨gb123, 3, none⟩ = some (.int .i64 0) := (blk_cell BK123.out 3).trans rfl; have hfz8_0 := blk_frozen BK123.out 0; have hfz8_1 := blk_frozen BK123.out 1; have hfz8_2 := blk_frozen BK123.out 2; have hfz8_3 := blk_frozen BK123.out 3))
 refine bodyPost_ret (results_cell_row rfl _ _ gb123 35 #[.int .i64 a0, .int .i64 a1, .int .i64 t124, .int .i64 t125] (0, 0) _ rfl (by (with_reducible repeat (first | refine blk_drewN ?_ _ | refine blk_drew ?_ | refine blk_alloc ?_ _)); refine blk_put (cs := #[.int .i64 a0, .int .i64 a1, .int .i64 t124, .int .i64 0]) ?_ 3 _ rfl; (with_reducible repeat (first | refine blk_drewN ?_ _ | refine blk_drew ?_ | refine blk_alloc ?_ _)); refine blk_put (cs := #[.int .i64 a0, .int .i64 a1, .int .i64 0, .int .i64 0]) ?_ 2 _ rfl; (with_reducible repeat (first | refine blk_drewN ?_ _ | refine blk_drew ?_ | refine blk_alloc ?_ _)); refine blk_put (cs := #[.int .i64 a0, .int .i64 0, .int .i64 0, .int .i64 0]) ?_ 1 _ rfl; (with_reducible repeat (first | refine blk_drewN ?_ _ | refine blk_drew ?_ | refine blk_alloc ?_ _)); refine blk_put (cs := #[.int .i64 0, .int .i64 0, .int .i64 0, .int .i64 0]) ?_ 0 _ rfl; (with_reducible repeat (first | refine blk_drewN ?_ _ | refine blk_drew ?_ | refine blk_alloc ?_ _)); exact BK123.out) Try.underlying35 rfl (by kernel_rfl)) rfl ?_
 exact ⟨by first | rfl | (simp [errW_none, errW_some] <;> rfl) | (simp [*, errW_none, errW_some] <;> rfl), by repeat (first | (with_reducible first | exact HB.out | apply below_alloc | apply pw_below_drewN | apply below_drew1 | refine below_set ?_ GE123.out) | exact HB.out)⟩

end Go.Proofs.Ytbcfphoheijmdaa.Print
end

section
/- What the Go function thermionlaw04_chain does, as a Lean function, and that its call does so. Printed by a program of this work out of the translation. -/
namespace Go.Proofs.Ytbcfphoheijmdaa.Print
open Go.RowKit Go.Proofs.YtbcfphoheijmdaaW.PrintWords Go.Proofs.YtbcfphoheijmdaaW.PrintLast Go.Proofs.YtbcfphoheijmdaaW.PrintMore
attribute [local go_sem] max2_int min2_int max_two min_two max_three min_three max_four min_four
set_option linter.unusedVariables false
set_option linter.unusedSimpArgs false

/-! ### thermionlaw04_chain: function 87 -/
def thermionlaw04_chain.f  : Option (Int × (List (S35))) := (thermionlaw04_link.f 0 1 10 12).bind fun bt127 => ((thermionlaw04_link.f 1 2 5 8).bind fun bt131 => ((thermionlaw04_link.f 0 2 17 18).bind fun bt135 => (some (3, (([(⟨bt127.1, bt127.2.1, (⟨bt127.2.2.1, bt127.2.2.2⟩ : S32)⟩ : S35), (⟨bt131.1, bt131.2.1, (⟨bt131.2.2.1, bt131.2.2.2⟩ : S32)⟩ : S35), (⟨bt135.1, bt135.2.1, (⟨bt135.2.2.1, bt135.2.2.2⟩ : S32)⟩ : S35)] : List (S35)))))))
set_option maxHeartbeats 8000000 in
set_option maxRecDepth 100000 in
theorem thermionlaw04_chain.calls  (r1 : Int) (r2 : List (S35)) (w : World) (h : thermionlaw04_chain.f  = some (r1, r2)) :
  Calls Try.prog 87 #[] w fun e w' => ∃ v1_ : Value, e = .returned (.agg #[.int .i64 r1, v1_]) ∧ Kd.R k35 35 w' w.heap.size (fun _ => True) v1_ r2 ∧ Below w.heap.size w w' := by
 have hu27 := Try.underlying27
 have HB := Aside0.mk (Below.refl w.heap.size w)
 have H : ((thermionlaw04_link.f 0 1 10 12).bind fun bt127 => ((thermionlaw04_link.f 1 2 5 8).bind fun bt131 => ((thermionlaw04_link.f 0 2 17 18).bind fun bt135 => (some (3, (([(⟨bt127.1, bt127.2.1, (⟨bt127.2.2.1, bt127.2.2.2⟩ : S32)⟩ : S35), (⟨bt131.1, bt131.2.1, (⟨bt131.2.2.1, bt131.2.2.2⟩ : S32)⟩ : S35), (⟨bt135.1, bt135.2.1, (⟨bt135.2.2.1, bt135.2.2.2⟩ : S32)⟩ : S35)] : List (S35)))))))) = some (r1, r2) := h
 clear h
 replace H := Option.bind_eq_some_iff.mp H
 obtain ⟨⟨t127, t128, t129, t130⟩, A10, H⟩ := H
 replace H : ((thermionlaw04_link.f 1 2 5 8).bind fun bt131 => ((thermionlaw04_link.f 0 2 17 18).bind fun bt135 => (some (3, (([(⟨t127, t128, (⟨t129, t130⟩ : S32)⟩ : S35), (⟨bt131.1, bt131.2.1, (⟨bt131.2.2.1, bt131.2.2.2⟩ : S32)⟩ : S35), (⟨bt135.1, bt135.2.1, (⟨bt135.2.2.1, bt135.2.2.2⟩ : S32)⟩ : S35)] : List (S35))))))) = some (r1, r2) := H
 have A1 := Aside0.mk A10
 clear A10
 replace H := Option.bind_eq_some_iff.mp H
 obtain ⟨⟨t131, t132, t133, t134⟩, A20, H⟩ := H
 replace H : ((thermionlaw04_link.f 0 2 17 18).bind fun bt135 => (some (3, (([(⟨t127, t128, (⟨t129, t130⟩ : S32)⟩ : S35), (⟨t131, t132, (⟨t133, t134⟩ : S32)⟩ : S35), (⟨bt135.1, bt135.2.1, (⟨bt135.2.2.1, bt135.2.2.2⟩ : S32)⟩ : S35)] : List (S35)))))) = some (r1, r2) := H
 have A2 := Aside0.mk A20
 clear A20
 replace H := Option.bind_eq_some_iff.mp H
 obtain ⟨⟨t135, t136, t137, t138⟩, A30, H⟩ := H
 replace H : (some (3, (([(⟨t127, t128, (⟨t129, t130⟩ : S32)⟩ : S35), (⟨t131, t132, (⟨t133, t134⟩ : S32)⟩ : S35), (⟨t135, t136, (⟨t137, t138⟩ : S32)⟩ : S35)] : List (S35))))) = some (r1, r2) := H
 have A3 := Aside0.mk A30
 clear A30
 obtain ⟨y139, hy139⟩ : ∃ y_ : List (S35), y_ = (([(⟨t127, t128, (⟨t129, t130⟩ : S32)⟩ : S35), (⟨t131, t132, (⟨t133, t134⟩ : S32)⟩ : S35), (⟨t135, t136, (⟨t137, t138⟩ : S32)⟩ : S35)] : List (S35))) := ⟨_, rfl⟩
 replace H : (some (3, y139)) = some (r1, r2) := by first | (rw [hy139]; with_reducible exact H) | (have H2_ := (Option.bind_some _ _).symm.trans H; rw [hy139]; with_reducible exact H2_) | (have H2_ := (Option.bind_some _ _).symm.trans H; with_reducible exact H2_) | with_reducible exact H | (rw [hy139]; exact H) | exact H
 have Ny139 := Aside0.mk hy139
 clear hy139
 simp only [Option.some.injEq, Prod.mk.injEq] at H
 obtain ⟨rfl, rfl⟩ := H
 go_enter Try.func87, Try.ntmps87
 go_wp2_with (first | ((with_reducible refine gate_dst (N := 0) rfl ?_); refine box_event ?hg (N := 0) ?hd (cs := #[.int .i64 0, .slice none 0 0]) (t := 27) ?hr ?_; (case hd => rfl); (case hg => rfl); (case hr => first | (go_simp; done) | (go_simp; rfl)); intro gb126 hg w4 hbox hb; have n0_ := Aside0.mk (below_step (by repeat (first | (with_reducible first | exact HB.out | apply below_alloc | apply pw_below_drewN | apply below_drew1) | exact HB.out)) hb); have n1_ := Aside0.mk (hbox); have n2_ := Aside0.mk ((by rw [hg]; exact (below_size (by repeat (first | (with_reducible first | exact HB.out | apply below_alloc | apply pw_below_drewN | apply below_drew1) | exact HB.out))) : w.heap.size ≤ gb126)); have n3_ := Aside0.mk ((by rw [hg]; exact (below_size (by repeat (first | (with_reducible first | exact HB.out | apply below_alloc | apply pw_below_drewN | apply below_drew1) | exact HB.out))) : w.heap.size ≤ gb126)); clear HB; have HB := n0_; have BK126 := n1_; have GW126 := n2_; have GE126 := n3_; clear n0_ n1_ n2_ n3_; clear hb hbox hg) | ((with_reducible refine gate_callee (f := 58) rfl ?_); refine goesL_ (some 1) rfl rfl Try.func58 (by kernel_rfl) rfl #[.int .i64 0, .int .i64 1, .int .i64 10, .int .i64 12] rfl (by (try simp only [List.map_toArray, List.map_cons, List.map_nil]); first | done | rfl | (simp only [List.length_drop, List.length_take]; rfl)) ?_; (with_reducible refine (thermionlaw04_link.calls 0 1 10 12 t127 t128 t129 t130 _ A1.out).mono ?_); rintro e w5 ⟨rfl, hb⟩; refine ⟨_, rfl, ?_⟩; have n0_ := Aside0.mk (blk_below (g := gb126) (o := .cells #[.int .i64 0, .slice none 0 0] 27 (0, 0)) (by (with_reducible repeat (first | refine blk_drewN ?_ _ | refine blk_drew ?_ | refine blk_alloc ?_ _)); exact BK126.out) hb); have n1_ := Aside0.mk (below_step (by repeat (first | (with_reducible first | exact HB.out | apply below_alloc | apply pw_below_drewN | apply below_drew1 | refine below_set ?_ GE126.out) | exact HB.out)) hb); clear BK126; clear HB; have BK126 := n0_; have HB := n1_; clear n0_ n1_; (try clear hb); (try clear hb2); (try clear hk); (try clear hi)) | ((with_reducible refine gate_callee (f := 58) rfl ?_); refine goesL_ (some 2) rfl rfl Try.func58 (by kernel_rfl) rfl #[.int .i64 1, .int .i64 2, .int .i64 5, .int .i64 8] rfl (by (try simp only [List.map_toArray, List.map_cons, List.map_nil]); first | done | rfl | (simp only [List.length_drop, List.length_take]; rfl)) ?_; (with_reducible refine (thermionlaw04_link.calls 1 2 5 8 t131 t132 t133 t134 _ A2.out).mono ?_); rintro e w6 ⟨rfl, hb⟩; refine ⟨_, rfl, ?_⟩; have n0_ := Aside0.mk (blk_below (g := gb126) (o := .cells #[.int .i64 0, .slice none 0 0] 27 (0, 0)) (by (with_reducible repeat (first | refine blk_drewN ?_ _ | refine blk_drew ?_ | refine blk_alloc ?_ _)); exact BK126.out) hb); have n1_ := Aside0.mk (below_step (by repeat (first | (with_reducible first | exact HB.out | apply below_alloc | apply pw_below_drewN | apply below_drew1 | refine below_set ?_ GE126.out) | exact HB.out)) hb); clear BK126; clear HB; have BK126 := n0_; have HB := n1_; clear n0_ n1_; (try clear hb); (try clear hb2); (try clear hk); (try clear hi)) | ((with_reducible refine gate_callee (f := 58) rfl ?_); refine goesL_ (some 3) rfl rfl Try.func58 (by kernel_rfl) rfl #[.int .i64 0, .int .i64 2, .int .i64 17, .int .i64 18] rfl (by (try simp only [List.map_toArray, List.map_cons, List.map_nil]); first | done | rfl | (simp only [List.length_drop, List.length_take]; rfl)) ?_; (with_reducible refine (thermionlaw04_link.calls 0 2 17 18 t135 t136 t137 t138 _ A3.out).mono ?_); rintro e w7 ⟨rfl, hb⟩; refine ⟨_, rfl, ?_⟩; have n0_ := Aside0.mk (blk_below (g := gb126) (o := .cells #[.int .i64 0, .slice none 0 0] 27 (0, 0)) (by (with_reducible repeat (first | refine blk_drewN ?_ _ | refine blk_drew ?_ | refine blk_alloc ?_ _)); exact BK126.out) hb); have n1_ := Aside0.mk (below_step (by repeat (first | (with_reducible first | exact HB.out | apply below_alloc | apply pw_below_drewN | apply below_drew1 | refine below_set ?_ GE126.out) | exact HB.out)) hb); clear BK126; clear HB; have BK126 := n0_; have HB := n1_; clear n0_ n1_; (try clear hb); (try clear hb2); (try clear hk); (try clear hi)) | ((with_reducible refine gate_dst (N := 4) rfl ?_); refine Kd.R_lit k35 _ 35 ?hg (N := 4) ?hd (xs := ([(⟨t127, t128, (⟨t129, t130⟩ : S32)⟩ : S35), (⟨t131, t132, (⟨t133, t134⟩ : S32)⟩ : S35), (⟨t135, t136, (⟨t137, t138⟩ : S32)⟩ : S35)] : List (S35))) (inner := [.int .i64 t127, .int .i64 t128, .int .i64 t129, .int .i64 t130, .int .i64 t131, .int .i64 t132, .int .i64 t133, .int .i64 t134, .int .i64 t135, .int .i64 t136, .int .i64 t137, .int .i64 t138]) (ok := fun _ => True) (okp := fun _ => True) ?hr ?hp (fun _ hk => hk) trivial (Below.refl _ _) (Nat.le_refl _) (by simp) ?_; (case hd => rfl); (case hg => rfl); (case hr => first | (go_simp; done) | (go_simp; rfl)); (case hp => exact (Reps.c4 (show Kd.M k35 _ _ _ (⟨t127, t128, (⟨t129, t130⟩ : S32)⟩ : S35) [.int .i64 t127, .int .i64 t128, .int .i64 t129, .int .i64 t130] from (k35_mkM _ _ _ (⟨t127, t128, (⟨t129, t130⟩ : S32)⟩ : S35) )) (Reps.c4 (show Kd.M k35 _ _ _ (⟨t131, t132, (⟨t133, t134⟩ : S32)⟩ : S35) [.int .i64 t131, .int .i64 t132, .int .i64 t133, .int .i64 t134] from (k35_mkM _ _ _ (⟨t131, t132, (⟨t133, t134⟩ : S32)⟩ : S35) )) (Reps.c4 (show Kd.M k35 _ _ _ (⟨t135, t136, (⟨t137, t138⟩ : S32)⟩ : S35) [.int .i64 t135, .int .i64 t136, .int .i64 t137, .int .i64 t138] from (k35_mkM _ _ _ (⟨t135, t136, (⟨t137, t138⟩ : S32)⟩ : S35) )) (Reps.none _ _))))); intro v140 w8 ho9 hb hg_ hnew_; clear hg_ hnew_; (first | rw [← Ny139.out] at ho9 | (simp only [Int.reduceToNat] at ho9; rw [← Ny139.out] at ho9)); have n0_ := Aside0.mk (Kd.R_lower ho9 (below_size (by repeat (first | (with_reducible first | exact HB.out | apply below_alloc | apply pw_below_drewN | apply below_drew1 | refine below_set ?_ GE126.out) | exact HB.out)))); have n1_ := Aside0.mk (blk_below (g := gb126) (o := .cells #[.int .i64 0, .slice none 0 0] 27 (0, 0)) (by (with_reducible repeat (first | refine blk_drewN ?_ _ | refine blk_drew ?_ | refine blk_alloc ?_ _)); exact BK126.out) hb); have n2_ := Aside0.mk (below_step (by repeat (first | (with_reducible first | exact HB.out | apply below_alloc | apply pw_below_drewN | apply below_drew1 | refine below_set ?_ GE126.out) | exact HB.out)) hb); clear BK126; clear HB; have HO141 := n0_; have BK126 := n1_; have HB := n2_; clear n0_ n1_ n2_; clear hb ho9; obtain ⟨Ao10, co10, eo10⟩ := Kd.R_slice HO141.out; subst eo10; have hcz11_0 : w8.cell? ⟨gb126, 0, none⟩ = some (.int .i64 0) := (blk_cell BK126.out 0).trans rfl; have hcz11_1 : w8.cell? ⟨gb126, 1, none⟩ = some (.slice none 0 0) := (blk_cell BK126.out 1).trans rfl; have hfz11_0 := blk_frozen BK126.out 0; have hfz11_1 := blk_frozen BK126.out 1))
 refine bodyPost_ret (results_cell_row rfl _ _ gb126 27 #[.int .i64 3, .slice Ao10 y139.length co10] (0, 0) _ rfl (by (with_reducible repeat (first | refine blk_drewN ?_ _ | refine blk_drew ?_ | refine blk_alloc ?_ _)); refine blk_put (cs := #[.int .i64 3, .slice none 0 0]) ?_ 1 _ rfl; (with_reducible repeat (first | refine blk_drewN ?_ _ | refine blk_drew ?_ | refine blk_alloc ?_ _)); refine blk_put (cs := #[.int .i64 0, .slice none 0 0]) ?_ 0 _ rfl; (with_reducible repeat (first | refine blk_drewN ?_ _ | refine blk_drew ?_ | refine blk_alloc ?_ _)); exact BK126.out) Try.underlying27 rfl (by kernel_rfl)) rfl ?_
 exact ⟨_, by first | rfl | (simp [errW_none, errW_some] <;> rfl) | (simp [*, errW_none, errW_some] <;> rfl), by (with_reducible repeat (first | apply Kd.R_alloc | apply Kd.R_drewN | apply Kd.R_drew)); exact Kd.R_mono (Kd.R_far (p := ⟨gb126, 1, none⟩) (Kd.R_far (p := ⟨gb126, 0, none⟩) (Kd.R_types HO141.out BK126.out (by decide)) (fun _ hk => hk.2) (.int .i64 3)) (fun _ hk => hk.2) (.slice Ao10 y139.length co10)) (fun _ hk => trivial), by repeat (first | (with_reducible first | exact HB.out | apply below_alloc | apply pw_below_drewN | apply below_drew1 | refine below_set ?_ GE126.out) | exact HB.out)⟩

end Go.Proofs.Ytbcfphoheijmdaa.Print
end

section
/- Equality of records as one Bool. Printed by a program of this work out of the translation. -/
namespace Go.Proofs.Ytbcfphoheijmdaa.Print
open Go.RowKit Go.Proofs.YtbcfphoheijmdaaW.PrintWords Go.Proofs.YtbcfphoheijmdaaW.PrintLast Go.Proofs.YtbcfphoheijmdaaW.PrintMore
attribute [local go_sem] max2_int min2_int max_two min_two max_three min_three max_four min_four
set_option linter.unusedVariables false
set_option linter.unusedSimpArgs false

theorem eqA32 (d : Nat) (w : World) (x0 y0 : Int) (x1 y1 : Int) :
  (Op.equalIn (d + 2) 32 (.agg #[.int .i64 x0, .int .i64 x1]) (.agg #[.int .i64 y0, .int .i64 y1])).run Try.prog w = .ok (x0 == y0 && (x1 == y1)) w := by
 refine eqA_of Try.underlying32 (by kernel_rfl) ?_
 refine eqf_cons (by rfl) (by go_simp; rfl) (by go_simp; rfl) (by go_simp) ?_
 exact eqf_last (by rfl) (by go_simp; rfl) (by go_simp; rfl) (by go_simp)
end Go.Proofs.Ytbcfphoheijmdaa.Print
end

section
/- What the Go function thermionkit_SameRanges does, as a Lean function, and that its call does so. Printed by a program of this work out of the translation. -/
namespace Go.Proofs.Ytbcfphoheijmdaa.Print
open Go.RowKit Go.Proofs.YtbcfphoheijmdaaW.PrintWords Go.Proofs.YtbcfphoheijmdaaW.PrintLast Go.Proofs.YtbcfphoheijmdaaW.PrintMore
attribute [local go_sem] max2_int min2_int max_two min_two max_three min_three max_four min_four
set_option linter.unusedVariables false
set_option linter.unusedSimpArgs false

attribute [local go_sem high] eqA32
/-! ### thermionkit_SameRanges: function 88 -/
def thermionkit_SameRanges.l0 : Nat → List (S32) → List (S32) → Int → Option (Bool)
 | 0, _, _, _ => none
 | k + 1, x0, x1, x5 => if x5 < (x0.length : Int) then (if 0 ≤ x5 then (if x5 < (x1.length : Int) then (if (!(((rd_T32 x0 x5).f0) == ((rd_T32 x1 x5).f0)) || (!(((rd_T32 x0 x5).f1) == ((rd_T32 x1 x5).f1)))) = true then (some false) else (thermionkit_SameRanges.l0 k x0 x1 (wrap64 (x5 + 1)))) else (none)) else (none)) else (some true)
def thermionkit_SameRanges.f (k : Nat) (l0 : List (S32)) (l1 : List (S32)) : Option (Bool) := if (l0.length : Int) = (l1.length : Int) then (thermionkit_SameRanges.l0 k l0 l1 0) else (some false)
theorem thermionkit_SameRanges.mono_l : ∀ k, (∀ y0 y1 y2, LeO (thermionkit_SameRanges.l0 k y0 y1 y2) (thermionkit_SameRanges.l0 (k + 1) y0 y1 y2))
 | 0 => fun _ _ _ r h => by simp [thermionkit_SameRanges.l0] at h
 | k + 1 => by
  have ih0 := thermionkit_SameRanges.mono_l k
  ·intro y0 y1 y2
   unfold thermionkit_SameRanges.l0
   repeat' first
   | (with_reducible exact ih0 _ _ _)
   | (with_reducible exact LeO.refl _)
   | (with_reducible exact LeO.none _)
   | (with_reducible refine LeO.ite ?_ ?_)
   | (with_reducible refine LeO.bind ?_ (fun _ => ?_))
   | exact ih0 _ _ _
   | exact LeO.none _
   | refine LeO.ite ?_ ?_
   | refine LeO.bind ?_ (fun _ => ?_)
theorem thermionkit_SameRanges.mono : ∀ a0 a1 k, LeO (thermionkit_SameRanges.f k a0 a1) (thermionkit_SameRanges.f (k + 1) a0 a1) := by
 intro a0 a1 k
 have ih0 := thermionkit_SameRanges.mono_l k
 unfold thermionkit_SameRanges.f
 repeat' first
   | (with_reducible exact ih0 _ _ _)
   | (with_reducible exact LeO.refl _)
   | (with_reducible exact LeO.none _)
   | (with_reducible refine LeO.ite ?_ ?_)
   | (with_reducible refine LeO.bind ?_ (fun _ => ?_))
   | exact ih0 _ _ _
   | exact LeO.none _
   | refine LeO.ite ?_ ?_
   | refine LeO.bind ?_ (fun _ => ?_)
set_option maxHeartbeats 8000000 in
set_option maxRecDepth 100000 in
theorem thermionkit_SameRanges.calls (k : Nat) (A0 : Option Addr) (c0 : Nat) (l0 : List (S32)) (A1 : Option Addr) (c1 : Nat) (l1 : List (S32)) (r : Bool) (w : World) (hr0 : Kd.C k32 w A0 l0.length l0) (hc0 : l0.length ≤ c0) (hr1 : Kd.C k32 w A1 l1.length l1) (hc1 : l1.length ≤ c1) (h : thermionkit_SameRanges.f k l0 l1 = some r) :
  Calls Try.prog 88 #[.slice A0 l0.length c0, .slice A1 l1.length c1] w fun e w' => e = .returned (.bool r) ∧ Drawn0 w w' := by
 have hu32 := Try.underlying32
 have HR0 := Aside0.mk hr0
 have HC0 := Aside0.mk hc0
 clear hr0 hc0
 have HR1 := Aside0.mk hr1
 have HC1 := Aside0.mk hc1
 clear hr1 hc1
 have H : (if (l0.length : Int) = (l1.length : Int) then (thermionkit_SameRanges.l0 k l0 l1 0) else (some false)) = some r := h
 clear h
 by_cases c3 : (l0.length : Int) = (l1.length : Int)
 ·rw [if_pos c3] at H
  have c3b0 : ((l0.length : Int) == (l1.length : Int)) = true := beq_iff_eq.mpr c3
  have c3b1 : ((l0.length : Int) != (l1.length : Int)) = false := bne_eq_false_iff_eq.mpr c3
  have c3b2 : (l0.length == l1.length) = true := by first | simpa using c3 | (simp at c3 ⊢; omega)
  clear c3
  have H' := Aside0.mk H
  clear H
  go_enter Try.func88, Try.ntmps88
  go_wp2
  repeat (go_quiet (fail); try go_wp2)
  go_loopg [5] k (fun kq v5 w' => ∃ (x5_1 : Int), v5 = .int .i64 x5_1 ∧ Aside0 (thermionkit_SameRanges.l0 kq l0 l1 x5_1 = some r) ∧ Aside0 (kq ≤ k) ∧ Drawn0 w w')
  case atStart => exact ⟨(0), (by first | rfl | (simp; done) | (simp [*]; done)), H', ⟨Nat.le_refl _⟩, by repeat (first | exact Drawn0.refl _ | apply Drawn0.step)⟩
  case round =>
   clear H'
   try clear c1
   try clear p2
   try clear c3
   try clear c3b0
   try clear c3b1
   try clear c3b2
   obtain ⟨x5_1, rfl, HA, HK1, ⟨m1, rfl⟩⟩ := hrel
   cases gk with
   | zero => exact absurd HA.out (by simp [thermionkit_SameRanges.l0])
   | succ k1 =>
    have H := HA.out
    clear HA
    simp only [thermionkit_SameRanges.l0] at H
    by_cases c4 : x5_1 < (l0.length : Int)
    ·rw [if_pos c4] at H
     have c4b0 : decide (x5_1 < (l0.length : Int)) = true := decide_eq_true c4
     clear c4
     by_cases c5 : 0 ≤ x5_1
     ·rw [if_pos c5] at H
      have c5b0 : decide (0 ≤ x5_1) = true := decide_eq_true c5
      clear c5
      by_cases c6 : x5_1 < (l1.length : Int)
      ·rw [if_pos c6] at H
       have c6b0 : decide (x5_1 < (l1.length : Int)) = true := decide_eq_true c6
       clear c6
       by_cases c7 : (!(((rd_T32 l0 x5_1).f0) == ((rd_T32 l1 x5_1).f0)) || (!(((rd_T32 l0 x5_1).f1) == ((rd_T32 l1 x5_1).f1)))) = true
       ·rw [if_pos c7] at H
        have c7b0 : (!(((rd_T32 l0 x5_1).f0) == ((rd_T32 l1 x5_1).f0)) || (!(((rd_T32 l0 x5_1).f1) == ((rd_T32 l1 x5_1).f1)))) = true := c7
        clear c7
        obtain rfl := Option.some.inj H
        have p142 : 0 ≤ (x5_1 : Int) := of_decide_eq_true (by first | (with_reducible assumption) | assumption)
        have q142 : x5_1 < (l0.length : Int) := of_decide_eq_true (by first | (with_reducible assumption) | assumption)
        obtain ⟨ad142, e142, hx142_0, hx142_1⟩ := at_T32 HR0.out x5_1 p142 q142
        cases e142
        replace p142 := eq_true p142
        replace q142 := eq_true q142
        have p143 : 0 ≤ (x5_1 : Int) := of_decide_eq_true (by first | (with_reducible assumption) | assumption)
        have q143 : x5_1 < (l1.length : Int) := of_decide_eq_true (by first | (with_reducible assumption) | assumption)
        obtain ⟨ad143, e143, hx143_0, hx143_1⟩ := at_T32 HR1.out x5_1 p143 q143
        cases e143
        replace p143 := eq_true p143
        replace q143 := eq_true q143
        go_wp2
        repeat (go_quiet (fail); try go_wp2)
        go_ret
        exact ⟨by first | rfl | (simp; done) | (simp [*]; done), by repeat (first | exact Drawn0.refl _ | apply Drawn0.step)⟩
       ·rw [if_neg c7] at H
        have c7b0 : (!(((rd_T32 l0 x5_1).f0) == ((rd_T32 l1 x5_1).f0)) || (!(((rd_T32 l0 x5_1).f1) == ((rd_T32 l1 x5_1).f1)))) = false := by simpa using c7
        clear c7
        have H' := Aside0.mk H
        clear H
        have p142 : 0 ≤ (x5_1 : Int) := of_decide_eq_true (by first | (with_reducible assumption) | assumption)
        have q142 : x5_1 < (l0.length : Int) := of_decide_eq_true (by first | (with_reducible assumption) | assumption)
        obtain ⟨ad142, e142, hx142_0, hx142_1⟩ := at_T32 HR0.out x5_1 p142 q142
        cases e142
        replace p142 := eq_true p142
        replace q142 := eq_true q142
        have p143 : 0 ≤ (x5_1 : Int) := of_decide_eq_true (by first | (with_reducible assumption) | assumption)
        have q143 : x5_1 < (l1.length : Int) := of_decide_eq_true (by first | (with_reducible assumption) | assumption)
        obtain ⟨ad143, e143, hx143_0, hx143_1⟩ := at_T32 HR1.out x5_1 p143 q143
        cases e143
        replace p143 := eq_true p143
        replace q143 := eq_true q143
        go_wp2
        repeat (go_quiet (fail); try go_wp2)
        go_roundg k1
        case measure => have := HK1.out; omega
        case rel => exact ⟨(wrap64 (x5_1 + 1)), (by first | rfl | (simp; done) | (simp [*]; done)), H', ⟨by have := HK1.out; omega⟩, by repeat (first | exact Drawn0.refl _ | apply Drawn0.step)⟩
      ·rw [if_neg c6] at H
       exact absurd H (by simp)
     ·rw [if_neg c5] at H
      exact absurd H (by simp)
    ·rw [if_neg c4] at H
     have c4b0 : decide (x5_1 < (l0.length : Int)) = false := decide_eq_false c4
     clear c4
     obtain rfl := Option.some.inj H
     go_wp2
     repeat (go_quiet (fail); try go_wp2)
     go_ret
     exact ⟨by first | rfl | (simp; done) | (simp [*]; done), by repeat (first | exact Drawn0.refl _ | apply Drawn0.step)⟩
 ·rw [if_neg c3] at H
  have c3b0 : ((l0.length : Int) == (l1.length : Int)) = false := beq_eq_false_iff_ne.mpr c3
  have c3b1 : ((l0.length : Int) != (l1.length : Int)) = true := bne_iff_ne.mpr c3
  have c3b2 : (l0.length == l1.length) = false := by first | simpa using c3 | (simp at c3 ⊢; omega)
  obtain rfl := Option.some.inj H
  go_enter Try.func88, Try.ntmps88
  go_wp2
  repeat (go_quiet (fail); try go_wp2)
  go_ret
  exact ⟨by first | rfl | (simp; done) | (simp [*]; done), by repeat (first | exact Drawn0.refl _ | apply Drawn0.step)⟩

end Go.Proofs.Ytbcfphoheijmdaa.Print
end

section
/- table.over: what the Go method leaves of a table. -/
namespace Go.Proofs.Ytbcfphoheijmdaa.H
open Go.RowKit Go.Proofs.YtbcfphoheijmdaaW.PrintWords Go.Proofs.YtbcfphoheijmdaaW.PrintLast Go.Proofs.YtbcfphoheijmdaaW.PrintMore
attribute [local go_sem] max2_int min2_int max_two min_two max_three min_three max_four min_four
set_option linter.unusedVariables false
set_option linter.unusedSimpArgs false

theorem info125 : (Try.prog.info? 125).map (fun i => (i.zero, i.size, i.bytes)) = some (some (.agg (Array.replicate 576 (.int .i64 0))), 576, 4608) := by kernel_rfl
theorem size125 : (Try.prog.info? 125).map (·.size) = some 576 := by kernel_rfl

/-- What 'over' leaves at a place. -/
def ovr (T : List Int) (m a b : Nat) : Int :=
  if T.getD (a * 24 + m) 0 < 1099511627776 ∧ T.getD (m * 24 + b) 0 < 1099511627776 then min (T.getD (a * 24 + b) 0) (T.getD (a * 24 + m) 0 + T.getD (m * 24 + b) 0) else T.getD (a * 24 + b) 0
/-- The table behind the places (a', b') before (a, b). -/
def OvTo (T U : List Int) (m n a b : Nat) : Prop :=
  U.length = 576 ∧ ∀ x y, x < 24 → y < 24 → U.getD (x * 24 + y) 0 = if (x < a ∨ x = a ∧ y < b) ∧ x < n ∧ y < n then ovr T m x y else T.getD (x * 24 + y) 0

theorem getD_set_ne {T : List Int} {i j : Nat} {v : Int} (h : i ≠ j) : (T.set i v).getD j 0 = T.getD j 0 := by
  simp [List.getD_eq_getElem?_getD, List.getElem?_set, h]
theorem getD_set_eq {T : List Int} {i : Nat} {v : Int} (h : i < T.length) : (T.set i v).getD i 0 = v := by
  simp [List.getD_eq_getElem?_getD, h]
theorem OvTo.put {T U : List Int} {m n a b : Nat} {X Y Z : Int} (h : OvTo T U m n a b) (ha : a < n) (hb : b < n) (hn : n ≤ 24) (h1 : T.getD (a * 24 + m) 0 = X) (h2 : T.getD (m * 24 + b) 0 = Y) (h3 : U.getD (a * 24 + b) 0 = Z) (t1 : X < 1099511627776) (t2 : Y < 1099511627776) :
    OvTo T (U.set (a * 24 + b) (if Z ≤ X + Y then Z else X + Y)) m n a (b + 1) := by
  have h4 : T.getD (a * 24 + b) 0 = Z := by rw [← h3, h.2 a b (by omega) (by omega), if_neg (by omega)]
  refine ⟨by simp [h.1], fun x y hx hy => ?_⟩
  by_cases q : x = a ∧ y = b
  · obtain ⟨rfl, rfl⟩ := q
    rw [getD_set_eq (by rw [h.1]; omega), if_pos (show (x < x ∨ x = x ∧ y < y + 1) ∧ x < n ∧ y < n by omega)]
    unfold ovr
    rw [h1, h2, h4, if_pos (show X < 1099511627776 ∧ Y < 1099511627776 from And.intro t1 t2)]
    split <;> omega
  · rw [getD_set_ne (by omega), h.2 x y hx hy]
    by_cases c : (x < a ∨ x = a ∧ y < b) ∧ x < n ∧ y < n
    · rw [if_pos c, if_pos (by omega)]
    · rw [if_neg c, if_neg (by omega)]
theorem OvTo.skip {T U : List Int} {m n a b : Nat} (h : OvTo T U m n a b) (e : T.getD (a * 24 + b) 0 = ovr T m a b) : OvTo T U m n a (b + 1) := by
  refine ⟨h.1, fun x y hx hy => ?_⟩
  rw [h.2 x y hx hy]
  by_cases c : (x < a ∨ x = a ∧ y < b) ∧ x < n ∧ y < n
  · rw [if_pos c, if_pos (by omega)]
  · rw [if_neg c]
    by_cases d : (x < a ∨ x = a ∧ y < b + 1) ∧ x < n ∧ y < n
    · rw [if_pos d]
      obtain ⟨rfl, rfl⟩ : x = a ∧ y = b := by omega
      exact e
    · rw [if_neg d]
theorem OvTo.next {T U : List Int} {m n a b : Nat} (h : OvTo T U m n a b) (hb : n ≤ b) : OvTo T U m n (a + 1) 0 := by
  refine ⟨h.1, fun x y hx hy => ?_⟩
  rw [h.2 x y hx hy]
  by_cases c : (x < a ∨ x = a ∧ y < b) ∧ x < n ∧ y < n
  · rw [if_pos c, if_pos (by omega)]
  · rw [if_neg c, if_neg (by omega)]
theorem OvTo.done {T U : List Int} {m n a b : Nat} (h : OvTo T U m n a b) (ha : n ≤ a) : OvTo T U m n n 0 := by
  refine ⟨h.1, fun x y hx hy => ?_⟩
  rw [h.2 x y hx hy]
  by_cases c : (x < a ∨ x = a ∧ y < b) ∧ x < n ∧ y < n
  · rw [if_pos c, if_pos (by omega)]
  · rw [if_neg c, if_neg (by omega)]

set_option maxHeartbeats 800000 in
set_option maxRecDepth 100000 in
theorem over_calls (T : List Int) (m n : Nat) (hT : T.length = 576) (hm : m < 24) (hn : n ≤ 24) (hbd : ∀ i, -4611686018427387904 ≤ T.getD i 0 ∧ T.getD i 0 ≤ 4611686018427387904) (w : World) :
    Calls Try.prog 133 #[.agg (nums .i64 T).toArray, .int .i64 m, .int .i64 n] w fun e w' => ∃ U, OvTo T U m n n 0 ∧ e = .returned (.agg (nums .i64 U).toArray) ∧ Below w.heap.size w w' := by
  have HS := Aside0.mk (size_nums hT)
  have HT := Aside0.mk hT
  have HBD := Aside0.mk hbd
  have HM := Aside0.mk (Mem.start w)
  clear hT hbd
  generalize hA : (nums .i64 T).toArray = A at HS ⊢
  have HA := Aside0.mk hA
  clear hA
  go_enter Try.func133, Try.ntmps133
  go_wp2_with (first
    | ((with_reducible refine gate_dst (N := 3) rfl ?_); refine ev_box HM.out rfl 125 (.tmp 0) rfl (cs := A) rfl ?_; intro g1 w1 hm1 hq1; clear hq1; have HM1 := Aside0.mk hm1; clear hm1 HM)
    | ((with_reducible refine gate_dst (N := 6) rfl ?_); refine ev_new HM1.out rfl 125 rfl info125 ?_; intro g2 w2 hm2 hq1; clear hq1; have HM2 := Aside0.mk hm2; clear hm2 HM1)
    | ((with_reducible refine gate_dst (N := 10) rfl ?_); refine ev_load HM2.out.second rfl 125 (.tmp 3) rfl rfl _ Try.underlying125 rfl size125 HS.out ?_)
    | ((with_reducible refine gate_dst (N := 7) rfl ?_); refine ev_new HM2.out rfl 125 rfl info125 ?_; intro g3 w3 hm3 hq1; clear hq1; have HM3 := Aside0.mk hm3; clear hm3 HM2)
    | (refine ev_store HM3.out rfl 125 (.tmp 7) (.tmp 10) rfl rfl rfl size125 (by simp) HS.out (by rw [← HA.out]; exact one_nums T) ?_; intro w4 hm4 hq1; clear hq1; have HM4 := Aside0.mk hm4; clear hm4 HM3))
  have H0 : Aside0 (Mem w w4 [(g3, (nums .i64 T).toArray, 125), (g2, Array.replicate 576 (.int .i64 0), 125), (g1, A, 125)]) := ⟨by rw [HA.out]; exact HM4.out⟩
  clear HM4
  go_loopg [12] n (fun k v12 w' => ∃ (a : Nat) (U : List Int), v12 = .int .i64 a ∧ Aside0 (a + k = n) ∧ Aside0 (OvTo T U m n a 0) ∧ Aside0 (Mem w w' [(g3, (nums .i64 U).toArray, 125), (g2, Array.replicate 576 (.int .i64 0), 125), (g1, A, 125)]))
  case atStart => exact ⟨0, T, rfl, ⟨by omega⟩, ⟨HT.out, fun x y _ _ => by simp⟩, H0⟩
  case round =>
    clear H0
    obtain ⟨a, U, rfl, HK, HU, HM⟩ := hrel
    by_cases ha : a < n
    · go_wp2_with fail
      go_loopg [16] n (fun k v16 w' => ∃ (b : Nat) (U : List Int), v16 = .int .i64 b ∧ Aside0 (b + k = n) ∧ Aside0 (OvTo T U m n a b) ∧ Aside0 (Mem w w' [(g3, (nums .i64 U).toArray, 125), (g2, Array.replicate 576 (.int .i64 0), 125), (g1, A, 125)]))
      case atStart => exact ⟨0, U, rfl, ⟨by omega⟩, HU, HM⟩
      case round =>
        clear HU HM U
        obtain ⟨b, U, rfl, HK2, HU, HM⟩ := hrel
        by_cases hb : b < n
        · have c1 : wr.cell? ⟨g1, a * 24 + m, none⟩ = some (.int .i64 (T.getD (a * 24 + m) 0)) := by rw [blk_cell HM.out.third, ← HA.out, get_nums _ _ (by rw [HT.out]; omega)]
          have c2 : wr.cell? ⟨g1, m * 24 + b, none⟩ = some (.int .i64 (T.getD (m * 24 + b) 0)) := by rw [blk_cell HM.out.third, ← HA.out, get_nums _ _ (by rw [HT.out]; omega)]
          have c3 : wr.cell? ⟨g3, a * 24 + b, none⟩ = some (.int .i64 (U.getD (a * 24 + b) 0)) := by rw [HM.out.cell, get_nums _ _ (by rw [HU.out.1]; omega)]
          have f3 : wr.frozen? ⟨g3, a * 24 + b, none⟩ = false := HM.out.frozen _
          have b1 := (HBD.out (a * 24 + m)).1
          have b2 := (HBD.out (a * 24 + m)).2
          have b3 := (HBD.out (m * 24 + b)).1
          have b4 := (HBD.out (m * 24 + b)).2
          generalize hX : T.getD (a * 24 + m) 0 = X at c1 b1 b2
          generalize hY : T.getD (m * 24 + b) 0 = Y at c2 b3 b4
          generalize hZ : U.getD (a * 24 + b) 0 = Z at c3
          have HX := Aside0.mk hX
          have HY := Aside0.mk hY
          have HZ := Aside0.mk hZ
          clear hX hY hZ
          by_cases t1 : X < 1099511627776
          · by_cases t2 : Y < 1099511627776
            · go_wp2_with fail
              have i1 : (0 : Int) ≤ (a : Int) := by omega
              have i2 : (a : Int) < 24 := by omega
              have i3 : (0 : Int) ≤ (b : Int) := by omega
              have i4 : (b : Int) < 24 := by omega
              have i5 : (0 : Int) ≤ (m : Int) := by omega
              have i6 : (m : Int) < 24 := by omega
              have HP := HU.out.put ha hb hn HX.out HY.out HZ.out t1 t2
              by_cases t3 : Z ≤ X + Y
              all_goals
                first | rw [if_pos t3] at HP | rw [if_neg t3] at HP
                have HQ := Aside0.mk HP
                clear HP
                have i7 : IntKind.i64.wrap (X + Y) = X + Y := IntWalk.i64_in _ (by omega)
                go_still_tail 21, (by kernel_rfl)
                clear i7
                go_wp2_with fail
                go_roundg (gk - 1)
                case measure => have := HK2.out; omega
                case rel => exact ⟨b + 1, _, by go_num, ⟨by have := HK2.out; omega⟩, HQ, ⟨(HM.out.put _ _ (set_nums _ _ _)).drew⟩⟩
            · go_wp2_with fail
              go_roundg (gk - 1)
              case measure => have := HK2.out; omega
              case rel => exact ⟨b + 1, U, by go_num, ⟨by have := HK2.out; omega⟩, ⟨HU.out.skip (by unfold ovr; rw [HX.out, HY.out, if_neg (by omega)])⟩, HM⟩
          · go_wp2_with fail
            go_roundg (gk - 1)
            case measure => have := HK2.out; omega
            case rel => exact ⟨b + 1, U, by go_num, ⟨by have := HK2.out; omega⟩, ⟨HU.out.skip (by unfold ovr; rw [HX.out, if_neg (by omega)])⟩, HM⟩
        · go_wp2_with fail
          go_roundg (n - (a + 1))
          case measure => have := HK.out; omega
          case rel => exact ⟨a + 1, U, by go_num, ⟨by have := HK.out; omega⟩, ⟨HU.out.next (by omega)⟩, HM⟩
    · go_wp2_with (first | ((with_reducible refine gate_dst (N := 56) rfl ?_); refine ev_load HM.out.head rfl 125 (.tmp 7) rfl rfl _ Try.underlying125 rfl size125 (size_nums HU.out.1) ?_) | (refine ev_store HM.out.swap rfl 125 (.tmp 6) (.tmp 56) rfl rfl rfl size125 (by simp) (size_nums HU.out.1) (one_nums U) ?_; intro w5 hm5 hq1; clear hq1; have HM5 := Aside0.mk hm5; clear hm5 HM))
      refine bodyPost_ret (results_cell_row rfl _ _ _ _ _ _ _ rfl HM5.out.head Try.underlying125 rfl (by rw [size125, size_nums HU.out.1])) rfl ⟨U, HU.out.done (by omega), rfl, HM5.out.below⟩
end Go.Proofs.Ytbcfphoheijmdaa.H
end

section
/- The tables of a chain, as Lean functions: what links say, and what the ways over ever more points make of it. -/
namespace Go.Proofs.Ytbcfphoheijmdaa.Print
open Go.RowKit Go.Proofs.YtbcfphoheijmdaaW.PrintWords Go.Proofs.YtbcfphoheijmdaaW.PrintLast Go.Proofs.YtbcfphoheijmdaaW.PrintMore Go.Proofs.Ytbcfphoheijmdaa.H
set_option linter.unusedVariables false
set_option linter.unusedSimpArgs false

/-- The table before any link: nothing bounds two points, but a point and itself. -/
def baseTab : List Int := (List.range 576).map (fun i => if i / 24 = i % 24 then 0 else 1099511627776)
/-- A link more. -/
def linkStep (T : List Int) (l : S35) : List Int :=
  let T1 := T.set (l.f0.toNat * 24 + l.f1.toNat) (mn (T.getD (l.f0.toNat * 24 + l.f1.toNat) 0) l.f2.f1)
  T1.set (l.f1.toNat * 24 + l.f0.toNat) (mn (T1.getD (l.f1.toNat * 24 + l.f0.toNat) 0) (-l.f2.f0))
def initTab (L : List S35) : List Int := L.foldl linkStep baseTab
/-- The ways over the point m. -/
def overTab (T : List Int) (m n : Nat) : List Int := (List.range 576).map (fun i => if i / 24 < n ∧ i % 24 < n then ovr T m (i / 24) (i % 24) else T.getD i 0)
/-- Is a point behind itself? -/
def negDiag (n : Nat) (T : List Int) : Bool := (List.range n).any (fun a => decide (T.getD (a * 24 + a) 0 < 0))
/-- The ways over k points from m on; 12 if a point comes behind itself. -/
def floyd (n : Nat) : Nat → Nat → List Int → List Int × Int
  | 0, _, T => (T, 0)
  | k + 1, m, T => if negDiag n (overTab T m n) then (overTab T m n, 12) else floyd n k (m + 1) (overTab T m n)
/-- The tight table of a chain, and the error. -/
def tightOf (P : Int) (L : List S35) : List Int × Int :=
  if chainErr P L = 0 then floyd P.toNat P.toNat 0 (initTab L) else (List.replicate 576 0, chainErr P L)

theorem OvTo.tab {T U : List Int} {m n : Nat} (h : OvTo T U m n n 0) : U = overTab T m n := by
  refine Is.list (n := 576) (f := fun i => if i / 24 < n ∧ i % 24 < n then ovr T m (i / 24) (i % 24) else T.getD i 0) ⟨h.1, fun j hj => ?_⟩
  have := h.2 (j / 24) (j % 24) (by omega) (by omega)
  rw [show j / 24 * 24 + j % 24 = j by omega] at this
  rw [this]
  show _ = if j / 24 < n ∧ j % 24 < n then ovr T m (j / 24) (j % 24) else T.getD j 0
  by_cases c : j / 24 < n ∧ j % 24 < n
  · rw [if_pos c, if_pos (by omega)]
  · rw [if_neg c, if_neg (by omega)]
theorem overTab_length (T : List Int) (m n : Nat) : (overTab T m n).length = 576 := by simp [overTab]
theorem getD_map_range (N : Nat) (f : Nat → Int) (i : Nat) : ((List.range N).map f).getD i 0 = if i < N then f i else 0 := by
  by_cases h : i < N
  · simp [List.getD_eq_getElem?_getD, h]
  · simp [List.getD_eq_getElem?_getD, h]
theorem baseTab_length : baseTab.length = 576 := by simp [baseTab]
theorem linkStep_length (T : List Int) (l : S35) : (linkStep T l).length = T.length := by simp [linkStep]
theorem initTab_length (L : List S35) : (initTab L).length = 576 := by
  have : ∀ (L : List S35) (T : List Int), (L.foldl linkStep T).length = T.length := by
    intro L
    induction L with
    | nil => intro T; rfl
    | cons l L ih => intro T; rw [List.foldl_cons, ih, linkStep_length]
  rw [initTab, this, baseTab_length]
theorem initTab_snoc (L : List S35) (l : S35) : initTab (L ++ [l]) = linkStep (initTab L) l := by simp [initTab]

/-- Numbers that stay small. -/
def Small (B : Int) (T : List Int) : Prop := ∀ i, -B ≤ T.getD i 0 ∧ T.getD i 0 ≤ 1099511627776
theorem mn_le (a b : Int) : mn a b ≤ a ∧ mn a b ≤ b ∧ (mn a b = a ∨ mn a b = b) := by unfold mn; split <;> omega
theorem Small.set {B : Int} {T : List Int} {i : Nat} {v : Int} (h : Small B T) (h1 : -B ≤ v) (h2 : v ≤ 1099511627776) : Small B (T.set i v) := by
  intro j
  by_cases q : i = j
  · subst q
    by_cases c : i < T.length
    · rw [H.getD_set_eq c]; exact ⟨h1, h2⟩
    · rw [List.set_eq_of_length_le (by omega)]; exact h i
  · rw [H.getD_set_ne q]; exact h j
theorem Small.base {B : Int} (hB : 0 ≤ B) : Small B baseTab := by
  intro j
  unfold baseTab
  rw [getD_map_range]
  split
  · split <;> omega
  · omega
theorem Small.link {T : List Int} {l : S35} (h : Small 1000000 T) (h1 : l.f2.f0 ≤ l.f2.f1) (h2 : -1000000 ≤ l.f2.f0) (h3 : l.f2.f1 ≤ 1000000) : Small 1000000 (linkStep T l) := by
  have s1 : Small 1000000 (T.set (l.f0.toNat * 24 + l.f1.toNat) (mn (T.getD (l.f0.toNat * 24 + l.f1.toNat) 0) l.f2.f1)) := by
    have := mn_le (T.getD (l.f0.toNat * 24 + l.f1.toNat) 0) l.f2.f1
    have := h (l.f0.toNat * 24 + l.f1.toNat)
    exact h.set (by omega) (by omega)
  have := mn_le ((T.set (l.f0.toNat * 24 + l.f1.toNat) (mn (T.getD (l.f0.toNat * 24 + l.f1.toNat) 0) l.f2.f1)).getD (l.f1.toNat * 24 + l.f0.toNat) 0) (-l.f2.f0)
  have := s1 (l.f1.toNat * 24 + l.f0.toNat)
  exact s1.set (by omega) (by omega)
theorem Small.init {P : Int} (L : List S35) (h : ∀ l, l ∈ L → linkErr P l = 0) : Small 1000000 (initTab L) := by
  have : ∀ (L : List S35) (T : List Int), (∀ l, l ∈ L → linkErr P l = 0) → Small 1000000 T → Small 1000000 (L.foldl linkStep T) := by
    intro L
    induction L with
    | nil => intro T _ h; exact h
    | cons l L ih =>
      intro T h hT
      have hl := linkErr_ok (h l (by simp))
      exact ih _ (fun l' h' => h l' (by simp [h'])) (hT.link hl.2.2.2.2.2.1 hl.2.2.2.2.2.2.1 hl.2.2.2.2.2.2.2)
  exact this L _ h (Small.base (by omega))
theorem Small.over {B : Int} {T : List Int} {m n : Nat} (h : Small B T) (hB : 0 ≤ B) : Small (2 * B) (overTab T m n) := by
  intro j
  unfold overTab
  rw [getD_map_range]
  have h0 := h j
  split
  · split
    · unfold ovr
      have h1 := h (j / 24 * 24 + m)
      have h2 := h (m * 24 + j % 24)
      have h3 := h (j / 24 * 24 + j % 24)
      split <;> omega
    · omega
  · omega
theorem Small.mono {B C : Int} {T : List Int} (h : Small B T) (hBC : B ≤ C) : Small C T := fun i => by have := h i; omega
end Go.Proofs.Ytbcfphoheijmdaa.Print
end
