/- Part 6 of the texts of a claim about Ytndkkjpgnmahbaa, put together by a program of this work: what the Go functions do, and that their calls do so. -/
import Derived.Test.YtndkkjpgnmahbaaFC2
import Derived.Test.YtndkkjpgnmahbaaFC3
import Derived.Test.YtndkkjpgnmahbaaFC4
import Derived.Test.YtndkkjpgnmahbaaFC5
section
namespace Go.Proofs.Ytndkkjpgnmahbaa.Print
open Go.RowKit Go.Proofs.YtndkkjpgnmahbaaW.PrintWords Go.Proofs.YtndkkjpgnmahbaaW.PrintLast Go.Proofs.YtndkkjpgnmahbaaW.PrintMore
attribute [local go_sem] max2_int min2_int max_two min_two max_three min_three max_four min_four
set_option linter.unusedVariables false
set_option linter.unusedSimpArgs false
mutual
def field_apart.j0 : Nat → List Int → Bool → Int → Int → Bool → List Int → Option (Int)
 | 0, _, _, _, _, _, _ => none
 | k + 1, x2, x22, x856000, x856001, x856002, x856003 => if x22 = true then (some 2) else (field_apart.l0 k x2 x2 (x2.length : Int) 0 x856000 x856001 x856002 x856003)
def field_apart.l0 : Nat → List Int → List Int → Int → Int → Int → Int → Bool → List Int → Option (Int)
 | 0, _, _, _, _, _, _, _, _ => none
 | k + 1, x2, x23, x24, x25, x856000, x856001, x856002, x856003 => if x25 < x24 then (if 0 ≤ x25 then (if x25 < (x23.length : Int) then ((field_has.f k x856000 x856001 x856002 x856003 (rd x23 x25)).bind fun t858 => (if t858 = true then (field_apart.l0 k x2 x23 x24 (wrap64 (x25 + 1)) x856000 x856001 x856002 x856003) else (some 7))) else (none)) else (none)) else (field_apart.l1 k x2 x2 (x2.length : Int) 0)
def field_apart.l1 : Nat → List Int → List Int → Int → Int → Option (Int)
 | 0, _, _, _, _ => none
 | k + 1, x2, x34, x35, x36 => if x36 < x35 then (if 0 ≤ x36 then (if x36 < (x34.length : Int) then (if x36 ≤ (x2.length : Int) then ((slices_Contains_int_int.f k (x2.take (x36 : Int).toNat) (rd x34 x36)).bind fun t861 => (if t861 = true then (some 9) else (field_apart.l1 k x2 x34 x35 (wrap64 (x36 + 1))))) else (none)) else (none)) else (none)) else (some 0)
end
def field_apart.f (k : Nat) (a0_0 : Int) (a0_1 : Int) (a0_2 : Bool) (l0_3 : List Int) (a1 : Int) (l2 : List Int) : Option (Int) := (field_Check.f a0_0 a0_1 a0_2 l0_3).bind fun t856 => (if t856 = 0 then (if a1 < 0 then (field_apart.j0 k l2 true a0_0 a0_1 a0_2 l0_3) else (field_apart.j0 k l2 (decide (a1 > 200)) a0_0 a0_1 a0_2 l0_3)) else (some t856))
set_option maxHeartbeats 8000000 in
set_option maxRecDepth 100000 in
theorem field_apart.calls (k : Nat) (a0_0 : Int) (a0_1 : Int) (a0_2 : Bool) (A0_3 : Option Addr) (c0_3 : Nat) (l0_3 : List Int) (a1 : Int) (A2 : Option Addr) (c2 : Nat) (l2 : List Int) (r : Int) (w : World) (hr0_3 : Kd.C (Kd.int .i64) w A0_3 l0_3.length l0_3) (hc0_3 : l0_3.length ≤ c0_3) (hr2 : Kd.C (Kd.int .i64) w A2 l2.length l2) (hc2 : l2.length ≤ c2) (h : field_apart.f k a0_0 a0_1 a0_2 l0_3 a1 l2 = some r) :
  Calls Try.prog 91 #[.agg #[.int .i64 a0_0, .int .i64 a0_1, .bool a0_2, .slice A0_3 l0_3.length c0_3], .int .i64 a1, .slice A2 l2.length c2] w fun e w' => e = .returned (.int .i64 r) ∧ Below w.heap.size w w' := by
 have hu24 := Try.underlying24
 have HR0_3 := Aside0.mk hr0_3
 have HC0_3 := Aside0.mk hc0_3
 clear hr0_3 hc0_3
 have HR2 := Aside0.mk hr2
 have HC2 := Aside0.mk hc2
 clear hr2 hc2
 have HB := Aside0.mk (Below.refl w.heap.size w)
 have H : ((field_Check.f a0_0 a0_1 a0_2 l0_3).bind fun t856 => (if t856 = 0 then (if a1 < 0 then (field_apart.j0 k l2 true a0_0 a0_1 a0_2 l0_3) else (field_apart.j0 k l2 (decide (a1 > 200)) a0_0 a0_1 a0_2 l0_3)) else (some t856))) = some r := h
 clear h
 replace H := Option.bind_eq_some_iff.mp H
 obtain ⟨t856, A40, H⟩ := H
 replace H : (if t856 = 0 then (if a1 < 0 then (field_apart.j0 k l2 true a0_0 a0_1 a0_2 l0_3) else (field_apart.j0 k l2 (decide (a1 > 200)) a0_0 a0_1 a0_2 l0_3)) else (some t856)) = some r := H
 have A4 := Aside0.mk A40
 clear A40
 by_cases c5 : t856 = 0
 ·rw [if_pos c5] at H
  have c5b0 : (t856 == 0) = true := beq_iff_eq.mpr c5
  have c5b1 : (t856 != 0) = false := bne_eq_false_iff_eq.mpr c5
  clear c5
  have HC6 := Aside0.mk H
  clear H
  go_enter Try.func91, Try.ntmps91
  go_upto_region 4 with (first | ((with_reducible refine gate_dst (N := 3) rfl ?_); refine box_event ?hg (N := 3) ?hd (cs := #[.int .i64 a0_0, .int .i64 a0_1, .bool a0_2, .slice A0_3 l0_3.length c0_3]) (t := 24) ?hr ?_; (case hd => rfl); (case hg => rfl); (case hr => first | (go_simp; done) | (go_simp; rfl)); intro gb855 hg w7 hbox hb; have n0_ := Aside0.mk (below_step (by repeat (first | (with_reducible first | exact HB.out | apply below_alloc | apply pw_below_drewN | apply below_drew1) | exact HB.out)) hb); have n1_ := Aside0.mk (hbox); have n2_ := Aside0.mk ((by rw [hg]; exact (below_size (by repeat (first | (with_reducible first | exact HB.out | apply below_alloc | apply pw_below_drewN | apply below_drew1) | exact HB.out))) : w.heap.size ≤ gb855)); have n3_ := Aside0.mk ((by rw [hg]; exact (below_size (by repeat (first | (with_reducible first | exact HB.out | apply below_alloc | apply pw_below_drewN | apply below_drew1) | exact HB.out))) : w.heap.size ≤ gb855)); clear HB; have HB := n0_; have BK855 := n1_; have GW855 := n2_; have GE855 := n3_; clear n0_ n1_ n2_ n3_; clear hb hbox hg; have hcz8_0 : w7.cell? ⟨gb855, 0, none⟩ = some (.int .i64 a0_0) := (blk_cell BK855.out 0).trans rfl; have hcz8_1 : w7.cell? ⟨gb855, 1, none⟩ = some (.int .i64 a0_1) := (blk_cell BK855.out 1).trans rfl; have hcz8_2 : w7.cell? ⟨gb855, 2, none⟩ = some (.bool a0_2) := (blk_cell BK855.out 2).trans rfl; have hcz8_3 : w7.cell? ⟨gb855, 3, none⟩ = some (.slice A0_3 l0_3.length c0_3) := (blk_cell BK855.out 3).trans rfl; have hfz8_0 := blk_frozen BK855.out 0; have hfz8_1 := blk_frozen BK855.out 1; have hfz8_2 := blk_frozen BK855.out 2; have hfz8_3 := blk_frozen BK855.out 3) | ((with_reducible refine gate_callee (f := 39) rfl ?_); refine goesL_ (some 13) rfl rfl Try.func39 (by kernel_rfl) rfl #[.agg #[.int .i64 a0_0, .int .i64 a0_1, .bool a0_2, .slice A0_3 l0_3.length c0_3]] rfl (by (try simp only [List.map_toArray, List.map_cons, List.map_nil]); first | done | rfl | (simp only [List.length_drop, List.length_take]; rfl)) ?_; (with_reducible refine (field_Check.calls a0_0 a0_1 a0_2 _ _ l0_3 t856 _ ?side1 ?side2 A4.out).mono ?_); (case side1 => repeat (first | exact (Kd.C_below HR0_3.out HB.out) | (with_reducible refine Kd.C_alloc ?_ _) | (with_reducible refine Kd.C_drewN ?_ _) | (with_reducible refine Kd.C_drew ?_))); (case side2 => exact HC0_3.out); rintro e w9 ⟨rfl, hb⟩; refine ⟨_, rfl, ?_⟩; have n0_ := Aside0.mk (blk_below (g := gb855) (o := .cells #[.int .i64 a0_0, .int .i64 a0_1, .bool a0_2, .slice A0_3 l0_3.length c0_3] 24 (0, 0)) (by (with_reducible repeat (first | refine blk_drewN ?_ _ | refine blk_drew ?_ | refine blk_alloc ?_ _)); exact BK855.out) hb); have n1_ := Aside0.mk (below_step (by repeat (first | (with_reducible first | exact HB.out | apply below_alloc | apply pw_below_drewN | apply below_drew1 | refine below_set ?_ GE855.out) | exact HB.out)) hb); clear BK855; clear HB; have BK855 := n0_; have HB := n1_; clear n0_ n1_; (try clear hb); (try clear hb2); (try clear hk); (try clear hi)))
  (try simp only [Act.put, List.setIfInBounds_toArray, List.set_cons_zero, List.set_cons_succ])
  go_cut [22] (fun v22 wc => ∃ (kq : Nat) (x22_5 : Bool), v22 = .bool x22_5 ∧ Aside0 (field_apart.j0 kq l2 x22_5 a0_0 a0_1 a0_2 l0_3 = some r) ∧ Aside0 (kq ≤ k) ∧ Aside0 (wc.heap[gb855]? = some (.cells #[.int .i64 a0_0, .int .i64 a0_1, .bool a0_2, (.slice A0_3 l0_3.length c0_3)] 24 (0, 0))) ∧ Aside0 (Below w.heap.size w wc))
  case first =>
   have H := HC6.out
   clear HC6
   by_cases c10 : a1 < 0
   ·rw [if_pos c10] at H
    have c10b0 : decide (a1 < 0) = true := decide_eq_true c10
    clear c10
    (first | rw [c10b0] | (simp only [i64_w, i32_w]; rw [c10b0]) | skip)
    have H' := Aside0.mk H
    clear H
    go_wp2
    go_meet
    case rel => exact ⟨_, (true), (by first | rfl | (simp; done) | (simp [*]; done)), H', ⟨by first | omega | exact Nat.le_refl _⟩, ⟨by (with_reducible repeat (first | refine blk_drewN ?_ _ | refine blk_drew ?_ | refine blk_alloc ?_ _)); exact BK855.out⟩, ⟨by repeat (first | (with_reducible first | exact HB.out | apply below_alloc | apply pw_below_drewN | apply below_drew1 | refine below_set ?_ GE855.out) | exact HB.out)⟩⟩
   ·rw [if_neg c10] at H
    have c10b0 : decide (a1 < 0) = false := decide_eq_false c10
    clear c10
    (first | rw [c10b0] | (simp only [i64_w, i32_w]; rw [c10b0]) | skip)
    have H' := Aside0.mk H
    clear H
    go_wp2
    go_meet
    case rel => exact ⟨_, (decide (a1 > 200)), (by first | rfl | (simp; done) | (simp [*]; done)), H', ⟨by first | omega | exact Nat.le_refl _⟩, ⟨by (with_reducible repeat (first | refine blk_drewN ?_ _ | refine blk_drew ?_ | refine blk_alloc ?_ _)); exact BK855.out⟩, ⟨by repeat (first | (with_reducible first | exact HB.out | apply below_alloc | apply pw_below_drewN | apply below_drew1 | refine below_set ?_ GE855.out) | exact HB.out)⟩⟩
  case rest =>
   clear HC6
   try clear c1
   try clear c2
   try clear p2
   try clear c3
   try clear c5
   try clear c5b0
   try clear c5b1
   try clear c9
   try clear c10
   try clear c10b0
   try clear hcz8_0
   try clear hcz8_1
   try clear hcz8_2
   try clear hcz8_3
   try clear hfz8_0
   try clear hfz8_1
   try clear hfz8_2
   try clear hfz8_3
   obtain ⟨kq, x22_5, rfl, HA, HJ5, BK855, HB⟩ := hcut
   cases kq with
   | zero => exact absurd HA.out (by simp [field_apart.j0])
   | succ kj5 =>
    have H := HA.out
    clear HA
    simp only [field_apart.j0] at H
    by_cases c11 : x22_5 = true
    ·subst c11
     have H1 : (some 2) = some r := by rw [if_pos rfl] at H; exact H
     clear H
     have H := H1
     clear H1
     obtain rfl := Option.some.inj H
     go_wp2
     go_ret
     exact ⟨by first | rfl | (simp [errW_none, errW_some] <;> rfl) | (simp [*, errW_none, errW_some] <;> rfl), by repeat (first | (with_reducible first | exact HB.out | apply below_alloc | apply pw_below_drewN | apply below_drew1 | refine below_set ?_ GE855.out) | exact HB.out)⟩
    ·replace c11 := Bool.eq_false_iff.mpr c11
     subst c11
     have H1 : (field_apart.l0 kj5 l2 l2 (l2.length : Int) 0 a0_0 a0_1 a0_2 l0_3) = some r := by rw [if_neg (show ¬ (false = true) by decide)] at H; exact H
     clear H
     have H := H1
     clear H1
     have H' := Aside0.mk H
     clear H
     go_wp2
     go_loopg [25] kj5 (fun kq v25 w' => ∃ (x25_2 : Int), v25 = .int .i64 x25_2 ∧ Aside0 (field_apart.l0 kq l2 l2 (l2.length : Int) x25_2 a0_0 a0_1 a0_2 l0_3 = some r) ∧ Aside0 (kq ≤ kj5) ∧ Aside0 (w'.heap[gb855]? = some (.cells #[.int .i64 a0_0, .int .i64 a0_1, .bool a0_2, (.slice A0_3 l0_3.length c0_3)] 24 (0, 0))) ∧ Aside0 (Below w.heap.size w w'))
     case atStart => exact ⟨(0), (by first | rfl | (simp; done) | (simp [*]; done)), H', ⟨Nat.le_refl _⟩, ⟨by (with_reducible repeat (first | refine blk_drewN ?_ _ | refine blk_drew ?_ | refine blk_alloc ?_ _)); exact BK855.out⟩, ⟨by repeat (first | (with_reducible first | exact HB.out | apply below_alloc | apply pw_below_drewN | apply below_drew1 | refine below_set ?_ GE855.out) | exact HB.out)⟩⟩
     case round =>
      clear H'
      try clear c1
      try clear c2
      try clear p2
      try clear c3
      try clear c5
      try clear c5b0
      try clear c5b1
      try clear c9
      try clear c10
      try clear c10b0
      try clear c11
      try clear hcz8_0
      try clear hcz8_1
      try clear hcz8_2
      try clear hcz8_3
      try clear hfz8_0
      try clear hfz8_1
      try clear hfz8_2
      try clear hfz8_3
      try clear p2
      obtain ⟨x25_2, rfl, HA, HK2, BK855, HB⟩ := hrel
      cases gk with
      | zero => exact absurd HA.out (by simp [field_apart.l0])
      | succ k2 =>
       have H := HA.out
       clear HA
       simp only [field_apart.l0] at H
       by_cases c12 : x25_2 < (l2.length : Int)
       ·rw [if_pos c12] at H
        have c12b0 : decide (x25_2 < (l2.length : Int)) = true := decide_eq_true c12
        clear c12
        by_cases c13 : 0 ≤ x25_2
        ·rw [if_pos c13] at H
         have c13b0 : decide (0 ≤ x25_2) = true := decide_eq_true c13
         clear c13
         by_cases c14 : x25_2 < (l2.length : Int)
         ·rw [if_pos c14] at H
          have c14b0 : decide (x25_2 < (l2.length : Int)) = true := decide_eq_true c14
          clear c14
          replace H := Option.bind_eq_some_iff.mp H
          obtain ⟨t858, A150, H⟩ := H
          replace H : (if t858 = true then (field_apart.l0 k2 l2 l2 (l2.length : Int) (wrap64 (x25_2 + 1)) a0_0 a0_1 a0_2 l0_3) else (some 7)) = some r := H
          have A15 := Aside0.mk A150
          clear A150
          by_cases c16 : t858 = true
          ·subst c16
           have H1 : (field_apart.l0 k2 l2 l2 (l2.length : Int) (wrap64 (x25_2 + 1)) a0_0 a0_1 a0_2 l0_3) = some r := by rw [if_pos rfl] at H; exact H
           clear H
           have H := H1
           clear H1
           have H' := Aside0.mk H
           clear H
           have p857 : 0 ≤ (x25_2 : Int) := of_decide_eq_true (by first | (with_reducible assumption) | assumption)
           have q857 : x25_2 < (l2.length : Int) := of_decide_eq_true (by first | (with_reducible assumption) | assumption)
           obtain ⟨ad857, e857, hx857_0⟩ := Kd.at_int HR2.out x25_2 p857 q857
           cases e857
           replace hx857_0 := (HB.out.cell (World.block_lt_of_cell? w _ hx857_0)).trans hx857_0
           replace p857 := eq_true p857
           replace q857 := eq_true q857
           have hcz17_0 : wr.cell? ⟨gb855, 0, none⟩ = some (.int .i64 a0_0) := (blk_cell BK855.out 0).trans rfl
           have hcz17_1 : wr.cell? ⟨gb855, 1, none⟩ = some (.int .i64 a0_1) := (blk_cell BK855.out 1).trans rfl
           have hcz17_2 : wr.cell? ⟨gb855, 2, none⟩ = some (.bool a0_2) := (blk_cell BK855.out 2).trans rfl
           have hcz17_3 : wr.cell? ⟨gb855, 3, none⟩ = some (.slice A0_3 l0_3.length c0_3) := (blk_cell BK855.out 3).trans rfl
           have hfz17_0 := blk_frozen BK855.out 0
           have hfz17_1 := blk_frozen BK855.out 1
           have hfz17_2 := blk_frozen BK855.out 2
           have hfz17_3 := blk_frozen BK855.out 3
           go_wp2_with (first | ((with_reducible refine gate_callee (f := 77) rfl ?_); refine goesL_ (some 31) rfl rfl Try.func77 (by kernel_rfl) rfl #[.agg #[.int .i64 a0_0, .int .i64 a0_1, .bool a0_2, .slice A0_3 l0_3.length c0_3], .int .i64 (rd l2 x25_2)] rfl (by (try simp only [List.map_toArray, List.map_cons, List.map_nil]); first | done | rfl | (simp only [List.length_drop, List.length_take]; rfl)) ?_; (with_reducible refine (field_has.calls k2 a0_0 a0_1 a0_2 _ _ l0_3 (rd l2 x25_2) true _ ?side1 ?side2 A15.out).mono ?_); (case side1 => repeat (first | exact (Kd.C_below HR0_3.out HB.out) | (with_reducible refine Kd.C_alloc ?_ _) | (with_reducible refine Kd.C_drewN ?_ _) | (with_reducible refine Kd.C_drew ?_))); (case side2 => exact HC0_3.out); rintro e w18 ⟨rfl, hb⟩; refine ⟨_, rfl, ?_⟩; have n0_ := Aside0.mk (blk_below (g := gb855) (o := .cells #[.int .i64 a0_0, .int .i64 a0_1, .bool a0_2, .slice A0_3 l0_3.length c0_3] 24 (0, 0)) (by (with_reducible repeat (first | refine blk_drewN ?_ _ | refine blk_drew ?_ | refine blk_alloc ?_ _)); exact BK855.out) hb); have n1_ := Aside0.mk (below_step (by repeat (first | (with_reducible first | exact HB.out | apply below_alloc | apply pw_below_drewN | apply below_drew1 | refine below_set ?_ GE855.out) | exact HB.out)) hb); clear BK855; clear HB; have BK855 := n0_; have HB := n1_; clear n0_ n1_; (try clear hb); (try clear hb2); (try clear hk); (try clear hi)))
           go_roundg k2
           case measure => have := HJ5.out; have := HK2.out; omega
           case rel => exact ⟨(wrap64 (x25_2 + 1)), (by first | rfl | (simp; done) | (simp [*]; done)), H', ⟨by have := HJ5.out; have := HK2.out; omega⟩, ⟨by (with_reducible repeat (first | refine blk_drewN ?_ _ | refine blk_drew ?_ | refine blk_alloc ?_ _)); exact BK855.out⟩, ⟨by repeat (first | (with_reducible first | exact HB.out | apply below_alloc | apply pw_below_drewN | apply below_drew1 | refine below_set ?_ GE855.out) | exact HB.out)⟩⟩
          ·replace c16 := Bool.eq_false_iff.mpr c16
           subst c16
           have H1 : (some 7) = some r := by rw [if_neg (show ¬ (false = true) by decide)] at H; exact H
           clear H
           have H := H1
           clear H1
           obtain rfl := Option.some.inj H
           have p857 : 0 ≤ (x25_2 : Int) := of_decide_eq_true (by first | (with_reducible assumption) | assumption)
           have q857 : x25_2 < (l2.length : Int) := of_decide_eq_true (by first | (with_reducible assumption) | assumption)
           obtain ⟨ad857, e857, hx857_0⟩ := Kd.at_int HR2.out x25_2 p857 q857
           cases e857
           replace hx857_0 := (HB.out.cell (World.block_lt_of_cell? w _ hx857_0)).trans hx857_0
           replace p857 := eq_true p857
           replace q857 := eq_true q857
           have hcz19_0 : wr.cell? ⟨gb855, 0, none⟩ = some (.int .i64 a0_0) := (blk_cell BK855.out 0).trans rfl
           have hcz19_1 : wr.cell? ⟨gb855, 1, none⟩ = some (.int .i64 a0_1) := (blk_cell BK855.out 1).trans rfl
           have hcz19_2 : wr.cell? ⟨gb855, 2, none⟩ = some (.bool a0_2) := (blk_cell BK855.out 2).trans rfl
           have hcz19_3 : wr.cell? ⟨gb855, 3, none⟩ = some (.slice A0_3 l0_3.length c0_3) := (blk_cell BK855.out 3).trans rfl
           have hfz19_0 := blk_frozen BK855.out 0
           have hfz19_1 := blk_frozen BK855.out 1
           have hfz19_2 := blk_frozen BK855.out 2
           have hfz19_3 := blk_frozen BK855.out 3
           go_wp2_with (first | ((with_reducible refine gate_callee (f := 77) rfl ?_); refine goesL_ (some 31) rfl rfl Try.func77 (by kernel_rfl) rfl #[.agg #[.int .i64 a0_0, .int .i64 a0_1, .bool a0_2, .slice A0_3 l0_3.length c0_3], .int .i64 (rd l2 x25_2)] rfl (by (try simp only [List.map_toArray, List.map_cons, List.map_nil]); first | done | rfl | (simp only [List.length_drop, List.length_take]; rfl)) ?_; (with_reducible refine (field_has.calls k2 a0_0 a0_1 a0_2 _ _ l0_3 (rd l2 x25_2) false _ ?side1 ?side2 A15.out).mono ?_); (case side1 => repeat (first | exact (Kd.C_below HR0_3.out HB.out) | (with_reducible refine Kd.C_alloc ?_ _) | (with_reducible refine Kd.C_drewN ?_ _) | (with_reducible refine Kd.C_drew ?_))); (case side2 => exact HC0_3.out); rintro e w20 ⟨rfl, hb⟩; refine ⟨_, rfl, ?_⟩; have n0_ := Aside0.mk (blk_below (g := gb855) (o := .cells #[.int .i64 a0_0, .int .i64 a0_1, .bool a0_2, .slice A0_3 l0_3.length c0_3] 24 (0, 0)) (by (with_reducible repeat (first | refine blk_drewN ?_ _ | refine blk_drew ?_ | refine blk_alloc ?_ _)); exact BK855.out) hb); have n1_ := Aside0.mk (below_step (by repeat (first | (with_reducible first | exact HB.out | apply below_alloc | apply pw_below_drewN | apply below_drew1 | refine below_set ?_ GE855.out) | exact HB.out)) hb); clear BK855; clear HB; have BK855 := n0_; have HB := n1_; clear n0_ n1_; (try clear hb); (try clear hb2); (try clear hk); (try clear hi)))
           go_ret
           exact ⟨by first | rfl | (simp [errW_none, errW_some] <;> rfl) | (simp [*, errW_none, errW_some] <;> rfl), by repeat (first | (with_reducible first | exact HB.out | apply below_alloc | apply pw_below_drewN | apply below_drew1 | refine below_set ?_ GE855.out) | exact HB.out)⟩
         ·rw [if_neg c14] at H
          exact absurd H (by simp)
        ·rw [if_neg c13] at H
         exact absurd H (by simp)
       ·rw [if_neg c12] at H
        have c12b0 : decide (x25_2 < (l2.length : Int)) = false := decide_eq_false c12
        clear c12
        have H' := Aside0.mk H
        clear H
        go_wp2
        go_loopg [36] k2 (fun kq v36 w' => ∃ (x36_3 : Int), v36 = .int .i64 x36_3 ∧ Aside0 (field_apart.l1 kq l2 l2 (l2.length : Int) x36_3 = some r) ∧ Aside0 (kq ≤ k2) ∧ Aside0 (w'.heap[gb855]? = some (.cells #[.int .i64 a0_0, .int .i64 a0_1, .bool a0_2, (.slice A0_3 l0_3.length c0_3)] 24 (0, 0))) ∧ Aside0 (Below w.heap.size w w'))
        case atStart => exact ⟨(0), (by first | rfl | (simp; done) | (simp [*]; done)), H', ⟨Nat.le_refl _⟩, ⟨by (with_reducible repeat (first | refine blk_drewN ?_ _ | refine blk_drew ?_ | refine blk_alloc ?_ _)); exact BK855.out⟩, ⟨by repeat (first | (with_reducible first | exact HB.out | apply below_alloc | apply pw_below_drewN | apply below_drew1 | refine below_set ?_ GE855.out) | exact HB.out)⟩⟩
        case round =>
         clear H'
         try clear c1
         try clear c2
         try clear p2
         try clear c3
         try clear c5
         try clear c5b0
         try clear c5b1
         try clear p6
         try clear c7
         try clear p8
         try clear q8
         try clear hx8
         try clear c9
         try clear c10
         try clear c10b0
         try clear c11
         try clear c12
         try clear c12b0
         try clear c13
         try clear c13b0
         try clear c14
         try clear c14b0
         try clear c16
         try clear hcz17_0
         try clear hcz17_1
         try clear hcz17_2
         try clear hcz17_3
         try clear hcz19_0
         try clear hcz19_1
         try clear hcz19_2
         try clear hcz19_3
         try clear hcz8_0
         try clear hcz8_1
         try clear hcz8_2
         try clear hcz8_3
         try clear hfz17_0
         try clear hfz17_1
         try clear hfz17_2
         try clear hfz17_3
         try clear hfz19_0
         try clear hfz19_1
         try clear hfz19_2
         try clear hfz19_3
         try clear hfz8_0
         try clear hfz8_1
         try clear hfz8_2
         try clear hfz8_3
         try clear hx857_0
         try clear p2
         try clear p857
         try clear q857
         obtain ⟨x36_3, rfl, HA, HK3, BK855, HB⟩ := hrel
         cases gk with
         | zero => exact absurd HA.out (by simp [field_apart.l1])
         | succ k3 =>
          have H := HA.out
          clear HA
          simp only [field_apart.l1] at H
          by_cases c21 : x36_3 < (l2.length : Int)
          ·rw [if_pos c21] at H
           have c21b0 : decide (x36_3 < (l2.length : Int)) = true := decide_eq_true c21
           clear c21
           by_cases c22 : 0 ≤ x36_3
           ·rw [if_pos c22] at H
            have c22b0 : decide (0 ≤ x36_3) = true := decide_eq_true c22
            clear c22
            by_cases c23 : x36_3 < (l2.length : Int)
            ·rw [if_pos c23] at H
             have c23b0 : decide (x36_3 < (l2.length : Int)) = true := decide_eq_true c23
             clear c23
             have c24b0 := eq_true (of_decide_eq_true (by first | (with_reducible assumption) | assumption) : 0 ≤ x36_3)
             by_cases c25 : x36_3 ≤ (l2.length : Int)
             ·rw [if_pos c25] at H
              have c25b0 := eq_true c25
              have c25b1 : decide (x36_3 ≤ (l2.length : Int)) = true := decide_eq_true c25
              clear c25
              replace H := Option.bind_eq_some_iff.mp H
              obtain ⟨t861, A260, H⟩ := H
              replace H : (if t861 = true then (some 9) else (field_apart.l1 k3 l2 l2 (l2.length : Int) (wrap64 (x36_3 + 1)))) = some r := H
              have A26 := Aside0.mk A260
              clear A260
              by_cases c27 : t861 = true
              ·subst c27
               have H1 : (some 9) = some r := by rw [if_pos rfl] at H; exact H
               clear H
               have H := H1
               clear H1
               obtain rfl := Option.some.inj H
               have p859 : 0 ≤ (x36_3 : Int) := of_decide_eq_true (by first | (with_reducible assumption) | assumption)
               have q859 : x36_3 < (l2.length : Int) := of_decide_eq_true (by first | (with_reducible assumption) | assumption)
               obtain ⟨ad859, e859, hx859_0⟩ := Kd.at_int HR2.out x36_3 p859 q859
               cases e859
               replace hx859_0 := (HB.out.cell (World.block_lt_of_cell? w _ hx859_0)).trans hx859_0
               replace p859 := eq_true p859
               replace q859 := eq_true q859
               obtain ⟨i028, hi028, _, hsz28, _⟩ := info_parts info3
               obtain ⟨hcut28, hA28, hC28⟩ := print_take_of (P := Try.prog) (Value.int .i64) 0 22 3 .i64 Try.underlying22 hi028 hsz28 (some ad859) c2 l2 x36_3 (of_decide_eq_true (by first | (with_reducible assumption) | assumption)) (of_decide_eq_true (by first | (with_reducible assumption) | assumption)) HC2.out
               have HR860 := Aside0.mk (Kd.C_of_reads (h1 := fun _ => rfl) (hA28 _ (Kd.reads_of_C HR2.out)))
               have HC860 := Aside0.mk hC28
               clear hA28 hC28 hi028 hsz28
               go_wp2_with (first | ((with_reducible refine gate_callee (f := 88) rfl ?_); refine goesL_ (some 45) rfl rfl Try.func88 (by kernel_rfl) rfl #[.slice (some ad859) (l2.take (x36_3 : Int).toNat).length c2, .int .i64 (rd l2 x36_3)] rfl (by (try simp only [List.map_toArray, List.map_cons, List.map_nil]); first | done | (rw [show (l2.take (x36_3 : Int).toNat).length = x36_3.toNat from (by rw [List.length_take]; have h_ : (x36_3 : Int) ≤ (l2.length : Int) := of_decide_eq_true (by first | (with_reducible assumption) | assumption); omega)] <;> rfl) | rfl | (simp only [List.length_drop, List.length_take]; rfl)) ?_; (with_reducible refine (slices_Contains_int_int.calls k3 _ _ (l2.take (x36_3 : Int).toNat) (rd l2 x36_3) true _ ?side1 ?side2 A26.out).mono ?_); (case side1 => repeat (first | exact (Kd.C_below HR860.out HB.out) | (with_reducible refine Kd.C_alloc ?_ _) | (with_reducible refine Kd.C_drewN ?_ _) | (with_reducible refine Kd.C_drew ?_))); (case side2 => exact HC860.out); rintro e w' ⟨rfl, ⟨nd, rfl⟩⟩; refine ⟨_, rfl, ?_⟩))
               go_ret
               exact ⟨by first | rfl | (simp [errW_none, errW_some] <;> rfl) | (simp [*, errW_none, errW_some] <;> rfl), by repeat (first | (with_reducible first | exact HB.out | apply below_alloc | apply pw_below_drewN | apply below_drew1 | refine below_set ?_ GE855.out) | exact HB.out)⟩
              ·replace c27 := Bool.eq_false_iff.mpr c27
               subst c27
               have H1 : (field_apart.l1 k3 l2 l2 (l2.length : Int) (wrap64 (x36_3 + 1))) = some r := by rw [if_neg (show ¬ (false = true) by decide)] at H; exact H
               clear H
               have H := H1
               clear H1
               have H' := Aside0.mk H
               clear H
               have p859 : 0 ≤ (x36_3 : Int) := of_decide_eq_true (by first | (with_reducible assumption) | assumption)
               have q859 : x36_3 < (l2.length : Int) := of_decide_eq_true (by first | (with_reducible assumption) | assumption)
               obtain ⟨ad859, e859, hx859_0⟩ := Kd.at_int HR2.out x36_3 p859 q859
               cases e859
               replace hx859_0 := (HB.out.cell (World.block_lt_of_cell? w _ hx859_0)).trans hx859_0
               replace p859 := eq_true p859
               replace q859 := eq_true q859
               obtain ⟨i029, hi029, _, hsz29, _⟩ := info_parts info3
               obtain ⟨hcut29, hA29, hC29⟩ := print_take_of (P := Try.prog) (Value.int .i64) 0 22 3 .i64 Try.underlying22 hi029 hsz29 (some ad859) c2 l2 x36_3 (of_decide_eq_true (by first | (with_reducible assumption) | assumption)) (of_decide_eq_true (by first | (with_reducible assumption) | assumption)) HC2.out
               have HR860 := Aside0.mk (Kd.C_of_reads (h1 := fun _ => rfl) (hA29 _ (Kd.reads_of_C HR2.out)))
               have HC860 := Aside0.mk hC29
               clear hA29 hC29 hi029 hsz29
               go_wp2_with (first | ((with_reducible refine gate_callee (f := 88) rfl ?_); refine goesL_ (some 45) rfl rfl Try.func88 (by kernel_rfl) rfl #[.slice (some ad859) (l2.take (x36_3 : Int).toNat).length c2, .int .i64 (rd l2 x36_3)] rfl (by (try simp only [List.map_toArray, List.map_cons, List.map_nil]); first | done | (rw [show (l2.take (x36_3 : Int).toNat).length = x36_3.toNat from (by rw [List.length_take]; have h_ : (x36_3 : Int) ≤ (l2.length : Int) := of_decide_eq_true (by first | (with_reducible assumption) | assumption); omega)] <;> rfl) | rfl | (simp only [List.length_drop, List.length_take]; rfl)) ?_; (with_reducible refine (slices_Contains_int_int.calls k3 _ _ (l2.take (x36_3 : Int).toNat) (rd l2 x36_3) false _ ?side1 ?side2 A26.out).mono ?_); (case side1 => repeat (first | exact (Kd.C_below HR860.out HB.out) | (with_reducible refine Kd.C_alloc ?_ _) | (with_reducible refine Kd.C_drewN ?_ _) | (with_reducible refine Kd.C_drew ?_))); (case side2 => exact HC860.out); rintro e w' ⟨rfl, ⟨nd, rfl⟩⟩; refine ⟨_, rfl, ?_⟩))
               go_roundg k3
               case measure => have := HJ5.out; have := HK2.out; have := HK3.out; omega
               case rel => exact ⟨(wrap64 (x36_3 + 1)), (by first | rfl | (simp; done) | (simp [*]; done)), H', ⟨by have := HJ5.out; have := HK2.out; have := HK3.out; omega⟩, ⟨by (with_reducible repeat (first | refine blk_drewN ?_ _ | refine blk_drew ?_ | refine blk_alloc ?_ _)); exact BK855.out⟩, ⟨by repeat (first | (with_reducible first | exact HB.out | apply below_alloc | apply pw_below_drewN | apply below_drew1 | refine below_set ?_ GE855.out) | exact HB.out)⟩⟩
             ·rw [if_neg c25] at H
              exact absurd H (by simp)
            ·rw [if_neg c23] at H
             exact absurd H (by simp)
           ·rw [if_neg c22] at H
            exact absurd H (by simp)
          ·rw [if_neg c21] at H
           have c21b0 : decide (x36_3 < (l2.length : Int)) = false := decide_eq_false c21
           clear c21
           obtain rfl := Option.some.inj H
           go_wp2
           go_ret
           exact ⟨by first | rfl | (simp [errW_none, errW_some] <;> rfl) | (simp [*, errW_none, errW_some] <;> rfl), by repeat (first | (with_reducible first | exact HB.out | apply below_alloc | apply pw_below_drewN | apply below_drew1 | refine below_set ?_ GE855.out) | exact HB.out)⟩
 ·rw [if_neg c5] at H
  have c5b0 : (t856 == 0) = false := beq_eq_false_iff_ne.mpr c5
  have c5b1 : (t856 != 0) = true := bne_iff_ne.mpr c5
  obtain rfl := Option.some.inj H
  go_enter Try.func91, Try.ntmps91
  go_wp2_with (first | ((with_reducible refine gate_dst (N := 3) rfl ?_); refine box_event ?hg (N := 3) ?hd (cs := #[.int .i64 a0_0, .int .i64 a0_1, .bool a0_2, .slice A0_3 l0_3.length c0_3]) (t := 24) ?hr ?_; (case hd => rfl); (case hg => rfl); (case hr => first | (go_simp; done) | (go_simp; rfl)); intro gb855 hg w30 hbox hb; have n0_ := Aside0.mk (below_step (by repeat (first | (with_reducible first | exact HB.out | apply below_alloc | apply pw_below_drewN | apply below_drew1) | exact HB.out)) hb); have n1_ := Aside0.mk (hbox); have n2_ := Aside0.mk ((by rw [hg]; exact (below_size (by repeat (first | (with_reducible first | exact HB.out | apply below_alloc | apply pw_below_drewN | apply below_drew1) | exact HB.out))) : w.heap.size ≤ gb855)); have n3_ := Aside0.mk ((by rw [hg]; exact (below_size (by repeat (first | (with_reducible first | exact HB.out | apply below_alloc | apply pw_below_drewN | apply below_drew1) | exact HB.out))) : w.heap.size ≤ gb855)); clear HB; have HB := n0_; have BK855 := n1_; have GW855 := n2_; have GE855 := n3_; clear n0_ n1_ n2_ n3_; clear hb hbox hg; have hcz31_0 : w30.cell? ⟨gb855, 0, none⟩ = some (.int .i64 a0_0) := (blk_cell BK855.out 0).trans rfl; have hcz31_1 : w30.cell? ⟨gb855, 1, none⟩ = some (.int .i64 a0_1) := (blk_cell BK855.out 1).trans rfl; have hcz31_2 : w30.cell? ⟨gb855, 2, none⟩ = some (.bool a0_2) := (blk_cell BK855.out 2).trans rfl; have hcz31_3 : w30.cell? ⟨gb855, 3, none⟩ = some (.slice A0_3 l0_3.length c0_3) := (blk_cell BK855.out 3).trans rfl; have hfz31_0 := blk_frozen BK855.out 0; have hfz31_1 := blk_frozen BK855.out 1; have hfz31_2 := blk_frozen BK855.out 2; have hfz31_3 := blk_frozen BK855.out 3) | ((with_reducible refine gate_callee (f := 39) rfl ?_); refine goesL_ (some 13) rfl rfl Try.func39 (by kernel_rfl) rfl #[.agg #[.int .i64 a0_0, .int .i64 a0_1, .bool a0_2, .slice A0_3 l0_3.length c0_3]] rfl (by (try simp only [List.map_toArray, List.map_cons, List.map_nil]); first | done | rfl | (simp only [List.length_drop, List.length_take]; rfl)) ?_; (with_reducible refine (field_Check.calls a0_0 a0_1 a0_2 _ _ l0_3 t856 _ ?side1 ?side2 A4.out).mono ?_); (case side1 => repeat (first | exact (Kd.C_below HR0_3.out HB.out) | (with_reducible refine Kd.C_alloc ?_ _) | (with_reducible refine Kd.C_drewN ?_ _) | (with_reducible refine Kd.C_drew ?_))); (case side2 => exact HC0_3.out); rintro e w32 ⟨rfl, hb⟩; refine ⟨_, rfl, ?_⟩; have n0_ := Aside0.mk (blk_below (g := gb855) (o := .cells #[.int .i64 a0_0, .int .i64 a0_1, .bool a0_2, .slice A0_3 l0_3.length c0_3] 24 (0, 0)) (by (with_reducible repeat (first | refine blk_drewN ?_ _ | refine blk_drew ?_ | refine blk_alloc ?_ _)); exact BK855.out) hb); have n1_ := Aside0.mk (below_step (by repeat (first | (with_reducible first | exact HB.out | apply below_alloc | apply pw_below_drewN | apply below_drew1 | refine below_set ?_ GE855.out) | exact HB.out)) hb); clear BK855; clear HB; have BK855 := n0_; have HB := n1_; clear n0_ n1_; (try clear hb); (try clear hb2); (try clear hk); (try clear hi)))
  go_ret
  exact ⟨by first | rfl | (simp [errW_none, errW_some] <;> rfl) | (simp [*, errW_none, errW_some] <;> rfl), by repeat (first | (with_reducible first | exact HB.out | apply below_alloc | apply pw_below_drewN | apply below_drew1 | refine below_set ?_ GE855.out) | exact HB.out)⟩
end Go.Proofs.Ytndkkjpgnmahbaa.Print
end

section
namespace Go.Proofs.Ytndkkjpgnmahbaa.Print
open Go.RowKit Go.Proofs.YtndkkjpgnmahbaaW.PrintWords Go.Proofs.YtndkkjpgnmahbaaW.PrintLast Go.Proofs.YtndkkjpgnmahbaaW.PrintMore
attribute [local go_sem] max2_int min2_int max_two min_two max_three min_three max_four min_four
set_option linter.unusedVariables false
set_option linter.unusedSimpArgs false
def field_Influence.f (k : Nat) (a0_0 : Int) (a0_1 : Int) (a0_2 : Bool) (l0_3 : List Int) (a1 : Int) (a2 : Int) (a3 : Int) : Option (Int × Int × Int) := (field_apart.f k a0_0 a0_1 a0_2 l0_3 a1 (([a2, a3] : List Int))).bind fun t867 => (if t867 = 0 then ((slices_Max_int_int.f l0_3).bind fun t868 => (if 0 ≤ t868 then (if (t868 : Int).toNat ≤ 35184372088832 then ((some (List.replicate (t868 : Int).toNat 0 : List Int)).bind fun y869 => (if 0 ≤ (wrap64 (a2 - 1)) then (if (wrap64 (a2 - 1)) < (y869.length : Int) then ((field_Charge.f a0_0 a0_1 a0_2 l0_3 (y869.set ((wrap64 (a2 - 1)) : Int).toNat 1000000) a1 a3).bind fun bt873 => (some (wrap64 (-bt873.2.1), wrap64 (-bt873.1), bt873.2.2))) else (none)) else (none))) else (none)) else (none))) else (some (0, 0, t867)))
set_option maxHeartbeats 8000000 in
set_option maxRecDepth 100000 in
theorem field_Influence.calls (k : Nat) (a0_0 : Int) (a0_1 : Int) (a0_2 : Bool) (A0_3 : Option Addr) (c0_3 : Nat) (l0_3 : List Int) (a1 : Int) (a2 : Int) (a3 : Int) (r1 : Int) (r2 : Int) (r3 : Int) (w : World) (hr0_3 : Kd.C (Kd.int .i64) w A0_3 l0_3.length l0_3) (hc0_3 : l0_3.length ≤ c0_3) (h : field_Influence.f k a0_0 a0_1 a0_2 l0_3 a1 a2 a3 = some (r1, r2, r3)) :
  Calls Try.prog 52 #[.agg #[.int .i64 a0_0, .int .i64 a0_1, .bool a0_2, .slice A0_3 l0_3.length c0_3], .int .i64 a1, .int .i64 a2, .int .i64 a3] w fun e w' => e = .returned (.tuple #[.agg #[.int .i64 r1, .int .i64 r2], .int .i64 r3]) ∧ Below w.heap.size w w' := by
 have hu24 := Try.underlying24
 have hu42 := Try.underlying42
 have HR0_3 := Aside0.mk hr0_3
 have HC0_3 := Aside0.mk hc0_3
 clear hr0_3 hc0_3
 have HB := Aside0.mk (Below.refl w.heap.size w)
 have H : ((field_apart.f k a0_0 a0_1 a0_2 l0_3 a1 (([a2, a3] : List Int))).bind fun t867 => (if t867 = 0 then ((slices_Max_int_int.f l0_3).bind fun t868 => (if 0 ≤ t868 then (if (t868 : Int).toNat ≤ 35184372088832 then ((some (List.replicate (t868 : Int).toNat 0 : List Int)).bind fun y869 => (if 0 ≤ (wrap64 (a2 - 1)) then (if (wrap64 (a2 - 1)) < (y869.length : Int) then ((field_Charge.f a0_0 a0_1 a0_2 l0_3 (y869.set ((wrap64 (a2 - 1)) : Int).toNat 1000000) a1 a3).bind fun bt873 => (some (wrap64 (-bt873.2.1), wrap64 (-bt873.1), bt873.2.2))) else (none)) else (none))) else (none)) else (none))) else (some (0, 0, t867)))) = some (r1, r2, r3) := h
 clear h
 obtain ⟨y864, hy864⟩ : ∃ y_ : List Int, y_ = (([a2, a3] : List Int)) := ⟨_, rfl⟩
 replace H : ((field_apart.f k a0_0 a0_1 a0_2 l0_3 a1 y864).bind fun t867 => (if t867 = 0 then ((slices_Max_int_int.f l0_3).bind fun t868 => (if 0 ≤ t868 then (if (t868 : Int).toNat ≤ 35184372088832 then ((some (List.replicate (t868 : Int).toNat 0 : List Int)).bind fun y869 => (if 0 ≤ (wrap64 (a2 - 1)) then (if (wrap64 (a2 - 1)) < (y869.length : Int) then ((field_Charge.f a0_0 a0_1 a0_2 l0_3 (y869.set ((wrap64 (a2 - 1)) : Int).toNat 1000000) a1 a3).bind fun bt873 => (some (wrap64 (-bt873.2.1), wrap64 (-bt873.1), bt873.2.2))) else (none)) else (none))) else (none)) else (none))) else (some (0, 0, t867)))) = some (r1, r2, r3) := by first | (rw [hy864]; with_reducible exact H) | (have H2_ := (Option.bind_some _ _).symm.trans H; rw [hy864]; with_reducible exact H2_) | (have H2_ := (Option.bind_some _ _).symm.trans H; with_reducible exact H2_) | with_reducible exact H | (rw [hy864]; exact H) | exact H
 have Ny864 := Aside0.mk hy864
 clear hy864
 replace H := Option.bind_eq_some_iff.mp H
 obtain ⟨t867, A50, H⟩ := H
 replace H : (if t867 = 0 then ((slices_Max_int_int.f l0_3).bind fun t868 => (if 0 ≤ t868 then (if (t868 : Int).toNat ≤ 35184372088832 then ((some (List.replicate (t868 : Int).toNat 0 : List Int)).bind fun y869 => (if 0 ≤ (wrap64 (a2 - 1)) then (if (wrap64 (a2 - 1)) < (y869.length : Int) then ((field_Charge.f a0_0 a0_1 a0_2 l0_3 (y869.set ((wrap64 (a2 - 1)) : Int).toNat 1000000) a1 a3).bind fun bt873 => (some (wrap64 (-bt873.2.1), wrap64 (-bt873.1), bt873.2.2))) else (none)) else (none))) else (none)) else (none))) else (some (0, 0, t867))) = some (r1, r2, r3) := H
 have A5 := Aside0.mk A50
 clear A50
 by_cases c6 : t867 = 0
 ·rw [if_pos c6] at H
  have c6b0 : (t867 == 0) = true := beq_iff_eq.mpr c6
  have c6b1 : (t867 != 0) = false := bne_eq_false_iff_eq.mpr c6
  clear c6
  replace H := Option.bind_eq_some_iff.mp H
  obtain ⟨t868, A70, H⟩ := H
  replace H : (if 0 ≤ t868 then (if (t868 : Int).toNat ≤ 35184372088832 then ((some (List.replicate (t868 : Int).toNat 0 : List Int)).bind fun y869 => (if 0 ≤ (wrap64 (a2 - 1)) then (if (wrap64 (a2 - 1)) < (y869.length : Int) then ((field_Charge.f a0_0 a0_1 a0_2 l0_3 (y869.set ((wrap64 (a2 - 1)) : Int).toNat 1000000) a1 a3).bind fun bt873 => (some (wrap64 (-bt873.2.1), wrap64 (-bt873.1), bt873.2.2))) else (none)) else (none))) else (none)) else (none)) = some (r1, r2, r3) := H
  have A7 := Aside0.mk A70
  clear A70
  by_cases c8 : 0 ≤ t868
  ·rw [if_pos c8] at H
   have c8b0 := eq_true c8
   have c8b1 : decide (0 ≤ t868) = true := decide_eq_true c8
   clear c8
   by_cases c9 : (t868 : Int).toNat ≤ 35184372088832
   ·rw [if_pos c9] at H
    have c9b0 := eq_true c9
    have c9b1 : decide ((t868 : Int).toNat ≤ 35184372088832) = true := decide_eq_true c9
    clear c9
    obtain ⟨y869, hy869⟩ : ∃ y_ : List Int, y_ = (List.replicate (t868 : Int).toNat 0) := ⟨_, rfl⟩
    replace H : (if 0 ≤ (wrap64 (a2 - 1)) then (if (wrap64 (a2 - 1)) < (y869.length : Int) then ((field_Charge.f a0_0 a0_1 a0_2 l0_3 (y869.set ((wrap64 (a2 - 1)) : Int).toNat 1000000) a1 a3).bind fun bt873 => (some (wrap64 (-bt873.2.1), wrap64 (-bt873.1), bt873.2.2))) else (none)) else (none)) = some (r1, r2, r3) := by first | (rw [hy869]; with_reducible exact H) | (have H2_ := (Option.bind_some _ _).symm.trans H; rw [hy869]; with_reducible exact H2_) | (have H2_ := (Option.bind_some _ _).symm.trans H; with_reducible exact H2_) | with_reducible exact H | (rw [hy869]; exact H) | exact H
    have Ny869 := Aside0.mk hy869
    clear hy869
    obtain ⟨ji10, hji10⟩ : ∃ j_ : Int, (wrap64 (a2 - 1)) = j_ := ⟨_, rfl⟩
    replace H : (if 0 ≤ (ji10) then (if (ji10) < (y869.length : Int) then ((field_Charge.f a0_0 a0_1 a0_2 l0_3 (y869.set ((ji10) : Int).toNat 1000000) a1 a3).bind fun bt873 => (some (wrap64 (-bt873.2.1), wrap64 (-bt873.1), bt873.2.2))) else (none)) else (none)) = some (r1, r2, r3) := by first | (rw [hji10] at H; exact H) | (simp only [hji10] at H ⊢; exact H)
    (try rw [hji10] at A5)
    (try rw [hji10] at A7)
    have hji10w : (IntKind.i64.wrap (a2 - 1)) = ji10 := (i64_w _).trans hji10
    by_cases c11 : 0 ≤ (ji10)
    ·rw [if_pos c11] at H
     have c11b0 : decide (0 ≤ (ji10)) = true := decide_eq_true c11
     clear c11
     by_cases c12 : (ji10) < (y869.length : Int)
     ·rw [if_pos c12] at H
      have c12b0 : decide ((ji10) < (y869.length : Int)) = true := decide_eq_true c12
      clear c12
      obtain ⟨y872, hy872⟩ : ∃ y_ : List Int, y_ = (y869.set ((ji10) : Int).toNat 1000000) := ⟨_, rfl⟩
      replace H : ((field_Charge.f a0_0 a0_1 a0_2 l0_3 y872 a1 a3).bind fun bt873 => (some (wrap64 (-bt873.2.1), wrap64 (-bt873.1), bt873.2.2))) = some (r1, r2, r3) := by first | (rw [hy872]; with_reducible exact H) | (have H2_ := (Option.bind_some _ _).symm.trans H; rw [hy872]; with_reducible exact H2_) | (have H2_ := (Option.bind_some _ _).symm.trans H; with_reducible exact H2_) | with_reducible exact H | (rw [hy872]; exact H) | exact H
      have Ny872 := Aside0.mk hy872
      clear hy872
      replace H := Option.bind_eq_some_iff.mp H
      obtain ⟨⟨t873, t874, t875⟩, A140, H⟩ := H
      replace H : (some (wrap64 (-t874), wrap64 (-t873), t875)) = some (r1, r2, r3) := H
      have A14 := Aside0.mk A140
      clear A140
      simp only [Option.some.injEq, Prod.mk.injEq] at H
      obtain ⟨rfl, rfl, rfl⟩ := H
      go_enter Try.func52, Try.ntmps52
      go_wp2_with (first | ((with_reducible refine gate_dst (N := 4) rfl ?_); refine box_event ?hg (N := 4) ?hd (cs := #[.int .i64 a0_0, .int .i64 a0_1, .bool a0_2, .slice A0_3 l0_3.length c0_3]) (t := 24) ?hr ?_; (case hd => rfl); (case hg => rfl); (case hr => first | (go_simp; done) | (go_simp; rfl)); intro gb862 hg w15 hbox hb; have n0_ := Aside0.mk (below_step (by repeat (first | (with_reducible first | exact HB.out | apply below_alloc | apply pw_below_drewN | apply below_drew1) | exact HB.out)) hb); have n1_ := Aside0.mk (hbox); have n2_ := Aside0.mk ((by rw [hg]; exact (below_size (by repeat (first | (with_reducible first | exact HB.out | apply below_alloc | apply pw_below_drewN | apply below_drew1) | exact HB.out))) : w.heap.size ≤ gb862)); have n3_ := Aside0.mk ((by rw [hg]; exact (below_size (by repeat (first | (with_reducible first | exact HB.out | apply below_alloc | apply pw_below_drewN | apply below_drew1) | exact HB.out))) : w.heap.size ≤ gb862)); clear HB; have HB := n0_; have BK862 := n1_; have GW862 := n2_; have GE862 := n3_; clear n0_ n1_ n2_ n3_; clear hb hbox hg) | ((with_reducible refine gate_dst (N := 8) rfl ?_); refine box_event ?hg (N := 8) ?hd (cs := #[.int .i64 0, .int .i64 0]) (t := 42) ?hr ?_; (case hd => rfl); (case hg => rfl); (case hr => first | (go_simp; done) | (go_simp; rfl)); intro gb863 hg w16 hbox hb; have n0_ := Aside0.mk (blk_below (g := gb862) (o := .cells #[.int .i64 a0_0, .int .i64 a0_1, .bool a0_2, .slice A0_3 l0_3.length c0_3] 24 (0, 0)) (by (with_reducible repeat (first | refine blk_drewN ?_ _ | refine blk_drew ?_ | refine blk_alloc ?_ _)); exact BK862.out) hb); have n1_ := Aside0.mk (below_step (by repeat (first | (with_reducible first | exact HB.out | apply below_alloc | apply pw_below_drewN | apply below_drew1 | refine below_set ?_ GE862.out) | exact HB.out)) hb); have n2_ := Aside0.mk (hbox); have n3_ := Aside0.mk ((by rw [hg]; exact (below_size (by repeat (first | (with_reducible first | exact HB.out | apply below_alloc | apply pw_below_drewN | apply below_drew1 | refine below_set ?_ GE862.out) | exact HB.out))) : w.heap.size ≤ gb863)); have n4_ := Aside0.mk ((by rw [hg]; exact (below_size (by repeat (first | (with_reducible first | exact HB.out | apply below_alloc | apply pw_below_drewN | apply below_drew1 | refine below_set ?_ GE862.out) | exact HB.out))) : w.heap.size ≤ gb863)); have n5_ := Aside0.mk ((by rw [hg]; exact Nat.ne_of_lt (blk_lt (g := gb862) (o := .cells #[.int .i64 a0_0, .int .i64 a0_1, .bool a0_2, .slice A0_3 l0_3.length c0_3] 24 (0, 0)) (by (with_reducible repeat (first | refine blk_drewN ?_ _ | refine blk_drew ?_ | refine blk_alloc ?_ _)); exact BK862.out)) : gb862 ≠ gb863)); have n6_ := Aside0.mk ((by rw [hg]; exact Nat.ne_of_gt (blk_lt (g := gb862) (o := .cells #[.int .i64 a0_0, .int .i64 a0_1, .bool a0_2, .slice A0_3 l0_3.length c0_3] 24 (0, 0)) (by (with_reducible repeat (first | refine blk_drewN ?_ _ | refine blk_drew ?_ | refine blk_alloc ?_ _)); exact BK862.out)) : gb863 ≠ gb862)); clear BK862; clear HB; have BK862 := n0_; have HB := n1_; have BK863 := n2_; have GW863 := n3_; have GE863 := n4_; have NB862_863 := n5_; have NB863_862 := n6_; clear n0_ n1_ n2_ n3_ n4_ n5_ n6_; clear hb hbox hg; have hnb17 := NB862_863.out; have hnc17 := NB863_862.out; have hcz18_0 : w16.cell? ⟨gb862, 0, none⟩ = some (.int .i64 a0_0) := (blk_cell BK862.out 0).trans rfl; have hcz18_1 : w16.cell? ⟨gb862, 1, none⟩ = some (.int .i64 a0_1) := (blk_cell BK862.out 1).trans rfl; have hcz18_2 : w16.cell? ⟨gb862, 2, none⟩ = some (.bool a0_2) := (blk_cell BK862.out 2).trans rfl; have hcz18_3 : w16.cell? ⟨gb862, 3, none⟩ = some (.slice A0_3 l0_3.length c0_3) := (blk_cell BK862.out 3).trans rfl; have hfz18_0 := blk_frozen BK862.out 0; have hfz18_1 := blk_frozen BK862.out 1; have hfz18_2 := blk_frozen BK862.out 2; have hfz18_3 := blk_frozen BK862.out 3) | ((with_reducible refine gate_dst (N := 18) rfl ?_); refine Kd.R_lit (Kd.int .i64) _ 3 ?hg (N := 18) ?hd (xs := ([a2, a3] : List Int)) (inner := [.int .i64 a2, .int .i64 a3]) (ok := fun _ => True) (okp := fun _ => True) ?hr ?hp (fun _ hk => hk) trivial (Below.refl _ _) (Nat.le_refl _) (by simp) ?_; (case hd => rfl); (case hg => rfl); (case hr => first | (go_simp; done) | (go_simp; rfl)); (case hp => exact (Reps.one (show Kd.M (Kd.int .i64) _ _ _ a2 [.int .i64 a2] from rfl) (Reps.one (show Kd.M (Kd.int .i64) _ _ _ a3 [.int .i64 a3] from rfl) (Reps.none _ _)))); intro v865 w19 ho20 hb hg_ hnew_; clear hg_ hnew_; (first | rw [← Ny864.out] at ho20 | (simp only [Int.reduceToNat] at ho20; rw [← Ny864.out] at ho20)); have n0_ := Aside0.mk (Kd.R_lower ho20 (below_size (by repeat (first | (with_reducible first | exact HB.out | apply below_alloc | apply pw_below_drewN | apply below_drew1 | refine below_set ?_ GE862.out | refine below_set ?_ GE863.out) | exact HB.out)))); have n1_ := Aside0.mk (blk_below (g := gb862) (o := .cells #[.int .i64 a0_0, .int .i64 a0_1, .bool a0_2, .slice A0_3 l0_3.length c0_3] 24 (0, 0)) (by (with_reducible repeat (first | refine blk_drewN ?_ _ | refine blk_drew ?_ | refine blk_alloc ?_ _)); exact BK862.out) hb); have n2_ := Aside0.mk (blk_below (g := gb863) (o := .cells #[.int .i64 0, .int .i64 0] 42 (0, 0)) (by (with_reducible repeat (first | refine blk_drewN ?_ _ | refine blk_drew ?_ | refine blk_alloc ?_ _)); exact BK863.out) hb); have n3_ := Aside0.mk (below_step (by repeat (first | (with_reducible first | exact HB.out | apply below_alloc | apply pw_below_drewN | apply below_drew1 | refine below_set ?_ GE862.out | refine below_set ?_ GE863.out) | exact HB.out)) hb); clear BK862; clear BK863; clear HB; have HO866 := n0_; have BK862 := n1_; have BK863 := n2_; have HB := n3_; clear n0_ n1_ n2_ n3_; clear hb ho20; obtain ⟨Ao21, co21, eo21⟩ := Kd.R_slice HO866.out; subst eo21) | ((with_reducible refine gate_callee (f := 91) rfl ?_); refine goesL_ (some 19) rfl rfl Try.func91 (by kernel_rfl) rfl #[.agg #[.int .i64 a0_0, .int .i64 a0_1, .bool a0_2, .slice A0_3 l0_3.length c0_3], .int .i64 a1, .slice Ao21 y864.length co21] rfl (by (try simp only [List.map_toArray, List.map_cons, List.map_nil]); first | done | rfl | (simp only [List.length_drop, List.length_take]; rfl)) ?_; (with_reducible refine (field_apart.calls k a0_0 a0_1 a0_2 _ _ l0_3 a1 _ _ y864 t867 _ ?side1 ?side2 ?side3 ?side4 A5.out).mono ?_); (case side1 => repeat (first | exact (Kd.C_below HR0_3.out HB.out) | (with_reducible refine Kd.C_alloc ?_ _) | (with_reducible refine Kd.C_drewN ?_ _) | (with_reducible refine Kd.C_drew ?_))); (case side2 => exact HC0_3.out); (case side3 => repeat (first | exact (Kd.R_reads' HO866.out).2.2 | (with_reducible refine Kd.C_alloc ?_ _) | (with_reducible refine Kd.C_drewN ?_ _) | (with_reducible refine Kd.C_drew ?_))); (case side4 => exact (Kd.R_reads' HO866.out).2.1); rintro e w22 ⟨rfl, hb⟩; refine ⟨_, rfl, ?_⟩; have n0_ := Aside0.mk (Kd.R_below (by (with_reducible repeat (first | apply Kd.R_alloc | apply Kd.R_drewN | apply Kd.R_drew)); exact HO866.out) hb); have n1_ := Aside0.mk (blk_below (g := gb862) (o := .cells #[.int .i64 a0_0, .int .i64 a0_1, .bool a0_2, .slice A0_3 l0_3.length c0_3] 24 (0, 0)) (by (with_reducible repeat (first | refine blk_drewN ?_ _ | refine blk_drew ?_ | refine blk_alloc ?_ _)); exact BK862.out) hb); have n2_ := Aside0.mk (blk_below (g := gb863) (o := .cells #[.int .i64 0, .int .i64 0] 42 (0, 0)) (by (with_reducible repeat (first | refine blk_drewN ?_ _ | refine blk_drew ?_ | refine blk_alloc ?_ _)); exact BK863.out) hb); have n3_ := Aside0.mk (below_step (by repeat (first | (with_reducible first | exact HB.out | apply below_alloc | apply pw_below_drewN | apply below_drew1 | refine below_set ?_ GE862.out | refine below_set ?_ GE863.out) | exact HB.out)) hb); clear HO866; clear BK862; clear BK863; clear HB; have HO866 := n0_; have BK862 := n1_; have BK863 := n2_; have HB := n3_; clear n0_ n1_ n2_ n3_; (try clear hb); (try clear hb2); (try clear hk); (try clear hi); have hcz23_0 : w22.cell? ⟨gb862, 0, none⟩ = some (.int .i64 a0_0) := (blk_cell BK862.out 0).trans rfl; have hcz23_1 : w22.cell? ⟨gb862, 1, none⟩ = some (.int .i64 a0_1) := (blk_cell BK862.out 1).trans rfl; have hcz23_2 : w22.cell? ⟨gb862, 2, none⟩ = some (.bool a0_2) := (blk_cell BK862.out 2).trans rfl; have hcz23_3 : w22.cell? ⟨gb862, 3, none⟩ = some (.slice A0_3 l0_3.length c0_3) := (blk_cell BK862.out 3).trans rfl; have hfz23_0 := blk_frozen BK862.out 0; have hfz23_1 := blk_frozen BK862.out 1; have hfz23_2 := blk_frozen BK862.out 2; have hfz23_3 := blk_frozen BK862.out 3) | ((with_reducible refine gate_callee (f := 82) rfl ?_); refine goesL_ (some 26) rfl rfl Try.func82 (by kernel_rfl) rfl #[.slice A0_3 l0_3.length c0_3] rfl (by (try simp only [List.map_toArray, List.map_cons, List.map_nil]); first | done | rfl | (simp only [List.length_drop, List.length_take]; rfl)) ?_; (with_reducible refine (slices_Max_int_int.calls _ _ l0_3 t868 _ ?side1 ?side2 A7.out).mono ?_); (case side1 => repeat (first | exact (Kd.C_below HR0_3.out HB.out) | (with_reducible refine Kd.C_alloc ?_ _) | (with_reducible refine Kd.C_drewN ?_ _) | (with_reducible refine Kd.C_drew ?_))); (case side2 => exact HC0_3.out); rintro e w' ⟨rfl, ⟨nd, rfl⟩⟩; refine ⟨_, rfl, ?_⟩; (try (rw [drewN_self w22]; generalize hq_ : World.drewN w22 _ = w22; have n0_ : Aside0 (Kd.R (Kd.int .i64) 3 w22 w.heap.size (fun _ => True) (.slice Ao21 y864.length co21) y864) := ⟨by rw [← hq_]; exact (by (with_reducible repeat (first | apply Kd.R_alloc | apply Kd.R_drewN | apply Kd.R_drew)); exact HO866.out)⟩; have n1_ : Aside0 (w22.heap[gb862]? = some (.cells #[.int .i64 a0_0, .int .i64 a0_1, .bool a0_2, .slice A0_3 l0_3.length c0_3] 24 (0, 0))) := ⟨by rw [← hq_]; exact (by (with_reducible repeat (first | refine blk_drewN ?_ _ | refine blk_drew ?_ | refine blk_alloc ?_ _)); exact BK862.out)⟩; have n2_ : Aside0 (w22.heap[gb863]? = some (.cells #[.int .i64 0, .int .i64 0] 42 (0, 0))) := ⟨by rw [← hq_]; exact (by (with_reducible repeat (first | refine blk_drewN ?_ _ | refine blk_drew ?_ | refine blk_alloc ?_ _)); exact BK863.out)⟩; have n3_ : Aside0 (Below w.heap.size w w22) := ⟨by rw [← hq_]; exact (by repeat (first | (with_reducible first | exact HB.out | apply below_alloc | apply pw_below_drewN | apply below_drew1 | refine below_set ?_ GE862.out | refine below_set ?_ GE863.out) | exact HB.out))⟩; clear HO866 BK862 BK863 HB hq_; have HO866 := n0_; have BK862 := n1_; have BK863 := n2_; have HB := n3_; clear n0_ n1_ n2_ n3_))) | ((with_reducible refine gate_dst (N := 27) rfl ?_); refine Kd.R_make (Kd.int .i64) _ 3 rfl (N := 27) rfl 22 _ _ rfl t868 rfl rfl Try.underlying22 (.int .i64 0) 8 info3 rfl (by decide) (by omega) 0 (ok := fun _ => True) (okp := fun _ => True) rfl (fun _ hk => hk) trivial (of_decide_eq_true (by first | (with_reducible assumption) | assumption)) (Nat.le_trans (Nat.mul_le_mul_right _ (of_decide_eq_true (by first | (with_reducible assumption) | assumption) : t868.toNat ≤ 35184372088832)) (by omega)) (Below.refl _ _) (Nat.le_refl _) ?_; intro v870 w24 ho25 hb hg_ hnew_; clear hg_ hnew_; (first | rw [← Ny869.out] at ho25 | (simp only [Int.reduceToNat] at ho25; rw [← Ny869.out] at ho25)); have n0_ := Aside0.mk (Kd.R_elder' (by (with_reducible repeat (first | apply Kd.R_alloc | apply Kd.R_drewN | apply Kd.R_drew)); exact HO866.out) (Kd.R_base ho25) hb); have n1_ := Aside0.mk (Kd.R_lower (Kd.R_new' ho25 (Kd.R_lt (by (with_reducible repeat (first | apply Kd.R_alloc | apply Kd.R_drewN | apply Kd.R_drew)); exact HO866.out))) (below_size (by repeat (first | (with_reducible first | exact HB.out | apply below_alloc | apply pw_below_drewN | apply below_drew1 | refine below_set ?_ GE862.out | refine below_set ?_ GE863.out) | exact HB.out)))); have n2_ := Aside0.mk (blk_below (g := gb862) (o := .cells #[.int .i64 a0_0, .int .i64 a0_1, .bool a0_2, .slice A0_3 l0_3.length c0_3] 24 (0, 0)) (by (with_reducible repeat (first | refine blk_drewN ?_ _ | refine blk_drew ?_ | refine blk_alloc ?_ _)); exact BK862.out) hb); have n3_ := Aside0.mk (blk_below (g := gb863) (o := .cells #[.int .i64 0, .int .i64 0] 42 (0, 0)) (by (with_reducible repeat (first | refine blk_drewN ?_ _ | refine blk_drew ?_ | refine blk_alloc ?_ _)); exact BK863.out) hb); have n4_ := Aside0.mk (below_step (by repeat (first | (with_reducible first | exact HB.out | apply below_alloc | apply pw_below_drewN | apply below_drew1 | refine below_set ?_ GE862.out | refine below_set ?_ GE863.out) | exact HB.out)) hb); clear HO866; clear BK862; clear BK863; clear HB; have HO866 := n0_; have HO871 := n1_; have BK862 := n2_; have BK863 := n3_; have HB := n4_; clear n0_ n1_ n2_ n3_ n4_; clear hb ho25; have p13 : 0 ≤ ((ji10) : Int) := of_decide_eq_true (by first | (with_reducible assumption) | assumption); have q13 : ((ji10) : Int) < ((y869.length : Int) : Int) := of_decide_eq_true (by first | (with_reducible assumption) | assumption); obtain ⟨go13, co13, eo13, gb13, gl13, cl13, HG13⟩ := Kd.R_form HO871.out (by omega); (first | cases eo13 | (injection eo13 with ea_ en_ ec_; (first | subst ea_ | (injection ea_ with ea_; subst ea_)); subst ec_; clear en_)); have GB13 := Aside0.mk gb13; have GG13 := Aside0.mk HG13; clear gb13 gl13 HG13; obtain ⟨hx13_0, hf13_0⟩ := Kd.R_celln 0 HO871.out ((ji10) : Int) p13 q13; replace p13 := eq_true p13; replace q13 := eq_true q13; have n_ := Aside0.mk (Kd.R_mono (ok' := (fun k_ => some k_ ≠ (.slice Ao21 y864.length co21 : Value).ownBlock)) HO871.out (fun k_ hk => hk.2)); clear HO871; have HO871 := n_; clear n_; obtain ⟨hy26_, hz26_⟩ := Kd.R_celln 0 HO871.out ((ji10) : Int) (of_decide_eq_true (by first | (with_reducible assumption) | assumption)) (of_decide_eq_true (by first | (with_reducible assumption) | assumption)); have HP26 := Kd.R_putg HO871.out ((ji10) : Int) 1000000) | ((with_reducible refine gate_store (t := 3) (p := 31) rfl ?_); refine store_event (t := 3) (p := 31) (v := ?vo_w27) (w1 := (w24.setCell ⟨go13, ((ji10) : Int).toNat, none⟩ (.int .i64 1000000))) ?hg ?ho ?hn ?hr ?_; (case ho => rfl); (case hg => rfl); (case hn => rfl); (case hr => first | (go_simp; done) | (go_simp; rfl)); intro w27 hw; have hg : w24.grownBy w27 (some go13) := (by rw [hw]; exact HP26.2); have hp_ : Kd.R (Kd.int .i64) 3 w27 w.heap.size (fun k_ => some k_ ≠ (.slice Ao21 y864.length co21 : Value).ownBlock) (.slice (some ⟨go13, 0, none⟩) y869.length co13) y872 := (by rw [hw, Ny872.out]; exact HP26.1); clear HP26; have n0_ := Aside0.mk (blk_grown (g := gb862) (o := .cells #[.int .i64 a0_0, .int .i64 a0_1, .bool a0_2, .slice A0_3 l0_3.length c0_3] 24 (0, 0)) (by (with_reducible repeat (first | refine blk_drewN ?_ _ | refine blk_drew ?_ | refine blk_alloc ?_ _)); exact BK862.out) hg (Kd.R_ne HO871.out BK862.out (by decide))); have n1_ := Aside0.mk (blk_grown (g := gb863) (o := .cells #[.int .i64 0, .int .i64 0] 42 (0, 0)) (by (with_reducible repeat (first | refine blk_drewN ?_ _ | refine blk_drew ?_ | refine blk_alloc ?_ _)); exact BK863.out) hg (Kd.R_ne HO871.out BK863.out (by decide))); have n2_ := Aside0.mk (Kd.R_after (v := (.slice (some ⟨go13, 0, none⟩) y869.length co13)) (v1 := (.slice (some ⟨go13, 0, none⟩) y869.length co13)) (ok := (fun _ => True)) (by (with_reducible repeat (first | apply Kd.R_alloc | apply Kd.R_drewN | apply Kd.R_drew)); exact HO866.out) hg (.inl rfl)); have n3_ := Aside0.mk (hp_); have n4_ := Aside0.mk ((by rw [hw]; exact below_set (HB.out) GB13.out : Below w.heap.size w w27)); clear BK862; clear BK863; clear HO866; clear HO871; clear HB; have BK862 := n0_; have BK863 := n1_; have HO866 := n2_; have HO871 := n3_; have HB := n4_; clear n0_ n1_ n2_ n3_ n4_; clear hg hw hp_; have hcz28_0 : w27.cell? ⟨gb862, 0, none⟩ = some (.int .i64 a0_0) := (blk_cell BK862.out 0).trans rfl; have hcz28_1 : w27.cell? ⟨gb862, 1, none⟩ = some (.int .i64 a0_1) := (blk_cell BK862.out 1).trans rfl; have hcz28_2 : w27.cell? ⟨gb862, 2, none⟩ = some (.bool a0_2) := (blk_cell BK862.out 2).trans rfl; have hcz28_3 : w27.cell? ⟨gb862, 3, none⟩ = some (.slice A0_3 l0_3.length c0_3) := (blk_cell BK862.out 3).trans rfl; have hfz28_0 := blk_frozen BK862.out 0; have hfz28_1 := blk_frozen BK862.out 1; have hfz28_2 := blk_frozen BK862.out 2; have hfz28_3 := blk_frozen BK862.out 3) | ((with_reducible refine gate_callee (f := 30) rfl ?_); refine goesL_ (some 37) rfl rfl Try.func30 (by kernel_rfl) rfl #[.agg #[.int .i64 a0_0, .int .i64 a0_1, .bool a0_2, .slice A0_3 l0_3.length c0_3], .slice (some ⟨go13, 0, none⟩) y872.length co13, .int .i64 a1, .int .i64 a3] rfl (by (try simp only [List.map_toArray, List.map_cons, List.map_nil]); first | done | (rw [show y872.length = y869.length from (Kd.R_reads' HO871.out).1.symm] <;> rfl) | rfl | (simp only [List.length_drop, List.length_take]; rfl)) ?_; (with_reducible refine (field_Charge.calls a0_0 a0_1 a0_2 _ _ l0_3 _ _ y872 a1 a3 t873 t874 t875 _ ?side1 ?side2 ?side3 ?side4 A14.out).mono ?_); (case side1 => repeat (first | exact (Kd.C_below HR0_3.out HB.out) | (with_reducible refine Kd.C_alloc ?_ _) | (with_reducible refine Kd.C_drewN ?_ _) | (with_reducible refine Kd.C_drew ?_))); (case side2 => exact HC0_3.out); (case side3 => repeat (first | exact (Kd.R_reads' HO871.out).2.2 | (with_reducible refine Kd.C_alloc ?_ _) | (with_reducible refine Kd.C_drewN ?_ _) | (with_reducible refine Kd.C_drew ?_))); (case side4 => rw [show y872.length = y869.length from (Kd.R_reads' HO871.out).1.symm]; exact (Kd.R_reads' HO871.out).2.1); rintro e w29 ⟨rfl, hb⟩; refine ⟨_, rfl, ?_⟩; have n0_ := Aside0.mk (Kd.R_below (by (with_reducible repeat (first | apply Kd.R_alloc | apply Kd.R_drewN | apply Kd.R_drew)); exact HO866.out) hb); have n1_ := Aside0.mk (Kd.R_below (by (with_reducible repeat (first | apply Kd.R_alloc | apply Kd.R_drewN | apply Kd.R_drew)); exact HO871.out) hb); have n2_ := Aside0.mk (blk_below (g := gb862) (o := .cells #[.int .i64 a0_0, .int .i64 a0_1, .bool a0_2, .slice A0_3 l0_3.length c0_3] 24 (0, 0)) (by (with_reducible repeat (first | refine blk_drewN ?_ _ | refine blk_drew ?_ | refine blk_alloc ?_ _)); exact BK862.out) hb); have n3_ := Aside0.mk (blk_below (g := gb863) (o := .cells #[.int .i64 0, .int .i64 0] 42 (0, 0)) (by (with_reducible repeat (first | refine blk_drewN ?_ _ | refine blk_drew ?_ | refine blk_alloc ?_ _)); exact BK863.out) hb); have n4_ := Aside0.mk (below_step (by repeat (first | (with_reducible first | exact HB.out | apply below_alloc | apply pw_below_drewN | apply below_drew1 | refine below_set ?_ GE862.out | refine below_set ?_ GE863.out) | exact HB.out)) hb); clear HO866; clear HO871; clear BK862; clear BK863; clear HB; have HO866 := n0_; have HO871 := n1_; have BK862 := n2_; have BK863 := n3_; have HB := n4_; clear n0_ n1_ n2_ n3_ n4_; (try clear hb); (try clear hb2); (try clear hk); (try clear hi)) | ((with_reducible refine gate_dst (N := 12) rfl ?_); refine box_event ?hg (N := 12) ?hd (cs := #[.int .i64 0, .int .i64 0]) (t := 42) ?hr ?_; (case hd => rfl); (case hg => rfl); (case hr => first | (go_simp; done) | (go_simp; rfl)); intro gb876 hg w30 hbox hb; have n0_ := Aside0.mk (Kd.R_below (by (with_reducible repeat (first | apply Kd.R_alloc | apply Kd.R_drewN | apply Kd.R_drew)); exact HO866.out) hb); have n1_ := Aside0.mk (Kd.R_below (by (with_reducible repeat (first | apply Kd.R_alloc | apply Kd.R_drewN | apply Kd.R_drew)); exact HO871.out) hb); have n2_ := Aside0.mk (blk_below (g := gb862) (o := .cells #[.int .i64 a0_0, .int .i64 a0_1, .bool a0_2, .slice A0_3 l0_3.length c0_3] 24 (0, 0)) (by (with_reducible repeat (first | refine blk_drewN ?_ _ | refine blk_drew ?_ | refine blk_alloc ?_ _)); exact BK862.out) hb); have n3_ := Aside0.mk (blk_below (g := gb863) (o := .cells #[.int .i64 0, .int .i64 0] 42 (0, 0)) (by (with_reducible repeat (first | refine blk_drewN ?_ _ | refine blk_drew ?_ | refine blk_alloc ?_ _)); exact BK863.out) hb); have n4_ := Aside0.mk (below_step (by repeat (first | (with_reducible first | exact HB.out | apply below_alloc | apply pw_below_drewN | apply below_drew1 | refine below_set ?_ GE862.out | refine below_set ?_ GE863.out) | exact HB.out)) hb); have n5_ := Aside0.mk (hbox); have n6_ := Aside0.mk ((by rw [hg]; exact (below_size (by repeat (first | (with_reducible first | exact HB.out | apply below_alloc | apply pw_below_drewN | apply below_drew1 | refine below_set ?_ GE862.out | refine below_set ?_ GE863.out) | exact HB.out))) : w.heap.size ≤ gb876)); have n7_ := Aside0.mk ((by rw [hg]; exact (below_size (by repeat (first | (with_reducible first | exact HB.out | apply below_alloc | apply pw_below_drewN | apply below_drew1 | refine below_set ?_ GE862.out | refine below_set ?_ GE863.out) | exact HB.out))) : w.heap.size ≤ gb876)); have n8_ := Aside0.mk ((by rw [hg]; exact Nat.ne_of_lt (blk_lt (g := gb862) (o := .cells #[.int .i64 a0_0, .int .i64 a0_1, .bool a0_2, .slice A0_3 l0_3.length c0_3] 24 (0, 0)) (by (with_reducible repeat (first | refine blk_drewN ?_ _ | refine blk_drew ?_ | refine blk_alloc ?_ _)); exact BK862.out)) : gb862 ≠ gb876)); have n9_ := Aside0.mk ((by rw [hg]; exact Nat.ne_of_gt (blk_lt (g := gb862) (o := .cells #[.int .i64 a0_0, .int .i64 a0_1, .bool a0_2, .slice A0_3 l0_3.length c0_3] 24 (0, 0)) (by (with_reducible repeat (first | refine blk_drewN ?_ _ | refine blk_drew ?_ | refine blk_alloc ?_ _)); exact BK862.out)) : gb876 ≠ gb862)); have n10_ := Aside0.mk ((by rw [hg]; exact Nat.ne_of_lt (blk_lt (g := gb863) (o := .cells #[.int .i64 0, .int .i64 0] 42 (0, 0)) (by (with_reducible repeat (first | refine blk_drewN ?_ _ | refine blk_drew ?_ | refine blk_alloc ?_ _)); exact BK863.out)) : gb863 ≠ gb876)); have n11_ := Aside0.mk ((by rw [hg]; exact Nat.ne_of_gt (blk_lt (g := gb863) (o := .cells #[.int .i64 0, .int .i64 0] 42 (0, 0)) (by (with_reducible repeat (first | refine blk_drewN ?_ _ | refine blk_drew ?_ | refine blk_alloc ?_ _)); exact BK863.out)) : gb876 ≠ gb863)); clear HO866; clear HO871; clear BK862; clear BK863; clear HB; have HO866 := n0_; have HO871 := n1_; have BK862 := n2_; have BK863 := n3_; have HB := n4_; have BK876 := n5_; have GW876 := n6_; have GE876 := n7_; have NB862_876 := n8_; have NB876_862 := n9_; have NB863_876 := n10_; have NB876_863 := n11_; clear n0_ n1_ n2_ n3_ n4_ n5_ n6_ n7_ n8_ n9_ n10_ n11_; clear hb hbox hg; have hnb31 := NB876_862.out; have hnc31 := NB862_876.out; have hnb32 := NB876_863.out; have hnc32 := NB863_876.out; have hcz33_0 : w30.cell? ⟨gb876, 0, none⟩ = some (.int .i64 0) := (blk_cell BK876.out 0).trans rfl; have hcz33_1 : w30.cell? ⟨gb876, 1, none⟩ = some (.int .i64 0) := (blk_cell BK876.out 1).trans rfl; have hfz33_0 := blk_frozen BK876.out 0; have hfz33_1 := blk_frozen BK876.out 1; have hcz34_0 : w30.cell? ⟨gb863, 0, none⟩ = some (.int .i64 0) := (blk_cell BK863.out 0).trans rfl; have hcz34_1 : w30.cell? ⟨gb863, 1, none⟩ = some (.int .i64 0) := (blk_cell BK863.out 1).trans rfl; have hfz34_0 := blk_frozen BK863.out 0; have hfz34_1 := blk_frozen BK863.out 1))
      refine bodyPost_ret (results_ct rfl _ _ gb863 42 #[.int .i64 (wrap64 (-t874)), .int .i64 (wrap64 (-t873))] (0, 0) _ rfl (by (with_reducible repeat (first | refine blk_drewN ?_ _ | refine blk_drew ?_ | refine blk_alloc ?_ _)); refine blk_put (cs := #[.int .i64 (wrap64 (-t874)), .int .i64 0]) ?_ 1 _ rfl; (with_reducible repeat (first | refine blk_drewN ?_ _ | refine blk_drew ?_ | refine blk_alloc ?_ _)); refine blk_put (cs := #[.int .i64 0, .int .i64 0]) ?_ 0 _ rfl; (with_reducible repeat (first | refine blk_drewN ?_ _ | refine blk_drew ?_ | refine blk_alloc ?_ _)); refine blk_far ?_ NB863_876.out _; (with_reducible repeat (first | refine blk_drewN ?_ _ | refine blk_drew ?_ | refine blk_alloc ?_ _)); refine blk_far ?_ NB863_876.out _; (with_reducible repeat (first | refine blk_drewN ?_ _ | refine blk_drew ?_ | refine blk_alloc ?_ _)); exact BK863.out) Try.underlying42 rfl (by kernel_rfl)) rfl ?_
      exact ⟨by first | rfl | (simp [errW_none, errW_some] <;> rfl) | (simp only [← hji10]; first | rfl | (simp [errW_none, errW_some] <;> rfl)) | (simp [*, errW_none, errW_some] <;> rfl), by repeat (first | (with_reducible first | exact HB.out | apply below_alloc | apply pw_below_drewN | apply below_drew1 | refine below_set ?_ GE862.out | refine below_set ?_ GE863.out | refine below_set ?_ GE876.out) | exact HB.out)⟩
     ·rw [if_neg c12] at H
      exact absurd H (by simp)
    ·rw [if_neg c11] at H
     exact absurd H (by simp)
   ·rw [if_neg c9] at H
    exact absurd H (by simp)
  ·rw [if_neg c8] at H
   exact absurd H (by simp)
 ·rw [if_neg c6] at H
  have c6b0 : (t867 == 0) = false := beq_eq_false_iff_ne.mpr c6
  have c6b1 : (t867 != 0) = true := bne_iff_ne.mpr c6
  simp only [Option.some.injEq, Prod.mk.injEq] at H
  obtain ⟨rfl, rfl, rfl⟩ := H
  go_enter Try.func52, Try.ntmps52
  go_wp2_with (first | ((with_reducible refine gate_dst (N := 4) rfl ?_); refine box_event ?hg (N := 4) ?hd (cs := #[.int .i64 a0_0, .int .i64 a0_1, .bool a0_2, .slice A0_3 l0_3.length c0_3]) (t := 24) ?hr ?_; (case hd => rfl); (case hg => rfl); (case hr => first | (go_simp; done) | (go_simp; rfl)); intro gb862 hg w35 hbox hb; have n0_ := Aside0.mk (below_step (by repeat (first | (with_reducible first | exact HB.out | apply below_alloc | apply pw_below_drewN | apply below_drew1) | exact HB.out)) hb); have n1_ := Aside0.mk (hbox); have n2_ := Aside0.mk ((by rw [hg]; exact (below_size (by repeat (first | (with_reducible first | exact HB.out | apply below_alloc | apply pw_below_drewN | apply below_drew1) | exact HB.out))) : w.heap.size ≤ gb862)); have n3_ := Aside0.mk ((by rw [hg]; exact (below_size (by repeat (first | (with_reducible first | exact HB.out | apply below_alloc | apply pw_below_drewN | apply below_drew1) | exact HB.out))) : w.heap.size ≤ gb862)); clear HB; have HB := n0_; have BK862 := n1_; have GW862 := n2_; have GE862 := n3_; clear n0_ n1_ n2_ n3_; clear hb hbox hg) | ((with_reducible refine gate_dst (N := 8) rfl ?_); refine box_event ?hg (N := 8) ?hd (cs := #[.int .i64 0, .int .i64 0]) (t := 42) ?hr ?_; (case hd => rfl); (case hg => rfl); (case hr => first | (go_simp; done) | (go_simp; rfl)); intro gb863 hg w36 hbox hb; have n0_ := Aside0.mk (blk_below (g := gb862) (o := .cells #[.int .i64 a0_0, .int .i64 a0_1, .bool a0_2, .slice A0_3 l0_3.length c0_3] 24 (0, 0)) (by (with_reducible repeat (first | refine blk_drewN ?_ _ | refine blk_drew ?_ | refine blk_alloc ?_ _)); exact BK862.out) hb); have n1_ := Aside0.mk (below_step (by repeat (first | (with_reducible first | exact HB.out | apply below_alloc | apply pw_below_drewN | apply below_drew1 | refine below_set ?_ GE862.out) | exact HB.out)) hb); have n2_ := Aside0.mk (hbox); have n3_ := Aside0.mk ((by rw [hg]; exact (below_size (by repeat (first | (with_reducible first | exact HB.out | apply below_alloc | apply pw_below_drewN | apply below_drew1 | refine below_set ?_ GE862.out) | exact HB.out))) : w.heap.size ≤ gb863)); have n4_ := Aside0.mk ((by rw [hg]; exact (below_size (by repeat (first | (with_reducible first | exact HB.out | apply below_alloc | apply pw_below_drewN | apply below_drew1 | refine below_set ?_ GE862.out) | exact HB.out))) : w.heap.size ≤ gb863)); have n5_ := Aside0.mk ((by rw [hg]; exact Nat.ne_of_lt (blk_lt (g := gb862) (o := .cells #[.int .i64 a0_0, .int .i64 a0_1, .bool a0_2, .slice A0_3 l0_3.length c0_3] 24 (0, 0)) (by (with_reducible repeat (first | refine blk_drewN ?_ _ | refine blk_drew ?_ | refine blk_alloc ?_ _)); exact BK862.out)) : gb862 ≠ gb863)); have n6_ := Aside0.mk ((by rw [hg]; exact Nat.ne_of_gt (blk_lt (g := gb862) (o := .cells #[.int .i64 a0_0, .int .i64 a0_1, .bool a0_2, .slice A0_3 l0_3.length c0_3] 24 (0, 0)) (by (with_reducible repeat (first | refine blk_drewN ?_ _ | refine blk_drew ?_ | refine blk_alloc ?_ _)); exact BK862.out)) : gb863 ≠ gb862)); clear BK862; clear HB; have BK862 := n0_; have HB := n1_; have BK863 := n2_; have GW863 := n3_; have GE863 := n4_; have NB862_863 := n5_; have NB863_862 := n6_; clear n0_ n1_ n2_ n3_ n4_ n5_ n6_; clear hb hbox hg; have hnb37 := NB862_863.out; have hnc37 := NB863_862.out; have hcz38_0 : w36.cell? ⟨gb862, 0, none⟩ = some (.int .i64 a0_0) := (blk_cell BK862.out 0).trans rfl; have hcz38_1 : w36.cell? ⟨gb862, 1, none⟩ = some (.int .i64 a0_1) := (blk_cell BK862.out 1).trans rfl; have hcz38_2 : w36.cell? ⟨gb862, 2, none⟩ = some (.bool a0_2) := (blk_cell BK862.out 2).trans rfl; have hcz38_3 : w36.cell? ⟨gb862, 3, none⟩ = some (.slice A0_3 l0_3.length c0_3) := (blk_cell BK862.out 3).trans rfl; have hfz38_0 := blk_frozen BK862.out 0; have hfz38_1 := blk_frozen BK862.out 1; have hfz38_2 := blk_frozen BK862.out 2; have hfz38_3 := blk_frozen BK862.out 3) | ((with_reducible refine gate_dst (N := 18) rfl ?_); refine Kd.R_lit (Kd.int .i64) _ 3 ?hg (N := 18) ?hd (xs := ([a2, a3] : List Int)) (inner := [.int .i64 a2, .int .i64 a3]) (ok := fun _ => True) (okp := fun _ => True) ?hr ?hp (fun _ hk => hk) trivial (Below.refl _ _) (Nat.le_refl _) (by simp) ?_; (case hd => rfl); (case hg => rfl); (case hr => first | (go_simp; done) | (go_simp; rfl)); (case hp => exact (Reps.one (show Kd.M (Kd.int .i64) _ _ _ a2 [.int .i64 a2] from rfl) (Reps.one (show Kd.M (Kd.int .i64) _ _ _ a3 [.int .i64 a3] from rfl) (Reps.none _ _)))); intro v865 w39 ho40 hb hg_ hnew_; clear hg_ hnew_; (first | rw [← Ny864.out] at ho40 | (simp only [Int.reduceToNat] at ho40; rw [← Ny864.out] at ho40)); have n0_ := Aside0.mk (Kd.R_lower ho40 (below_size (by repeat (first | (with_reducible first | exact HB.out | apply below_alloc | apply pw_below_drewN | apply below_drew1 | refine below_set ?_ GE862.out | refine below_set ?_ GE863.out) | exact HB.out)))); have n1_ := Aside0.mk (blk_below (g := gb862) (o := .cells #[.int .i64 a0_0, .int .i64 a0_1, .bool a0_2, .slice A0_3 l0_3.length c0_3] 24 (0, 0)) (by (with_reducible repeat (first | refine blk_drewN ?_ _ | refine blk_drew ?_ | refine blk_alloc ?_ _)); exact BK862.out) hb); have n2_ := Aside0.mk (blk_below (g := gb863) (o := .cells #[.int .i64 0, .int .i64 0] 42 (0, 0)) (by (with_reducible repeat (first | refine blk_drewN ?_ _ | refine blk_drew ?_ | refine blk_alloc ?_ _)); exact BK863.out) hb); have n3_ := Aside0.mk (below_step (by repeat (first | (with_reducible first | exact HB.out | apply below_alloc | apply pw_below_drewN | apply below_drew1 | refine below_set ?_ GE862.out | refine below_set ?_ GE863.out) | exact HB.out)) hb); clear BK862; clear BK863; clear HB; have HO866 := n0_; have BK862 := n1_; have BK863 := n2_; have HB := n3_; clear n0_ n1_ n2_ n3_; clear hb ho40; obtain ⟨Ao41, co41, eo41⟩ := Kd.R_slice HO866.out; subst eo41) | ((with_reducible refine gate_callee (f := 91) rfl ?_); refine goesL_ (some 19) rfl rfl Try.func91 (by kernel_rfl) rfl #[.agg #[.int .i64 a0_0, .int .i64 a0_1, .bool a0_2, .slice A0_3 l0_3.length c0_3], .int .i64 a1, .slice Ao41 y864.length co41] rfl (by (try simp only [List.map_toArray, List.map_cons, List.map_nil]); first | done | rfl | (simp only [List.length_drop, List.length_take]; rfl)) ?_; (with_reducible refine (field_apart.calls k a0_0 a0_1 a0_2 _ _ l0_3 a1 _ _ y864 t867 _ ?side1 ?side2 ?side3 ?side4 A5.out).mono ?_); (case side1 => repeat (first | exact (Kd.C_below HR0_3.out HB.out) | (with_reducible refine Kd.C_alloc ?_ _) | (with_reducible refine Kd.C_drewN ?_ _) | (with_reducible refine Kd.C_drew ?_))); (case side2 => exact HC0_3.out); (case side3 => repeat (first | exact (Kd.R_reads' HO866.out).2.2 | (with_reducible refine Kd.C_alloc ?_ _) | (with_reducible refine Kd.C_drewN ?_ _) | (with_reducible refine Kd.C_drew ?_))); (case side4 => exact (Kd.R_reads' HO866.out).2.1); rintro e w42 ⟨rfl, hb⟩; refine ⟨_, rfl, ?_⟩; have n0_ := Aside0.mk (Kd.R_below (by (with_reducible repeat (first | apply Kd.R_alloc | apply Kd.R_drewN | apply Kd.R_drew)); exact HO866.out) hb); have n1_ := Aside0.mk (blk_below (g := gb862) (o := .cells #[.int .i64 a0_0, .int .i64 a0_1, .bool a0_2, .slice A0_3 l0_3.length c0_3] 24 (0, 0)) (by (with_reducible repeat (first | refine blk_drewN ?_ _ | refine blk_drew ?_ | refine blk_alloc ?_ _)); exact BK862.out) hb); have n2_ := Aside0.mk (blk_below (g := gb863) (o := .cells #[.int .i64 0, .int .i64 0] 42 (0, 0)) (by (with_reducible repeat (first | refine blk_drewN ?_ _ | refine blk_drew ?_ | refine blk_alloc ?_ _)); exact BK863.out) hb); have n3_ := Aside0.mk (below_step (by repeat (first | (with_reducible first | exact HB.out | apply below_alloc | apply pw_below_drewN | apply below_drew1 | refine below_set ?_ GE862.out | refine below_set ?_ GE863.out) | exact HB.out)) hb); clear HO866; clear BK862; clear BK863; clear HB; have HO866 := n0_; have BK862 := n1_; have BK863 := n2_; have HB := n3_; clear n0_ n1_ n2_ n3_; (try clear hb); (try clear hb2); (try clear hk); (try clear hi); have hcz43_0 : w42.cell? ⟨gb863, 0, none⟩ = some (.int .i64 0) := (blk_cell BK863.out 0).trans rfl; have hcz43_1 : w42.cell? ⟨gb863, 1, none⟩ = some (.int .i64 0) := (blk_cell BK863.out 1).trans rfl; have hfz43_0 := blk_frozen BK863.out 0; have hfz43_1 := blk_frozen BK863.out 1))
  refine bodyPost_ret (results_ct rfl _ _ gb863 42 #[.int .i64 0, .int .i64 0] (0, 0) _ rfl (by (with_reducible repeat (first | refine blk_drewN ?_ _ | refine blk_drew ?_ | refine blk_alloc ?_ _)); refine blk_put (cs := #[.int .i64 0, .int .i64 0]) ?_ 1 _ rfl; (with_reducible repeat (first | refine blk_drewN ?_ _ | refine blk_drew ?_ | refine blk_alloc ?_ _)); refine blk_put (cs := #[.int .i64 0, .int .i64 0]) ?_ 0 _ rfl; (with_reducible repeat (first | refine blk_drewN ?_ _ | refine blk_drew ?_ | refine blk_alloc ?_ _)); exact BK863.out) Try.underlying42 rfl (by kernel_rfl)) rfl ?_
  exact ⟨by first | rfl | (simp [errW_none, errW_some] <;> rfl) | (simp [*, errW_none, errW_some] <;> rfl), by repeat (first | (with_reducible first | exact HB.out | apply below_alloc | apply pw_below_drewN | apply below_drew1 | refine below_set ?_ GE862.out | refine below_set ?_ GE863.out) | exact HB.out)⟩
end Go.Proofs.Ytndkkjpgnmahbaa.Print
end

section
namespace Go.Proofs.Ytndkkjpgnmahbaa.Print
open Go.RowKit Go.Proofs.YtndkkjpgnmahbaaW.PrintWords Go.Proofs.YtndkkjpgnmahbaaW.PrintLast Go.Proofs.YtndkkjpgnmahbaaW.PrintMore
attribute [local go_sem] max2_int min2_int max_two min_two max_three min_three max_four min_four
set_option linter.unusedVariables false
set_option linter.unusedSimpArgs false
def IsS79 (w0 W : World) (g : Nat) (f0 : Int) : Prop := W.heap[g]? = some (.cells #[.int .u64 f0] 79 (0, 0)) ∧ w0.heap.size ≤ g
theorem IsS79.grown {w0 W : World} {g : Nat} {f0 : Int} {W1 : World} {row : Option Nat} (h : IsS79 w0 W g f0) (hw : W.grownBy W1 row) (hne : some g ≠ row) : IsS79 w0 W1 g f0 := by
 obtain ⟨hb, hg⟩ := h
 exact ⟨blk_grown hb hw hne, hg⟩
theorem IsS79.kept {w0 W : World} {g : Nat} {f0 : Int} {W1 : World} {S : Nat → Prop} (h : IsS79 w0 W g f0) (hk : Kept W W1 S) (hne : ¬ S g) : IsS79 w0 W1 g f0 := by
 obtain ⟨hb, hg⟩ := h
 exact ⟨blk_kept hb hk hne, hg⟩
theorem IsS79.below {w0 W : World} {g : Nat} {f0 : Int} {W1 : World} (h : IsS79 w0 W g f0) (hw : Below W.heap.size W W1) : IsS79 w0 W1 g f0 := h.grown (grown_of_below hw none) (by simp)
theorem IsS79.alloc {w0 W : World} {g : Nat} {f0 : Int} (h : IsS79 w0 W g f0) (o : Obj) : IsS79 w0 (W.alloc o) g f0 := h.below (below_alloc (Below.refl _ _) o)
theorem IsS79.drewN {w0 W : World} {g : Nat} {f0 : Int} (h : IsS79 w0 W g f0) (m : Nat) : IsS79 w0 (W.drewN m) g f0 := h
theorem IsS79.drew {w0 W : World} {g : Nat} {f0 : Int} (h : IsS79 w0 W g f0) : IsS79 w0 W.drew g f0 := h
theorem IsS79.at_ {w0 W : World} {g : Nat} {f0 : Int} {w' : World} {m : Nat} (hq : W.drewN m = w') (h : IsS79 w0 W g f0) : IsS79 w0 w' g f0 := by subst hq; exact IsS79.drewN h m
theorem IsS79.apart {w0 W : World} {g : Nat} {f0 : Int} {α : Type} {d : Kd α} {e : Nat} {base : Nat} {ok : Nat → Prop} {v : Value} {xs : List α} (h : IsS79 w0 W g f0) (ho : d.R e W base ok v xs) (ht : ∀ q, q ∈ e :: d.E → q ≠ 79) : d.R e W base (fun k => ok k ∧ k ≠ g) v xs := by
 obtain ⟨hb, hg⟩ := h
 exact Kd.R_types ho hb ht
theorem IsS79.own_ne {w0 W : World} {g : Nat} {f0 : Int} {α : Type} {d : Kd α} {e : Nat} {base : Nat} {ok : Nat → Prop} {v : Value} {xs : List α} (h : IsS79 w0 W g f0) (ho : d.R e W base ok v xs) (ht : e ≠ 79) : some g ≠ v.ownBlock := by
 obtain ⟨hb, hg⟩ := h
 exact Kd.R_ne ho hb ht
theorem IsS79.lt {w0 W : World} {g : Nat} {f0 : Int} (h : IsS79 w0 W g f0) : g < W.heap.size := by
 obtain ⟨hb, hg⟩ := h
 exact blk_lt hb
theorem IsS79.ge {w0 W : World} {g : Nat} {f0 : Int} (h : IsS79 w0 W g f0) : w0.heap.size ≤ g := by
 obtain ⟨hb, hg⟩ := h
 exact hg
theorem IsS79.far {w0 W : World} {g : Nat} {f0 : Int} {p : Addr} (h : IsS79 w0 W g f0) (hne : g ≠ p.block) (u : Value) : IsS79 w0 (W.setCell p u) g f0 := by
 obtain ⟨hb, hg⟩ := h
 exact ⟨blk_far hb hne u, hg⟩
theorem cellS79_0 {W : World} {g : Nat} {f0 : Int} (h : W.heap[g]? = some (.cells #[.int .u64 f0] 79 (0, 0))) : W.cell? ⟨g, 0, none⟩ = some (.int .u64 f0) := (blk_cell h 0).trans rfl
theorem IsS79.set_0 {w0 W : World} {g : Nat} {f0 : Int} (h : IsS79 w0 W g f0) (x : Int) : IsS79 w0 (W.setCell ⟨g, 0, none⟩ (.int .u64 x)) g x := by
 obtain ⟨hb, hg⟩ := h
 exact ⟨by simpa using blk_set hb 0 (.int .u64 x), hg⟩
theorem IsS79.new (w0 W : World) (f0 : Int) (hB : Below w0.heap.size w0 W) : IsS79 w0 (W.alloc (.cells #[.int .u64 f0] 79)) W.heap.size f0 := ⟨by simpa using heap_alloc_new W _, hB.size⟩
def thermionkit_Dice_next.f (s0_0 : Int) : Option (Int × Int) := some (Go.bits .xor .u64 (IntKind.u64.wrap ((Go.bits .xor .u64 (IntKind.u64.wrap ((Go.bits .xor .u64 (IntKind.u64.wrap (s0_0 + 11400714819323198485)) ((IntKind.u64.wrap (s0_0 + 11400714819323198485)) / 1073741824)) * 13787848793156543929)) ((IntKind.u64.wrap ((Go.bits .xor .u64 (IntKind.u64.wrap (s0_0 + 11400714819323198485)) ((IntKind.u64.wrap (s0_0 + 11400714819323198485)) / 1073741824)) * 13787848793156543929)) / 134217728)) * 10723151780598845931)) ((IntKind.u64.wrap ((Go.bits .xor .u64 (IntKind.u64.wrap ((Go.bits .xor .u64 (IntKind.u64.wrap (s0_0 + 11400714819323198485)) ((IntKind.u64.wrap (s0_0 + 11400714819323198485)) / 1073741824)) * 13787848793156543929)) ((IntKind.u64.wrap ((Go.bits .xor .u64 (IntKind.u64.wrap (s0_0 + 11400714819323198485)) ((IntKind.u64.wrap (s0_0 + 11400714819323198485)) / 1073741824)) * 13787848793156543929)) / 134217728)) * 10723151780598845931)) / 2147483648), IntKind.u64.wrap (s0_0 + 11400714819323198485))
set_option maxHeartbeats 8000000 in
set_option maxRecDepth 100000 in
theorem thermionkit_Dice_next.calls (g : Nat) (s0_0 : Int) (r1 : Int) (r2 : Int) (w0 w : World) (hI : IsS79 w0 w g s0_0) (hB : Below w0.heap.size w0 w) (h : thermionkit_Dice_next.f s0_0 = some (r1, r2)) :
  Calls Try.prog 65 #[.pointer (some ⟨g, 0, none⟩)] w fun e w' => e = .returned (.int .u64 r1) ∧ IsS79 w0 w' g r2 ∧ Below w0.heap.size w0 w' ∧ KeepBut w w' g none := by
 have HI0 := Aside0.mk hI
 have HK := Aside0.mk (KeepBut.refl w g none)
 have HL := Aside0.mk hB.size
 clear hI
 have HW0 := Aside0.mk hB.size
 have HB := Aside0.mk hB
 clear hB
 have H : (some (Go.bits .xor .u64 (IntKind.u64.wrap ((Go.bits .xor .u64 (IntKind.u64.wrap ((Go.bits .xor .u64 (IntKind.u64.wrap (s0_0 + 11400714819323198485)) ((IntKind.u64.wrap (s0_0 + 11400714819323198485)) / 1073741824)) * 13787848793156543929)) ((IntKind.u64.wrap ((Go.bits .xor .u64 (IntKind.u64.wrap (s0_0 + 11400714819323198485)) ((IntKind.u64.wrap (s0_0 + 11400714819323198485)) / 1073741824)) * 13787848793156543929)) / 134217728)) * 10723151780598845931)) ((IntKind.u64.wrap ((Go.bits .xor .u64 (IntKind.u64.wrap ((Go.bits .xor .u64 (IntKind.u64.wrap (s0_0 + 11400714819323198485)) ((IntKind.u64.wrap (s0_0 + 11400714819323198485)) / 1073741824)) * 13787848793156543929)) ((IntKind.u64.wrap ((Go.bits .xor .u64 (IntKind.u64.wrap (s0_0 + 11400714819323198485)) ((IntKind.u64.wrap (s0_0 + 11400714819323198485)) / 1073741824)) * 13787848793156543929)) / 134217728)) * 10723151780598845931)) / 2147483648), IntKind.u64.wrap (s0_0 + 11400714819323198485))) = some (r1, r2) := h
 clear h
 simp only [Option.some.injEq, Prod.mk.injEq] at H
 obtain ⟨rfl, rfl⟩ := H
 obtain ⟨HGz2, hgz2⟩ := HI0.out
 have hcz2_0 := cellS79_0 HGz2
 have hfz2_0 := blk_frozen HGz2 0
 clear HGz2 hgz2
 go_enter Try.func65, Try.ntmps65
 go_wp2
 go_ret
 exact ⟨by first | rfl | (simp [errW_none, errW_some] <;> rfl) | (simp [*, errW_none, errW_some] <;> rfl), by repeat (first | (with_reducible first | exact HI0.out | apply IsS79.alloc | apply IsS79.drewN | apply IsS79.drew | apply IsS79.set_0) | exact HI0.out), by repeat (first | (with_reducible first | exact HB.out | apply below_alloc | apply pw_below_drewN | apply below_drew1 | refine below_set ?_ (IsS79.ge HI0.out)) | exact HB.out), by repeat (first | (with_reducible first | exact HK.out | apply KeepBut.set_ | apply keep_drewN | apply keep_drew | apply keep_alloc) | exact HK.out)⟩
end Go.Proofs.Ytndkkjpgnmahbaa.Print
end

section
namespace Go.Proofs.Ytndkkjpgnmahbaa.Print
open Go.RowKit Go.Proofs.YtndkkjpgnmahbaaW.PrintWords Go.Proofs.YtndkkjpgnmahbaaW.PrintLast Go.Proofs.YtndkkjpgnmahbaaW.PrintMore Go.Proofs.Ytndkkjpgnmahbaa.H
set_option linter.unusedVariables false
set_option linter.unusedSimpArgs false
def nextWord (s : Int) : Int := ((thermionkit_Dice_next.f s).getD (0, 0)).2
theorem next_eq (s : Int) : ∃ r, thermionkit_Dice_next.f s = some (r, nextWord s) := ⟨_, rfl⟩
def wordTo (s : Int) : List Int → Int
  | [] => s
  | x :: xs => wordTo (nextWord (Go.bits .xor .u64 s (IntKind.u64.wrap x))) xs
theorem wordTo_snoc (s : Int) (xs : List Int) (x : Int) : wordTo s (xs ++ [x]) = nextWord (Go.bits .xor .u64 (wordTo s xs) (IntKind.u64.wrap x)) := by
  induction xs generalizing s with
  | nil => rfl
  | cons y ys ih => exact ih _
theorem take_snoc (l : List Int) (k : Nat) (h : k < l.length) : l.take (k + 1) = l.take k ++ [l.getD k 0] := by
  rw [List.take_add_one, List.getD_eq_getElem?_getD]
  simp [h]
def thermionkit_NewDice.f (l0 : List Int) : Option (Int) := some (wordTo ((l0.length : Int) + 1374496523) l0)
theorem Mem.one {w W : World} {g : Nat} {cs : Array Value} {t : TypeId} (hb : W.heap[g]? = some (.cells cs t (0, 0))) (hg : w.heap.size ≤ g) (h : Below w.heap.size w W) : Mem w W [(g, cs, t)] :=
  ⟨h, fun p hp => by rcases List.mem_singleton.1 hp with rfl; exact hb, fun p hp => by rcases List.mem_singleton.1 hp with rfl; exact hg, by simp⟩
set_option maxHeartbeats 800000 in
set_option maxRecDepth 100000 in
theorem thermionkit_NewDice.calls (A0 : Option Addr) (c0 : Nat) (l0 : List Int) (r : Int) (w0 w : World) (hB : Below w0.heap.size w0 w) (hr0 : Kd.C (Kd.int .i64) w0 A0 l0.length l0) (hc0 : l0.length ≤ c0) (h : thermionkit_NewDice.f l0 = some r) :
    Calls Try.prog 21 #[.slice A0 l0.length c0] w fun e w' => ∃ g_ : Nat, e = .returned (.pointer (some ⟨g_, 0, none⟩)) ∧ IsS79 w0 w' g_ r ∧ Below w0.heap.size w0 w' ∧ Below w.heap.size w w' := by
  have HR := Aside0.mk (Kd.C_below hr0 hB)
  have HB0 := Aside0.mk hB
  have HF := Aside0.mk (Option.some.inj h)
  have HM := Aside0.mk (Mem.start w)
  have hlen : l0.length ≤ 9223372036854775807 := by have := (Kd.reads_of_C (enc := Value.int .i64) (d := (0 : Int)) (h1 := fun _ => rfl) hr0).2.1; omega
  clear hr0 h hB
  have hu79 := Try.underlying79
  go_enter Try.func21, Try.ntmps21
  go_wp2_with (first
    | ((with_reducible refine gate_dst (N := 10) rfl ?_); refine ev_box HM.out rfl 79 (.tmp 9) rfl (cs := #[.int .u64 ((l0.length : Int) + 1374496523)]) rfl ?_; intro g1 w1 hm1 hq1; clear hq1; have HM1 := Aside0.mk hm1; clear hm1 HM))
  go_loopg [4] l0.length (fun k v4 w' => ∃ (i : Nat) (S : Int), v4 = .int .i64 i ∧ Aside0 (i + k = l0.length) ∧ Aside0 (S = wordTo ((l0.length : Int) + 1374496523) (l0.take i)) ∧ Aside0 (Mem w w' [(g1, #[.int .u64 S], 79)]))
  case atStart => exact ⟨0, _, rfl, ⟨by omega⟩, ⟨rfl⟩, HM1⟩
  case round =>
    clear HM1
    obtain ⟨i, S, rfl, HK, HS, HM⟩ := hrel
    by_cases hi : i < l0.length
    · obtain ⟨ad, e0, hx⟩ := at_nat (Kd.C_below HR.out HM.out.below) i hi
      cases e0
      generalize hX : l0.getD i 0 = X at hx
      have HX := Aside0.mk hX
      clear hX
      have c1 : wr.cell? ⟨g1, 0, none⟩ = some (.int .u64 S) := by rw [HM.out.cell]; rfl
      have f1 : wr.frozen? ⟨g1, 0, none⟩ = false := HM.out.frozen _
      have i1 : (0 : Int) ≤ (i : Int) := by omega
      have i2 : (i : Int) < (l0.length : Int) := by omega
      go_wp2_with fail
      go_still_tail 13, (by kernel_rfl)
      go_wp2_with fail
      have HM2 := (HM.out.put 0 (.int .u64 (Go.bits .xor .u64 S (IntKind.u64.wrap X))) rfl).drew
      obtain ⟨q, hq⟩ := next_eq (Go.bits .xor .u64 S (IntKind.u64.wrap X))
      refine (thermionkit_Dice_next.calls g1 _ q _ w _ ⟨HM2.head, HM2.geh⟩ HM2.below hq).mono ?_
      rintro e w2 ⟨rfl, ⟨hb2, _⟩, hbl2, _⟩
      have HM3 := Aside0.mk (Mem.one hb2 HM2.geh hbl2)
      clear hb2 hbl2 HM2 hq
      have HS2 : Aside0 (nextWord (Go.bits .xor .u64 S (IntKind.u64.wrap X)) = wordTo ((l0.length : Int) + 1374496523) (l0.take (i + 1))) := ⟨by rw [take_snoc _ _ hi, wordTo_snoc, ← HS.out, HX.out]⟩
      go_wp2_with fail
      go_roundg (l0.length - (i + 1))
      case measure => have := HK.out; omega
      case rel => exact ⟨i + 1, _, by go_num, ⟨by have := HK.out; omega⟩, HS2, HM3⟩
    · go_wp2
      go_ret
      refine ⟨g1, rfl, ⟨?_, Nat.le_trans HB0.out.size HM.out.geh⟩, below_step HB0.out HM.out.below, HM.out.below⟩
      rw [HM.out.head, ← HF.out, HS.out, List.take_of_length_le (by omega)]
end Go.Proofs.Ytndkkjpgnmahbaa.Print
end

section
namespace Go.Proofs.Ytndkkjpgnmahbaa.Print
open Go.RowKit Go.Proofs.YtndkkjpgnmahbaaW.PrintWords Go.Proofs.YtndkkjpgnmahbaaW.PrintLast Go.Proofs.YtndkkjpgnmahbaaW.PrintMore
attribute [local go_sem] max2_int min2_int max_two min_two max_three min_three max_four min_four
set_option linter.unusedVariables false
set_option linter.unusedSimpArgs false
def thermionkit_Dice_Upto.f (s0_0 : Int) (a1 : Int) : Option (Int × Int) := (thermionkit_Dice_next.f s0_0).bind fun bt170 => (if a1 < 1 then (some (0, bt170.2)) else (if (IntKind.u64.wrap (a1)) = 0 then (none) else (some (wrap64 (Int.tmod bt170.1 (IntKind.u64.wrap (a1))), bt170.2))))
set_option maxHeartbeats 8000000 in
set_option maxRecDepth 100000 in
theorem thermionkit_Dice_Upto.calls (g : Nat) (s0_0 : Int) (a1 : Int) (r1 : Int) (r2 : Int) (w0 w : World) (hI : IsS79 w0 w g s0_0) (hB : Below w0.heap.size w0 w) (h : thermionkit_Dice_Upto.f s0_0 a1 = some (r1, r2)) :
  Calls Try.prog 49 #[.pointer (some ⟨g, 0, none⟩), .int .i64 a1] w fun e w' => e = .returned (.int .i64 r1) ∧ IsS79 w0 w' g r2 ∧ Below w0.heap.size w0 w' ∧ KeepBut w w' g none := by
 have HI0 := Aside0.mk hI
 have HK := Aside0.mk (KeepBut.refl w g none)
 have HL := Aside0.mk hB.size
 clear hI
 have HW0 := Aside0.mk hB.size
 have HB := Aside0.mk hB
 clear hB
 have H : ((thermionkit_Dice_next.f s0_0).bind fun bt170 => (if a1 < 1 then (some (0, bt170.2)) else (if (IntKind.u64.wrap (a1)) = 0 then (none) else (some (wrap64 (Int.tmod bt170.1 (IntKind.u64.wrap (a1))), bt170.2))))) = some (r1, r2) := h
 clear h
 replace H := Option.bind_eq_some_iff.mp H
 obtain ⟨⟨t170, t171⟩, A30, H⟩ := H
 replace H : (if a1 < 1 then (some (0, t171)) else (if (IntKind.u64.wrap (a1)) = 0 then (none) else (some (wrap64 (Int.tmod t170 (IntKind.u64.wrap (a1))), t171)))) = some (r1, r2) := H
 have A3 := Aside0.mk A30
 clear A30
 by_cases c4 : a1 < 1
 ·rw [if_pos c4] at H
  have c4b0 : decide (a1 < 1) = true := decide_eq_true c4
  clear c4
  simp only [Option.some.injEq, Prod.mk.injEq] at H
  obtain ⟨rfl, rfl⟩ := H
  go_enter Try.func49, Try.ntmps49
  go_wp2_with (first | ((with_reducible refine gate_callee (f := 65) rfl ?_); refine goesL_ (some 7) rfl rfl Try.func65 (by kernel_rfl) rfl #[.pointer (some ⟨g, 0, none⟩)] rfl (by (try simp only [List.map_toArray, List.map_cons, List.map_nil]); first | done | rfl | (simp only [List.length_drop, List.length_take]; rfl)) ?_; (with_reducible refine (thermionkit_Dice_next.calls g s0_0 t170 t171 w0 _ ?side1 ?side2 A3.out).mono ?_); (case side1 => repeat (first | (with_reducible first | exact HI0.out | apply IsS79.alloc | apply IsS79.drewN | apply IsS79.drew | apply IsS79.set_0) | exact HI0.out)); (case side2 => repeat (first | (with_reducible first | exact HB.out | apply below_alloc | apply pw_below_drewN | apply below_drew1 | refine below_set ?_ (IsS79.ge HI0.out)) | exact HB.out)); rintro e w5 ⟨rfl, hi, hb, hk⟩; refine ⟨_, rfl, ?_⟩; have n0_ := Aside0.mk (KeepBut.trans (by repeat (first | (with_reducible first | exact HK.out | apply KeepBut.set_ | apply keep_drewN | apply keep_drew | apply keep_alloc) | exact HK.out)) hk (.inl rfl)); have n1_ := Aside0.mk (hb); have n2_ := Aside0.mk (hi); clear HK; clear HB; clear HI0; have HK := n0_; have HB := n1_; have HI0 := n2_; clear n0_ n1_ n2_; (try clear hb); (try clear hb2); (try clear hk); (try clear hi)))
  go_ret
  exact ⟨by first | rfl | (simp [errW_none, errW_some] <;> rfl) | (simp [*, errW_none, errW_some] <;> rfl), by repeat (first | (with_reducible first | exact HI0.out | apply IsS79.alloc | apply IsS79.drewN | apply IsS79.drew | apply IsS79.set_0) | exact HI0.out), by repeat (first | (with_reducible first | exact HB.out | apply below_alloc | apply pw_below_drewN | apply below_drew1 | refine below_set ?_ (IsS79.ge HI0.out)) | exact HB.out), by repeat (first | (with_reducible first | exact HK.out | apply KeepBut.set_ | apply keep_drewN | apply keep_drew | apply keep_alloc) | exact HK.out)⟩
 ·rw [if_neg c4] at H
  have c4b0 : decide (a1 < 1) = false := decide_eq_false c4
  clear c4
  by_cases c6 : (IntKind.u64.wrap (a1)) = 0
  ·rw [if_pos c6] at H
   exact absurd H (by simp)
  ·rw [if_neg c6] at H
   have c6b0 : ((IntKind.u64.wrap (a1)) == 0) = false := beq_eq_false_iff_ne.mpr c6
   have c6b1 : ((IntKind.u64.wrap (a1)) != 0) = true := bne_iff_ne.mpr c6
   simp only [Option.some.injEq, Prod.mk.injEq] at H
   obtain ⟨rfl, rfl⟩ := H
   go_enter Try.func49, Try.ntmps49
   go_wp2_with (first | ((with_reducible refine gate_callee (f := 65) rfl ?_); refine goesL_ (some 7) rfl rfl Try.func65 (by kernel_rfl) rfl #[.pointer (some ⟨g, 0, none⟩)] rfl (by (try simp only [List.map_toArray, List.map_cons, List.map_nil]); first | done | rfl | (simp only [List.length_drop, List.length_take]; rfl)) ?_; (with_reducible refine (thermionkit_Dice_next.calls g s0_0 t170 t171 w0 _ ?side1 ?side2 A3.out).mono ?_); (case side1 => repeat (first | (with_reducible first | exact HI0.out | apply IsS79.alloc | apply IsS79.drewN | apply IsS79.drew | apply IsS79.set_0) | exact HI0.out)); (case side2 => repeat (first | (with_reducible first | exact HB.out | apply below_alloc | apply pw_below_drewN | apply below_drew1 | refine below_set ?_ (IsS79.ge HI0.out)) | exact HB.out)); rintro e w7 ⟨rfl, hi, hb, hk⟩; refine ⟨_, rfl, ?_⟩; have n0_ := Aside0.mk (KeepBut.trans (by repeat (first | (with_reducible first | exact HK.out | apply KeepBut.set_ | apply keep_drewN | apply keep_drew | apply keep_alloc) | exact HK.out)) hk (.inl rfl)); have n1_ := Aside0.mk (hb); have n2_ := Aside0.mk (hi); clear HK; clear HB; clear HI0; have HK := n0_; have HB := n1_; have HI0 := n2_; clear n0_ n1_ n2_; (try clear hb); (try clear hb2); (try clear hk); (try clear hi)))
   go_ret
   exact ⟨by first | rfl | (simp [errW_none, errW_some] <;> rfl) | (simp [*, errW_none, errW_some] <;> rfl), by repeat (first | (with_reducible first | exact HI0.out | apply IsS79.alloc | apply IsS79.drewN | apply IsS79.drew | apply IsS79.set_0) | exact HI0.out), by repeat (first | (with_reducible first | exact HB.out | apply below_alloc | apply pw_below_drewN | apply below_drew1 | refine below_set ?_ (IsS79.ge HI0.out)) | exact HB.out), by repeat (first | (with_reducible first | exact HK.out | apply KeepBut.set_ | apply keep_drewN | apply keep_drew | apply keep_alloc) | exact HK.out)⟩
end Go.Proofs.Ytndkkjpgnmahbaa.Print
end

section
namespace Go.Proofs.Ytndkkjpgnmahbaa.Print
open Go.RowKit Go.Proofs.YtndkkjpgnmahbaaW.PrintWords Go.Proofs.YtndkkjpgnmahbaaW.PrintLast Go.Proofs.YtndkkjpgnmahbaaW.PrintMore
attribute [local go_sem] max2_int min2_int max_two min_two max_three min_three max_four min_four
set_option linter.unusedVariables false
set_option linter.unusedSimpArgs false
def thermionkit_Dice_Between.f (s0_0 : Int) (a1 : Int) (a2 : Int) : Option (Int × Int) := (thermionkit_Dice_Upto.f s0_0 (wrap64 ((wrap64 (a2 - a1)) + 1))).bind fun bt172 => (some (wrap64 (a1 + bt172.1), bt172.2))
set_option maxHeartbeats 8000000 in
set_option maxRecDepth 100000 in
theorem thermionkit_Dice_Between.calls (g : Nat) (s0_0 : Int) (a1 : Int) (a2 : Int) (r1 : Int) (r2 : Int) (w0 w : World) (hI : IsS79 w0 w g s0_0) (hB : Below w0.heap.size w0 w) (h : thermionkit_Dice_Between.f s0_0 a1 a2 = some (r1, r2)) :
  Calls Try.prog 32 #[.pointer (some ⟨g, 0, none⟩), .int .i64 a1, .int .i64 a2] w fun e w' => e = .returned (.int .i64 r1) ∧ IsS79 w0 w' g r2 ∧ Below w0.heap.size w0 w' ∧ KeepBut w w' g none := by
 have HI0 := Aside0.mk hI
 have HK := Aside0.mk (KeepBut.refl w g none)
 have HL := Aside0.mk hB.size
 clear hI
 have HW0 := Aside0.mk hB.size
 have HB := Aside0.mk hB
 clear hB
 have H : ((thermionkit_Dice_Upto.f s0_0 (wrap64 ((wrap64 (a2 - a1)) + 1))).bind fun bt172 => (some (wrap64 (a1 + bt172.1), bt172.2))) = some (r1, r2) := h
 clear h
 replace H := Option.bind_eq_some_iff.mp H
 obtain ⟨⟨t172, t173⟩, A40, H⟩ := H
 replace H : (some (wrap64 (a1 + t172), t173)) = some (r1, r2) := H
 have A4 := Aside0.mk A40
 clear A40
 simp only [Option.some.injEq, Prod.mk.injEq] at H
 obtain ⟨rfl, rfl⟩ := H
 go_enter Try.func32, Try.ntmps32
 go_wp2_with (first | ((with_reducible refine gate_callee (f := 49) rfl ?_); refine goesL_ (some 13) rfl rfl Try.func49 (by kernel_rfl) rfl #[.pointer (some ⟨g, 0, none⟩), .int .i64 (wrap64 ((wrap64 (a2 - a1)) + 1))] rfl (by (try simp only [List.map_toArray, List.map_cons, List.map_nil]); first | done | rfl | (simp only [List.length_drop, List.length_take]; rfl)) ?_; (with_reducible refine (thermionkit_Dice_Upto.calls g s0_0 (wrap64 ((wrap64 (a2 - a1)) + 1)) t172 t173 w0 _ ?side1 ?side2 A4.out).mono ?_); (case side1 => repeat (first | (with_reducible first | exact HI0.out | apply IsS79.alloc | apply IsS79.drewN | apply IsS79.drew | apply IsS79.set_0) | exact HI0.out)); (case side2 => repeat (first | (with_reducible first | exact HB.out | apply below_alloc | apply pw_below_drewN | apply below_drew1 | refine below_set ?_ (IsS79.ge HI0.out)) | exact HB.out)); rintro e w5 ⟨rfl, hi, hb, hk⟩; refine ⟨_, rfl, ?_⟩; have n0_ := Aside0.mk (KeepBut.trans (by repeat (first | (with_reducible first | exact HK.out | apply KeepBut.set_ | apply keep_drewN | apply keep_drew | apply keep_alloc) | exact HK.out)) hk (.inl rfl)); have n1_ := Aside0.mk (hb); have n2_ := Aside0.mk (hi); clear HK; clear HB; clear HI0; have HK := n0_; have HB := n1_; have HI0 := n2_; clear n0_ n1_ n2_; (try clear hb); (try clear hb2); (try clear hk); (try clear hi)))
 go_ret
 exact ⟨by first | rfl | (simp [errW_none, errW_some] <;> rfl) | (simp [*, errW_none, errW_some] <;> rfl), by repeat (first | (with_reducible first | exact HI0.out | apply IsS79.alloc | apply IsS79.drewN | apply IsS79.drew | apply IsS79.set_0) | exact HI0.out), by repeat (first | (with_reducible first | exact HB.out | apply below_alloc | apply pw_below_drewN | apply below_drew1 | refine below_set ?_ (IsS79.ge HI0.out)) | exact HB.out), by repeat (first | (with_reducible first | exact HK.out | apply KeepBut.set_ | apply keep_drewN | apply keep_drew | apply keep_alloc) | exact HK.out)⟩
end Go.Proofs.Ytndkkjpgnmahbaa.Print
end

section
namespace Go.Proofs.Ytndkkjpgnmahbaa.Print
open Go.RowKit Go.Proofs.YtndkkjpgnmahbaaW.PrintWords Go.Proofs.YtndkkjpgnmahbaaW.PrintLast Go.Proofs.YtndkkjpgnmahbaaW.PrintMore
attribute [local go_sem] max2_int min2_int max_two min_two max_three min_three max_four min_four
set_option linter.unusedVariables false
set_option linter.unusedSimpArgs false
def thermionkit_Dice_One.f (s0_0 : Int) (a1 : Int) : Option (Bool × Int) := (thermionkit_Dice_Upto.f s0_0 a1).bind fun bt174 => (some ((bt174.1 == 0), bt174.2))
set_option maxHeartbeats 8000000 in
set_option maxRecDepth 100000 in
theorem thermionkit_Dice_One.calls (g : Nat) (s0_0 : Int) (a1 : Int) (r1 : Bool) (r2 : Int) (w0 w : World) (hI : IsS79 w0 w g s0_0) (hB : Below w0.heap.size w0 w) (h : thermionkit_Dice_One.f s0_0 a1 = some (r1, r2)) :
  Calls Try.prog 66 #[.pointer (some ⟨g, 0, none⟩), .int .i64 a1] w fun e w' => e = .returned (.bool r1) ∧ IsS79 w0 w' g r2 ∧ Below w0.heap.size w0 w' ∧ KeepBut w w' g none := by
 have HI0 := Aside0.mk hI
 have HK := Aside0.mk (KeepBut.refl w g none)
 have HL := Aside0.mk hB.size
 clear hI
 have HW0 := Aside0.mk hB.size
 have HB := Aside0.mk hB
 clear hB
 have H : ((thermionkit_Dice_Upto.f s0_0 a1).bind fun bt174 => (some ((bt174.1 == 0), bt174.2))) = some (r1, r2) := h
 clear h
 replace H := Option.bind_eq_some_iff.mp H
 obtain ⟨⟨t174, t175⟩, A30, H⟩ := H
 replace H : (some ((t174 == 0), t175)) = some (r1, r2) := H
 have A3 := Aside0.mk A30
 clear A30
 simp only [Option.some.injEq, Prod.mk.injEq] at H
 obtain ⟨rfl, rfl⟩ := H
 go_enter Try.func66, Try.ntmps66
 go_wp2_with (first | ((with_reducible refine gate_callee (f := 49) rfl ?_); refine goesL_ (some 7) rfl rfl Try.func49 (by kernel_rfl) rfl #[.pointer (some ⟨g, 0, none⟩), .int .i64 a1] rfl (by (try simp only [List.map_toArray, List.map_cons, List.map_nil]); first | done | rfl | (simp only [List.length_drop, List.length_take]; rfl)) ?_; (with_reducible refine (thermionkit_Dice_Upto.calls g s0_0 a1 t174 t175 w0 _ ?side1 ?side2 A3.out).mono ?_); (case side1 => repeat (first | (with_reducible first | exact HI0.out | apply IsS79.alloc | apply IsS79.drewN | apply IsS79.drew | apply IsS79.set_0) | exact HI0.out)); (case side2 => repeat (first | (with_reducible first | exact HB.out | apply below_alloc | apply pw_below_drewN | apply below_drew1 | refine below_set ?_ (IsS79.ge HI0.out)) | exact HB.out)); rintro e w4 ⟨rfl, hi, hb, hk⟩; refine ⟨_, rfl, ?_⟩; have n0_ := Aside0.mk (KeepBut.trans (by repeat (first | (with_reducible first | exact HK.out | apply KeepBut.set_ | apply keep_drewN | apply keep_drew | apply keep_alloc) | exact HK.out)) hk (.inl rfl)); have n1_ := Aside0.mk (hb); have n2_ := Aside0.mk (hi); clear HK; clear HB; clear HI0; have HK := n0_; have HB := n1_; have HI0 := n2_; clear n0_ n1_ n2_; (try clear hb); (try clear hb2); (try clear hk); (try clear hi)))
 go_ret
 exact ⟨by first | rfl | (simp [errW_none, errW_some] <;> rfl) | (simp [*, errW_none, errW_some] <;> rfl), by repeat (first | (with_reducible first | exact HI0.out | apply IsS79.alloc | apply IsS79.drewN | apply IsS79.drew | apply IsS79.set_0) | exact HI0.out), by repeat (first | (with_reducible first | exact HB.out | apply below_alloc | apply pw_below_drewN | apply below_drew1 | refine below_set ?_ (IsS79.ge HI0.out)) | exact HB.out), by repeat (first | (with_reducible first | exact HK.out | apply KeepBut.set_ | apply keep_drewN | apply keep_drew | apply keep_alloc) | exact HK.out)⟩
end Go.Proofs.Ytndkkjpgnmahbaa.Print
end

section
namespace Go.Proofs.Ytndkkjpgnmahbaa.Print
open Go.RowKit Go.Proofs.YtndkkjpgnmahbaaW.PrintWords Go.Proofs.YtndkkjpgnmahbaaW.PrintLast Go.Proofs.YtndkkjpgnmahbaaW.PrintMore Go.Proofs.Ytndkkjpgnmahbaa.H
set_option linter.unusedVariables false
set_option linter.unusedSimpArgs false
theorem u64_nonneg (x : Int) : 0 ≤ IntKind.u64.wrap x := by
  simp only [IntKind.wrap, IntKind.signed, IntKind.bits]
  simp
  omega
theorem next_two (s : Int) : ∃ v, thermionkit_Dice_next.f s = some (v, nextWord s) ∧ 0 ≤ v := ⟨_, rfl, by unfold Go.bits; exact u64_nonneg _⟩
theorem upto_eq (s n : Int) (h1 : 1 ≤ n) (h2 : n ≤ 9223372036854775807) : ∃ r, thermionkit_Dice_Upto.f s n = some (r, nextWord s) ∧ 0 ≤ r ∧ r < n := by
  obtain ⟨v, hv, h0⟩ := next_two s
  have hw : IntKind.u64.wrap n = n := by
    simp only [IntKind.wrap, IntKind.signed, IntKind.bits]
    simp
    omega
  have ht : Int.tmod v n = v % n := Int.tmod_eq_emod_of_nonneg h0
  have hm0 := Int.emod_nonneg v (show n ≠ 0 by omega)
  have hm1 := Int.emod_lt_of_pos v (show 0 < n by omega)
  refine ⟨v % n, ?_, hm0, hm1⟩
  unfold thermionkit_Dice_Upto.f
  rw [hv]
  simp only [Option.bind_some]
  rw [if_neg (by omega), hw, if_neg (by omega), ht, IntWalk.wrap64_in _ (by omega)]
theorem one_eq (s n : Int) (h1 : 1 ≤ n) (h2 : n ≤ 9223372036854775807) : ∃ b, thermionkit_Dice_One.f s n = some (b, nextWord s) := by
  obtain ⟨r, hr, _, _⟩ := upto_eq s n h1 h2
  unfold thermionkit_Dice_One.f
  rw [hr]
  exact ⟨_, rfl⟩
theorem between_eq (s a b : Int) (h : a ≤ b) (h1 : -4611686018427387904 ≤ a) (h2 : b ≤ 4611686018427387902) : ∃ r, thermionkit_Dice_Between.f s a b = some (r, nextWord s) ∧ a ≤ r ∧ r ≤ b := by
  unfold thermionkit_Dice_Between.f
  rw [IntWalk.wrap64_in (b - a) (by omega), IntWalk.wrap64_in (b - a + 1) (by omega)]
  obtain ⟨r, hr, h3, h4⟩ := upto_eq s (b - a + 1) (by omega) (by omega)
  rw [hr]
  refine ⟨a + r, ?_, by omega, by omega⟩
  simp only [Option.bind_some]
  rw [IntWalk.wrap64_in _ (by omega)]
end Go.Proofs.Ytndkkjpgnmahbaa.Print
end

section
namespace Go.Proofs.Field
def heldAt (W : Nat) (C : List Int) (h : List Bool) (i : Nat) : Bool :=
  h.getD i false || (decide (0 < fn C i) || ((decide (0 < i % W) && h.getD (i - 1) false) || ((decide (i % W + 1 < W) && h.getD (i + 1) false) || ((decide (W ≤ i) && h.getD (i - W) false) || (decide (i + W < C.length) && h.getD (i + W) false)))))
def heldTo (W : Nat) (C : List Int) (h : List Bool) : Nat → List Bool
  | 0 => h
  | i + 1 => (heldTo W C h i).set i (heldAt W C (heldTo W C h i) i)
def heldR (W : Nat) (C : List Int) : Nat → List Bool
  | 0 => List.replicate C.length false
  | r + 1 => heldTo W C (heldR W C r) C.length
def openTo (C : List Int) (h : List Bool) : Nat → List Int
  | 0 => C
  | i + 1 => if h.getD i false = true then openTo C h i else (openTo C h i).set i 1
def opened (W : Nat) (C : List Int) : List Int := openTo C (heldR W C C.length) C.length
theorem heldTo_length (W : Nat) (C : List Int) (h : List Bool) : ∀ i, (heldTo W C h i).length = h.length
  | 0 => rfl
  | i + 1 => by rw [heldTo, List.length_set, heldTo_length W C h i]
theorem heldR_length (W : Nat) (C : List Int) : ∀ r, (heldR W C r).length = C.length
  | 0 => by simp [heldR]
  | r + 1 => by rw [heldR, heldTo_length, heldR_length W C r]
theorem openTo_length (C : List Int) (h : List Bool) : ∀ i, (openTo C h i).length = C.length
  | 0 => rfl
  | i + 1 => by
    rw [openTo]
    split
    · exact openTo_length C h i
    · rw [List.length_set, openTo_length C h i]
theorem getD_setB {h : List Bool} {i : Nat} {v : Bool} (hi : i < h.length) (j : Nat) : (h.set i v).getD j false = if j = i then v else h.getD j false := by
  rw [List.getD_eq_getElem?_getD, List.getD_eq_getElem?_getD, List.getElem?_set]
  by_cases q : i = j
  · subst q; rw [if_pos rfl, if_pos rfl, if_pos hi]; rfl
  · rw [if_neg q, if_neg (fun e => q e.symm)]
theorem fn_openTo (C : List Int) (h : List Bool) : ∀ i, i ≤ C.length → ∀ j, j < C.length → fn (openTo C h i) j = if j < i ∧ h.getD j false = false then 1 else fn C j
  | 0, _, j, _ => by rw [if_neg (by omega)]; rfl
  | i + 1, hi, j, hj => by
    have ih := fn_openTo C h i (by omega) j hj
    rw [openTo]
    by_cases q : h.getD i false = true
    · rw [if_pos q, ih]
      by_cases r : j < i ∧ h.getD j false = false
      · rw [if_pos r, if_pos ⟨by omega, r.2⟩]
      · rw [if_neg r, if_neg (fun s => r ⟨by
          rcases Nat.lt_or_eq_of_le (Nat.le_of_lt_succ s.1) with t | t
          · exact t
          · subst t; rw [q] at s; exact absurd s.2 (by simp), s.2⟩)]
    · rw [if_neg q, fn_set (by rw [openTo_length]; omega)]
      by_cases r : j = i
      · subst r; rw [if_pos rfl, if_pos ⟨by omega, by simpa using q⟩]
      · rw [if_neg r, ih]
        by_cases t : j < i ∧ h.getD j false = false
        · rw [if_pos t, if_pos ⟨by omega, t.2⟩]
        · rw [if_neg t, if_neg (fun s => t ⟨by omega, s.2⟩)]
section
variable {W H : Nat} {R : Bool} {C : List Int}
def Sound (W H : Nat) (R : Bool) (C : List Int) (h : List Bool) : Prop := ∀ i, i < C.length → h.getD i false = true → (net W H R C).Reach i
theorem adj_pos (hc : C.length = W * H) {i j : Nat} (hi : i < C.length) (hj : j < C.length) (h : (j = i + 1 ∧ 0 < j % W) ∨ (i = j + 1 ∧ 0 < i % W) ∨ j = i + W ∨ i = j + W) : 0 < (net W H R C).M i j := by
  show 0 < netM W H R i j
  have h1 := wgt_pos R (i % W) false
  have h2 := wgt_pos R (j % W) false
  have h3 := wgt_pos R (i % W) true
  have h4 := wgt_pos R (j % W) true
  unfold netM
  rw [if_pos ⟨by omega, by omega⟩]
  split
  · omega
  · split
    · omega
    · split
      · omega
      · split
        · omega
        · omega
theorem heldAt_sound (hc : C.length = W * H) {h : List Bool} (hs : Sound W H R C h) {i : Nat} (hi : i < C.length) (e : heldAt W C h i = true) (hl : h.length = C.length) : (net W H R C).Reach i := by
  have hi' : i < W * H := by omega
  obtain ⟨hW, _, _, _⟩ := cell_at hi'
  have out : ∀ j, h.getD j false = true → j < C.length := fun j hj => by
    rcases Nat.lt_or_ge j C.length with q | q
    · exact q
    · rw [List.getD_eq_getElem?_getD, List.getElem?_eq_none (by omega)] at hj
      simp at hj
  unfold heldAt at e
  simp only [Bool.or_eq_true, Bool.and_eq_true, decide_eq_true_eq] at e
  rcases e with e | e | e | e | e | e
  · exact hs i hi e
  · exact .el hi' (by simp [net, e])
  · have hj := out _ e.2
    obtain ⟨h1, h2⟩ := left_col e.1
    exact .step hi' (adj_pos hc hi hj (.inr (.inl ⟨by omega, e.1⟩))) (hs _ hj e.2)
  · have hj := out _ e.2
    exact .step hi' (adj_pos hc hi hj (.inl ⟨rfl, (right_mod hW).2 e.1⟩)) (hs _ hj e.2)
  · have hj := out _ e.2
    exact .step hi' (adj_pos hc hi hj (.inr (.inr (.inr (by omega))))) (hs _ hj e.2)
  · exact .step hi' (adj_pos hc hi e.1 (.inr (.inr (.inl rfl)))) (hs _ e.1 e.2)
theorem heldTo_sound (hc : C.length = W * H) {h : List Bool} (hs : Sound W H R C h) (hl : h.length = C.length) : ∀ i, i ≤ C.length → Sound W H R C (heldTo W C h i)
  | 0, _ => hs
  | i + 1, hi => by
    have ih := heldTo_sound hc hs hl i (by omega)
    have hl' : (heldTo W C h i).length = C.length := by rw [heldTo_length, hl]
    intro j hj e
    rw [heldTo, getD_setB (by omega)] at e
    by_cases q : j = i
    · subst q
      rw [if_pos rfl] at e
      exact heldAt_sound hc ih hj e hl'
    · rw [if_neg q] at e
      exact ih j hj e
theorem heldR_sound (hc : C.length = W * H) : ∀ r, Sound W H R C (heldR W C r)
  | 0 => fun i hi e => by
    rw [heldR, List.getD_eq_getElem?_getD, List.getElem?_replicate] at e
    split at e <;> simp at e
  | r + 1 => heldTo_sound hc (heldR_sound hc r) (heldR_length W C r) _ (Nat.le_refl _)
theorem opened_fine (hc : C.length = W * H) (h256 : C.length ≤ 256) : looseB W H R (opened W C) = false := by
  have hlo : (opened W C).length = C.length := openTo_length C _ _
  refine (loose_iff (by rw [hlo, hc]) (by rw [hlo]; exact h256)).2 (fun i hi => ?_)
  rw [hlo] at hi
  have hfn : ∀ j, j < C.length → fn (opened W C) j = if (heldR W C C.length).getD j false = false then 1 else fn C j := fun j hj => by
    unfold opened
    rw [fn_openTo C _ _ (Nat.le_refl _) j hj]
    by_cases q : (heldR W C C.length).getD j false = false
    · rw [if_pos ⟨hj, q⟩, if_pos q]
    · rw [if_neg (fun s => q s.2), if_neg q]
  have mono : ∀ k, (net W H R C).Reach k → (net W H R (opened W C)).Reach k := by
    intro k hk
    induction hk with
    | @el i hi he =>
      refine .el hi ?_
      have hi' : i < C.length := by rw [hc]; exact hi
      have he' : 0 < fn C i := by simpa [net] using he
      show decide (0 < fn (opened W C) i) = true
      rw [hfn i hi', decide_eq_true_eq]
      split <;> omega
    | step hi hm _ ih => exact .step hi hm ih
  by_cases q : (heldR W C C.length).getD i false = true
  · exact mono i (heldR_sound hc _ i hi q)
  · refine .el (show i < W * H by omega) ?_
    show decide (0 < fn (opened W C) i) = true
    rw [hfn i hi, if_pos (by simpa using q)]
    rfl
end
end Go.Proofs.Field
end

section
namespace Go.Proofs.Ytndkkjpgnmahbaa.Print
open Go.RowKit Go.Proofs.YtndkkjpgnmahbaaW.PrintWords Go.Proofs.YtndkkjpgnmahbaaW.PrintLast Go.Proofs.YtndkkjpgnmahbaaW.PrintMore Go.Proofs.Field
set_option linter.unusedVariables false
def dOne (s k : Int) : Bool × Int := (thermionkit_Dice_One.f s k).getD (false, 0)
def dBtw (s a b : Int) : Int × Int := (thermionkit_Dice_Between.f s a b).getD (0, 0)
theorem dOne_eq (s k : Int) (h1 : 1 ≤ k) (h2 : k ≤ 9223372036854775807) : thermionkit_Dice_One.f s k = some ((dOne s k).1, (dOne s k).2) := by
  obtain ⟨b, hb⟩ := one_eq s k h1 h2
  unfold dOne
  rw [hb]
  rfl
theorem dBtw_eq (s a b : Int) (h : a ≤ b) (h1 : -4611686018427387904 ≤ a) (h2 : b ≤ 4611686018427387902) : thermionkit_Dice_Between.f s a b = some ((dBtw s a b).1, (dBtw s a b).2) ∧ a ≤ (dBtw s a b).1 ∧ (dBtw s a b).1 ≤ b := by
  obtain ⟨r, hr, h3, h4⟩ := between_eq s a b h h1 h2
  unfold dBtw
  rw [hr]
  exact ⟨rfl, h3, h4⟩
def cellStep (s : Int) : Int × Int := if (dOne s 3).1 = true then dBtw (dOne s 3).2 1 3 else (0, (dOne s 3).2)
theorem cellStep_range (s : Int) : 0 ≤ (cellStep s).1 ∧ (cellStep s).1 ≤ 3 := by
  unfold cellStep
  split
  · have := dBtw_eq (dOne s 3).2 1 3 (by omega) (by omega) (by omega); omega
  · exact ⟨Int.le_refl _, by show (0 : Int) ≤ 3; omega⟩
def cellsTo (s : Int) : Nat → List Int × Int
  | 0 => ([], s)
  | i + 1 => ((cellsTo s i).1 ++ [(cellStep (cellsTo s i).2).1], (cellStep (cellsTo s i).2).2)
theorem cellsTo_length (s : Int) : ∀ i, (cellsTo s i).1.length = i
  | 0 => rfl
  | i + 1 => by rw [cellsTo, List.length_append, cellsTo_length s i]; rfl
theorem cellsTo_range (s : Int) : ∀ i e, e ∈ (cellsTo s i).1 → 0 ≤ e ∧ e ≤ 3
  | 0, e, h => by simp [cellsTo] at h
  | i + 1, e, h => by
    rw [cellsTo] at h
    rcases List.mem_append.1 h with h | h
    · exact cellsTo_range s i e h
    · rw [List.mem_singleton.1 h]
      exact cellStep_range _
def firstOne (C : List Int) : List Int := C.set 0 (max 1 (C.getD 0 0))
def thermionkit_PlanOf.f (s a1 a2 : Int) : Option (Int × Int × Bool × List Int × Int) :=
  if 1 ≤ a1 ∧ a1 ≤ 16 ∧ 1 ≤ a2 ∧ a2 ≤ 16 then
    some ((dBtw s 1 a1).1, (dBtw (dBtw s 1 a1).2 1 a2).1, (dOne (dBtw (dBtw s 1 a1).2 1 a2).2 2).1,
      opened (dBtw s 1 a1).1.toNat (firstOne (cellsTo (dOne (dBtw (dBtw s 1 a1).2 1 a2).2 2).2 ((dBtw s 1 a1).1.toNat * (dBtw (dBtw s 1 a1).2 1 a2).1.toNat)).1),
      (cellsTo (dOne (dBtw (dBtw s 1 a1).2 1 a2).2 2).2 ((dBtw s 1 a1).1.toNat * (dBtw (dBtw s 1 a1).2 1 a2).1.toNat)).2)
  else none
theorem mem_set {C : List Int} {i : Nat} {v e : Int} (h : e ∈ C.set i v) : e = v ∨ e ∈ C := by
  rcases List.mem_or_eq_of_mem_set h with h | h
  · exact .inr h
  · exact .inl h
theorem firstOne_range {C : List Int} (h : ∀ e, e ∈ C → 0 ≤ e ∧ e ≤ 3) (hp : 0 < C.length) : ∀ e, e ∈ firstOne C → 0 ≤ e ∧ e ≤ 3 := fun e he => by
  have h0 := h _ (fn_mem hp)
  unfold fn at h0
  unfold firstOne at he
  rcases mem_set he with rfl | he
  · omega
  · exact h e he
theorem openTo_range {C : List Int} {h : List Bool} (hr : ∀ e, e ∈ C → 0 ≤ e ∧ e ≤ 3) : ∀ i e, e ∈ openTo C h i → 0 ≤ e ∧ e ≤ 3
  | 0, e, he => hr e he
  | i + 1, e, he => by
    rw [openTo] at he
    split at he
    · exact openTo_range hr i e he
    · rcases mem_set he with rfl | he
      · omega
      · exact openTo_range hr i e he
theorem planOf_fine {s a1 a2 W H : Int} {R : Bool} {C : List Int} {r : Int} (h : thermionkit_PlanOf.f s a1 a2 = some (W, H, R, C, r)) :
    1 ≤ W ∧ W ≤ a1 ∧ 1 ≤ H ∧ H ≤ a2 ∧ a1 ≤ 16 ∧ a2 ≤ 16 ∧ (C.length : Int) = W * H ∧ (∀ e, e ∈ C → 0 ≤ e ∧ e ≤ 3) ∧ checkErr W H R C = 0 := by
  unfold thermionkit_PlanOf.f at h
  by_cases q : 1 ≤ a1 ∧ a1 ≤ 16 ∧ 1 ≤ a2 ∧ a2 ≤ 16
  · rw [if_pos q] at h
    simp only [Option.some.injEq, Prod.mk.injEq] at h
    obtain ⟨e1, e2, e3, e4, _⟩ := h
    have hW := (dBtw_eq s 1 a1 q.1 (by omega) (by omega)).2
    have hH := (dBtw_eq (dBtw s 1 a1).2 1 a2 q.2.2.1 (by omega) (by omega)).2
    rw [e1] at hW e4
    rw [e2] at hH e4
    obtain ⟨W', rfl⟩ : ∃ W' : Nat, W = W' := ⟨W.toNat, by omega⟩
    obtain ⟨H', rfl⟩ : ∃ H' : Nat, H = H' := ⟨H.toNat, by omega⟩
    rw [Int.toNat_natCast, Int.toNat_natCast] at e4
    obtain ⟨D, hD⟩ : ∃ D, (cellsTo (dOne (dBtw (dBtw s 1 a1).2 1 a2).2 2).2 (W' * H')).1 = D := ⟨_, rfl⟩
    have hl : D.length = W' * H' := by rw [← hD, cellsTo_length]
    have hr := cellsTo_range (dOne (dBtw (dBtw s 1 a1).2 1 a2).2 2).2 (W' * H')
    rw [hD] at hr e4
    have hpos : 0 < W' * H' := Nat.mul_pos (by omega) (by omega)
    have h256 : W' * H' ≤ 256 := by have := Nat.mul_le_mul (show W' ≤ 16 by omega) (show H' ≤ 16 by omega); omega
    have hf : (firstOne D).length = W' * H' := by unfold firstOne; rw [List.length_set, hl]
    have hlen : C.length = W' * H' := by rw [← e4]; unfold opened; rw [openTo_length, hf]
    have hrC : ∀ e, e ∈ C → 0 ≤ e ∧ e ≤ 3 := fun e he => by
      rw [← e4] at he
      exact openTo_range (firstOne_range hr (by omega)) _ e he
    have hlo : looseB W' H' R C = false := by rw [← e4]; exact opened_fine hf (by omega)
    refine ⟨by omega, by omega, by omega, by omega, by omega, by omega, by rw [hlen, Int.natCast_mul], hrC, ?_⟩
    unfold checkErr
    rw [if_neg (by omega), if_neg (by rw [hlen, Int.natCast_mul]; simp), if_neg (by rintro ⟨e, he, hb⟩; have := hrC e he; omega), if_neg, if_neg]
    · rw [Int.toNat_natCast, Int.toNat_natCast, hlo]; simp
    · intro hz
      have hreach := (loose_iff (R := R) hlen (by omega)).1 hlo 0 (by omega)
      have : ∀ i, (net W' H' R C).Reach i → ∃ j, j < C.length ∧ 0 < fn C j := by
        intro i hi
        induction hi with
        | @el i hi he => exact ⟨i, by rw [hlen]; exact hi, by simpa [net] using he⟩
        | step _ _ _ ih => exact ih
      obtain ⟨j, hj, hp⟩ := this 0 hreach
      have := hz _ (fn_mem hj)
      omega
  · rw [if_neg q] at h
    exact absurd h (by simp)
end Go.Proofs.Ytndkkjpgnmahbaa.Print
end

section
namespace Go.Proofs.Ytndkkjpgnmahbaa.Print
open Go.RowKit Go.Proofs.YtndkkjpgnmahbaaW.PrintWords Go.Proofs.YtndkkjpgnmahbaaW.PrintLast Go.Proofs.YtndkkjpgnmahbaaW.PrintMore Go.Proofs.Ytndkkjpgnmahbaa.H Go.Proofs.Field
attribute [local go_sem] max2_int min2_int max_two min_two max_three min_three max_four min_four
set_option linter.unusedVariables false
set_option linter.unusedSimpArgs false
structure OS (w W : World) (gp g2 gh ch g0 c base : Nat) (ok : Nat → Prop) (pv : Array Value) (h : List Bool) (D : List Int) : Prop where
  g : w.grownBy W (some g0)
  p : W.heap[gp]? = some (.cells pv 24 (0, 0))
  z : W.heap[g2]? = some (.cells #[.int .i64 0, .int .i64 0, .bool false, .slice none 0 0] 24 (0, 0))
  hh : Kd.R Kd.bool 4 W w.heap.size (fun _ => True) (.slice (some ⟨gh, 0, none⟩) h.length ch) h
  rc : Kd.R (Kd.int .i64) 3 W base ok (.slice (some ⟨g0, 0, none⟩) D.length c) D
  gp0 : w.heap.size ≤ gp
  g20 : w.heap.size ≤ g2
  gh0 : w.heap.size ≤ gh
  g00 : g0 < w.heap.size
namespace OS
variable {w W W1 : World} {gp g2 gh ch g0 c base : Nat} {ok : Nat → Prop} {pv : Array Value} {h : List Bool} {D : List Int}
theorem cell (s : OS w W gp g2 gh ch g0 c base ok pv h D) {i : Nat} (hi : i < D.length) : W.cell? ⟨g0, i, none⟩ = some (.int .i64 (fn D i)) := by
  have h1 := (Kd.R_cell (0 : Int) s.rc (i : Int) (by omega) (by omega)).1
  rw [Int.toNat_natCast] at h1
  rw [h1]
  unfold rdOf fn
  rw [Int.toNat_natCast]
theorem frozen (s : OS w W gp g2 gh ch g0 c base ok pv h D) {i : Nat} (hi : i < D.length) : W.frozen? ⟨g0, i, none⟩ = false := by
  have h1 := (Kd.R_cell (0 : Int) s.rc (i : Int) (by omega) (by omega)).2
  rwa [Int.toNat_natCast] at h1
theorem held (s : OS w W gp g2 gh ch g0 c base ok pv h D) {i : Nat} (hi : i < h.length) : W.cell? ⟨gh, i, none⟩ = some (.bool (h.getD i false)) ∧ W.frozen? ⟨gh, i, none⟩ = false := by
  have h1 := Kd.R_cell false s.hh (i : Int) (by omega) (by omega)
  rw [Int.toNat_natCast] at h1
  refine ⟨h1.1.trans ?_, h1.2⟩
  unfold rdOf
  rw [Int.toNat_natCast]
theorem grow {x : Nat} {j : Nat} {v : Value} (hg : w.grownBy W (some g0)) (hx : w.heap.size ≤ x ∨ x = g0) : w.grownBy (W.setCell ⟨x, j, none⟩ v) (some g0) :=
  ⟨hg.os, hg.tape, hg.output, Nat.le_trans hg.size (KeepsOthers.setCell W _ _).size, fun k hk hne => by
    rw [Below.heap_setCell W _ _ k (show k ≠ x by
      rcases hx with q | q
      · omega
      · exact fun e => hne (by rw [e, q]))]
    exact hg.block k hk hne⟩
theorem seth (s : OS w W gp g2 gh ch g0 c base ok pv h D) {i : Nat} (hi : i < h.length) (v : Bool) : OS w (W.setCell ⟨gh, i, none⟩ (.bool v)) gp g2 gh ch g0 c base ok pv (h.set i v) D := by
  obtain ⟨cs, hb⟩ := Kd.R_typed s.hh gh rfl
  have h1 := (Kd.R_put s.hh (i : Int) v).1
  rw [Int.toNat_natCast] at h1
  refine ⟨grow s.g (.inl s.gh0), blk_far (p := ⟨gh, i, none⟩) s.p (blk_ne s.p hb (by decide)) _, blk_far (p := ⟨gh, i, none⟩) s.z (blk_ne s.z hb (by decide)) _, ?_, Kd.R_set s.rc hb (by decide) i _, s.gp0, s.g20, s.gh0, s.g00⟩
  rw [List.length_set]
  exact h1
theorem setc (s : OS w W gp g2 gh ch g0 c base ok pv h D) {i : Nat} (hi : i < D.length) (v : Int) : OS w (W.setCell ⟨g0, i, none⟩ (.int .i64 v)) gp g2 gh ch g0 c base ok pv h (D.set i v) := by
  obtain ⟨cs, hb⟩ := Kd.R_typed s.rc g0 rfl
  have h1 := (Kd.R_put s.rc (i : Int) v).1
  rw [Int.toNat_natCast] at h1
  refine ⟨grow s.g (.inr rfl), blk_far (p := ⟨g0, i, none⟩) s.p (blk_ne s.p hb (by decide)) _, blk_far (p := ⟨g0, i, none⟩) s.z (blk_ne s.z hb (by decide)) _, Kd.R_set s.hh hb (by decide) i _, ?_, s.gp0, s.g20, s.gh0, s.g00⟩
  rw [List.length_set]
  exact h1
end OS
set_option maxHeartbeats 12800000 in
set_option maxRecDepth 100000 in
theorem opened_calls (W H : Nat) (R : Bool) (g0 c base : Nat) (ok : Nat → Prop) (C : List Int) (w : World) (hr : Kd.R (Kd.int .i64) 3 w base ok (.slice (some ⟨g0, 0, none⟩) C.length c) C) (hc : C.length = W * H) (hN : C.length ≤ 256) (hp : 0 < C.length) (hW : 0 < W) :
    Calls Try.prog 67 #[.agg (planV W H R (some ⟨g0, 0, none⟩) C.length c)] w fun e w' => e = .returned (.agg (planV W H R (some ⟨g0, 0, none⟩) C.length c)) ∧ Kd.R (Kd.int .i64) 3 w' base ok (.slice (some ⟨g0, 0, none⟩) (opened W C).length c) (opened W C) ∧ w.grownBy w' (some g0) := by
  have HR := Aside0.mk hr
  have HM := Aside0.mk (Mem.start w)
  have HX : Aside0 (C.length = W * H ∧ C.length ≤ 256 ∧ 0 < C.length ∧ 0 < W ∧ W ≤ 256) := ⟨⟨hc, hN, hp, hW, by
    have hH : 0 < H := by
      rcases Nat.eq_zero_or_pos H with q | q
      · rw [q, Nat.mul_zero] at hc; omega
      · exact q
    have := Nat.le_mul_of_pos_right W hH
    omega⟩⟩
  have hG0 := Kd.R_lt hr g0 rfl
  have b1 : (C.length : Int) ≤ 256 := by omega
  have b2 : (0 : Int) ≤ (C.length : Int) := by omega
  have b3 : (W : Int) ≠ 0 := by omega
  have hu24 := Try.underlying24
  have hu22 := Try.underlying22
  have hu100 := Try.underlying100
  have HG0 := Aside0.mk hG0
  clear hr hc hN hp hW hG0
  go_enter Try.func67, Try.ntmps67
  go_wp2_with (first
    | ((with_reducible refine gate_dst (N := 1) rfl ?_); refine ev_box HM.out rfl 24 (.tmp 0) rfl (cs := planV W H R (some ⟨g0, 0, none⟩) C.length c) rfl ?_; intro gp w1 hm1 hq1; clear hq1; have HM1 := Aside0.mk hm1; clear hm1 HM)
    | ((with_reducible refine gate_dst (N := 2) rfl ?_); refine ev_new HM1.out rfl 24 rfl info24 ?_; intro g2 w2 hm2 hq2; clear hq2; have HM2 := Aside0.mk hm2; clear hm2 HM1; have q3 : w2.cell? ⟨gp, 3, none⟩ = some (.slice (some ⟨g0, 0, none⟩) C.length c) := (blk_cell HM2.out.second 3).trans rfl)
    | ((with_reducible refine gate_dst (N := 11) rfl ?_); refine Kd.R_make Kd.bool w.heap.size 4 rfl (N := 11) rfl 100 _ _ rfl (C.length : Int) rfl rfl Try.underlying100 (.bool false) 1 info4 rfl (by decide) (by omega) false (ok := fun _ => True) (okp := fun _ => True) rfl (fun _ hk => hk) trivial b2 (by omega) HM2.out.below HM2.out.below.size ?_; intro v3 w3 ho3 hb3 hg3 hat3; rw [Int.toNat_natCast] at ho3; obtain ⟨gh, ch, e3, hgh, _⟩ := Kd.R_form ho3 (by rw [List.length_replicate]; exact HX.out.2.2.1); rw [List.length_replicate] at e3; subst e3; have HS0 : Aside0 (OS w w3 gp g2 gh ch g0 c base ok (planV W H R (some ⟨g0, 0, none⟩) C.length c) (heldR W C 0) C) := ⟨⟨(grown_below hb3).but _, blk_grown HM2.out.second hg3 (by simp), blk_grown HM2.out.head hg3 (by simp), by rw [heldR, List.length_replicate]; exact ho3, Kd.R_below HR.out hb3, HM2.out.drop.geh, HM2.out.geh, hgh, HG0.out⟩⟩; clear ho3 hb3 hg3 hat3 hgh HM2 q3))
  go_loopg [4] C.length (fun k v4 w' => ∃ (r : Nat), v4 = .int .i64 (r : Int) ∧ Aside0 (r + k = C.length) ∧ Aside0 (OS w w' gp g2 gh ch g0 c base ok (planV W H R (some ⟨g0, 0, none⟩) C.length c) (heldR W C r) C))
  case atStart => exact ⟨0, rfl, ⟨by omega⟩, HS0⟩
  case round =>
    clear HS0
    obtain ⟨r, rfl, HK, HS⟩ := hrel
    have q3 : wr.cell? ⟨gp, 3, none⟩ = some (.slice (some ⟨g0, 0, none⟩) C.length c) := (blk_cell HS.out.p 3).trans rfl
    by_cases hr : r < C.length
    · have hlt : decide (r < C.length) = true := decide_eq_true hr
      have HI := Aside0.mk hr
      clear hr
      go_wp2_with fail
      go_loopg [5] C.length (fun k v5 w' => ∃ (i : Nat), v5 = .int .i64 (i : Int) ∧ Aside0 (i + k = C.length) ∧ Aside0 (OS w w' gp g2 gh ch g0 c base ok (planV W H R (some ⟨g0, 0, none⟩) C.length c) (heldTo W C (heldR W C r) i) C))
      case atStart => exact ⟨0, rfl, ⟨by omega⟩, HS⟩
      case round =>
        clear HS q3
        obtain ⟨i, rfl, HK2, HS⟩ := hrel
        have q3 : wr.cell? ⟨gp, 3, none⟩ = some (.slice (some ⟨g0, 0, none⟩) C.length c) := (blk_cell HS.out.p 3).trans rfl
        have q0 : wr.cell? ⟨gp, 0, none⟩ = some (.int .i64 (W : Int)) := (blk_cell HS.out.p 0).trans rfl
        by_cases hi : i < C.length
        · have hlt2 : decide (i < C.length) = true := decide_eq_true hi
          have HI2 := Aside0.mk hi
          clear hi
          obtain ⟨h, hh⟩ : ∃ h, heldTo W C (heldR W C r) i = h := ⟨_, rfl⟩
          have HL : Aside0 (h.length = C.length) := ⟨by rw [← hh, heldTo_length, heldR_length]⟩
          have HNX : Aside0 (heldTo W C (heldR W C r) (i + 1) = h.set i (heldAt W C h i)) := ⟨by rw [heldTo, hh]⟩
          rw [hh] at HS
          clear hh
          have i1 : (0 : Int) ≤ (i : Int) := by omega
          have i2 : i < C.length := HI2.out
          have br : r < C.length := HI.out
          obtain ⟨xx, hxx⟩ : ∃ xx, i % W = xx := ⟨_, rfl⟩
          have HXX := Aside0.mk hxx
          have ex : (i : Int) % (W : Int) = (xx : Int) := by rw [← hxx]; rfl
          have hxi : xx ≤ i := by rw [← hxx]; exact Nat.mod_le _ _
          have hxw : xx < W := by rw [← hxx]; exact Nat.mod_lt _ HX.out.2.2.2.1
          have HXI := Aside0.mk (And.intro hxi hxw)
          clear hxx hxi hxw
          have cC := HS.out.cell HI2.out
          obtain ⟨X, hX⟩ : ∃ X, fn C i = X := ⟨_, rfl⟩
          rw [hX] at cC
          have HXV := Aside0.mk hX
          clear hX
          have cH := (HS.out.held (i := i) (by rw [HL.out]; exact HI2.out)).1
          have fH := (HS.out.held (i := i) (by rw [HL.out]; exact HI2.out)).2
          obtain ⟨v0, e0⟩ : ∃ b, h.getD i false = b := ⟨_, rfl⟩
          have HIN : Aside0 (∀ j, j < C.length → wr.cell? ⟨gh, j, none⟩ = some (.bool (h.getD j false))) := ⟨fun j hj => (HS.out.held (by rw [HL.out]; exact hj)).1⟩
          rw [e0] at cH
          have E0 := Aside0.mk e0
          clear e0
          go_upto_region 9 with (fail)
          simp only [List.append_eq, List.cons_append, List.nil_append]
          rw [ex]
          clear ex
          cases v0
          · skip
            by_cases q1 : 0 < X
            · have d1 : decide (X > 0) = true := decide_eq_true q1
              have E1 : Aside0 (decide (0 < fn C i) = true) := ⟨by rw [HXV.out]; exact decide_eq_true q1⟩
              clear q1
              have HV : Aside0 (heldTo W C (heldR W C r) (i + 1) = h.set i true) := ⟨by rw [HNX.out]; congr 1; simp only [heldAt, E0.out, E1.out, Bool.false_or, Bool.true_or, Bool.and_true, Bool.true_and, Bool.and_false, Bool.false_and, Bool.or_true, Bool.or_false]⟩
              have HS2 : Aside0 (OS w (wr.setCell ⟨gh, i, none⟩ (.bool true)) gp g2 gh ch g0 c base ok (planV W H R (some ⟨g0, 0, none⟩) C.length c) (heldTo W C (heldR W C r) (i + 1)) C) := ⟨by rw [HV.out]; exact HS.out.seth (by rw [HL.out]; exact HI2.out) true⟩
              go_wp2_with fail
              go_roundg (C.length - (i + 1))
              case measure => have := HK2.out; have := HI2.out; omega
              case rel => exact ⟨i + 1, (by first | go_num | (rw [HJ3.out])), ⟨by have := HI2.out; omega⟩, HS2⟩
            · have d1 : decide (X > 0) = false := decide_eq_false q1
              have E1 : Aside0 (decide (0 < fn C i) = false) := ⟨by rw [HXV.out]; exact decide_eq_false q1⟩
              clear q1
              by_cases q2 : 0 < xx
              · have E2 : Aside0 (decide (0 < i % W) = true) := ⟨decide_eq_true (by rw [HXX.out]; exact q2)⟩
                have d2 : decide (0 < xx) = true := decide_eq_true q2
                have dd2 : decide ((xx : Int) > 0) = true := decide_eq_true (by omega)
                have := HXI.out
                obtain ⟨j2, hj2⟩ : ∃ j, i - 1 = j := ⟨_, rfl⟩
                have n2 : IntKind.i64.wrap ((i : Int) - 1) = (j2 : Int) := by rw [show ((i : Int) - 1 : Int) = (j2 : Int) by omega]; exact IntWalk.i64_in _ (by have := HX.out; have := HI2.out; omega)
                have a2 : (0 : Int) ≤ (j2 : Int) := by omega
                have l2 : j2 < C.length := by have := HI2.out; omega
                have c2 := HIN.out j2 l2
                obtain ⟨v2, e2⟩ : ∃ b, h.getD j2 false = b := ⟨_, rfl⟩
                rw [e2] at c2
                have F2 : Aside0 (h.getD (i - 1) false = v2) := ⟨by rw [hj2]; exact e2⟩
                have HJ2 := Aside0.mk hj2
                clear e2 hj2 q2
                cases v2
                · skip
                  have w1 : IntKind.i64.wrap ((W : Int) - 1) = ((W - 1 : Nat) : Int) := by rw [show (W : Int) - 1 = ((W - 1 : Nat) : Int) by have := HX.out; omega]; exact IntWalk.i64_in _ (by have := HX.out; omega)
                  by_cases q3 : xx + 1 < W
                  · have E3 : Aside0 (decide (i % W + 1 < W) = true) := ⟨decide_eq_true (by rw [HXX.out]; exact q3)⟩
                    have d3 : decide (xx < W - 1) = true := decide_eq_true (by omega)
                    have dd3 : decide ((xx : Int) < ((W - 1 : Nat) : Int)) = true := decide_eq_true (by omega)
                    have hrl : i + 1 < C.length := by rw [HX.out.1]; exact right_lt (H := H) (by rw [← HX.out.1]; exact HI2.out) (by rw [HXX.out]; exact q3)
                    obtain ⟨j3, hj3⟩ : ∃ j, i + 1 = j := ⟨_, rfl⟩
                    have n3 : IntKind.i64.wrap ((i : Int) + 1) = (j3 : Int) := by rw [show ((i : Int) + 1 : Int) = (j3 : Int) by omega]; exact IntWalk.i64_in _ (by have := HX.out; have := HI2.out; omega)
                    have a3 : (0 : Int) ≤ (j3 : Int) := by omega
                    have l3 : j3 < C.length := by have := HI2.out; omega
                    have c3 := HIN.out j3 l3
                    obtain ⟨v3, e3⟩ : ∃ b, h.getD j3 false = b := ⟨_, rfl⟩
                    rw [e3] at c3
                    have F3 : Aside0 (h.getD (i + 1) false = v3) := ⟨by rw [hj3]; exact e3⟩
                    have HJ3 := Aside0.mk hj3
                    clear e3 hj3 q3
                    cases v3
                    · skip
                      by_cases q4 : W ≤ i
                      · have E4 : Aside0 (decide (W ≤ i) = true) := ⟨decide_eq_true q4⟩
                        have d4 : decide (W ≤ i) = true := decide_eq_true q4
                        have dd4 : decide ((i : Int) ≥ (W : Int)) = true := decide_eq_true (by omega)
                        obtain ⟨j4, hj4⟩ : ∃ j, i - W = j := ⟨_, rfl⟩
                        have n4 : IntKind.i64.wrap ((i : Int) - (W : Int)) = (j4 : Int) := by rw [show ((i : Int) - (W : Int) : Int) = (j4 : Int) by omega]; exact IntWalk.i64_in _ (by have := HX.out; have := HI2.out; omega)
                        have a4 : (0 : Int) ≤ (j4 : Int) := by omega
                        have l4 : j4 < C.length := by have := HI2.out; omega
                        have c4 := HIN.out j4 l4
                        obtain ⟨v4, e4⟩ : ∃ b, h.getD j4 false = b := ⟨_, rfl⟩
                        rw [e4] at c4
                        have F4 : Aside0 (h.getD (i - W) false = v4) := ⟨by rw [hj4]; exact e4⟩
                        have HJ4 := Aside0.mk hj4
                        clear e4 hj4 q4
                        cases v4
                        · skip
                          obtain ⟨j5, hj5⟩ : ∃ j, i + W = j := ⟨_, rfl⟩
                          have n5 : IntKind.i64.wrap ((i : Int) + (W : Int)) = (j5 : Int) := by rw [show (i : Int) + (W : Int) = (j5 : Int) by omega]; exact IntWalk.i64_in _ (by have := HX.out; have := HI2.out; omega)
                          have a5 : (0 : Int) ≤ (j5 : Int) := by omega
                          have HJ5 := Aside0.mk hj5
                          clear hj5
                          by_cases q5 : j5 < C.length
                          · have E5 : Aside0 (decide (i + W < C.length) = true) := ⟨by rw [HJ5.out]; exact decide_eq_true q5⟩
                            have d5 : decide (j5 < C.length) = true := decide_eq_true q5
                            have c5 := HIN.out j5 q5
                            obtain ⟨v5, e5⟩ : ∃ b, h.getD j5 false = b := ⟨_, rfl⟩
                            rw [e5] at c5
                            have F5 : Aside0 (h.getD (i + W) false = v5) := ⟨by rw [HJ5.out]; exact e5⟩
                            clear e5
                            cases v5
                            · skip
                              have HV : Aside0 (heldTo W C (heldR W C r) (i + 1) = h.set i false) := ⟨by rw [HNX.out]; congr 1; simp only [heldAt, E0.out, E1.out, E2.out, F2.out, E3.out, F3.out, E4.out, F4.out, E5.out, F5.out, Bool.false_or, Bool.true_or, Bool.and_true, Bool.true_and, Bool.and_false, Bool.false_and, Bool.or_true, Bool.or_false]⟩
                              have HS2 : Aside0 (OS w (wr.setCell ⟨gh, i, none⟩ (.bool false)) gp g2 gh ch g0 c base ok (planV W H R (some ⟨g0, 0, none⟩) C.length c) (heldTo W C (heldR W C r) (i + 1)) C) := ⟨by rw [HV.out]; exact HS.out.seth (by rw [HL.out]; exact HI2.out) false⟩
                              go_wp2_with fail
                              go_roundg (C.length - (i + 1))
                              case measure => have := HK2.out; have := HI2.out; omega
                              case rel => exact ⟨i + 1, (by first | go_num | (rw [HJ3.out])), ⟨by have := HI2.out; omega⟩, HS2⟩
                            · skip
                              have HV : Aside0 (heldTo W C (heldR W C r) (i + 1) = h.set i true) := ⟨by rw [HNX.out]; congr 1; simp only [heldAt, E0.out, E1.out, E2.out, F2.out, E3.out, F3.out, E4.out, F4.out, E5.out, F5.out, Bool.false_or, Bool.true_or, Bool.and_true, Bool.true_and, Bool.and_false, Bool.false_and, Bool.or_true, Bool.or_false]⟩
                              have HS2 : Aside0 (OS w (wr.setCell ⟨gh, i, none⟩ (.bool true)) gp g2 gh ch g0 c base ok (planV W H R (some ⟨g0, 0, none⟩) C.length c) (heldTo W C (heldR W C r) (i + 1)) C) := ⟨by rw [HV.out]; exact HS.out.seth (by rw [HL.out]; exact HI2.out) true⟩
                              go_wp2_with fail
                              go_roundg (C.length - (i + 1))
                              case measure => have := HK2.out; have := HI2.out; omega
                              case rel => exact ⟨i + 1, (by first | go_num | (rw [HJ3.out])), ⟨by have := HI2.out; omega⟩, HS2⟩
                          · have E5 : Aside0 (decide (i + W < C.length) = false) := ⟨by rw [HJ5.out]; exact decide_eq_false q5⟩
                            have d5 : decide (j5 < C.length) = false := decide_eq_false q5
                            clear q5
                            have HV : Aside0 (heldTo W C (heldR W C r) (i + 1) = h.set i false) := ⟨by rw [HNX.out]; congr 1; simp only [heldAt, E0.out, E1.out, E2.out, F2.out, E3.out, F3.out, E4.out, F4.out, E5.out, Bool.false_or, Bool.true_or, Bool.and_true, Bool.true_and, Bool.and_false, Bool.false_and, Bool.or_true, Bool.or_false]⟩
                            have HS2 : Aside0 (OS w (wr.setCell ⟨gh, i, none⟩ (.bool false)) gp g2 gh ch g0 c base ok (planV W H R (some ⟨g0, 0, none⟩) C.length c) (heldTo W C (heldR W C r) (i + 1)) C) := ⟨by rw [HV.out]; exact HS.out.seth (by rw [HL.out]; exact HI2.out) false⟩
                            go_wp2_with fail
                            go_roundg (C.length - (i + 1))
                            case measure => have := HK2.out; have := HI2.out; omega
                            case rel => exact ⟨i + 1, (by first | go_num | (rw [HJ3.out])), ⟨by have := HI2.out; omega⟩, HS2⟩
                        · skip
                          have HV : Aside0 (heldTo W C (heldR W C r) (i + 1) = h.set i true) := ⟨by rw [HNX.out]; congr 1; simp only [heldAt, E0.out, E1.out, E2.out, F2.out, E3.out, F3.out, E4.out, F4.out, Bool.false_or, Bool.true_or, Bool.and_true, Bool.true_and, Bool.and_false, Bool.false_and, Bool.or_true, Bool.or_false]⟩
                          have HS2 : Aside0 (OS w (wr.setCell ⟨gh, i, none⟩ (.bool true)) gp g2 gh ch g0 c base ok (planV W H R (some ⟨g0, 0, none⟩) C.length c) (heldTo W C (heldR W C r) (i + 1)) C) := ⟨by rw [HV.out]; exact HS.out.seth (by rw [HL.out]; exact HI2.out) true⟩
                          go_wp2_with fail
                          go_roundg (C.length - (i + 1))
                          case measure => have := HK2.out; have := HI2.out; omega
                          case rel => exact ⟨i + 1, (by first | go_num | (rw [HJ3.out])), ⟨by have := HI2.out; omega⟩, HS2⟩
                      · have E4 : Aside0 (decide (W ≤ i) = false) := ⟨decide_eq_false q4⟩
                        have d4 : decide (W ≤ i) = false := decide_eq_false q4
                        have dd4 : decide ((i : Int) ≥ (W : Int)) = false := decide_eq_false (by omega)
                        clear q4
                        obtain ⟨j5, hj5⟩ : ∃ j, i + W = j := ⟨_, rfl⟩
                        have n5 : IntKind.i64.wrap ((i : Int) + (W : Int)) = (j5 : Int) := by rw [show (i : Int) + (W : Int) = (j5 : Int) by omega]; exact IntWalk.i64_in _ (by have := HX.out; have := HI2.out; omega)
                        have a5 : (0 : Int) ≤ (j5 : Int) := by omega
                        have HJ5 := Aside0.mk hj5
                        clear hj5
                        by_cases q5 : j5 < C.length
                        · have E5 : Aside0 (decide (i + W < C.length) = true) := ⟨by rw [HJ5.out]; exact decide_eq_true q5⟩
                          have d5 : decide (j5 < C.length) = true := decide_eq_true q5
                          have c5 := HIN.out j5 q5
                          obtain ⟨v5, e5⟩ : ∃ b, h.getD j5 false = b := ⟨_, rfl⟩
                          rw [e5] at c5
                          have F5 : Aside0 (h.getD (i + W) false = v5) := ⟨by rw [HJ5.out]; exact e5⟩
                          clear e5
                          cases v5
                          · skip
                            have HV : Aside0 (heldTo W C (heldR W C r) (i + 1) = h.set i false) := ⟨by rw [HNX.out]; congr 1; simp only [heldAt, E0.out, E1.out, E2.out, F2.out, E3.out, F3.out, E4.out, E5.out, F5.out, Bool.false_or, Bool.true_or, Bool.and_true, Bool.true_and, Bool.and_false, Bool.false_and, Bool.or_true, Bool.or_false]⟩
                            have HS2 : Aside0 (OS w (wr.setCell ⟨gh, i, none⟩ (.bool false)) gp g2 gh ch g0 c base ok (planV W H R (some ⟨g0, 0, none⟩) C.length c) (heldTo W C (heldR W C r) (i + 1)) C) := ⟨by rw [HV.out]; exact HS.out.seth (by rw [HL.out]; exact HI2.out) false⟩
                            go_wp2_with fail
                            go_roundg (C.length - (i + 1))
                            case measure => have := HK2.out; have := HI2.out; omega
                            case rel => exact ⟨i + 1, (by first | go_num | (rw [HJ3.out])), ⟨by have := HI2.out; omega⟩, HS2⟩
                          · skip
                            have HV : Aside0 (heldTo W C (heldR W C r) (i + 1) = h.set i true) := ⟨by rw [HNX.out]; congr 1; simp only [heldAt, E0.out, E1.out, E2.out, F2.out, E3.out, F3.out, E4.out, E5.out, F5.out, Bool.false_or, Bool.true_or, Bool.and_true, Bool.true_and, Bool.and_false, Bool.false_and, Bool.or_true, Bool.or_false]⟩
                            have HS2 : Aside0 (OS w (wr.setCell ⟨gh, i, none⟩ (.bool true)) gp g2 gh ch g0 c base ok (planV W H R (some ⟨g0, 0, none⟩) C.length c) (heldTo W C (heldR W C r) (i + 1)) C) := ⟨by rw [HV.out]; exact HS.out.seth (by rw [HL.out]; exact HI2.out) true⟩
                            go_wp2_with fail
                            go_roundg (C.length - (i + 1))
                            case measure => have := HK2.out; have := HI2.out; omega
                            case rel => exact ⟨i + 1, (by first | go_num | (rw [HJ3.out])), ⟨by have := HI2.out; omega⟩, HS2⟩
                        · have E5 : Aside0 (decide (i + W < C.length) = false) := ⟨by rw [HJ5.out]; exact decide_eq_false q5⟩
                          have d5 : decide (j5 < C.length) = false := decide_eq_false q5
                          clear q5
                          have HV : Aside0 (heldTo W C (heldR W C r) (i + 1) = h.set i false) := ⟨by rw [HNX.out]; congr 1; simp only [heldAt, E0.out, E1.out, E2.out, F2.out, E3.out, F3.out, E4.out, E5.out, Bool.false_or, Bool.true_or, Bool.and_true, Bool.true_and, Bool.and_false, Bool.false_and, Bool.or_true, Bool.or_false]⟩
                          have HS2 : Aside0 (OS w (wr.setCell ⟨gh, i, none⟩ (.bool false)) gp g2 gh ch g0 c base ok (planV W H R (some ⟨g0, 0, none⟩) C.length c) (heldTo W C (heldR W C r) (i + 1)) C) := ⟨by rw [HV.out]; exact HS.out.seth (by rw [HL.out]; exact HI2.out) false⟩
                          go_wp2_with fail
                          go_roundg (C.length - (i + 1))
                          case measure => have := HK2.out; have := HI2.out; omega
                          case rel => exact ⟨i + 1, (by first | go_num | (rw [HJ3.out])), ⟨by have := HI2.out; omega⟩, HS2⟩
                    · skip
                      have HV : Aside0 (heldTo W C (heldR W C r) (i + 1) = h.set i true) := ⟨by rw [HNX.out]; congr 1; simp only [heldAt, E0.out, E1.out, E2.out, F2.out, E3.out, F3.out, Bool.false_or, Bool.true_or, Bool.and_true, Bool.true_and, Bool.and_false, Bool.false_and, Bool.or_true, Bool.or_false]⟩
                      have HS2 : Aside0 (OS w (wr.setCell ⟨gh, i, none⟩ (.bool true)) gp g2 gh ch g0 c base ok (planV W H R (some ⟨g0, 0, none⟩) C.length c) (heldTo W C (heldR W C r) (i + 1)) C) := ⟨by rw [HV.out]; exact HS.out.seth (by rw [HL.out]; exact HI2.out) true⟩
                      go_wp2_with fail
                      go_roundg (C.length - (i + 1))
                      case measure => have := HK2.out; have := HI2.out; omega
                      case rel => exact ⟨i + 1, (by first | go_num | (rw [HJ3.out])), ⟨by have := HI2.out; omega⟩, HS2⟩
                  · have E3 : Aside0 (decide (i % W + 1 < W) = false) := ⟨decide_eq_false (by rw [HXX.out]; exact q3)⟩
                    have d3 : decide (xx < W - 1) = false := decide_eq_false (by omega)
                    have dd3 : decide ((xx : Int) < ((W - 1 : Nat) : Int)) = false := decide_eq_false (by omega)
                    clear q3
                    by_cases q4 : W ≤ i
                    · have E4 : Aside0 (decide (W ≤ i) = true) := ⟨decide_eq_true q4⟩
                      have d4 : decide (W ≤ i) = true := decide_eq_true q4
                      have dd4 : decide ((i : Int) ≥ (W : Int)) = true := decide_eq_true (by omega)
                      obtain ⟨j4, hj4⟩ : ∃ j, i - W = j := ⟨_, rfl⟩
                      have n4 : IntKind.i64.wrap ((i : Int) - (W : Int)) = (j4 : Int) := by rw [show ((i : Int) - (W : Int) : Int) = (j4 : Int) by omega]; exact IntWalk.i64_in _ (by have := HX.out; have := HI2.out; omega)
                      have a4 : (0 : Int) ≤ (j4 : Int) := by omega
                      have l4 : j4 < C.length := by have := HI2.out; omega
                      have c4 := HIN.out j4 l4
                      obtain ⟨v4, e4⟩ : ∃ b, h.getD j4 false = b := ⟨_, rfl⟩
                      rw [e4] at c4
                      have F4 : Aside0 (h.getD (i - W) false = v4) := ⟨by rw [hj4]; exact e4⟩
                      have HJ4 := Aside0.mk hj4
                      clear e4 hj4 q4
                      cases v4
                      · skip
                        obtain ⟨j5, hj5⟩ : ∃ j, i + W = j := ⟨_, rfl⟩
                        have n5 : IntKind.i64.wrap ((i : Int) + (W : Int)) = (j5 : Int) := by rw [show (i : Int) + (W : Int) = (j5 : Int) by omega]; exact IntWalk.i64_in _ (by have := HX.out; have := HI2.out; omega)
                        have a5 : (0 : Int) ≤ (j5 : Int) := by omega
                        have HJ5 := Aside0.mk hj5
                        clear hj5
                        by_cases q5 : j5 < C.length
                        · have E5 : Aside0 (decide (i + W < C.length) = true) := ⟨by rw [HJ5.out]; exact decide_eq_true q5⟩
                          have d5 : decide (j5 < C.length) = true := decide_eq_true q5
                          have c5 := HIN.out j5 q5
                          obtain ⟨v5, e5⟩ : ∃ b, h.getD j5 false = b := ⟨_, rfl⟩
                          rw [e5] at c5
                          have F5 : Aside0 (h.getD (i + W) false = v5) := ⟨by rw [HJ5.out]; exact e5⟩
                          clear e5
                          cases v5
                          · skip
                            have HV : Aside0 (heldTo W C (heldR W C r) (i + 1) = h.set i false) := ⟨by rw [HNX.out]; congr 1; simp only [heldAt, E0.out, E1.out, E2.out, F2.out, E3.out, E4.out, F4.out, E5.out, F5.out, Bool.false_or, Bool.true_or, Bool.and_true, Bool.true_and, Bool.and_false, Bool.false_and, Bool.or_true, Bool.or_false]⟩
                            have HS2 : Aside0 (OS w (wr.setCell ⟨gh, i, none⟩ (.bool false)) gp g2 gh ch g0 c base ok (planV W H R (some ⟨g0, 0, none⟩) C.length c) (heldTo W C (heldR W C r) (i + 1)) C) := ⟨by rw [HV.out]; exact HS.out.seth (by rw [HL.out]; exact HI2.out) false⟩
                            go_wp2_with fail
                            go_roundg (C.length - (i + 1))
                            case measure => have := HK2.out; have := HI2.out; omega
                            case rel => exact ⟨i + 1, (by first | go_num | (rw [HJ3.out])), ⟨by have := HI2.out; omega⟩, HS2⟩
                          · skip
                            have HV : Aside0 (heldTo W C (heldR W C r) (i + 1) = h.set i true) := ⟨by rw [HNX.out]; congr 1; simp only [heldAt, E0.out, E1.out, E2.out, F2.out, E3.out, E4.out, F4.out, E5.out, F5.out, Bool.false_or, Bool.true_or, Bool.and_true, Bool.true_and, Bool.and_false, Bool.false_and, Bool.or_true, Bool.or_false]⟩
                            have HS2 : Aside0 (OS w (wr.setCell ⟨gh, i, none⟩ (.bool true)) gp g2 gh ch g0 c base ok (planV W H R (some ⟨g0, 0, none⟩) C.length c) (heldTo W C (heldR W C r) (i + 1)) C) := ⟨by rw [HV.out]; exact HS.out.seth (by rw [HL.out]; exact HI2.out) true⟩
                            go_wp2_with fail
                            go_roundg (C.length - (i + 1))
                            case measure => have := HK2.out; have := HI2.out; omega
                            case rel => exact ⟨i + 1, (by first | go_num | (rw [HJ3.out])), ⟨by have := HI2.out; omega⟩, HS2⟩
                        · have E5 : Aside0 (decide (i + W < C.length) = false) := ⟨by rw [HJ5.out]; exact decide_eq_false q5⟩
                          have d5 : decide (j5 < C.length) = false := decide_eq_false q5
                          clear q5
                          have HV : Aside0 (heldTo W C (heldR W C r) (i + 1) = h.set i false) := ⟨by rw [HNX.out]; congr 1; simp only [heldAt, E0.out, E1.out, E2.out, F2.out, E3.out, E4.out, F4.out, E5.out, Bool.false_or, Bool.true_or, Bool.and_true, Bool.true_and, Bool.and_false, Bool.false_and, Bool.or_true, Bool.or_false]⟩
                          have HS2 : Aside0 (OS w (wr.setCell ⟨gh, i, none⟩ (.bool false)) gp g2 gh ch g0 c base ok (planV W H R (some ⟨g0, 0, none⟩) C.length c) (heldTo W C (heldR W C r) (i + 1)) C) := ⟨by rw [HV.out]; exact HS.out.seth (by rw [HL.out]; exact HI2.out) false⟩
                          go_wp2_with fail
                          go_roundg (C.length - (i + 1))
                          case measure => have := HK2.out; have := HI2.out; omega
                          case rel => exact ⟨i + 1, (by first | go_num | (rw [HJ3.out])), ⟨by have := HI2.out; omega⟩, HS2⟩
                      · skip
                        have HV : Aside0 (heldTo W C (heldR W C r) (i + 1) = h.set i true) := ⟨by rw [HNX.out]; congr 1; simp only [heldAt, E0.out, E1.out, E2.out, F2.out, E3.out, E4.out, F4.out, Bool.false_or, Bool.true_or, Bool.and_true, Bool.true_and, Bool.and_false, Bool.false_and, Bool.or_true, Bool.or_false]⟩
                        have HS2 : Aside0 (OS w (wr.setCell ⟨gh, i, none⟩ (.bool true)) gp g2 gh ch g0 c base ok (planV W H R (some ⟨g0, 0, none⟩) C.length c) (heldTo W C (heldR W C r) (i + 1)) C) := ⟨by rw [HV.out]; exact HS.out.seth (by rw [HL.out]; exact HI2.out) true⟩
                        go_wp2_with fail
                        go_roundg (C.length - (i + 1))
                        case measure => have := HK2.out; have := HI2.out; omega
                        case rel => exact ⟨i + 1, (by first | go_num | (rw [HJ3.out])), ⟨by have := HI2.out; omega⟩, HS2⟩
                    · have E4 : Aside0 (decide (W ≤ i) = false) := ⟨decide_eq_false q4⟩
                      have d4 : decide (W ≤ i) = false := decide_eq_false q4
                      have dd4 : decide ((i : Int) ≥ (W : Int)) = false := decide_eq_false (by omega)
                      clear q4
                      obtain ⟨j5, hj5⟩ : ∃ j, i + W = j := ⟨_, rfl⟩
                      have n5 : IntKind.i64.wrap ((i : Int) + (W : Int)) = (j5 : Int) := by rw [show (i : Int) + (W : Int) = (j5 : Int) by omega]; exact IntWalk.i64_in _ (by have := HX.out; have := HI2.out; omega)
                      have a5 : (0 : Int) ≤ (j5 : Int) := by omega
                      have HJ5 := Aside0.mk hj5
                      clear hj5
                      by_cases q5 : j5 < C.length
                      · have E5 : Aside0 (decide (i + W < C.length) = true) := ⟨by rw [HJ5.out]; exact decide_eq_true q5⟩
                        have d5 : decide (j5 < C.length) = true := decide_eq_true q5
                        have c5 := HIN.out j5 q5
                        obtain ⟨v5, e5⟩ : ∃ b, h.getD j5 false = b := ⟨_, rfl⟩
                        rw [e5] at c5
                        have F5 : Aside0 (h.getD (i + W) false = v5) := ⟨by rw [HJ5.out]; exact e5⟩
                        clear e5
                        cases v5
                        · skip
                          have HV : Aside0 (heldTo W C (heldR W C r) (i + 1) = h.set i false) := ⟨by rw [HNX.out]; congr 1; simp only [heldAt, E0.out, E1.out, E2.out, F2.out, E3.out, E4.out, E5.out, F5.out, Bool.false_or, Bool.true_or, Bool.and_true, Bool.true_and, Bool.and_false, Bool.false_and, Bool.or_true, Bool.or_false]⟩
                          have HS2 : Aside0 (OS w (wr.setCell ⟨gh, i, none⟩ (.bool false)) gp g2 gh ch g0 c base ok (planV W H R (some ⟨g0, 0, none⟩) C.length c) (heldTo W C (heldR W C r) (i + 1)) C) := ⟨by rw [HV.out]; exact HS.out.seth (by rw [HL.out]; exact HI2.out) false⟩
                          go_wp2_with fail
                          go_roundg (C.length - (i + 1))
                          case measure => have := HK2.out; have := HI2.out; omega
                          case rel => exact ⟨i + 1, (by first | go_num | (rw [HJ3.out])), ⟨by have := HI2.out; omega⟩, HS2⟩
                        · skip
                          have HV : Aside0 (heldTo W C (heldR W C r) (i + 1) = h.set i true) := ⟨by rw [HNX.out]; congr 1; simp only [heldAt, E0.out, E1.out, E2.out, F2.out, E3.out, E4.out, E5.out, F5.out, Bool.false_or, Bool.true_or, Bool.and_true, Bool.true_and, Bool.and_false, Bool.false_and, Bool.or_true, Bool.or_false]⟩
                          have HS2 : Aside0 (OS w (wr.setCell ⟨gh, i, none⟩ (.bool true)) gp g2 gh ch g0 c base ok (planV W H R (some ⟨g0, 0, none⟩) C.length c) (heldTo W C (heldR W C r) (i + 1)) C) := ⟨by rw [HV.out]; exact HS.out.seth (by rw [HL.out]; exact HI2.out) true⟩
                          go_wp2_with fail
                          go_roundg (C.length - (i + 1))
                          case measure => have := HK2.out; have := HI2.out; omega
                          case rel => exact ⟨i + 1, (by first | go_num | (rw [HJ3.out])), ⟨by have := HI2.out; omega⟩, HS2⟩
                      · have E5 : Aside0 (decide (i + W < C.length) = false) := ⟨by rw [HJ5.out]; exact decide_eq_false q5⟩
                        have d5 : decide (j5 < C.length) = false := decide_eq_false q5
                        clear q5
                        have HV : Aside0 (heldTo W C (heldR W C r) (i + 1) = h.set i false) := ⟨by rw [HNX.out]; congr 1; simp only [heldAt, E0.out, E1.out, E2.out, F2.out, E3.out, E4.out, E5.out, Bool.false_or, Bool.true_or, Bool.and_true, Bool.true_and, Bool.and_false, Bool.false_and, Bool.or_true, Bool.or_false]⟩
                        have HS2 : Aside0 (OS w (wr.setCell ⟨gh, i, none⟩ (.bool false)) gp g2 gh ch g0 c base ok (planV W H R (some ⟨g0, 0, none⟩) C.length c) (heldTo W C (heldR W C r) (i + 1)) C) := ⟨by rw [HV.out]; exact HS.out.seth (by rw [HL.out]; exact HI2.out) false⟩
                        go_wp2_with fail
                        go_roundg (C.length - (i + 1))
                        case measure => have := HK2.out; have := HI2.out; omega
                        case rel => exact ⟨i + 1, (by first | go_num | (rw [HJ3.out])), ⟨by have := HI2.out; omega⟩, HS2⟩
                · skip
                  have HV : Aside0 (heldTo W C (heldR W C r) (i + 1) = h.set i true) := ⟨by rw [HNX.out]; congr 1; simp only [heldAt, E0.out, E1.out, E2.out, F2.out, Bool.false_or, Bool.true_or, Bool.and_true, Bool.true_and, Bool.and_false, Bool.false_and, Bool.or_true, Bool.or_false]⟩
                  have HS2 : Aside0 (OS w (wr.setCell ⟨gh, i, none⟩ (.bool true)) gp g2 gh ch g0 c base ok (planV W H R (some ⟨g0, 0, none⟩) C.length c) (heldTo W C (heldR W C r) (i + 1)) C) := ⟨by rw [HV.out]; exact HS.out.seth (by rw [HL.out]; exact HI2.out) true⟩
                  go_wp2_with fail
                  go_roundg (C.length - (i + 1))
                  case measure => have := HK2.out; have := HI2.out; omega
                  case rel => exact ⟨i + 1, (by first | go_num | (rw [HJ3.out])), ⟨by have := HI2.out; omega⟩, HS2⟩
              · have E2 : Aside0 (decide (0 < i % W) = false) := ⟨decide_eq_false (by rw [HXX.out]; exact q2)⟩
                have d2 : decide (0 < xx) = false := decide_eq_false q2
                have dd2 : decide ((xx : Int) > 0) = false := decide_eq_false (by omega)
                clear q2
                have w1 : IntKind.i64.wrap ((W : Int) - 1) = ((W - 1 : Nat) : Int) := by rw [show (W : Int) - 1 = ((W - 1 : Nat) : Int) by have := HX.out; omega]; exact IntWalk.i64_in _ (by have := HX.out; omega)
                by_cases q3 : xx + 1 < W
                · have E3 : Aside0 (decide (i % W + 1 < W) = true) := ⟨decide_eq_true (by rw [HXX.out]; exact q3)⟩
                  have d3 : decide (xx < W - 1) = true := decide_eq_true (by omega)
                  have dd3 : decide ((xx : Int) < ((W - 1 : Nat) : Int)) = true := decide_eq_true (by omega)
                  have hrl : i + 1 < C.length := by rw [HX.out.1]; exact right_lt (H := H) (by rw [← HX.out.1]; exact HI2.out) (by rw [HXX.out]; exact q3)
                  obtain ⟨j3, hj3⟩ : ∃ j, i + 1 = j := ⟨_, rfl⟩
                  have n3 : IntKind.i64.wrap ((i : Int) + 1) = (j3 : Int) := by rw [show ((i : Int) + 1 : Int) = (j3 : Int) by omega]; exact IntWalk.i64_in _ (by have := HX.out; have := HI2.out; omega)
                  have a3 : (0 : Int) ≤ (j3 : Int) := by omega
                  have l3 : j3 < C.length := by have := HI2.out; omega
                  have c3 := HIN.out j3 l3
                  obtain ⟨v3, e3⟩ : ∃ b, h.getD j3 false = b := ⟨_, rfl⟩
                  rw [e3] at c3
                  have F3 : Aside0 (h.getD (i + 1) false = v3) := ⟨by rw [hj3]; exact e3⟩
                  have HJ3 := Aside0.mk hj3
                  clear e3 hj3 q3
                  cases v3
                  · skip
                    by_cases q4 : W ≤ i
                    · have E4 : Aside0 (decide (W ≤ i) = true) := ⟨decide_eq_true q4⟩
                      have d4 : decide (W ≤ i) = true := decide_eq_true q4
                      have dd4 : decide ((i : Int) ≥ (W : Int)) = true := decide_eq_true (by omega)
                      obtain ⟨j4, hj4⟩ : ∃ j, i - W = j := ⟨_, rfl⟩
                      have n4 : IntKind.i64.wrap ((i : Int) - (W : Int)) = (j4 : Int) := by rw [show ((i : Int) - (W : Int) : Int) = (j4 : Int) by omega]; exact IntWalk.i64_in _ (by have := HX.out; have := HI2.out; omega)
                      have a4 : (0 : Int) ≤ (j4 : Int) := by omega
                      have l4 : j4 < C.length := by have := HI2.out; omega
                      have c4 := HIN.out j4 l4
                      obtain ⟨v4, e4⟩ : ∃ b, h.getD j4 false = b := ⟨_, rfl⟩
                      rw [e4] at c4
                      have F4 : Aside0 (h.getD (i - W) false = v4) := ⟨by rw [hj4]; exact e4⟩
                      have HJ4 := Aside0.mk hj4
                      clear e4 hj4 q4
                      cases v4
                      · skip
                        obtain ⟨j5, hj5⟩ : ∃ j, i + W = j := ⟨_, rfl⟩
                        have n5 : IntKind.i64.wrap ((i : Int) + (W : Int)) = (j5 : Int) := by rw [show (i : Int) + (W : Int) = (j5 : Int) by omega]; exact IntWalk.i64_in _ (by have := HX.out; have := HI2.out; omega)
                        have a5 : (0 : Int) ≤ (j5 : Int) := by omega
                        have HJ5 := Aside0.mk hj5
                        clear hj5
                        by_cases q5 : j5 < C.length
                        · have E5 : Aside0 (decide (i + W < C.length) = true) := ⟨by rw [HJ5.out]; exact decide_eq_true q5⟩
                          have d5 : decide (j5 < C.length) = true := decide_eq_true q5
                          have c5 := HIN.out j5 q5
                          obtain ⟨v5, e5⟩ : ∃ b, h.getD j5 false = b := ⟨_, rfl⟩
                          rw [e5] at c5
                          have F5 : Aside0 (h.getD (i + W) false = v5) := ⟨by rw [HJ5.out]; exact e5⟩
                          clear e5
                          cases v5
                          · skip
                            have HV : Aside0 (heldTo W C (heldR W C r) (i + 1) = h.set i false) := ⟨by rw [HNX.out]; congr 1; simp only [heldAt, E0.out, E1.out, E2.out, E3.out, F3.out, E4.out, F4.out, E5.out, F5.out, Bool.false_or, Bool.true_or, Bool.and_true, Bool.true_and, Bool.and_false, Bool.false_and, Bool.or_true, Bool.or_false]⟩
                            have HS2 : Aside0 (OS w (wr.setCell ⟨gh, i, none⟩ (.bool false)) gp g2 gh ch g0 c base ok (planV W H R (some ⟨g0, 0, none⟩) C.length c) (heldTo W C (heldR W C r) (i + 1)) C) := ⟨by rw [HV.out]; exact HS.out.seth (by rw [HL.out]; exact HI2.out) false⟩
                            go_wp2_with fail
                            go_roundg (C.length - (i + 1))
                            case measure => have := HK2.out; have := HI2.out; omega
                            case rel => exact ⟨i + 1, (by first | go_num | (rw [HJ3.out])), ⟨by have := HI2.out; omega⟩, HS2⟩
                          · skip
                            have HV : Aside0 (heldTo W C (heldR W C r) (i + 1) = h.set i true) := ⟨by rw [HNX.out]; congr 1; simp only [heldAt, E0.out, E1.out, E2.out, E3.out, F3.out, E4.out, F4.out, E5.out, F5.out, Bool.false_or, Bool.true_or, Bool.and_true, Bool.true_and, Bool.and_false, Bool.false_and, Bool.or_true, Bool.or_false]⟩
                            have HS2 : Aside0 (OS w (wr.setCell ⟨gh, i, none⟩ (.bool true)) gp g2 gh ch g0 c base ok (planV W H R (some ⟨g0, 0, none⟩) C.length c) (heldTo W C (heldR W C r) (i + 1)) C) := ⟨by rw [HV.out]; exact HS.out.seth (by rw [HL.out]; exact HI2.out) true⟩
                            go_wp2_with fail
                            go_roundg (C.length - (i + 1))
                            case measure => have := HK2.out; have := HI2.out; omega
                            case rel => exact ⟨i + 1, (by first | go_num | (rw [HJ3.out])), ⟨by have := HI2.out; omega⟩, HS2⟩
                        · have E5 : Aside0 (decide (i + W < C.length) = false) := ⟨by rw [HJ5.out]; exact decide_eq_false q5⟩
                          have d5 : decide (j5 < C.length) = false := decide_eq_false q5
                          clear q5
                          have HV : Aside0 (heldTo W C (heldR W C r) (i + 1) = h.set i false) := ⟨by rw [HNX.out]; congr 1; simp only [heldAt, E0.out, E1.out, E2.out, E3.out, F3.out, E4.out, F4.out, E5.out, Bool.false_or, Bool.true_or, Bool.and_true, Bool.true_and, Bool.and_false, Bool.false_and, Bool.or_true, Bool.or_false]⟩
                          have HS2 : Aside0 (OS w (wr.setCell ⟨gh, i, none⟩ (.bool false)) gp g2 gh ch g0 c base ok (planV W H R (some ⟨g0, 0, none⟩) C.length c) (heldTo W C (heldR W C r) (i + 1)) C) := ⟨by rw [HV.out]; exact HS.out.seth (by rw [HL.out]; exact HI2.out) false⟩
                          go_wp2_with fail
                          go_roundg (C.length - (i + 1))
                          case measure => have := HK2.out; have := HI2.out; omega
                          case rel => exact ⟨i + 1, (by first | go_num | (rw [HJ3.out])), ⟨by have := HI2.out; omega⟩, HS2⟩
                      · skip
                        have HV : Aside0 (heldTo W C (heldR W C r) (i + 1) = h.set i true) := ⟨by rw [HNX.out]; congr 1; simp only [heldAt, E0.out, E1.out, E2.out, E3.out, F3.out, E4.out, F4.out, Bool.false_or, Bool.true_or, Bool.and_true, Bool.true_and, Bool.and_false, Bool.false_and, Bool.or_true, Bool.or_false]⟩
                        have HS2 : Aside0 (OS w (wr.setCell ⟨gh, i, none⟩ (.bool true)) gp g2 gh ch g0 c base ok (planV W H R (some ⟨g0, 0, none⟩) C.length c) (heldTo W C (heldR W C r) (i + 1)) C) := ⟨by rw [HV.out]; exact HS.out.seth (by rw [HL.out]; exact HI2.out) true⟩
                        go_wp2_with fail
                        go_roundg (C.length - (i + 1))
                        case measure => have := HK2.out; have := HI2.out; omega
                        case rel => exact ⟨i + 1, (by first | go_num | (rw [HJ3.out])), ⟨by have := HI2.out; omega⟩, HS2⟩
                    · have E4 : Aside0 (decide (W ≤ i) = false) := ⟨decide_eq_false q4⟩
                      have d4 : decide (W ≤ i) = false := decide_eq_false q4
                      have dd4 : decide ((i : Int) ≥ (W : Int)) = false := decide_eq_false (by omega)
                      clear q4
                      obtain ⟨j5, hj5⟩ : ∃ j, i + W = j := ⟨_, rfl⟩
                      have n5 : IntKind.i64.wrap ((i : Int) + (W : Int)) = (j5 : Int) := by rw [show (i : Int) + (W : Int) = (j5 : Int) by omega]; exact IntWalk.i64_in _ (by have := HX.out; have := HI2.out; omega)
                      have a5 : (0 : Int) ≤ (j5 : Int) := by omega
                      have HJ5 := Aside0.mk hj5
                      clear hj5
                      by_cases q5 : j5 < C.length
                      · have E5 : Aside0 (decide (i + W < C.length) = true) := ⟨by rw [HJ5.out]; exact decide_eq_true q5⟩
                        have d5 : decide (j5 < C.length) = true := decide_eq_true q5
                        have c5 := HIN.out j5 q5
                        obtain ⟨v5, e5⟩ : ∃ b, h.getD j5 false = b := ⟨_, rfl⟩
                        rw [e5] at c5
                        have F5 : Aside0 (h.getD (i + W) false = v5) := ⟨by rw [HJ5.out]; exact e5⟩
                        clear e5
                        cases v5
                        · skip
                          have HV : Aside0 (heldTo W C (heldR W C r) (i + 1) = h.set i false) := ⟨by rw [HNX.out]; congr 1; simp only [heldAt, E0.out, E1.out, E2.out, E3.out, F3.out, E4.out, E5.out, F5.out, Bool.false_or, Bool.true_or, Bool.and_true, Bool.true_and, Bool.and_false, Bool.false_and, Bool.or_true, Bool.or_false]⟩
                          have HS2 : Aside0 (OS w (wr.setCell ⟨gh, i, none⟩ (.bool false)) gp g2 gh ch g0 c base ok (planV W H R (some ⟨g0, 0, none⟩) C.length c) (heldTo W C (heldR W C r) (i + 1)) C) := ⟨by rw [HV.out]; exact HS.out.seth (by rw [HL.out]; exact HI2.out) false⟩
                          go_wp2_with fail
                          go_roundg (C.length - (i + 1))
                          case measure => have := HK2.out; have := HI2.out; omega
                          case rel => exact ⟨i + 1, (by first | go_num | (rw [HJ3.out])), ⟨by have := HI2.out; omega⟩, HS2⟩
                        · skip
                          have HV : Aside0 (heldTo W C (heldR W C r) (i + 1) = h.set i true) := ⟨by rw [HNX.out]; congr 1; simp only [heldAt, E0.out, E1.out, E2.out, E3.out, F3.out, E4.out, E5.out, F5.out, Bool.false_or, Bool.true_or, Bool.and_true, Bool.true_and, Bool.and_false, Bool.false_and, Bool.or_true, Bool.or_false]⟩
                          have HS2 : Aside0 (OS w (wr.setCell ⟨gh, i, none⟩ (.bool true)) gp g2 gh ch g0 c base ok (planV W H R (some ⟨g0, 0, none⟩) C.length c) (heldTo W C (heldR W C r) (i + 1)) C) := ⟨by rw [HV.out]; exact HS.out.seth (by rw [HL.out]; exact HI2.out) true⟩
                          go_wp2_with fail
                          go_roundg (C.length - (i + 1))
                          case measure => have := HK2.out; have := HI2.out; omega
                          case rel => exact ⟨i + 1, (by first | go_num | (rw [HJ3.out])), ⟨by have := HI2.out; omega⟩, HS2⟩
                      · have E5 : Aside0 (decide (i + W < C.length) = false) := ⟨by rw [HJ5.out]; exact decide_eq_false q5⟩
                        have d5 : decide (j5 < C.length) = false := decide_eq_false q5
                        clear q5
                        have HV : Aside0 (heldTo W C (heldR W C r) (i + 1) = h.set i false) := ⟨by rw [HNX.out]; congr 1; simp only [heldAt, E0.out, E1.out, E2.out, E3.out, F3.out, E4.out, E5.out, Bool.false_or, Bool.true_or, Bool.and_true, Bool.true_and, Bool.and_false, Bool.false_and, Bool.or_true, Bool.or_false]⟩
                        have HS2 : Aside0 (OS w (wr.setCell ⟨gh, i, none⟩ (.bool false)) gp g2 gh ch g0 c base ok (planV W H R (some ⟨g0, 0, none⟩) C.length c) (heldTo W C (heldR W C r) (i + 1)) C) := ⟨by rw [HV.out]; exact HS.out.seth (by rw [HL.out]; exact HI2.out) false⟩
                        go_wp2_with fail
                        go_roundg (C.length - (i + 1))
                        case measure => have := HK2.out; have := HI2.out; omega
                        case rel => exact ⟨i + 1, (by first | go_num | (rw [HJ3.out])), ⟨by have := HI2.out; omega⟩, HS2⟩
                  · skip
                    have HV : Aside0 (heldTo W C (heldR W C r) (i + 1) = h.set i true) := ⟨by rw [HNX.out]; congr 1; simp only [heldAt, E0.out, E1.out, E2.out, E3.out, F3.out, Bool.false_or, Bool.true_or, Bool.and_true, Bool.true_and, Bool.and_false, Bool.false_and, Bool.or_true, Bool.or_false]⟩
                    have HS2 : Aside0 (OS w (wr.setCell ⟨gh, i, none⟩ (.bool true)) gp g2 gh ch g0 c base ok (planV W H R (some ⟨g0, 0, none⟩) C.length c) (heldTo W C (heldR W C r) (i + 1)) C) := ⟨by rw [HV.out]; exact HS.out.seth (by rw [HL.out]; exact HI2.out) true⟩
                    go_wp2_with fail
                    go_roundg (C.length - (i + 1))
                    case measure => have := HK2.out; have := HI2.out; omega
                    case rel => exact ⟨i + 1, (by first | go_num | (rw [HJ3.out])), ⟨by have := HI2.out; omega⟩, HS2⟩
                · have E3 : Aside0 (decide (i % W + 1 < W) = false) := ⟨decide_eq_false (by rw [HXX.out]; exact q3)⟩
                  have d3 : decide (xx < W - 1) = false := decide_eq_false (by omega)
                  have dd3 : decide ((xx : Int) < ((W - 1 : Nat) : Int)) = false := decide_eq_false (by omega)
                  clear q3
                  by_cases q4 : W ≤ i
                  · have E4 : Aside0 (decide (W ≤ i) = true) := ⟨decide_eq_true q4⟩
                    have d4 : decide (W ≤ i) = true := decide_eq_true q4
                    have dd4 : decide ((i : Int) ≥ (W : Int)) = true := decide_eq_true (by omega)
                    obtain ⟨j4, hj4⟩ : ∃ j, i - W = j := ⟨_, rfl⟩
                    have n4 : IntKind.i64.wrap ((i : Int) - (W : Int)) = (j4 : Int) := by rw [show ((i : Int) - (W : Int) : Int) = (j4 : Int) by omega]; exact IntWalk.i64_in _ (by have := HX.out; have := HI2.out; omega)
                    have a4 : (0 : Int) ≤ (j4 : Int) := by omega
                    have l4 : j4 < C.length := by have := HI2.out; omega
                    have c4 := HIN.out j4 l4
                    obtain ⟨v4, e4⟩ : ∃ b, h.getD j4 false = b := ⟨_, rfl⟩
                    rw [e4] at c4
                    have F4 : Aside0 (h.getD (i - W) false = v4) := ⟨by rw [hj4]; exact e4⟩
                    have HJ4 := Aside0.mk hj4
                    clear e4 hj4 q4
                    cases v4
                    · skip
                      obtain ⟨j5, hj5⟩ : ∃ j, i + W = j := ⟨_, rfl⟩
                      have n5 : IntKind.i64.wrap ((i : Int) + (W : Int)) = (j5 : Int) := by rw [show (i : Int) + (W : Int) = (j5 : Int) by omega]; exact IntWalk.i64_in _ (by have := HX.out; have := HI2.out; omega)
                      have a5 : (0 : Int) ≤ (j5 : Int) := by omega
                      have HJ5 := Aside0.mk hj5
                      clear hj5
                      by_cases q5 : j5 < C.length
                      · have E5 : Aside0 (decide (i + W < C.length) = true) := ⟨by rw [HJ5.out]; exact decide_eq_true q5⟩
                        have d5 : decide (j5 < C.length) = true := decide_eq_true q5
                        have c5 := HIN.out j5 q5
                        obtain ⟨v5, e5⟩ : ∃ b, h.getD j5 false = b := ⟨_, rfl⟩
                        rw [e5] at c5
                        have F5 : Aside0 (h.getD (i + W) false = v5) := ⟨by rw [HJ5.out]; exact e5⟩
                        clear e5
                        cases v5
                        · skip
                          have HV : Aside0 (heldTo W C (heldR W C r) (i + 1) = h.set i false) := ⟨by rw [HNX.out]; congr 1; simp only [heldAt, E0.out, E1.out, E2.out, E3.out, E4.out, F4.out, E5.out, F5.out, Bool.false_or, Bool.true_or, Bool.and_true, Bool.true_and, Bool.and_false, Bool.false_and, Bool.or_true, Bool.or_false]⟩
                          have HS2 : Aside0 (OS w (wr.setCell ⟨gh, i, none⟩ (.bool false)) gp g2 gh ch g0 c base ok (planV W H R (some ⟨g0, 0, none⟩) C.length c) (heldTo W C (heldR W C r) (i + 1)) C) := ⟨by rw [HV.out]; exact HS.out.seth (by rw [HL.out]; exact HI2.out) false⟩
                          go_wp2_with fail
                          go_roundg (C.length - (i + 1))
                          case measure => have := HK2.out; have := HI2.out; omega
                          case rel => exact ⟨i + 1, (by first | go_num | (rw [HJ3.out])), ⟨by have := HI2.out; omega⟩, HS2⟩
                        · skip
                          have HV : Aside0 (heldTo W C (heldR W C r) (i + 1) = h.set i true) := ⟨by rw [HNX.out]; congr 1; simp only [heldAt, E0.out, E1.out, E2.out, E3.out, E4.out, F4.out, E5.out, F5.out, Bool.false_or, Bool.true_or, Bool.and_true, Bool.true_and, Bool.and_false, Bool.false_and, Bool.or_true, Bool.or_false]⟩
                          have HS2 : Aside0 (OS w (wr.setCell ⟨gh, i, none⟩ (.bool true)) gp g2 gh ch g0 c base ok (planV W H R (some ⟨g0, 0, none⟩) C.length c) (heldTo W C (heldR W C r) (i + 1)) C) := ⟨by rw [HV.out]; exact HS.out.seth (by rw [HL.out]; exact HI2.out) true⟩
                          go_wp2_with fail
                          go_roundg (C.length - (i + 1))
                          case measure => have := HK2.out; have := HI2.out; omega
                          case rel => exact ⟨i + 1, (by first | go_num | (rw [HJ3.out])), ⟨by have := HI2.out; omega⟩, HS2⟩
                      · have E5 : Aside0 (decide (i + W < C.length) = false) := ⟨by rw [HJ5.out]; exact decide_eq_false q5⟩
                        have d5 : decide (j5 < C.length) = false := decide_eq_false q5
                        clear q5
                        have HV : Aside0 (heldTo W C (heldR W C r) (i + 1) = h.set i false) := ⟨by rw [HNX.out]; congr 1; simp only [heldAt, E0.out, E1.out, E2.out, E3.out, E4.out, F4.out, E5.out, Bool.false_or, Bool.true_or, Bool.and_true, Bool.true_and, Bool.and_false, Bool.false_and, Bool.or_true, Bool.or_false]⟩
                        have HS2 : Aside0 (OS w (wr.setCell ⟨gh, i, none⟩ (.bool false)) gp g2 gh ch g0 c base ok (planV W H R (some ⟨g0, 0, none⟩) C.length c) (heldTo W C (heldR W C r) (i + 1)) C) := ⟨by rw [HV.out]; exact HS.out.seth (by rw [HL.out]; exact HI2.out) false⟩
                        go_wp2_with fail
                        go_roundg (C.length - (i + 1))
                        case measure => have := HK2.out; have := HI2.out; omega
                        case rel => exact ⟨i + 1, (by first | go_num | (rw [HJ3.out])), ⟨by have := HI2.out; omega⟩, HS2⟩
                    · skip
                      have HV : Aside0 (heldTo W C (heldR W C r) (i + 1) = h.set i true) := ⟨by rw [HNX.out]; congr 1; simp only [heldAt, E0.out, E1.out, E2.out, E3.out, E4.out, F4.out, Bool.false_or, Bool.true_or, Bool.and_true, Bool.true_and, Bool.and_false, Bool.false_and, Bool.or_true, Bool.or_false]⟩
                      have HS2 : Aside0 (OS w (wr.setCell ⟨gh, i, none⟩ (.bool true)) gp g2 gh ch g0 c base ok (planV W H R (some ⟨g0, 0, none⟩) C.length c) (heldTo W C (heldR W C r) (i + 1)) C) := ⟨by rw [HV.out]; exact HS.out.seth (by rw [HL.out]; exact HI2.out) true⟩
                      go_wp2_with fail
                      go_roundg (C.length - (i + 1))
                      case measure => have := HK2.out; have := HI2.out; omega
                      case rel => exact ⟨i + 1, (by first | go_num | (rw [HJ3.out])), ⟨by have := HI2.out; omega⟩, HS2⟩
                  · have E4 : Aside0 (decide (W ≤ i) = false) := ⟨decide_eq_false q4⟩
                    have d4 : decide (W ≤ i) = false := decide_eq_false q4
                    have dd4 : decide ((i : Int) ≥ (W : Int)) = false := decide_eq_false (by omega)
                    clear q4
                    obtain ⟨j5, hj5⟩ : ∃ j, i + W = j := ⟨_, rfl⟩
                    have n5 : IntKind.i64.wrap ((i : Int) + (W : Int)) = (j5 : Int) := by rw [show (i : Int) + (W : Int) = (j5 : Int) by omega]; exact IntWalk.i64_in _ (by have := HX.out; have := HI2.out; omega)
                    have a5 : (0 : Int) ≤ (j5 : Int) := by omega
                    have HJ5 := Aside0.mk hj5
                    clear hj5
                    by_cases q5 : j5 < C.length
                    · have E5 : Aside0 (decide (i + W < C.length) = true) := ⟨by rw [HJ5.out]; exact decide_eq_true q5⟩
                      have d5 : decide (j5 < C.length) = true := decide_eq_true q5
                      have c5 := HIN.out j5 q5
                      obtain ⟨v5, e5⟩ : ∃ b, h.getD j5 false = b := ⟨_, rfl⟩
                      rw [e5] at c5
                      have F5 : Aside0 (h.getD (i + W) false = v5) := ⟨by rw [HJ5.out]; exact e5⟩
                      clear e5
                      cases v5
                      · skip
                        have HV : Aside0 (heldTo W C (heldR W C r) (i + 1) = h.set i false) := ⟨by rw [HNX.out]; congr 1; simp only [heldAt, E0.out, E1.out, E2.out, E3.out, E4.out, E5.out, F5.out, Bool.false_or, Bool.true_or, Bool.and_true, Bool.true_and, Bool.and_false, Bool.false_and, Bool.or_true, Bool.or_false]⟩
                        have HS2 : Aside0 (OS w (wr.setCell ⟨gh, i, none⟩ (.bool false)) gp g2 gh ch g0 c base ok (planV W H R (some ⟨g0, 0, none⟩) C.length c) (heldTo W C (heldR W C r) (i + 1)) C) := ⟨by rw [HV.out]; exact HS.out.seth (by rw [HL.out]; exact HI2.out) false⟩
                        go_wp2_with fail
                        go_roundg (C.length - (i + 1))
                        case measure => have := HK2.out; have := HI2.out; omega
                        case rel => exact ⟨i + 1, (by first | go_num | (rw [HJ3.out])), ⟨by have := HI2.out; omega⟩, HS2⟩
                      · skip
                        have HV : Aside0 (heldTo W C (heldR W C r) (i + 1) = h.set i true) := ⟨by rw [HNX.out]; congr 1; simp only [heldAt, E0.out, E1.out, E2.out, E3.out, E4.out, E5.out, F5.out, Bool.false_or, Bool.true_or, Bool.and_true, Bool.true_and, Bool.and_false, Bool.false_and, Bool.or_true, Bool.or_false]⟩
                        have HS2 : Aside0 (OS w (wr.setCell ⟨gh, i, none⟩ (.bool true)) gp g2 gh ch g0 c base ok (planV W H R (some ⟨g0, 0, none⟩) C.length c) (heldTo W C (heldR W C r) (i + 1)) C) := ⟨by rw [HV.out]; exact HS.out.seth (by rw [HL.out]; exact HI2.out) true⟩
                        go_wp2_with fail
                        go_roundg (C.length - (i + 1))
                        case measure => have := HK2.out; have := HI2.out; omega
                        case rel => exact ⟨i + 1, (by first | go_num | (rw [HJ3.out])), ⟨by have := HI2.out; omega⟩, HS2⟩
                    · have E5 : Aside0 (decide (i + W < C.length) = false) := ⟨by rw [HJ5.out]; exact decide_eq_false q5⟩
                      have d5 : decide (j5 < C.length) = false := decide_eq_false q5
                      clear q5
                      have HV : Aside0 (heldTo W C (heldR W C r) (i + 1) = h.set i false) := ⟨by rw [HNX.out]; congr 1; simp only [heldAt, E0.out, E1.out, E2.out, E3.out, E4.out, E5.out, Bool.false_or, Bool.true_or, Bool.and_true, Bool.true_and, Bool.and_false, Bool.false_and, Bool.or_true, Bool.or_false]⟩
                      have HS2 : Aside0 (OS w (wr.setCell ⟨gh, i, none⟩ (.bool false)) gp g2 gh ch g0 c base ok (planV W H R (some ⟨g0, 0, none⟩) C.length c) (heldTo W C (heldR W C r) (i + 1)) C) := ⟨by rw [HV.out]; exact HS.out.seth (by rw [HL.out]; exact HI2.out) false⟩
                      go_wp2_with fail
                      go_roundg (C.length - (i + 1))
                      case measure => have := HK2.out; have := HI2.out; omega
                      case rel => exact ⟨i + 1, (by first | go_num | (rw [HJ3.out])), ⟨by have := HI2.out; omega⟩, HS2⟩
          · skip
            have HV : Aside0 (heldTo W C (heldR W C r) (i + 1) = h.set i true) := ⟨by rw [HNX.out]; congr 1; simp only [heldAt, E0.out, Bool.false_or, Bool.true_or, Bool.and_true, Bool.true_and, Bool.and_false, Bool.false_and, Bool.or_true, Bool.or_false]⟩
            have HS2 : Aside0 (OS w (wr.setCell ⟨gh, i, none⟩ (.bool true)) gp g2 gh ch g0 c base ok (planV W H R (some ⟨g0, 0, none⟩) C.length c) (heldTo W C (heldR W C r) (i + 1)) C) := ⟨by rw [HV.out]; exact HS.out.seth (by rw [HL.out]; exact HI2.out) true⟩
            go_wp2_with fail
            go_roundg (C.length - (i + 1))
            case measure => have := HK2.out; have := HI2.out; omega
            case rel => exact ⟨i + 1, (by first | go_num | (rw [HJ3.out])), ⟨by have := HI2.out; omega⟩, HS2⟩
        · obtain rfl : i = C.length := by have := HK2.out; omega
          have br : r < C.length := HI.out
          have hlt2 : decide (C.length < C.length) = false := decide_eq_false (Nat.lt_irrefl _)
          clear hi
          have HS3 : Aside0 (OS w wr gp g2 gh ch g0 c base ok (planV W H R (some ⟨g0, 0, none⟩) C.length c) (heldR W C (r + 1)) C) := HS
          go_wp2_with fail
          go_roundg (C.length - (r + 1))
          case measure => have := HK.out; have := HI.out; omega
          case rel => exact ⟨r + 1, by go_num, ⟨by have := HI.out; omega⟩, HS3⟩
    · obtain rfl : r = C.length := by have := HK.out; omega
      have hlt : decide (C.length < C.length) = false := decide_eq_false (Nat.lt_irrefl _)
      clear hr
      have HS3 : Aside0 (OS w wr gp g2 gh ch g0 c base ok (planV W H R (some ⟨g0, 0, none⟩) C.length c) (heldR W C C.length) (openTo C (heldR W C C.length) 0)) := HS
      have HHL := Aside0.mk (heldR_length W C C.length)
      have HOP : Aside0 (opened W C = openTo C (heldR W C C.length) C.length) := ⟨rfl⟩
      generalize heldR W C C.length = h at HS3 HHL HOP
      clear HS
      go_wp2_with fail
      go_loopg [7] C.length (fun k v7 w' => ∃ (i : Nat), v7 = .int .i64 (i : Int) ∧ Aside0 (i + k = C.length) ∧ Aside0 (OS w w' gp g2 gh ch g0 c base ok (planV W H R (some ⟨g0, 0, none⟩) C.length c) h (openTo C h i)))
      case atStart => exact ⟨0, rfl, ⟨by omega⟩, HS3⟩
      case round =>
        clear HS3 q3
        obtain ⟨i, rfl, HK2, HS⟩ := hrel
        have q3 : wr.cell? ⟨gp, 3, none⟩ = some (.slice (some ⟨g0, 0, none⟩) C.length c) := (blk_cell HS.out.p 3).trans rfl
        by_cases hi : i < C.length
        · have hlt2 : decide (i < C.length) = true := decide_eq_true hi
          have HI2 := Aside0.mk hi
          have i1 : (0 : Int) ≤ (i : Int) := by omega
          have cH := (HS.out.held (i := i) (by rw [HHL.out]; exact hi)).1
          have cC := HS.out.cell (i := i) (by rw [openTo_length]; exact hi)
          have fC := HS.out.frozen (i := i) (by rw [openTo_length]; exact hi)
          generalize fn (openTo C h i) i = X at cC
          obtain ⟨v0, e0⟩ : ∃ b, h.getD i false = b := ⟨_, rfl⟩
          rw [e0] at cH
          cases v0
          · have HS2 : Aside0 (OS w (wr.setCell ⟨g0, i, none⟩ (.int .i64 1)) gp g2 gh ch g0 c base ok (planV W H R (some ⟨g0, 0, none⟩) C.length c) h (openTo C h (i + 1))) := ⟨by
              rw [openTo, if_neg (by rw [e0]; simp)]
              exact HS.out.setc (by rw [openTo_length]; exact HI2.out) 1⟩
            clear e0
            go_wp2_with fail
            go_roundg (C.length - (i + 1))
            case measure => have := HK2.out; have := HI2.out; omega
            case rel => exact ⟨i + 1, by go_num, ⟨by have := HI2.out; omega⟩, HS2⟩
          · have HS2 : Aside0 (OS w wr gp g2 gh ch g0 c base ok (planV W H R (some ⟨g0, 0, none⟩) C.length c) h (openTo C h (i + 1))) := ⟨by
              rw [openTo, if_pos e0]
              exact HS.out⟩
            clear e0
            go_wp2_with fail
            go_roundg (C.length - (i + 1))
            case measure => have := HK2.out; have := HI2.out; omega
            case rel => exact ⟨i + 1, by go_num, ⟨by have := HI2.out; omega⟩, HS2⟩
        · obtain rfl : i = C.length := by have := HK2.out; omega
          have hlt2 : decide (C.length < C.length) = false := decide_eq_false (Nat.lt_irrefl _)
          clear hi
          go_wp2_with (first
            | ((with_reducible refine gate_dst (N := 120) rfl ?_); refine ev_load HS.out.p rfl 24 (.tmp 1) rfl rfl _ Try.underlying24 rfl size24 rfl ?_)
            | ((with_reducible refine gate_store (t := 24) (p := 2) rfl ?_); refine ev_storeB HS.out.z rfl 24 (.tmp 2) (.tmp 120) rfl rfl rfl size24 rfl rfl (by simp [Value.oneCell']) ?_))
          (try simp only [Exit.inBlock, Exit.then])
          refine bodyPost_ret (results_cell_row rfl _ _ g2 24 _ (0, 0) _ rfl (setRow_heap _ _ _ _ _ _ HS.out.z) hu24 rfl (by rw [size24]; rfl)) rfl ⟨rfl, ?_, ?_⟩
          · rw [HOP.out]
            exact Kd.R_mono (Kd.R_step (Kd.R_types HS.out.rc HS.out.z (by decide)) (fun k hk _ => setRow_other _ _ _ _ hk.2)) (fun k hk => hk.1)
          · have hg := HS.out.g
            exact ⟨hg.os, hg.tape, hg.output, by rw [size_setRow]; exact hg.size, fun k hk hne => by rw [setRow_other _ _ _ _ (show k ≠ g2 by have := HS.out.g20; omega)]; exact hg.block k hk hne⟩
end Go.Proofs.Ytndkkjpgnmahbaa.Print
end

section
namespace Go.Proofs.Ytndkkjpgnmahbaa.Print
open Go.RowKit Go.Proofs.YtndkkjpgnmahbaaW.PrintWords Go.Proofs.YtndkkjpgnmahbaaW.PrintLast Go.Proofs.YtndkkjpgnmahbaaW.PrintMore Go.Proofs.Ytndkkjpgnmahbaa.H Go.Proofs.Field
attribute [local go_sem] max2_int min2_int max_two min_two max_three min_three max_four min_four
set_option linter.unusedVariables false
set_option linter.unusedSimpArgs false
def planF.T9 : Bool × List (List Nat × List Nat) := (true, [([], []), ([0], [0]), ([], []), ([2], [2]), ([3], [3]), ([4], [4]), ([5], [5]), ([1, 0, 1, 2, 3, 4, 5, 6], [1]), ([7, 6, 0, 1, 2, 3, 4, 5, 6], [6, 7])])
def planF.B9 : List Nat := [0, 1, 0, 4, 12, 28, 60, 127, 255]
theorem planF.tab9 : rtab .any (opsOf Try.f22 9) = planF.T9 := by kernel_rfl
theorem planF.bits9 : waitsOk planF.T9.2 planF.B9 = true := by kernel_rfl
structure PS (w0 w W : World) (g : Nat) (s : Int) (g6 : Nat) : Prop where
  dice : IsS79 w0 W g s
  old : Below w0.heap.size w0 W
  kb : KeepBut w W g none
  z : W.heap[g6]? = some (.cells #[.int .i64 0, .int .i64 0, .bool false, .slice none 0 0] 24 (0, 0))
  g60 : w.heap.size ≤ g6
  gw : g < w.heap.size
  ww : w0.heap.size ≤ w.heap.size
theorem PS.call {w0 w W W1 : World} {g : Nat} {s s1 : Int} {g6 : Nat} (h : PS w0 w W g s g6) (h1 : IsS79 w0 W1 g s1) (h2 : Below w0.heap.size w0 W1) (h3 : KeepBut W W1 g none) : PS w0 w W1 g s1 g6 :=
  ⟨h1, h2, h.kb.trans h3 (.inl rfl), h3.blk h.z (by have := h.gw; have := h.g60; omega) (by simp), h.g60, h.gw, h.ww⟩
theorem PS.below {w0 w W W1 : World} {g : Nat} {s : Int} {g6 : Nat} (h : PS w0 w W g s g6) (hb : Below W.heap.size W W1) : PS w0 w W1 g s g6 :=
  ⟨h.dice.below hb, below_step h.old hb, h.kb.trans (KeepBut.of_below hb g none) (.inl rfl), blk_below h.z hb, h.g60, h.gw, h.ww⟩
structure PT (w0 w W : World) (g : Nat) (s : Int) (g6 g7 : Nat) (a b : Value) (r : Bool) (v : Value) (D : List Int) : Prop where
  ps : PS w0 w W g s g6
  pl : W.heap[g7]? = some (.cells #[a, b, .bool r, v] 24 (0, 0))
  r : Kd.R (Kd.int .i64) 3 W w.heap.size (fun _ => True) v D
  g70 : w.heap.size ≤ g7
  ne : g6 ≠ g7
namespace PT
variable {w0 w W W1 : World} {g : Nat} {s s1 : Int} {g6 g7 : Nat} {a b : Value} {r : Bool} {v : Value} {D : List Int}
theorem call (h : PT w0 w W g s g6 g7 a b r v D) (h1 : IsS79 w0 W1 g s1) (h2 : Below w0.heap.size w0 W1) (h3 : KeepBut W W1 g none) : PT w0 w W1 g s1 g6 g7 a b r v D := by
  have hgw := h.ps.gw
  refine ⟨h.ps.call h1 h2 h3, h3.blk h.pl (by have := h.g70; omega) (by simp), ?_, h.g70, h.ne⟩
  have hb := Kd.R_base h.r
  have h4 : Kd.R (Kd.int .i64) 3 W w.heap.size (fun k => True ∧ k ≠ g) v D := Kd.R_types h.r h.ps.dice.1 (by decide)
  exact Kd.R_mono (Kd.R_keep h4 h3 (fun k hk => hk.2)) (fun _ _ => trivial)
theorem below (h : PT w0 w W g s g6 g7 a b r v D) (hb : Below W.heap.size W W1) : PT w0 w W1 g s g6 g7 a b r v D :=
  ⟨h.ps.below hb, blk_below h.pl hb, Kd.R_below h.r hb, h.g70, h.ne⟩
theorem set0 {gv c : Nat} (h : PT w0 w W g s g6 g7 a b r (.slice (some ⟨gv, 0, none⟩) D.length c) D) (m : Int) : PT w0 w (W.setCell ⟨gv, 0, none⟩ (.int .i64 m)) g s g6 g7 a b r (.slice (some ⟨gv, 0, none⟩) D.length c) (D.set 0 m) := by
  obtain ⟨h1, h2⟩ := Kd.R_put h.r (0 : Int) m
  rw [show (0 : Int).toNat = 0 from rfl] at h1 h2
  have n1 := Kd.R_ne h.r h.ps.dice.1 (by decide)
  have n2 := Kd.R_ne h.r h.ps.z (by decide)
  have n3 := Kd.R_ne h.r h.pl (by decide)
  have hb := Kd.R_base h.r gv rfl
  have hww := h.ps.ww
  exact ⟨⟨h.ps.dice.grown h2 n1, h.ps.old.grown h2 h.ps.old.size (fun k e => by cases e; omega), h.ps.kb.trans (KeepBut.of_grown h2 g) (.inr ⟨gv, rfl, hb⟩), blk_grown h.ps.z h2 n2, h.ps.g60, h.ps.gw, hww⟩, blk_grown h.pl h2 n3, h1, h.g70, h.ne⟩
theorem put (h : PT w0 w W g s g6 g7 a b r v D) {v1 : Value} {D1 : List Int} (hg : W.grownBy W1 v.ownBlock) (hR : Kd.R (Kd.int .i64) 3 W1 w.heap.size (fun _ => True) v1 D1) : PT w0 w (W1.setCell ⟨g7, 3, none⟩ v1) g s g6 g7 a b r v1 D1 := by
  have n1 := Kd.R_ne h.r h.ps.dice.1 (by decide)
  have n2 := Kd.R_ne h.r h.ps.z (by decide)
  have n3 := Kd.R_ne h.r h.pl (by decide)
  have d1 := h.ps.dice.grown hg n1
  have z1 := blk_grown h.ps.z hg n2
  have p1 := blk_grown h.pl hg n3
  have hb := Kd.R_base h.r
  have o1 : Below w0.heap.size w0 W1 := h.ps.old.grown hg h.ps.old.size (fun k e => by have := hb k e; have := h.ps.ww; omega)
  have k1 : KeepBut w W1 g none := h.ps.kb.trans (KeepBut.of_grown hg g) (by
    cases e : v.ownBlock with
    | none => exact .inl rfl
    | some k => exact .inr ⟨k, rfl, hb k e⟩)
  have hgw := h.ps.gw
  have h7 := h.g70
  have hww := h.ps.ww
  exact ⟨⟨⟨blk_far (p := ⟨g7, 3, none⟩) d1.1 (show g ≠ g7 by omega) _, d1.2⟩, below_set o1 (by omega), keep_far k1 h7 _, blk_far (p := ⟨g7, 3, none⟩) z1 h.ne _, h.ps.g60, hgw, hww⟩, by rw [blk_set p1 3]; rfl, Kd.R_set hR p1 (by decide) 3 v1, h7, h.ne⟩
end PT
set_option maxHeartbeats 6400000 in
set_option maxRecDepth 100000 in
theorem thermionkit_PlanOf.calls (g : Nat) (s0_0 : Int) (a1 : Int) (a2 : Int) (r1 : Int) (r2 : Int) (r3 : Bool) (r4 : List Int) (r5 : Int) (w0 w : World) (hI : IsS79 w0 w g s0_0) (hB : Below w0.heap.size w0 w) (h : thermionkit_PlanOf.f s0_0 a1 a2 = some (r1, r2, r3, r4, r5)) :
    Calls Try.prog 22 #[.pointer (some ⟨g, 0, none⟩), .int .i64 a1, .int .i64 a2] w fun e w' => ∃ v3_ : Value, e = .returned (.agg #[.int .i64 r1, .int .i64 r2, .bool r3, v3_]) ∧ Kd.R (Kd.int .i64) 3 w' w.heap.size (fun _ => True) v3_ r4 ∧ IsS79 w0 w' g r5 ∧ Below w0.heap.size w0 w' ∧ KeepBut w w' g none := by
  unfold thermionkit_PlanOf.f at h
  by_cases q : 1 ≤ a1 ∧ a1 ≤ 16 ∧ 1 ≤ a2 ∧ a2 ≤ 16
  rotate_left
  · rw [if_neg q] at h; exact absurd h (by simp)
  rw [if_pos q] at h
  simp only [Option.some.injEq, Prod.mk.injEq] at h
  obtain ⟨e1, e2, e3, e4, e5⟩ := h
  have hW := dBtw_eq s0_0 1 a1 q.1 (by omega) (by omega)
  have hH := dBtw_eq (dBtw s0_0 1 a1).2 1 a2 q.2.2.1 (by omega) (by omega)
  have hR := dOne_eq (dBtw (dBtw s0_0 1 a1).2 1 a2).2 2 (by omega) (by omega)
  rw [e1] at hW e4 e5
  rw [e2] at hH e4 e5
  rw [e3] at hR
  generalize (dBtw s0_0 1 a1).2 = s1 at *
  generalize (dBtw s1 1 a2).2 = s2 at *
  generalize (dOne s2 2).2 = s3 at *
  have HW := Aside0.mk hW
  have HH := Aside0.mk hH
  have HR := Aside0.mk hR
  obtain ⟨W', rfl⟩ : ∃ W' : Nat, r1 = W' := ⟨r1.toNat, by omega⟩
  obtain ⟨H', rfl⟩ : ∃ H' : Nat, r2 = H' := ⟨r2.toNat, by omega⟩
  rw [Int.toNat_natCast, Int.toNat_natCast] at e4 e5
  obtain ⟨N, hN⟩ : ∃ N, W' * H' = N := ⟨_, rfl⟩
  rw [hN] at e4 e5
  have HX : Aside0 (W' * H' = N ∧ 0 < W' ∧ 0 < N ∧ N ≤ 256) := ⟨hN, by omega, by rw [← hN]; exact Nat.mul_pos (by omega) (by omega), by have := Nat.mul_le_mul (show W' ≤ 16 by omega) (show H' ≤ 16 by omega); omega⟩
  have nm : IntKind.i64.wrap ((W' : Int) * (H' : Int)) = (N : Int) := by rw [← Int.natCast_mul, hN]; exact IntWalk.i64_in _ (by have := HX.out; omega)
  have HE := Aside0.mk (And.intro e4 e5)
  have HI := Aside0.mk hI
  have HB := Aside0.mk hB
  have HM := Aside0.mk (Mem.start w)
  have HGW := Aside0.mk (blk_lt hI.1)
  have hu24 := Try.underlying24
  have hu22 := Try.underlying22
  clear e1 e2 e3 e4 e5 hW hH hR hN hI hB q
  go_enter Try.func22, Try.ntmps22
  go_wp2_with (first
    | ((with_reducible refine gate_dst (N := 6) rfl ?_); refine ev_new HM.out rfl 24 rfl info24 ?_; intro g6 wa hm1 hq1; have HP := Aside0.mk (PS.mk (HI.out.below hq1) (below_step HB.out hq1) (KeepBut.of_below hq1 g none) hm1.head hm1.geh HGW.out HB.out.size); clear hm1 hq1 HM)
    | (go_at_call 32; refine (thermionkit_Dice_Between.calls g s0_0 1 a1 _ _ w0 _ HP.out.dice HP.out.old HW.out.1).mono ?_; rintro e wb ⟨rfl, hd, ho, hk⟩; have HP2 := Aside0.mk (HP.out.call hd ho hk); clear hd ho hk HP)
    | (go_at_call 32; refine (thermionkit_Dice_Between.calls g s1 1 a2 _ _ w0 _ HP2.out.dice HP2.out.old HH.out.1).mono ?_; rintro e wb2 ⟨rfl, hd, ho, hk⟩; have HP3 := Aside0.mk (HP2.out.call hd ho hk); clear hd ho hk HP2)
    | (go_at_call 66; refine (thermionkit_Dice_One.calls g s2 2 _ _ w0 _ HP3.out.dice HP3.out.old HR.out).mono ?_; rintro e wc ⟨rfl, hd, ho, hk⟩; have HP4 := Aside0.mk (HP3.out.call hd ho hk); have HM4 := Aside0.mk (Mem.start wc); clear hd ho hk HP3)
    | ((with_reducible refine gate_dst (N := 7) rfl ?_); refine ev_new HM4.out rfl 24 rfl info24 ?_; intro g7 wd hm1 hq1; have HM5 := Aside0.mk hm1; have HNE : Aside0 (g6 ≠ g7 ∧ w.heap.size ≤ g7) := ⟨by have h1 := blk_lt HP4.out.z; have h2 := hm1.geh; omega, Nat.le_trans HP4.out.kb.1 hm1.geh⟩; clear hm1 hq1 HM4)
    | ((with_reducible refine gate_store (t := 24) (p := 7) rfl ?_); refine ev_store HM5.out rfl 24 (.tmp 7) (.tmp 18) rfl rfl (cs := #[.int .i64 (W' : Int), .int .i64 (H' : Int), .bool r3, .slice none 0 0]) rfl size24 rfl rfl (by simp [Value.oneCell']) ?_; intro we hm2 hq2; clear hq2; have HT0 : Aside0 (PT w0 w we g s3 g6 g7 (.int .i64 (W' : Int)) (.int .i64 (H' : Int)) r3 (.slice none 0 0) []) := ⟨⟨HP4.out.below hm2.below, hm2.head, Kd.R_nil _ _ _ _ _, HNE.out.2, HNE.out.1⟩⟩; clear hm2 HM5 HP4))
  go_loopg [8] N (fun k v8 w' => ∃ (i : Nat) (v : Value), v8 = .int .i64 (i : Int) ∧ Aside0 (i + k = N) ∧ Aside0 (PT w0 w w' g (cellsTo s3 i).2 g6 g7 (.int .i64 (W' : Int)) (.int .i64 (H' : Int)) r3 v (cellsTo s3 i).1))
  case atStart => exact ⟨0, _, rfl, ⟨by omega⟩, HT0⟩
  case round =>
    clear HT0
    obtain ⟨i, v, rfl, HK, HT⟩ := hrel
    have c0 : wr.cell? ⟨g7, 0, none⟩ = some (.int .i64 (W' : Int)) := (blk_cell HT.out.pl 0).trans rfl
    have c1 : wr.cell? ⟨g7, 1, none⟩ = some (.int .i64 (H' : Int)) := (blk_cell HT.out.pl 1).trans rfl
    by_cases hi : i < N
    · have hlt : decide (i < N) = true := decide_eq_true hi
      have HI2 := Aside0.mk hi
      have i2 : i < 256 := by have := HX.out; omega
      have HLD : Aside0 ((cellsTo s3 i).1.length = i) := ⟨cellsTo_length s3 i⟩
      have HST : Aside0 (cellsTo s3 (i + 1) = ((cellsTo s3 i).1 ++ [(cellStep (cellsTo s3 i).2).1], (cellStep (cellsTo s3 i).2).2)) := ⟨rfl⟩
      generalize (cellsTo s3 i).2 = s at HT HST
      generalize (cellsTo s3 i).1 = D at HT HST HLD
      have HO := Aside0.mk (dOne_eq s 3 (by omega) (by omega))
      have HCS : Aside0 (cellStep s = if (dOne s 3).1 = true then dBtw (dOne s 3).2 1 3 else (0, (dOne s 3).2)) := ⟨rfl⟩
      have HBW := Aside0.mk (dBtw_eq (dOne s 3).2 1 3 (by omega) (by omega) (by omega)).1
      generalize dOne s 3 = o at HO HCS HBW
      obtain ⟨ob, os⟩ := o
      generalize dBtw os 1 3 = p at HCS HBW
      obtain ⟨pn, ps⟩ := p
      clear hi
      cases ob
      · have HST2 : Aside0 (cellsTo s3 (i + 1) = (D ++ [0], os)) := ⟨by rw [HST.out, HCS.out]; rfl⟩
        clear HST HCS HBW
        go_wp2_with (first
          | (go_at_call 66; refine (thermionkit_Dice_One.calls g s 3 _ _ w0 _ HT.out.ps.dice HT.out.ps.old HO.out).mono ?_; rintro e wb ⟨rfl, hd, ho, hk⟩; have HT2 := Aside0.mk (HT.out.call hd ho hk); clear hd ho hk HT c0 c1; have c3 : wb.cell? ⟨g7, 3, none⟩ = some v := (blk_cell HT2.out.pl 3).trans rfl; have f3 := blk_frozen HT2.out.pl 3)
          | ((with_reducible refine gate_dst (N := 36) rfl ?_); refine Kd.R_append (Kd.int .i64) (w0 := wb) w.heap.size rfl (.tmp 33) (.tmp 35) 22 3 (.int .i64 0) 8 rfl Try.underlying22 info3 rfl (by decide) (by omega) v D 0 [.int .i64 0] (fun _ => True) (fun _ => False) rfl rfl rfl (fun _ hk => hk.elim) (fun _ _ => trivial) HT2.out.r (Below.refl _ _) HT2.out.ps.kb.1 (by have := HLD.out; omega) ?_; intro v1 w5 hR5 hB5 hg5 hat5; have HT3 := Aside0.mk (HT2.out.put hg5 hR5); have c4 : w5.cell? ⟨g7, 3, none⟩ = some v := (blk_cell (blk_grown HT2.out.pl hg5 (Kd.R_ne HT2.out.r HT2.out.pl (by decide))) 3).trans rfl; have f4 : w5.frozen? ⟨g7, 3, none⟩ = false := blk_frozen (blk_grown HT2.out.pl hg5 (Kd.R_ne HT2.out.r HT2.out.pl (by decide))) 3; obtain ⟨A5, c5, e5⟩ := Kd.R_slice hR5; rw [List.length_append, List.length_singleton] at e5; subst e5; clear hR5 hB5 hg5 hat5 c3 f3 HT2))
        go_roundg (N - (i + 1))
        case measure => have := HK.out; have := HI2.out; omega
        case rel => exact ⟨i + 1, _, by go_num, ⟨by have := HI2.out; omega⟩, ⟨by rw [HST2.out]; exact HT3.out⟩⟩
      · have HST2 : Aside0 (cellsTo s3 (i + 1) = (D ++ [pn], ps)) := ⟨by rw [HST.out, HCS.out]; rfl⟩
        clear HST HCS
        go_wp2_with (first
          | (go_at_call 66; refine (thermionkit_Dice_One.calls g s 3 _ _ w0 _ HT.out.ps.dice HT.out.ps.old HO.out).mono ?_; rintro e wb1 ⟨rfl, hd, ho, hk⟩; have HT1 := Aside0.mk (HT.out.call hd ho hk); clear hd ho hk HT c0 c1)
          | (go_at_call 32; refine (thermionkit_Dice_Between.calls g os 1 3 _ _ w0 _ HT1.out.ps.dice HT1.out.ps.old HBW.out).mono ?_; rintro e wb ⟨rfl, hd, ho, hk⟩; have HT2 := Aside0.mk (HT1.out.call hd ho hk); clear hd ho hk HT1; have c3 : wb.cell? ⟨g7, 3, none⟩ = some v := (blk_cell HT2.out.pl 3).trans rfl; have f3 := blk_frozen HT2.out.pl 3)
          | ((with_reducible refine gate_dst (N := 36) rfl ?_); refine Kd.R_append (Kd.int .i64) (w0 := wb) w.heap.size rfl (.tmp 33) (.tmp 35) 22 3 (.int .i64 0) 8 rfl Try.underlying22 info3 rfl (by decide) (by omega) v D pn [.int .i64 pn] (fun _ => True) (fun _ => False) rfl rfl rfl (fun _ hk => hk.elim) (fun _ _ => trivial) HT2.out.r (Below.refl _ _) HT2.out.ps.kb.1 (by have := HLD.out; omega) ?_; intro v1 w5 hR5 hB5 hg5 hat5; have HT3 := Aside0.mk (HT2.out.put hg5 hR5); have c4 : w5.cell? ⟨g7, 3, none⟩ = some v := (blk_cell (blk_grown HT2.out.pl hg5 (Kd.R_ne HT2.out.r HT2.out.pl (by decide))) 3).trans rfl; have f4 : w5.frozen? ⟨g7, 3, none⟩ = false := blk_frozen (blk_grown HT2.out.pl hg5 (Kd.R_ne HT2.out.r HT2.out.pl (by decide))) 3; obtain ⟨A5, c5, e5⟩ := Kd.R_slice hR5; rw [List.length_append, List.length_singleton] at e5; subst e5; clear hR5 hB5 hg5 hat5 c3 f3 HT2))
        go_roundg (N - (i + 1))
        case measure => have := HK.out; have := HI2.out; omega
        case rel => exact ⟨i + 1, _, by go_num, ⟨by have := HI2.out; omega⟩, ⟨by rw [HST2.out]; exact HT3.out⟩⟩
    · obtain rfl : i = N := by have := HK.out; omega
      have hlt : decide (i < i) = false := decide_eq_false (Nat.lt_irrefl _)
      clear hi
      have hlD := cellsTo_length s3 i
      obtain ⟨gv, cv, ev, hgv, _, _⟩ := Kd.R_form HT.out.r (by rw [hlD]; exact HX.out.2.2.1)
      subst ev
      have HHE : Aside0 (opened W' (firstOne (cellsTo s3 i).1) = r4 ∧ (cellsTo s3 i).2 = r5) := HE
      generalize (cellsTo s3 i).1 = D at HT HHE hlD hgv
      generalize (cellsTo s3 i).2 = sz at HT HHE
      have HLD := Aside0.mk hlD
      have l1 : (0 : Int) < (D.length : Int) := by have := HX.out; omega
      have l2 : 0 < D.length := by have := HX.out; omega
      clear hlD HE
      have cX : wr.cell? ⟨gv, 0, none⟩ = some (.int .i64 (D.getD 0 0)) := by
        have h1 := (Kd.R_cell (0 : Int) HT.out.r 0 (by omega) l1).1
        rw [show (0 : Int).toNat = 0 from rfl] at h1
        rw [h1]
        rfl
      have HFO : Aside0 (firstOne D = D.set 0 (if 1 < D.getD 0 0 then D.getD 0 0 else 1)) := ⟨by
        unfold firstOne
        rw [show max 1 (D.getD 0 0) = if 1 < D.getD 0 0 then D.getD 0 0 else 1 by split <;> omega]⟩
      generalize D.getD 0 0 = X at cX HFO
      have c3 : wr.cell? ⟨g7, 3, none⟩ = some (.slice (some ⟨gv, 0, none⟩) D.length cv) := (blk_cell HT.out.pl 3).trans rfl
      go_upto_region 9 with (fail)
      clear c0 c1 nm hlt
      have HBd := Aside0.mk (below_drew1 (Below.refl wr.heap.size wr))
      refine start_ (n := 9) (S := fun w' => w'.cell? ⟨g7, 3, none⟩ = some (.slice (some ⟨gv, 0, none⟩) D.length cv) ∧ w'.cell? ⟨gv, 0, none⟩ = some (.int .i64 X)) (ds := [8]) #[false, false, false, false, false, false, false, false, false] (by kernel_rfl) rfl rfl ⟨c3, cX⟩ (fun hHeld => ?_); refine with_tabW planF.tab9 planF.bits9 (fun HT_ HW_ => ?_)
      generalize wr.drew = wd at HBd hHeld  ⊢
      refine pure_ (i := 0) (N := some 38) (v := ?_) (a' := ?_) #[true, false, false, false, false, false, false, false, false] rfl rfl (any_of HT_.out (by kernel_rfl)) (fun _ _ _ h => h) (Or.inl ⟨by rfl, ?_⟩) ?_ ?_
      rotate_left
      · intro w'
        go_simp
        with_reducible rfl
      rotate_left
      · simp only [Act.put, List.setIfInBounds_toArray, List.set_cons_zero, List.set_cons_succ, i64_w, i32_w]
        rfl
      refine pure_ (i := 2) (N := some 40) (v := ?_) (a' := ?_) #[true, false, true, false, false, false, false, false, false] rfl rfl (any_of HT_.out (by kernel_rfl)) (fun _ _ _ h => h) (Or.inl ⟨by rfl, ?_⟩) ?_ ?_
      rotate_left
      · intro w'
        go_simp
        with_reducible rfl
      rotate_left
      · simp only [Act.put, List.setIfInBounds_toArray, List.set_cons_zero, List.set_cons_succ, i64_w, i32_w]
        rfl
      refine take_ (i := 1) (N := some 39) (v := ?_) (a' := ?_) #[true, true, true, false, false, false, false, false, false] rfl rfl (take_ofW HT_.out HW_.out (by kernel_rfl)) (fun _ _ _ h => h) (Or.inl ⟨by rfl, ?_⟩) hHeld ?_ ?_
      rotate_left
      · rintro w' ⟨s0, s1⟩
        go_simp
        with_reducible rfl
      rotate_left
      · simp only [Act.put, List.setIfInBounds_toArray, List.set_cons_zero, List.set_cons_succ, i64_w, i32_w]
        rfl
      refine take_ (i := 3) (N := some 41) (v := ?_) (a' := ?_) #[true, true, true, true, false, false, false, false, false] rfl rfl (take_ofW HT_.out HW_.out (by kernel_rfl)) (fun _ _ _ h => h) (Or.inl ⟨by rfl, ?_⟩) hHeld ?_ ?_
      rotate_left
      · rintro w' ⟨s0, s1⟩
        go_simp
        with_reducible rfl
      rotate_left
      · simp only [Act.put, List.setIfInBounds_toArray, List.set_cons_zero, List.set_cons_succ, i64_w, i32_w]
        rfl
      refine pure_ (i := 4) (N := some 42) (v := ?_) (a' := ?_) #[true, true, true, true, true, false, false, false, false] rfl rfl (any_of HT_.out (by kernel_rfl)) (fun _ _ _ h => h) (Or.inl ⟨by rfl, ?_⟩) ?_ ?_
      rotate_left
      · intro w'
        go_simp
        with_reducible rfl
      rotate_left
      · simp only [Act.put, List.setIfInBounds_toArray, List.set_cons_zero, List.set_cons_succ, i64_w, i32_w]
        rfl
      refine take_ (i := 5) (N := some 43) (v := ?_) (a' := ?_) #[true, true, true, true, true, true, false, false, false] rfl rfl (take_ofW HT_.out HW_.out (by kernel_rfl)) (fun _ _ _ h => h) (Or.inl ⟨by rfl, ?_⟩) hHeld ?_ ?_
      rotate_left
      · rintro w' ⟨s0, s1⟩
        go_simp
        with_reducible rfl
      rotate_left
      · simp only [Act.put, List.setIfInBounds_toArray, List.set_cons_zero, List.set_cons_succ, i64_w, i32_w]
        rfl
      refine pure_ (i := 6) (N := some 44) (v := ?_) (a' := ?_) #[true, true, true, true, true, true, true, false, false] rfl rfl (any_of HT_.out (by kernel_rfl)) (fun _ _ _ h => h) (Or.inl ⟨by rfl, ?_⟩) ?_ ?_
      rotate_left
      · intro w'
        go_simp
        with_reducible rfl
      rotate_left
      · simp only [Act.put, List.setIfInBounds_toArray, List.set_cons_zero, List.set_cons_succ, i64_w, i32_w]
        rfl
      refine pure_ (i := 7) (N := some 45) (v := ?_) (a' := ?_) #[true, true, true, true, true, true, true, true, false] rfl rfl (any_of HT_.out (by kernel_rfl)) (fun _ _ _ h => h) (Or.inl ⟨by rfl, ?_⟩) ?_ ?_
      rotate_left
      · intro w'
        go_simp
        with_reducible rfl
      rotate_left
      · simp only [Act.put, List.setIfInBounds_toArray, List.set_cons_zero, List.set_cons_succ, i64_w, i32_w]
        rfl
      obtain ⟨m, hm⟩ : ∃ m, (if 1 < X then X else (1 : Int)) = m := ⟨_, rfl⟩
      rw [hm] at HFO ⊢
      clear hm
      have HT2 := Aside0.mk (HT.out.below HBd.out)
      have cX2 : wd.cell? ⟨gv, 0, none⟩ = some (.int .i64 X) := hHeld.2
      have fX2 : wd.frozen? ⟨gv, 0, none⟩ = false := (Kd.R_cell (0 : Int) HT2.out.r 0 (by omega) l1).2
      clear HT HBd cX c3 hHeld
      refine last_ (i := 8) (N := none) #[true, true, true, true, true, true, true, true, true] rfl rfl (by kernel_rfl) (by decide) (fun K hK => ?_)
      go_simp
      refine hK.out _ _ ?_
      refine done_ (by kernel_rfl) ?_
      clear hK K HT_ HW_ cX2 fX2
      have HT3 := Aside0.mk (HT2.out.set0 m)
      rw [← HFO.out] at HT3
      clear HT2
      generalize wd.setCell ⟨gv, 0, none⟩ (.int .i64 m) = w8 at HT3 ⊢
      have HLF : Aside0 ((firstOne D).length = D.length) := ⟨by unfold firstOne; rw [List.length_set]⟩
      have HCALL : Aside0 (Calls Try.prog 67 #[.agg (planV (W' : Int) (H' : Int) r3 (some ⟨gv, 0, none⟩) D.length cv)] w8 fun e w' => e = .returned (.agg (planV (W' : Int) (H' : Int) r3 (some ⟨gv, 0, none⟩) D.length cv)) ∧ Kd.R (Kd.int .i64) 3 w' w.heap.size (fun _ => True) (.slice (some ⟨gv, 0, none⟩) D.length cv) r4 ∧ w8.grownBy w' (some gv)) := ⟨by
        have h1 := opened_calls W' H' r3 gv cv w.heap.size (fun _ => True) (firstOne D) w8 (by rw [HLF.out]; exact HT3.out.r) (by rw [HLF.out, HLD.out, HX.out.1]) (by have := HX.out; have := HLF.out; have := HLD.out; omega) (by rw [HLF.out]; exact l2) HX.out.2.1
        rw [HHE.out.1, show r4.length = (firstOne D).length by rw [← HHE.out.1]; exact openTo_length _ _ _, HLF.out] at h1
        exact h1⟩
      go_wp2_with (first
        | ((with_reducible refine gate_dst (N := 46) rfl ?_); refine ev_load HT3.out.pl rfl 24 (.tmp 7) rfl rfl _ Try.underlying24 rfl size24 rfl ?_)
        | (go_at_call 67; refine HCALL.out.mono ?_; rintro e w9 ⟨rfl, hR9, hg9⟩; have HR9 := Aside0.mk hR9; have HG9 := Aside0.mk hg9; have hz9 := blk_grown HT3.out.ps.z hg9 (fun e => by have h2 := Kd.R_ne HT3.out.r HT3.out.ps.z (by decide); exact h2 e); have HZ9 := Aside0.mk hz9; clear hR9 hg9 hz9 HCALL)
        | ((with_reducible refine gate_store (t := 24) (p := 6) rfl ?_); refine ev_storeB HZ9.out rfl 24 (.tmp 6) (.tmp 47) rfl rfl rfl size24 rfl rfl (by simp [Value.oneCell']) ?_))
      (try simp only [Exit.inBlock, Exit.then])
      have n1 := Kd.R_ne HT3.out.r HT3.out.ps.dice.1 (by decide)
      have d9 := HT3.out.ps.dice.grown HG9.out n1
      have o9 : Below w0.heap.size w0 w9 := HT3.out.ps.old.grown HG9.out HT3.out.ps.old.size (fun k e => by cases e; have := HT3.out.ps.ww; omega)
      have k9 : KeepBut w w9 g none := HT3.out.ps.kb.trans (KeepBut.of_grown HG9.out g) (.inr ⟨gv, rfl, hgv⟩)
      have h6 := HT3.out.ps.g60
      have hgw := HT3.out.ps.gw
      have hww := HT3.out.ps.ww
      refine bodyPost_ret (results_cell_row rfl _ _ g6 24 _ (0, 0) _ rfl (setRow_heap _ _ _ _ _ _ HZ9.out) hu24 rfl (by rw [size24]; rfl)) rfl ⟨_, rfl, Kd.R_mono (Kd.R_step (Kd.R_types HR9.out HZ9.out (by decide)) (fun k hk _ => setRow_other _ _ _ _ hk.2)) (fun _ _ => trivial), ?_, below_row o9 (by omega), ?_⟩
      · rw [← HHE.out.2]
        exact ⟨(setRow_other _ _ _ _ (show g ≠ g6 by omega)).trans d9.1, d9.2⟩
      · exact ⟨by rw [size_setRow]; exact k9.1, fun k hk hne hr => by rw [setRow_other _ _ _ _ (show k ≠ g6 by omega)]; exact k9.2 k hk hne hr⟩
end Go.Proofs.Ytndkkjpgnmahbaa.Print
end
