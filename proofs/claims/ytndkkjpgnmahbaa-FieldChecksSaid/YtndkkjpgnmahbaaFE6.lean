/- Part 6 of the texts of a claim about Ytndkkjpgnmahbaa, put together by a program of this work: what the Go functions do, and that their calls do so. -/
import Derived.Test.YtndkkjpgnmahbaaFE2
import Derived.Test.YtndkkjpgnmahbaaFE5
import Derived.Test.YtndkkjpgnmahbaaFE4
import Derived.Test.YtndkkjpgnmahbaaFE3
import Derived.SizedLaws
import Derived.ChangeSlices
import Derived.WalkKit
import Derived.ProofKit
import Derived.OpenShut
import Derived.ChangeOld
section
namespace Go.Proofs.Ytndkkjpgnmahbaa.Print
open Go.RowKit Go.Proofs.YtndkkjpgnmahbaaW.PrintWords Go.Proofs.YtndkkjpgnmahbaaW.PrintLast Go.Proofs.YtndkkjpgnmahbaaW.PrintMore
attribute [local go_sem] max2_int min2_int max_two min_two max_three min_three max_four min_four
set_option linter.unusedVariables false
set_option linter.unusedSimpArgs false
def thermionref01_Electrodes.l0 : Nat → List Int → Int → Int → Int → Bool → List Int → Option (List Int)
 | 0, _, _, _, _, _, _ => none
 | k + 1, x3, x4, x293000, x293001, x293002, x293003 => if x4 ≤ 6 then ((thermionref01_has.f k x293000 x293001 x293002 x293003 x4).bind fun t294 => (if t294 = true then (if x3.length < 17592186044416 then (thermionref01_Electrodes.l0 k (x3 ++ [x4]) (wrap64 (x4 + 1)) x293000 x293001 x293002 x293003) else (none)) else (thermionref01_Electrodes.l0 k x3 (wrap64 (x4 + 1)) x293000 x293001 x293002 x293003))) else (some x3)
def thermionref01_Electrodes.f (k : Nat) (a0_0 : Int) (a0_1 : Int) (a0_2 : Bool) (l0_3 : List Int) : Option (List Int) := (thermionref01_Check.f k a0_0 a0_1 a0_2 l0_3).bind fun t293 => (if t293 = 0 then (thermionref01_Electrodes.l0 k ([] : List Int) 1 a0_0 a0_1 a0_2 l0_3) else (some ([] : List Int)))
set_option maxHeartbeats 8000000 in
set_option maxRecDepth 100000 in
theorem thermionref01_Electrodes.calls (k : Nat) (a0_0 : Int) (a0_1 : Int) (a0_2 : Bool) (A0_3 : Option Addr) (c0_3 : Nat) (l0_3 : List Int) (r : List Int) (w : World) (hr0_3 : Kd.C (Kd.int .i64) w A0_3 l0_3.length l0_3) (hc0_3 : l0_3.length ≤ c0_3) (h : thermionref01_Electrodes.f k a0_0 a0_1 a0_2 l0_3 = some r) :
  Calls Try.prog 45 #[.agg #[.int .i64 a0_0, .int .i64 a0_1, .bool a0_2, .slice A0_3 l0_3.length c0_3]] w fun e w' => ∃ v0_ : Value, e = .returned (v0_) ∧ Kd.R (Kd.int .i64) 3 w' w.heap.size (fun _ => True) v0_ r ∧ Below w.heap.size w w' := by
 have hu24 := Try.underlying24
 have HR0_3 := Aside0.mk hr0_3
 have HC0_3 := Aside0.mk hc0_3
 clear hr0_3 hc0_3
 have HB := Aside0.mk (Below.refl w.heap.size w)
 have H : ((thermionref01_Check.f k a0_0 a0_1 a0_2 l0_3).bind fun t293 => (if t293 = 0 then (thermionref01_Electrodes.l0 k ([] : List Int) 1 a0_0 a0_1 a0_2 l0_3) else (some ([] : List Int)))) = some r := h
 clear h
 replace H := Option.bind_eq_some_iff.mp H
 obtain ⟨t293, A20, H⟩ := H
 replace H : (if t293 = 0 then (thermionref01_Electrodes.l0 k ([] : List Int) 1 a0_0 a0_1 a0_2 l0_3) else (some ([] : List Int))) = some r := H
 have A2 := Aside0.mk A20
 clear A20
 by_cases c3 : t293 = 0
 ·rw [if_pos c3] at H
  have c3b0 : (t293 == 0) = true := beq_iff_eq.mpr c3
  have c3b1 : (t293 != 0) = false := bne_eq_false_iff_eq.mpr c3
  clear c3
  have H' := Aside0.mk H
  clear H
  go_enter Try.func45, Try.ntmps45
  go_wp2_with (first | ((with_reducible refine gate_dst (N := 1) rfl ?_); refine box_event ?hg (N := 1) ?hd (cs := #[.int .i64 a0_0, .int .i64 a0_1, .bool a0_2, .slice A0_3 l0_3.length c0_3]) (t := 24) ?hr ?_; (case hd => rfl); (case hg => rfl); (case hr => first | (go_simp; done) | (go_simp; rfl)); intro gb292 hg w4 hbox hb; have n0_ := Aside0.mk (below_step (by repeat (first | (with_reducible first | exact HB.out | apply below_alloc | apply pw_below_drewN | apply below_drew1) | exact HB.out)) hb); have n1_ := Aside0.mk (hbox); have n2_ := Aside0.mk ((by rw [hg]; exact (below_size (by repeat (first | (with_reducible first | exact HB.out | apply below_alloc | apply pw_below_drewN | apply below_drew1) | exact HB.out))) : w.heap.size ≤ gb292)); have n3_ := Aside0.mk ((by rw [hg]; exact (below_size (by repeat (first | (with_reducible first | exact HB.out | apply below_alloc | apply pw_below_drewN | apply below_drew1) | exact HB.out))) : w.heap.size ≤ gb292)); clear HB; have HB := n0_; have BK292 := n1_; have GW292 := n2_; have GE292 := n3_; clear n0_ n1_ n2_ n3_; clear hb hbox hg; have hcz5_0 : w4.cell? ⟨gb292, 0, none⟩ = some (.int .i64 a0_0) := (blk_cell BK292.out 0).trans rfl; have hcz5_1 : w4.cell? ⟨gb292, 1, none⟩ = some (.int .i64 a0_1) := (blk_cell BK292.out 1).trans rfl; have hcz5_2 : w4.cell? ⟨gb292, 2, none⟩ = some (.bool a0_2) := (blk_cell BK292.out 2).trans rfl; have hcz5_3 : w4.cell? ⟨gb292, 3, none⟩ = some (.slice A0_3 l0_3.length c0_3) := (blk_cell BK292.out 3).trans rfl; have hfz5_0 := blk_frozen BK292.out 0; have hfz5_1 := blk_frozen BK292.out 1; have hfz5_2 := blk_frozen BK292.out 2; have hfz5_3 := blk_frozen BK292.out 3) | ((with_reducible refine gate_callee (f := 40) rfl ?_); refine goesL_ (some 6) rfl rfl Try.func40 (by kernel_rfl) rfl #[.agg #[.int .i64 a0_0, .int .i64 a0_1, .bool a0_2, .slice A0_3 l0_3.length c0_3]] rfl (by (try simp only [List.map_toArray, List.map_cons, List.map_nil]); first | done | rfl | (simp only [List.length_drop, List.length_take]; rfl)) ?_; (with_reducible refine (thermionref01_Check.calls k a0_0 a0_1 a0_2 _ _ l0_3 t293 _ ?side1 ?side2 A2.out).mono ?_); (case side1 => repeat (first | exact (Kd.C_below HR0_3.out HB.out) | (with_reducible refine Kd.C_alloc ?_ _) | (with_reducible refine Kd.C_drewN ?_ _) | (with_reducible refine Kd.C_drew ?_))); (case side2 => exact HC0_3.out); rintro e w6 ⟨rfl, hb⟩; refine ⟨_, rfl, ?_⟩; have n0_ := Aside0.mk (blk_below (g := gb292) (o := .cells #[.int .i64 a0_0, .int .i64 a0_1, .bool a0_2, .slice A0_3 l0_3.length c0_3] 24 (0, 0)) (by (with_reducible repeat (first | refine blk_drewN ?_ _ | refine blk_drew ?_ | refine blk_alloc ?_ _)); exact BK292.out) hb); have n1_ := Aside0.mk (below_step (by repeat (first | (with_reducible first | exact HB.out | apply below_alloc | apply pw_below_drewN | apply below_drew1 | refine below_set ?_ GE292.out) | exact HB.out)) hb); clear BK292; clear HB; have BK292 := n0_; have HB := n1_; clear n0_ n1_; (try clear hb); (try clear hb2); (try clear hk); (try clear hi)))
  go_loopg [3, 4] k (fun kq v3 v4 w' => ∃ (x3_1 : List Int) (x4_1 : Int), v4 = .int .i64 x4_1 ∧ Aside0 (thermionref01_Electrodes.l0 kq x3_1 x4_1 a0_0 a0_1 a0_2 l0_3 = some r) ∧ Aside0 (kq ≤ k) ∧ Aside0 (Kd.R (Kd.int .i64) 3 w' w.heap.size (fun _ => True) v3 x3_1) ∧ Aside0 (w'.heap[gb292]? = some (.cells #[.int .i64 a0_0, .int .i64 a0_1, .bool a0_2, (.slice A0_3 l0_3.length c0_3)] 24 (0, 0))) ∧ Aside0 (Below w.heap.size w w'))
  case atStart => exact ⟨(([] : List Int)), (1), (by first | rfl | (simp; done) | (simp [*]; done)), H', ⟨Nat.le_refl _⟩, ⟨by first | exact Kd.R_nil _ _ _ _ _ | exact Kd.N_nil _ _ _ _ _ | exact Kd.V_nil _ _ _ _ _ | exact Kd.Q_nil _ _ _ _ _ | exact Kd.S_nil _ _ _ _ _⟩, ⟨by (with_reducible repeat (first | refine blk_drewN ?_ _ | refine blk_drew ?_ | refine blk_alloc ?_ _)); exact BK292.out⟩, ⟨by repeat (first | (with_reducible first | exact HB.out | apply below_alloc | apply pw_below_drewN | apply below_drew1 | refine below_set ?_ GE292.out) | exact HB.out)⟩⟩
  case round =>
   clear H'
   try clear p2
   try clear c3
   try clear c3b0
   try clear c3b1
   try clear c4
   try clear hcz5_0
   try clear hcz5_1
   try clear hcz5_2
   try clear hcz5_3
   try clear hfz5_0
   try clear hfz5_1
   try clear hfz5_2
   try clear hfz5_3
   obtain ⟨x3_1, x4_1, rfl, HA, HK1, HO_3, BK292, HB⟩ := hrel
   cases gk with
   | zero => exact absurd HA.out (by simp [thermionref01_Electrodes.l0])
   | succ k1 =>
    have H := HA.out
    clear HA
    simp only [thermionref01_Electrodes.l0] at H
    by_cases c7 : x4_1 ≤ 6
    ·rw [if_pos c7] at H
     have c7b0 := decide_eq_true c7
     clear c7
     replace H := Option.bind_eq_some_iff.mp H
     obtain ⟨t294, A80, H⟩ := H
     replace H : (if t294 = true then (if x3_1.length < 17592186044416 then (thermionref01_Electrodes.l0 k1 (x3_1 ++ [x4_1]) (wrap64 (x4_1 + 1)) a0_0 a0_1 a0_2 l0_3) else (none)) else (thermionref01_Electrodes.l0 k1 x3_1 (wrap64 (x4_1 + 1)) a0_0 a0_1 a0_2 l0_3)) = some r := H
     have A8 := Aside0.mk A80
     clear A80
     by_cases c9 : t294 = true
     ·subst c9
      have H1 : (if x3_1.length < 17592186044416 then (thermionref01_Electrodes.l0 k1 (x3_1 ++ [x4_1]) (wrap64 (x4_1 + 1)) a0_0 a0_1 a0_2 l0_3) else (none)) = some r := by rw [if_pos rfl] at H; exact H
      clear H
      have H := H1
      clear H1
      by_cases c10 : x3_1.length < 17592186044416
      ·rw [if_pos c10] at H
       have LMc10 := Aside0.mk c10
       clear c10
       obtain ⟨y295, hy295⟩ : ∃ y_ : List Int, y_ = (x3_1 ++ [x4_1]) := ⟨_, rfl⟩
       replace H : (thermionref01_Electrodes.l0 k1 y295 (wrap64 (x4_1 + 1)) a0_0 a0_1 a0_2 l0_3) = some r := by first | (rw [hy295]; with_reducible exact H) | (have H2_ := (Option.bind_some _ _).symm.trans H; rw [hy295]; with_reducible exact H2_) | (have H2_ := (Option.bind_some _ _).symm.trans H; with_reducible exact H2_) | with_reducible exact H | (rw [hy295]; exact H) | exact H
       have Ny295 := Aside0.mk hy295
       clear hy295
       have H' := Aside0.mk H
       clear H
       have hcz11_0 : wr.cell? ⟨gb292, 0, none⟩ = some (.int .i64 a0_0) := (blk_cell BK292.out 0).trans rfl
       have hcz11_1 : wr.cell? ⟨gb292, 1, none⟩ = some (.int .i64 a0_1) := (blk_cell BK292.out 1).trans rfl
       have hcz11_2 : wr.cell? ⟨gb292, 2, none⟩ = some (.bool a0_2) := (blk_cell BK292.out 2).trans rfl
       have hcz11_3 : wr.cell? ⟨gb292, 3, none⟩ = some (.slice A0_3 l0_3.length c0_3) := (blk_cell BK292.out 3).trans rfl
       have hfz11_0 := blk_frozen BK292.out 0
       have hfz11_1 := blk_frozen BK292.out 1
       have hfz11_2 := blk_frozen BK292.out 2
       have hfz11_3 := blk_frozen BK292.out 3
       go_wp2_with (first | ((with_reducible refine gate_callee (f := 79) rfl ?_); refine goesL_ (some 14) rfl rfl Try.func79 (by kernel_rfl) rfl #[.agg #[.int .i64 a0_0, .int .i64 a0_1, .bool a0_2, .slice A0_3 l0_3.length c0_3], .int .i64 x4_1] rfl (by (try simp only [List.map_toArray, List.map_cons, List.map_nil]); first | done | rfl | (simp only [List.length_drop, List.length_take]; rfl)) ?_; (with_reducible refine (thermionref01_has.calls k1 a0_0 a0_1 a0_2 _ _ l0_3 x4_1 true _ ?side1 ?side2 A8.out).mono ?_); (case side1 => repeat (first | exact (Kd.C_below HR0_3.out HB.out) | (with_reducible refine Kd.C_alloc ?_ _) | (with_reducible refine Kd.C_drewN ?_ _) | (with_reducible refine Kd.C_drew ?_))); (case side2 => exact HC0_3.out); rintro e w12 ⟨rfl, hb⟩; refine ⟨_, rfl, ?_⟩; have n0_ := Aside0.mk (Kd.R_below (by (with_reducible repeat (first | apply Kd.R_alloc | apply Kd.R_drewN | apply Kd.R_drew)); exact HO_3.out) hb); have n1_ := Aside0.mk (blk_below (g := gb292) (o := .cells #[.int .i64 a0_0, .int .i64 a0_1, .bool a0_2, .slice A0_3 l0_3.length c0_3] 24 (0, 0)) (by (with_reducible repeat (first | refine blk_drewN ?_ _ | refine blk_drew ?_ | refine blk_alloc ?_ _)); exact BK292.out) hb); have n2_ := Aside0.mk (below_step (by repeat (first | (with_reducible first | exact HB.out | apply below_alloc | apply pw_below_drewN | apply below_drew1 | refine below_set ?_ GE292.out) | exact HB.out)) hb); clear HO_3; clear BK292; clear HB; have HO_3 := n0_; have BK292 := n1_; have HB := n2_; clear n0_ n1_ n2_; (try clear hb); (try clear hb2); (try clear hk); (try clear hi)) | ((with_reducible refine gate_builtin (b := .append) (xs := #[.tmp 15, .tmp 17]) rfl ?_); at_builtin; refine Kd.R_append (Kd.int .i64) (w0 := w) w.heap.size rfl (.tmp 15) (.tmp 17) 22 3 (.int .i64 0) 8 rfl Try.underlying22 info3 rfl (by decide) (by omega) u3 x3_1 x4_1 [.int .i64 x4_1] (fun _ => True) (fun _ => False) rfl rfl ?aP (fun _ hk => hk.elim) ?aF ?aO ?aB ?aS ?aL ?_; (case aP => exact rfl); (case aB => exact (by repeat (first | (with_reducible first | exact HB.out | apply below_alloc | apply pw_below_drewN | apply below_drew1 | refine below_set ?_ GE292.out) | exact HB.out))); (case aF => exact (fun _ _ => trivial)); (case aO => exact (by (with_reducible repeat (first | apply Kd.R_alloc | apply Kd.R_drewN | apply Kd.R_drew)); exact HO_3.out)); (case aS => exact (below_size (by repeat (first | (with_reducible first | exact HB.out | apply below_alloc | apply pw_below_drewN | apply below_drew1 | refine below_set ?_ GE292.out) | exact HB.out)))); (case aL => have := LMc10.out; omega); intro v296 w13 ho hb hg hat; rw [← Ny295.out] at ho; have n0_ := Aside0.mk (blk_grown (g := gb292) (o := .cells #[.int .i64 a0_0, .int .i64 a0_1, .bool a0_2, .slice A0_3 l0_3.length c0_3] 24 (0, 0)) (by (with_reducible repeat (first | refine blk_drewN ?_ _ | refine blk_drew ?_ | refine blk_alloc ?_ _)); exact BK292.out) hg (Kd.R_ne HO_3.out BK292.out (by decide))); have n1_ := Aside0.mk (hb); have n2_ := Aside0.mk (ho); clear BK292; clear HB; clear HO_3; have BK292 := n0_; have HB := n1_; have HO297 := n2_; clear n0_ n1_ n2_; clear ho hb hg hat))
       go_roundg k1
       case measure => have := HK1.out; omega
       case rel => exact ⟨(y295), (wrap64 (x4_1 + 1)), (by first | rfl | (simp; done) | (simp [*]; done)), H', ⟨by have := HK1.out; omega⟩, ⟨by (with_reducible repeat (first | apply Kd.R_alloc | apply Kd.R_drewN | apply Kd.R_drew)); exact HO297.out⟩, ⟨by (with_reducible repeat (first | refine blk_drewN ?_ _ | refine blk_drew ?_ | refine blk_alloc ?_ _)); exact BK292.out⟩, ⟨by repeat (first | (with_reducible first | exact HB.out | apply below_alloc | apply pw_below_drewN | apply below_drew1 | refine below_set ?_ GE292.out) | exact HB.out)⟩⟩
      ·rw [if_neg c10] at H
       exact absurd H (by simp)
     ·replace c9 := Bool.eq_false_iff.mpr c9
      subst c9
      have H1 : (thermionref01_Electrodes.l0 k1 x3_1 (wrap64 (x4_1 + 1)) a0_0 a0_1 a0_2 l0_3) = some r := by rw [if_neg (show ¬ (false = true) by decide)] at H; exact H
      clear H
      have H := H1
      clear H1
      have H' := Aside0.mk H
      clear H
      have hcz14_0 : wr.cell? ⟨gb292, 0, none⟩ = some (.int .i64 a0_0) := (blk_cell BK292.out 0).trans rfl
      have hcz14_1 : wr.cell? ⟨gb292, 1, none⟩ = some (.int .i64 a0_1) := (blk_cell BK292.out 1).trans rfl
      have hcz14_2 : wr.cell? ⟨gb292, 2, none⟩ = some (.bool a0_2) := (blk_cell BK292.out 2).trans rfl
      have hcz14_3 : wr.cell? ⟨gb292, 3, none⟩ = some (.slice A0_3 l0_3.length c0_3) := (blk_cell BK292.out 3).trans rfl
      have hfz14_0 := blk_frozen BK292.out 0
      have hfz14_1 := blk_frozen BK292.out 1
      have hfz14_2 := blk_frozen BK292.out 2
      have hfz14_3 := blk_frozen BK292.out 3
      go_wp2_with (first | ((with_reducible refine gate_callee (f := 79) rfl ?_); refine goesL_ (some 14) rfl rfl Try.func79 (by kernel_rfl) rfl #[.agg #[.int .i64 a0_0, .int .i64 a0_1, .bool a0_2, .slice A0_3 l0_3.length c0_3], .int .i64 x4_1] rfl (by (try simp only [List.map_toArray, List.map_cons, List.map_nil]); first | done | rfl | (simp only [List.length_drop, List.length_take]; rfl)) ?_; (with_reducible refine (thermionref01_has.calls k1 a0_0 a0_1 a0_2 _ _ l0_3 x4_1 false _ ?side1 ?side2 A8.out).mono ?_); (case side1 => repeat (first | exact (Kd.C_below HR0_3.out HB.out) | (with_reducible refine Kd.C_alloc ?_ _) | (with_reducible refine Kd.C_drewN ?_ _) | (with_reducible refine Kd.C_drew ?_))); (case side2 => exact HC0_3.out); rintro e w15 ⟨rfl, hb⟩; refine ⟨_, rfl, ?_⟩; have n0_ := Aside0.mk (Kd.R_below (by (with_reducible repeat (first | apply Kd.R_alloc | apply Kd.R_drewN | apply Kd.R_drew)); exact HO_3.out) hb); have n1_ := Aside0.mk (blk_below (g := gb292) (o := .cells #[.int .i64 a0_0, .int .i64 a0_1, .bool a0_2, .slice A0_3 l0_3.length c0_3] 24 (0, 0)) (by (with_reducible repeat (first | refine blk_drewN ?_ _ | refine blk_drew ?_ | refine blk_alloc ?_ _)); exact BK292.out) hb); have n2_ := Aside0.mk (below_step (by repeat (first | (with_reducible first | exact HB.out | apply below_alloc | apply pw_below_drewN | apply below_drew1 | refine below_set ?_ GE292.out) | exact HB.out)) hb); clear HO_3; clear BK292; clear HB; have HO_3 := n0_; have BK292 := n1_; have HB := n2_; clear n0_ n1_ n2_; (try clear hb); (try clear hb2); (try clear hk); (try clear hi)))
      go_roundg k1
      case measure => have := HK1.out; omega
      case rel => exact ⟨(x3_1), (wrap64 (x4_1 + 1)), (by first | rfl | (simp; done) | (simp [*]; done)), H', ⟨by have := HK1.out; omega⟩, ⟨by (with_reducible repeat (first | apply Kd.R_alloc | apply Kd.R_drewN | apply Kd.R_drew)); exact HO_3.out⟩, ⟨by (with_reducible repeat (first | refine blk_drewN ?_ _ | refine blk_drew ?_ | refine blk_alloc ?_ _)); exact BK292.out⟩, ⟨by repeat (first | (with_reducible first | exact HB.out | apply below_alloc | apply pw_below_drewN | apply below_drew1 | refine below_set ?_ GE292.out) | exact HB.out)⟩⟩
    ·rw [if_neg c7] at H
     have c7b0 := decide_eq_false c7
     clear c7
     obtain rfl := Option.some.inj H
     go_wp2
     go_ret
     exact ⟨_, by first | rfl | (simp [errW_none, errW_some] <;> rfl) | (simp [*, errW_none, errW_some] <;> rfl), by (with_reducible repeat (first | apply Kd.R_alloc | apply Kd.R_drewN | apply Kd.R_drew)); exact HO_3.out, by repeat (first | (with_reducible first | exact HB.out | apply below_alloc | apply pw_below_drewN | apply below_drew1 | refine below_set ?_ GE292.out) | exact HB.out)⟩
 ·rw [if_neg c3] at H
  have c3b0 : (t293 == 0) = false := beq_eq_false_iff_ne.mpr c3
  have c3b1 : (t293 != 0) = true := bne_iff_ne.mpr c3
  obtain rfl := Option.some.inj H
  go_enter Try.func45, Try.ntmps45
  go_wp2_with (first | ((with_reducible refine gate_dst (N := 1) rfl ?_); refine box_event ?hg (N := 1) ?hd (cs := #[.int .i64 a0_0, .int .i64 a0_1, .bool a0_2, .slice A0_3 l0_3.length c0_3]) (t := 24) ?hr ?_; (case hd => rfl); (case hg => rfl); (case hr => first | (go_simp; done) | (go_simp; rfl)); intro gb292 hg w16 hbox hb; have n0_ := Aside0.mk (below_step (by repeat (first | (with_reducible first | exact HB.out | apply below_alloc | apply pw_below_drewN | apply below_drew1) | exact HB.out)) hb); have n1_ := Aside0.mk (hbox); have n2_ := Aside0.mk ((by rw [hg]; exact (below_size (by repeat (first | (with_reducible first | exact HB.out | apply below_alloc | apply pw_below_drewN | apply below_drew1) | exact HB.out))) : w.heap.size ≤ gb292)); have n3_ := Aside0.mk ((by rw [hg]; exact (below_size (by repeat (first | (with_reducible first | exact HB.out | apply below_alloc | apply pw_below_drewN | apply below_drew1) | exact HB.out))) : w.heap.size ≤ gb292)); clear HB; have HB := n0_; have BK292 := n1_; have GW292 := n2_; have GE292 := n3_; clear n0_ n1_ n2_ n3_; clear hb hbox hg; have hcz17_0 : w16.cell? ⟨gb292, 0, none⟩ = some (.int .i64 a0_0) := (blk_cell BK292.out 0).trans rfl; have hcz17_1 : w16.cell? ⟨gb292, 1, none⟩ = some (.int .i64 a0_1) := (blk_cell BK292.out 1).trans rfl; have hcz17_2 : w16.cell? ⟨gb292, 2, none⟩ = some (.bool a0_2) := (blk_cell BK292.out 2).trans rfl; have hcz17_3 : w16.cell? ⟨gb292, 3, none⟩ = some (.slice A0_3 l0_3.length c0_3) := (blk_cell BK292.out 3).trans rfl; have hfz17_0 := blk_frozen BK292.out 0; have hfz17_1 := blk_frozen BK292.out 1; have hfz17_2 := blk_frozen BK292.out 2; have hfz17_3 := blk_frozen BK292.out 3) | ((with_reducible refine gate_callee (f := 40) rfl ?_); refine goesL_ (some 6) rfl rfl Try.func40 (by kernel_rfl) rfl #[.agg #[.int .i64 a0_0, .int .i64 a0_1, .bool a0_2, .slice A0_3 l0_3.length c0_3]] rfl (by (try simp only [List.map_toArray, List.map_cons, List.map_nil]); first | done | rfl | (simp only [List.length_drop, List.length_take]; rfl)) ?_; (with_reducible refine (thermionref01_Check.calls k a0_0 a0_1 a0_2 _ _ l0_3 t293 _ ?side1 ?side2 A2.out).mono ?_); (case side1 => repeat (first | exact (Kd.C_below HR0_3.out HB.out) | (with_reducible refine Kd.C_alloc ?_ _) | (with_reducible refine Kd.C_drewN ?_ _) | (with_reducible refine Kd.C_drew ?_))); (case side2 => exact HC0_3.out); rintro e w18 ⟨rfl, hb⟩; refine ⟨_, rfl, ?_⟩; have n0_ := Aside0.mk (blk_below (g := gb292) (o := .cells #[.int .i64 a0_0, .int .i64 a0_1, .bool a0_2, .slice A0_3 l0_3.length c0_3] 24 (0, 0)) (by (with_reducible repeat (first | refine blk_drewN ?_ _ | refine blk_drew ?_ | refine blk_alloc ?_ _)); exact BK292.out) hb); have n1_ := Aside0.mk (below_step (by repeat (first | (with_reducible first | exact HB.out | apply below_alloc | apply pw_below_drewN | apply below_drew1 | refine below_set ?_ GE292.out) | exact HB.out)) hb); clear BK292; clear HB; have BK292 := n0_; have HB := n1_; clear n0_ n1_; (try clear hb); (try clear hb2); (try clear hk); (try clear hi)))
  go_ret
  exact ⟨_, by first | rfl | (simp [errW_none, errW_some] <;> rfl) | (simp [*, errW_none, errW_some] <;> rfl), by first | exact Kd.R_nil _ _ _ _ _ | exact Kd.N_nil _ _ _ _ _ | exact Kd.V_nil _ _ _ _ _ | exact Kd.Q_nil _ _ _ _ _ | exact Kd.S_nil _ _ _ _ _, by repeat (first | (with_reducible first | exact HB.out | apply below_alloc | apply pw_below_drewN | apply below_drew1 | refine below_set ?_ GE292.out) | exact HB.out)⟩
def thermionref01_Weight.f (k : Nat) (a0_0 : Int) (a0_1 : Int) (a0_2 : Bool) (l0_3 : List Int) (a1 : Int) (a2 : Int) : Option (Int) := (thermionref01_Check.f k a0_0 a0_1 a0_2 l0_3).bind fun t309 => (if t309 = 0 then ((thermionref01_weight.f k a0_0 a0_1 a0_2 l0_3 a1 a2).bind fun t310 => (some t310)) else (some 0))
set_option maxHeartbeats 8000000 in
set_option maxRecDepth 100000 in
theorem thermionref01_Weight.calls (k : Nat) (a0_0 : Int) (a0_1 : Int) (a0_2 : Bool) (A0_3 : Option Addr) (c0_3 : Nat) (l0_3 : List Int) (a1 : Int) (a2 : Int) (r : Int) (w : World) (hr0_3 : Kd.C (Kd.int .i64) w A0_3 l0_3.length l0_3) (hc0_3 : l0_3.length ≤ c0_3) (h : thermionref01_Weight.f k a0_0 a0_1 a0_2 l0_3 a1 a2 = some r) :
  Calls Try.prog 33 #[.agg #[.int .i64 a0_0, .int .i64 a0_1, .bool a0_2, .slice A0_3 l0_3.length c0_3], .int .i64 a1, .int .i64 a2] w fun e w' => e = .returned (.int .i64 r) ∧ Below w.heap.size w w' := by
 have hu24 := Try.underlying24
 have HR0_3 := Aside0.mk hr0_3
 have HC0_3 := Aside0.mk hc0_3
 clear hr0_3 hc0_3
 have HB := Aside0.mk (Below.refl w.heap.size w)
 have H : ((thermionref01_Check.f k a0_0 a0_1 a0_2 l0_3).bind fun t309 => (if t309 = 0 then ((thermionref01_weight.f k a0_0 a0_1 a0_2 l0_3 a1 a2).bind fun t310 => (some t310)) else (some 0))) = some r := h
 clear h
 replace H := Option.bind_eq_some_iff.mp H
 obtain ⟨t309, A40, H⟩ := H
 replace H : (if t309 = 0 then ((thermionref01_weight.f k a0_0 a0_1 a0_2 l0_3 a1 a2).bind fun t310 => (some t310)) else (some 0)) = some r := H
 have A4 := Aside0.mk A40
 clear A40
 by_cases c5 : t309 = 0
 ·rw [if_pos c5] at H
  have c5b0 : (t309 == 0) = true := beq_iff_eq.mpr c5
  have c5b1 : (t309 != 0) = false := bne_eq_false_iff_eq.mpr c5
  clear c5
  replace H := Option.bind_eq_some_iff.mp H
  obtain ⟨t310, A60, H⟩ := H
  replace H : (some t310) = some r := H
  have A6 := Aside0.mk A60
  clear A60
  obtain rfl := Option.some.inj H
  go_enter Try.func33, Try.ntmps33
  go_wp2_with (first | ((with_reducible refine gate_dst (N := 3) rfl ?_); refine box_event ?hg (N := 3) ?hd (cs := #[.int .i64 a0_0, .int .i64 a0_1, .bool a0_2, .slice A0_3 l0_3.length c0_3]) (t := 24) ?hr ?_; (case hd => rfl); (case hg => rfl); (case hr => first | (go_simp; done) | (go_simp; rfl)); intro gb308 hg w7 hbox hb; have n0_ := Aside0.mk (below_step (by repeat (first | (with_reducible first | exact HB.out | apply below_alloc | apply pw_below_drewN | apply below_drew1) | exact HB.out)) hb); have n1_ := Aside0.mk (hbox); have n2_ := Aside0.mk ((by rw [hg]; exact (below_size (by repeat (first | (with_reducible first | exact HB.out | apply below_alloc | apply pw_below_drewN | apply below_drew1) | exact HB.out))) : w.heap.size ≤ gb308)); have n3_ := Aside0.mk ((by rw [hg]; exact (below_size (by repeat (first | (with_reducible first | exact HB.out | apply below_alloc | apply pw_below_drewN | apply below_drew1) | exact HB.out))) : w.heap.size ≤ gb308)); clear HB; have HB := n0_; have BK308 := n1_; have GW308 := n2_; have GE308 := n3_; clear n0_ n1_ n2_ n3_; clear hb hbox hg; have hcz8_0 : w7.cell? ⟨gb308, 0, none⟩ = some (.int .i64 a0_0) := (blk_cell BK308.out 0).trans rfl; have hcz8_1 : w7.cell? ⟨gb308, 1, none⟩ = some (.int .i64 a0_1) := (blk_cell BK308.out 1).trans rfl; have hcz8_2 : w7.cell? ⟨gb308, 2, none⟩ = some (.bool a0_2) := (blk_cell BK308.out 2).trans rfl; have hcz8_3 : w7.cell? ⟨gb308, 3, none⟩ = some (.slice A0_3 l0_3.length c0_3) := (blk_cell BK308.out 3).trans rfl; have hfz8_0 := blk_frozen BK308.out 0; have hfz8_1 := blk_frozen BK308.out 1; have hfz8_2 := blk_frozen BK308.out 2; have hfz8_3 := blk_frozen BK308.out 3) | ((with_reducible refine gate_callee (f := 40) rfl ?_); refine goesL_ (some 8) rfl rfl Try.func40 (by kernel_rfl) rfl #[.agg #[.int .i64 a0_0, .int .i64 a0_1, .bool a0_2, .slice A0_3 l0_3.length c0_3]] rfl (by (try simp only [List.map_toArray, List.map_cons, List.map_nil]); first | done | rfl | (simp only [List.length_drop, List.length_take]; rfl)) ?_; (with_reducible refine (thermionref01_Check.calls k a0_0 a0_1 a0_2 _ _ l0_3 t309 _ ?side1 ?side2 A4.out).mono ?_); (case side1 => repeat (first | exact (Kd.C_below HR0_3.out HB.out) | (with_reducible refine Kd.C_alloc ?_ _) | (with_reducible refine Kd.C_drewN ?_ _) | (with_reducible refine Kd.C_drew ?_))); (case side2 => exact HC0_3.out); rintro e w9 ⟨rfl, hb⟩; refine ⟨_, rfl, ?_⟩; have n0_ := Aside0.mk (blk_below (g := gb308) (o := .cells #[.int .i64 a0_0, .int .i64 a0_1, .bool a0_2, .slice A0_3 l0_3.length c0_3] 24 (0, 0)) (by (with_reducible repeat (first | refine blk_drewN ?_ _ | refine blk_drew ?_ | refine blk_alloc ?_ _)); exact BK308.out) hb); have n1_ := Aside0.mk (below_step (by repeat (first | (with_reducible first | exact HB.out | apply below_alloc | apply pw_below_drewN | apply below_drew1 | refine below_set ?_ GE308.out) | exact HB.out)) hb); clear BK308; clear HB; have BK308 := n0_; have HB := n1_; clear n0_ n1_; (try clear hb); (try clear hb2); (try clear hk); (try clear hi); have hcz10_0 : w9.cell? ⟨gb308, 0, none⟩ = some (.int .i64 a0_0) := (blk_cell BK308.out 0).trans rfl; have hcz10_1 : w9.cell? ⟨gb308, 1, none⟩ = some (.int .i64 a0_1) := (blk_cell BK308.out 1).trans rfl; have hcz10_2 : w9.cell? ⟨gb308, 2, none⟩ = some (.bool a0_2) := (blk_cell BK308.out 2).trans rfl; have hcz10_3 : w9.cell? ⟨gb308, 3, none⟩ = some (.slice A0_3 l0_3.length c0_3) := (blk_cell BK308.out 3).trans rfl; have hfz10_0 := blk_frozen BK308.out 0; have hfz10_1 := blk_frozen BK308.out 1; have hfz10_2 := blk_frozen BK308.out 2; have hfz10_3 := blk_frozen BK308.out 3) | ((with_reducible refine gate_callee (f := 81) rfl ?_); refine goesL_ (some 13) rfl rfl Try.func81 (by kernel_rfl) rfl #[.agg #[.int .i64 a0_0, .int .i64 a0_1, .bool a0_2, .slice A0_3 l0_3.length c0_3], .int .i64 a1, .int .i64 a2] rfl (by (try simp only [List.map_toArray, List.map_cons, List.map_nil]); first | done | rfl | (simp only [List.length_drop, List.length_take]; rfl)) ?_; (with_reducible refine (thermionref01_weight.calls k a0_0 a0_1 a0_2 _ _ l0_3 a1 a2 t310 _ ?side1 ?side2 A6.out).mono ?_); (case side1 => repeat (first | exact (Kd.C_below HR0_3.out HB.out) | (with_reducible refine Kd.C_alloc ?_ _) | (with_reducible refine Kd.C_drewN ?_ _) | (with_reducible refine Kd.C_drew ?_))); (case side2 => exact HC0_3.out); rintro e w11 ⟨rfl, hb⟩; refine ⟨_, rfl, ?_⟩; have n0_ := Aside0.mk (blk_below (g := gb308) (o := .cells #[.int .i64 a0_0, .int .i64 a0_1, .bool a0_2, .slice A0_3 l0_3.length c0_3] 24 (0, 0)) (by (with_reducible repeat (first | refine blk_drewN ?_ _ | refine blk_drew ?_ | refine blk_alloc ?_ _)); exact BK308.out) hb); have n1_ := Aside0.mk (below_step (by repeat (first | (with_reducible first | exact HB.out | apply below_alloc | apply pw_below_drewN | apply below_drew1 | refine below_set ?_ GE308.out) | exact HB.out)) hb); clear BK308; clear HB; have BK308 := n0_; have HB := n1_; clear n0_ n1_; (try clear hb); (try clear hb2); (try clear hk); (try clear hi)))
  go_ret
  exact ⟨by first | rfl | (simp [errW_none, errW_some] <;> rfl) | (simp [*, errW_none, errW_some] <;> rfl), by repeat (first | (with_reducible first | exact HB.out | apply below_alloc | apply pw_below_drewN | apply below_drew1 | refine below_set ?_ GE308.out) | exact HB.out)⟩
 ·rw [if_neg c5] at H
  have c5b0 : (t309 == 0) = false := beq_eq_false_iff_ne.mpr c5
  have c5b1 : (t309 != 0) = true := bne_iff_ne.mpr c5
  obtain rfl := Option.some.inj H
  go_enter Try.func33, Try.ntmps33
  go_wp2_with (first | ((with_reducible refine gate_dst (N := 3) rfl ?_); refine box_event ?hg (N := 3) ?hd (cs := #[.int .i64 a0_0, .int .i64 a0_1, .bool a0_2, .slice A0_3 l0_3.length c0_3]) (t := 24) ?hr ?_; (case hd => rfl); (case hg => rfl); (case hr => first | (go_simp; done) | (go_simp; rfl)); intro gb308 hg w12 hbox hb; have n0_ := Aside0.mk (below_step (by repeat (first | (with_reducible first | exact HB.out | apply below_alloc | apply pw_below_drewN | apply below_drew1) | exact HB.out)) hb); have n1_ := Aside0.mk (hbox); have n2_ := Aside0.mk ((by rw [hg]; exact (below_size (by repeat (first | (with_reducible first | exact HB.out | apply below_alloc | apply pw_below_drewN | apply below_drew1) | exact HB.out))) : w.heap.size ≤ gb308)); have n3_ := Aside0.mk ((by rw [hg]; exact (below_size (by repeat (first | (with_reducible first | exact HB.out | apply below_alloc | apply pw_below_drewN | apply below_drew1) | exact HB.out))) : w.heap.size ≤ gb308)); clear HB; have HB := n0_; have BK308 := n1_; have GW308 := n2_; have GE308 := n3_; clear n0_ n1_ n2_ n3_; clear hb hbox hg; have hcz13_0 : w12.cell? ⟨gb308, 0, none⟩ = some (.int .i64 a0_0) := (blk_cell BK308.out 0).trans rfl; have hcz13_1 : w12.cell? ⟨gb308, 1, none⟩ = some (.int .i64 a0_1) := (blk_cell BK308.out 1).trans rfl; have hcz13_2 : w12.cell? ⟨gb308, 2, none⟩ = some (.bool a0_2) := (blk_cell BK308.out 2).trans rfl; have hcz13_3 : w12.cell? ⟨gb308, 3, none⟩ = some (.slice A0_3 l0_3.length c0_3) := (blk_cell BK308.out 3).trans rfl; have hfz13_0 := blk_frozen BK308.out 0; have hfz13_1 := blk_frozen BK308.out 1; have hfz13_2 := blk_frozen BK308.out 2; have hfz13_3 := blk_frozen BK308.out 3) | ((with_reducible refine gate_callee (f := 40) rfl ?_); refine goesL_ (some 8) rfl rfl Try.func40 (by kernel_rfl) rfl #[.agg #[.int .i64 a0_0, .int .i64 a0_1, .bool a0_2, .slice A0_3 l0_3.length c0_3]] rfl (by (try simp only [List.map_toArray, List.map_cons, List.map_nil]); first | done | rfl | (simp only [List.length_drop, List.length_take]; rfl)) ?_; (with_reducible refine (thermionref01_Check.calls k a0_0 a0_1 a0_2 _ _ l0_3 t309 _ ?side1 ?side2 A4.out).mono ?_); (case side1 => repeat (first | exact (Kd.C_below HR0_3.out HB.out) | (with_reducible refine Kd.C_alloc ?_ _) | (with_reducible refine Kd.C_drewN ?_ _) | (with_reducible refine Kd.C_drew ?_))); (case side2 => exact HC0_3.out); rintro e w14 ⟨rfl, hb⟩; refine ⟨_, rfl, ?_⟩; have n0_ := Aside0.mk (blk_below (g := gb308) (o := .cells #[.int .i64 a0_0, .int .i64 a0_1, .bool a0_2, .slice A0_3 l0_3.length c0_3] 24 (0, 0)) (by (with_reducible repeat (first | refine blk_drewN ?_ _ | refine blk_drew ?_ | refine blk_alloc ?_ _)); exact BK308.out) hb); have n1_ := Aside0.mk (below_step (by repeat (first | (with_reducible first | exact HB.out | apply below_alloc | apply pw_below_drewN | apply below_drew1 | refine below_set ?_ GE308.out) | exact HB.out)) hb); clear BK308; clear HB; have BK308 := n0_; have HB := n1_; clear n0_ n1_; (try clear hb); (try clear hb2); (try clear hk); (try clear hi)))
  go_ret
  exact ⟨by first | rfl | (simp [errW_none, errW_some] <;> rfl) | (simp [*, errW_none, errW_some] <;> rfl), by repeat (first | (with_reducible first | exact HB.out | apply below_alloc | apply pw_below_drewN | apply below_drew1 | refine below_set ?_ GE308.out) | exact HB.out)⟩
def thermionlaw01_weights.l0 : Nat → Int → Int → Int → List Int → Int → Int → Int → Bool → List Int → Int → Int → Bool → List Int → Option (Bool)
 | 0, _, _, _, _, _, _, _, _, _, _, _, _, _ => none
 | k + 1, x2, x3, x11, x12, x13, x312000, x312001, x312002, x312003, x322000, x322001, x322002, x322003 => if x13 < (x12.length : Int) then (if 0 ≤ x13 then ((field_Weight.f x322000 x322001 x322002 x322003 x11 (rd x12 x13)).bind fun t330 => ((thermionref01_Weight.f k x322000 x322001 x322002 x322003 x11 (rd x12 x13)).bind fun t332 => (if t330 = t332 then (thermionlaw01_weights.l0 k x2 x3 x11 x12 (wrap64 (x13 + 1)) x312000 x312001 x312002 x312003 x322000 x322001 x322002 x322003) else (some false)))) else (none)) else ((field_Weight.f x312000 x312001 x312002 x312003 x2 x3).bind fun t327 => ((thermionref01_Weight.f k x312000 x312001 x312002 x312003 x2 x3).bind fun t328 => (some (t327 == t328))))
def thermionlaw01_weights.f (k : Nat) (a0_0 : Int) (a0_1 : Int) (a0_2 : Bool) (l0_3 : List Int) (l1 : List Int) (a2 : Int) (a3 : Int) : Option (Bool) := (thermionkit_NewDice.f l1).bind fun t312 => ((thermionkit_PlanOf.f t312 8 6).bind fun bt314 => ((thermionkit_Mod.f a2 (bt314.2.2.2.1.length : Int)).bind fun t322 => ((thermionkit_Mod.f a3 (bt314.2.2.2.1.length : Int)).bind fun t323 => (thermionlaw01_weights.l0 k a2 a3 t322 (([a3, t323, wrap64 (t322 - 1), wrap64 (t322 + 1), wrap64 (t322 - bt314.1), wrap64 (t322 + bt314.1)] : List Int)) 0 a0_0 a0_1 a0_2 l0_3 bt314.1 bt314.2.1 bt314.2.2.1 bt314.2.2.2.1))))
def thermionlaw01_weights.T4 : Bool × List (List Nat × List Nat) := (true, [([], []), ([], []), ([], []), ([1, 2], [1, 2]), ([], []), ([4], [4]), ([], []), ([6], [6]), ([], []), ([], []), ([9], [9]), ([8, 10], [8, 10]), ([], []), ([], []), ([13], [13]), ([12, 14], [12, 14]), ([0, 3, 5, 7, 11, 15], [0, 3, 5, 7, 11, 15]), ([16, 3, 0, 1, 2, 3, 4, 5, 6, 7, 8, 9, 10, 11, 12, 13, 14, 15, 16], [16])])
def thermionlaw01_weights.B4 : List Nat := [0, 0, 0, 6, 0, 16, 0, 64, 0, 0, 512, 1792, 0, 0, 8192, 28672, 65535, 131071]
theorem thermionlaw01_weights.tab4 : rtab .any (opsOf Try.f48 4) = thermionlaw01_weights.T4 := by kernel_rfl
theorem thermionlaw01_weights.bits4 : waitsOk thermionlaw01_weights.T4.2 thermionlaw01_weights.B4 = true := by kernel_rfl
def thermionlaw01_weights.T8 : Bool × List (List Nat × List Nat) := (true, [([], []), ([], []), ([], []), ([], []), ([2, 3], [2, 3]), ([4], [4]), ([0, 1, 5], [0, 1, 5]), ([], []), ([], []), ([], []), ([], []), ([9, 10], [9, 10]), ([11], [11]), ([7, 8, 12, 6], [7, 8, 12]), ([6, 13], [6, 13])])
def thermionlaw01_weights.B8 : List Nat := [0, 0, 0, 0, 12, 28, 63, 0, 0, 0, 0, 1536, 3584, 8191, 16383]
theorem thermionlaw01_weights.tab8 : rtab .any (opsOf Try.f48 8) = thermionlaw01_weights.T8 := by kernel_rfl
theorem thermionlaw01_weights.bits8 : waitsOk thermionlaw01_weights.T8.2 thermionlaw01_weights.B8 = true := by kernel_rfl
def thermionlaw01_weights.T10 : Bool × List (List Nat × List Nat) := (true, [([], []), ([], []), ([], []), ([0, 1, 2], [0, 1, 2]), ([], []), ([], []), ([], []), ([4, 5, 6, 3], [4, 5, 6]), ([3, 7], [3, 7]), ([8, 7, 0, 1, 2, 3, 4, 5, 6, 7, 8], [8])])
def thermionlaw01_weights.B10 : List Nat := [0, 0, 0, 7, 0, 0, 0, 127, 255, 511]
theorem thermionlaw01_weights.tab10 : rtab .any (opsOf Try.f48 10) = thermionlaw01_weights.T10 := by kernel_rfl
theorem thermionlaw01_weights.bits10 : waitsOk thermionlaw01_weights.T10.2 thermionlaw01_weights.B10 = true := by kernel_rfl
set_option maxHeartbeats 8000000 in
set_option maxRecDepth 100000 in
theorem thermionlaw01_weights.calls (k : Nat) (a0_0 : Int) (a0_1 : Int) (a0_2 : Bool) (A0_3 : Option Addr) (c0_3 : Nat) (l0_3 : List Int) (A1 : Option Addr) (c1 : Nat) (l1 : List Int) (a2 : Int) (a3 : Int) (r : Bool) (w : World) (hr0_3 : Kd.C (Kd.int .i64) w A0_3 l0_3.length l0_3) (hc0_3 : l0_3.length ≤ c0_3) (hr1 : Kd.C (Kd.int .i64) w A1 l1.length l1) (hc1 : l1.length ≤ c1) (h : thermionlaw01_weights.f k a0_0 a0_1 a0_2 l0_3 l1 a2 a3 = some r) :
  Calls Try.prog 48 #[.agg #[.int .i64 a0_0, .int .i64 a0_1, .bool a0_2, .slice A0_3 l0_3.length c0_3], .slice A1 l1.length c1, .int .i64 a2, .int .i64 a3] w fun e w' => e = .returned (.bool r) ∧ Below w.heap.size w w' := by
 have hu24 := Try.underlying24
 have HR0_3 := Aside0.mk hr0_3
 have HC0_3 := Aside0.mk hc0_3
 clear hr0_3 hc0_3
 have HR1 := Aside0.mk hr1
 have HC1 := Aside0.mk hc1
 clear hr1 hc1
 have HB := Aside0.mk (Below.refl w.heap.size w)
 have H : ((thermionkit_NewDice.f l1).bind fun t312 => ((thermionkit_PlanOf.f t312 8 6).bind fun bt314 => ((thermionkit_Mod.f a2 (bt314.2.2.2.1.length : Int)).bind fun t322 => ((thermionkit_Mod.f a3 (bt314.2.2.2.1.length : Int)).bind fun t323 => (thermionlaw01_weights.l0 k a2 a3 t322 (([a3, t323, wrap64 (t322 - 1), wrap64 (t322 + 1), wrap64 (t322 - bt314.1), wrap64 (t322 + bt314.1)] : List Int)) 0 a0_0 a0_1 a0_2 l0_3 bt314.1 bt314.2.1 bt314.2.2.1 bt314.2.2.2.1))))) = some r := h
 clear h
 replace H := Option.bind_eq_some_iff.mp H
 obtain ⟨t312, A50, H⟩ := H
 replace H : ((thermionkit_PlanOf.f t312 8 6).bind fun bt314 => ((thermionkit_Mod.f a2 (bt314.2.2.2.1.length : Int)).bind fun t322 => ((thermionkit_Mod.f a3 (bt314.2.2.2.1.length : Int)).bind fun t323 => (thermionlaw01_weights.l0 k a2 a3 t322 (([a3, t323, wrap64 (t322 - 1), wrap64 (t322 + 1), wrap64 (t322 - bt314.1), wrap64 (t322 + bt314.1)] : List Int)) 0 a0_0 a0_1 a0_2 l0_3 bt314.1 bt314.2.1 bt314.2.2.1 bt314.2.2.2.1)))) = some r := H
 have A5 := Aside0.mk A50
 clear A50
 replace H := Option.bind_eq_some_iff.mp H
 obtain ⟨⟨t314, t315, t316, t317, t320⟩, A60, H⟩ := H
 replace H : ((thermionkit_Mod.f a2 (t317.length : Int)).bind fun t322 => ((thermionkit_Mod.f a3 (t317.length : Int)).bind fun t323 => (thermionlaw01_weights.l0 k a2 a3 t322 (([a3, t323, wrap64 (t322 - 1), wrap64 (t322 + 1), wrap64 (t322 - t314), wrap64 (t322 + t314)] : List Int)) 0 a0_0 a0_1 a0_2 l0_3 t314 t315 t316 t317))) = some r := H
 have A6 := Aside0.mk A60
 clear A60
 replace H := Option.bind_eq_some_iff.mp H
 obtain ⟨t322, A70, H⟩ := H
 replace H : ((thermionkit_Mod.f a3 (t317.length : Int)).bind fun t323 => (thermionlaw01_weights.l0 k a2 a3 t322 (([a3, t323, wrap64 (t322 - 1), wrap64 (t322 + 1), wrap64 (t322 - t314), wrap64 (t322 + t314)] : List Int)) 0 a0_0 a0_1 a0_2 l0_3 t314 t315 t316 t317)) = some r := H
 have A7 := Aside0.mk A70
 clear A70
 replace H := Option.bind_eq_some_iff.mp H
 obtain ⟨t323, A80, H⟩ := H
 replace H : (thermionlaw01_weights.l0 k a2 a3 t322 (([a3, t323, wrap64 (t322 - 1), wrap64 (t322 + 1), wrap64 (t322 - t314), wrap64 (t322 + t314)] : List Int)) 0 a0_0 a0_1 a0_2 l0_3 t314 t315 t316 t317) = some r := H
 have A8 := Aside0.mk A80
 clear A80
 obtain ⟨y324, hy324⟩ : ∃ y_ : List Int, y_ = (([a3, t323, wrap64 (t322 - 1), wrap64 (t322 + 1), wrap64 (t322 - t314), wrap64 (t322 + t314)] : List Int)) := ⟨_, rfl⟩
 replace H : (thermionlaw01_weights.l0 k a2 a3 t322 y324 0 a0_0 a0_1 a0_2 l0_3 t314 t315 t316 t317) = some r := by first | (rw [hy324]; with_reducible exact H) | (have H2_ := (Option.bind_some _ _).symm.trans H; rw [hy324]; with_reducible exact H2_) | (have H2_ := (Option.bind_some _ _).symm.trans H; with_reducible exact H2_) | with_reducible exact H | (rw [hy324]; exact H) | exact H
 have Ny324 := Aside0.mk hy324
 clear hy324
 have H' := Aside0.mk H
 clear H
 go_enter Try.func48, Try.ntmps48
 try go_wp2_with (first | ((with_reducible refine gate_dst (N := 4) rfl ?_); refine box_event ?hg (N := 4) ?hd (cs := #[.int .i64 a0_0, .int .i64 a0_1, .bool a0_2, .slice A0_3 l0_3.length c0_3]) (t := 24) ?hr ?_; (case hd => rfl); (case hg => rfl); (case hr => first | (go_simp; done) | (go_simp; rfl)); intro gb311 hg w9 hbox hb; have n0_ := Aside0.mk (below_step (by repeat (first | (with_reducible first | exact HB.out | apply below_alloc | apply pw_below_drewN | apply below_drew1) | exact HB.out)) hb); have n1_ := Aside0.mk (hbox); have n2_ := Aside0.mk ((by rw [hg]; exact (below_size (by repeat (first | (with_reducible first | exact HB.out | apply below_alloc | apply pw_below_drewN | apply below_drew1) | exact HB.out))) : w.heap.size ≤ gb311)); have n3_ := Aside0.mk ((by rw [hg]; exact (below_size (by repeat (first | (with_reducible first | exact HB.out | apply below_alloc | apply pw_below_drewN | apply below_drew1) | exact HB.out))) : w.heap.size ≤ gb311)); clear HB; have HB := n0_; have BK311 := n1_; have GW311 := n2_; have GE311 := n3_; clear n0_ n1_ n2_ n3_; clear hb hbox hg) | ((with_reducible refine gate_callee (f := 21) rfl ?_); refine goesL_ (some 15) rfl rfl Try.func21 (by kernel_rfl) rfl #[.slice A1 l1.length c1] rfl (by (try simp only [List.map_toArray, List.map_cons, List.map_nil]); first | done | rfl | (simp only [List.length_drop, List.length_take]; rfl)) ?_; (with_reducible refine (thermionkit_NewDice.calls _ _ l1 t312 w _ ?side1 ?side2 ?side3 A5.out).mono ?_); (case side1 => repeat (first | (with_reducible first | exact HB.out | apply below_alloc | apply pw_below_drewN | apply below_drew1 | refine below_set ?_ GE311.out) | exact HB.out)); (case side2 => exact HR1.out); (case side3 => exact HC1.out); rintro e w10 ⟨g313, rfl, hi, hb, hb2⟩; refine ⟨_, rfl, ?_⟩; have n0_ := Aside0.mk (blk_below (g := gb311) (o := .cells #[.int .i64 a0_0, .int .i64 a0_1, .bool a0_2, .slice A0_3 l0_3.length c0_3] 24 (0, 0)) (by (with_reducible repeat (first | refine blk_drewN ?_ _ | refine blk_drew ?_ | refine blk_alloc ?_ _)); exact BK311.out) hb2); have n1_ := Aside0.mk (hb); have n2_ := Aside0.mk (hi); have n3_ := Aside0.mk (IsS79.ne_blk hi (blk_below (g := gb311) (o := .cells #[.int .i64 a0_0, .int .i64 a0_1, .bool a0_2, .slice A0_3 l0_3.length c0_3] 24 (0, 0)) (by (with_reducible repeat (first | refine blk_drewN ?_ _ | refine blk_drew ?_ | refine blk_alloc ?_ _)); exact BK311.out) hb2) (by decide)); have n4_ := Aside0.mk (Ne.symm (IsS79.ne_blk hi (blk_below (g := gb311) (o := .cells #[.int .i64 a0_0, .int .i64 a0_1, .bool a0_2, .slice A0_3 l0_3.length c0_3] 24 (0, 0)) (by (with_reducible repeat (first | refine blk_drewN ?_ _ | refine blk_drew ?_ | refine blk_alloc ?_ _)); exact BK311.out) hb2) (by decide))); clear BK311; clear HB; have BK311 := n0_; have HB := n1_; have HI313 := n2_; have NB313_311 := n3_; have NB311_313 := n4_; clear n0_ n1_ n2_ n3_ n4_; (try clear hb); (try clear hb2); (try clear hk); (try clear hi)) | ((with_reducible refine gate_callee (f := 22) rfl ?_); refine goesL_ (some 16) rfl rfl Try.func22 (by kernel_rfl) rfl #[.pointer (some ⟨g313, 0, none⟩), .int .i64 8, .int .i64 6] rfl (by (try simp only [List.map_toArray, List.map_cons, List.map_nil]); first | done | rfl | (simp only [List.length_drop, List.length_take]; rfl)) ?_; (with_reducible refine (thermionkit_PlanOf.calls g313 t312 8 6 t314 t315 t316 t317 t320 w _ ?side1 ?side2 A6.out).mono ?_); (case side1 => repeat (first | (with_reducible first | exact HI313.out | apply IsS79.alloc | apply IsS79.drewN | apply IsS79.drew | apply IsS79.set_0 | refine IsS79.far ?_ NB313_311.out _) | exact HI313.out)); (case side2 => repeat (first | (with_reducible first | exact HB.out | apply below_alloc | apply pw_below_drewN | apply below_drew1 | refine below_set ?_ (IsS79.ge HI313.out) | refine below_set ?_ GE311.out) | exact HB.out)); rintro e w11 ⟨v318, rfl, ho0, hi, hb, hk⟩; refine ⟨_, rfl, ?_⟩; have n0_ := Aside0.mk (KeepBut.blk hk (g' := gb311) (o := .cells #[.int .i64 a0_0, .int .i64 a0_1, .bool a0_2, .slice A0_3 l0_3.length c0_3] 24 (0, 0)) (by (with_reducible repeat (first | refine blk_drewN ?_ _ | refine blk_drew ?_ | refine blk_alloc ?_ _)); exact BK311.out) NB311_313.out (by simp)); have n1_ := Aside0.mk (Kd.R_lower ho0 (below_size (by repeat (first | (with_reducible first | exact HB.out | apply below_alloc | apply pw_below_drewN | apply below_drew1 | refine below_set ?_ (IsS79.ge HI313.out) | refine below_set ?_ GE311.out) | exact HB.out)))); have n2_ := Aside0.mk (hb); have n3_ := Aside0.mk (hi); clear BK311; clear HB; clear HI313; have BK311 := n0_; have HO319 := n1_; have HB := n2_; have HI313 := n3_; clear n0_ n1_ n2_ n3_; (try clear hb); (try clear hb2); (try clear hk); (try clear hi); (try clear ho0)) | ((with_reducible refine gate_dst (N := 9) rfl ?_); refine box_event ?hg (N := 9) ?hd (cs := #[.int .i64 0, .int .i64 0, .bool false, .slice none 0 0]) (t := 24) ?hr ?_; (case hd => rfl); (case hg => rfl); (case hr => first | (go_simp; done) | (go_simp; rfl)); intro gb321 hg w12 hbox hb; have n0_ := Aside0.mk (Kd.R_below (by (with_reducible repeat (first | apply Kd.R_alloc | apply Kd.R_drewN | apply Kd.R_drew)); exact HO319.out) hb); have n1_ := Aside0.mk (blk_below (g := gb311) (o := .cells #[.int .i64 a0_0, .int .i64 a0_1, .bool a0_2, .slice A0_3 l0_3.length c0_3] 24 (0, 0)) (by (with_reducible repeat (first | refine blk_drewN ?_ _ | refine blk_drew ?_ | refine blk_alloc ?_ _)); exact BK311.out) hb); have n2_ := Aside0.mk (IsS79.below (by repeat (first | (with_reducible first | exact HI313.out | apply IsS79.alloc | apply IsS79.drewN | apply IsS79.drew | apply IsS79.set_0 | refine IsS79.far ?_ NB313_311.out _) | exact HI313.out)) hb); have n3_ := Aside0.mk (below_step (by repeat (first | (with_reducible first | exact HB.out | apply below_alloc | apply pw_below_drewN | apply below_drew1 | refine below_set ?_ (IsS79.ge HI313.out) | refine below_set ?_ GE311.out) | exact HB.out)) hb); have n4_ := Aside0.mk (hbox); have n5_ := Aside0.mk ((by rw [hg]; exact (below_size (by repeat (first | (with_reducible first | exact HB.out | apply below_alloc | apply pw_below_drewN | apply below_drew1 | refine below_set ?_ (IsS79.ge HI313.out) | refine below_set ?_ GE311.out) | exact HB.out))) : w.heap.size ≤ gb321)); have n6_ := Aside0.mk ((by rw [hg]; exact (below_size (by repeat (first | (with_reducible first | exact HB.out | apply below_alloc | apply pw_below_drewN | apply below_drew1 | refine below_set ?_ (IsS79.ge HI313.out) | refine below_set ?_ GE311.out) | exact HB.out))) : w.heap.size ≤ gb321)); have n7_ := Aside0.mk ((by rw [hg]; exact Nat.ne_of_lt (blk_lt (g := gb311) (o := .cells #[.int .i64 a0_0, .int .i64 a0_1, .bool a0_2, .slice A0_3 l0_3.length c0_3] 24 (0, 0)) (by (with_reducible repeat (first | refine blk_drewN ?_ _ | refine blk_drew ?_ | refine blk_alloc ?_ _)); exact BK311.out)) : gb311 ≠ gb321)); have n8_ := Aside0.mk ((by rw [hg]; exact Nat.ne_of_gt (blk_lt (g := gb311) (o := .cells #[.int .i64 a0_0, .int .i64 a0_1, .bool a0_2, .slice A0_3 l0_3.length c0_3] 24 (0, 0)) (by (with_reducible repeat (first | refine blk_drewN ?_ _ | refine blk_drew ?_ | refine blk_alloc ?_ _)); exact BK311.out)) : gb321 ≠ gb311)); have n9_ := Aside0.mk ((by rw [hg]; exact Nat.ne_of_lt (IsS79.lt (show IsS79 w _ g313 t320 from by repeat (first | (with_reducible first | exact HI313.out | apply IsS79.alloc | apply IsS79.drewN | apply IsS79.drew | apply IsS79.set_0 | refine IsS79.far ?_ NB313_311.out _) | exact HI313.out))) : g313 ≠ gb321)); have n10_ := Aside0.mk ((by rw [hg]; exact Nat.ne_of_gt (IsS79.lt (show IsS79 w _ g313 t320 from by repeat (first | (with_reducible first | exact HI313.out | apply IsS79.alloc | apply IsS79.drewN | apply IsS79.drew | apply IsS79.set_0 | refine IsS79.far ?_ NB313_311.out _) | exact HI313.out))) : gb321 ≠ g313)); clear HO319; clear BK311; clear HI313; clear HB; have HO319 := n0_; have BK311 := n1_; have HI313 := n2_; have HB := n3_; have BK321 := n4_; have GW321 := n5_; have GE321 := n6_; have NB311_321 := n7_; have NB321_311 := n8_; have NB313_321 := n9_; have NB321_313 := n10_; clear n0_ n1_ n2_ n3_ n4_ n5_ n6_ n7_ n8_ n9_ n10_; clear hb hbox hg; have hnb13 := NB321_311.out; have hnc13 := NB311_321.out; have hnb14 := NB321_313.out; have hnc14 := NB313_321.out; have hcz15_0 : w12.cell? ⟨gb321, 0, none⟩ = some (.int .i64 0) := (blk_cell BK321.out 0).trans rfl; have hcz15_1 : w12.cell? ⟨gb321, 1, none⟩ = some (.int .i64 0) := (blk_cell BK321.out 1).trans rfl; have hcz15_2 : w12.cell? ⟨gb321, 2, none⟩ = some (.bool false) := (blk_cell BK321.out 2).trans rfl; have hcz15_3 : w12.cell? ⟨gb321, 3, none⟩ = some (.slice none 0 0) := (blk_cell BK321.out 3).trans rfl; have hfz15_0 := blk_frozen BK321.out 0; have hfz15_1 := blk_frozen BK321.out 1; have hfz15_2 := blk_frozen BK321.out 2; have hfz15_3 := blk_frozen BK321.out 3; obtain ⟨Ao16, co16, eo16⟩ := Kd.R_slice HO319.out; subst eo16) | ((with_reducible refine gate_callee (f := 28) rfl ?_); refine goesL_ (some 22) rfl rfl Try.func28 (by kernel_rfl) rfl #[.int .i64 a2, .int .i64 (t317.length : Int)] rfl (by (try simp only [List.map_toArray, List.map_cons, List.map_nil]); first | done | rfl | (simp only [List.length_drop, List.length_take]; rfl)) ?_; (with_reducible refine (thermionkit_Mod.calls a2 (t317.length : Int) t322 _ A7.out).mono ?_); rintro e w' ⟨rfl, ⟨nd, rfl⟩⟩; refine ⟨_, rfl, ?_⟩))
 have n0_ : Aside0 (Kd.R (Kd.int .i64) 3 ((((w12.setCell ⟨gb321, 0, none⟩ (.int .i64 t314)).setCell ⟨gb321, 1, none⟩ (.int .i64 t315)).setCell ⟨gb321, 2, none⟩ (.bool t316)).setCell ⟨gb321, 3, none⟩ (.slice Ao16 t317.length co16)) w.heap.size (fun _ => True) (.slice Ao16 t317.length co16) t317) := ⟨by (with_reducible repeat (first | apply Kd.R_alloc | apply Kd.R_drewN | apply Kd.R_drew)); exact Kd.R_mono (Kd.R_far (p := ⟨gb321, 3, none⟩) (Kd.R_far (p := ⟨gb321, 2, none⟩) (Kd.R_far (p := ⟨gb321, 1, none⟩) (Kd.R_far (p := ⟨gb321, 0, none⟩) (Kd.R_types HO319.out BK321.out (by decide)) (fun _ hk => hk.2) (.int .i64 t314)) (fun _ hk => hk.2) (.int .i64 t315)) (fun _ hk => hk.2) (.bool t316)) (fun _ hk => hk.2) (.slice Ao16 t317.length co16)) (fun _ hk => trivial)⟩
 have n1_ : Aside0 (((((w12.setCell ⟨gb321, 0, none⟩ (.int .i64 t314)).setCell ⟨gb321, 1, none⟩ (.int .i64 t315)).setCell ⟨gb321, 2, none⟩ (.bool t316)).setCell ⟨gb321, 3, none⟩ (.slice Ao16 t317.length co16)).heap[gb311]? = some (.cells #[.int .i64 a0_0, .int .i64 a0_1, .bool a0_2, .slice A0_3 l0_3.length c0_3] 24 (0, 0))) := ⟨by (with_reducible repeat (first | refine blk_drewN ?_ _ | refine blk_drew ?_ | refine blk_alloc ?_ _)); refine blk_far ?_ NB311_321.out _; (with_reducible repeat (first | refine blk_drewN ?_ _ | refine blk_drew ?_ | refine blk_alloc ?_ _)); refine blk_far ?_ NB311_321.out _; (with_reducible repeat (first | refine blk_drewN ?_ _ | refine blk_drew ?_ | refine blk_alloc ?_ _)); refine blk_far ?_ NB311_321.out _; (with_reducible repeat (first | refine blk_drewN ?_ _ | refine blk_drew ?_ | refine blk_alloc ?_ _)); refine blk_far ?_ NB311_321.out _; (with_reducible repeat (first | refine blk_drewN ?_ _ | refine blk_drew ?_ | refine blk_alloc ?_ _)); exact BK311.out⟩
 have n2_ : Aside0 (((((w12.setCell ⟨gb321, 0, none⟩ (.int .i64 t314)).setCell ⟨gb321, 1, none⟩ (.int .i64 t315)).setCell ⟨gb321, 2, none⟩ (.bool t316)).setCell ⟨gb321, 3, none⟩ (.slice Ao16 t317.length co16)).heap[gb321]? = some (.cells #[.int .i64 t314, .int .i64 t315, .bool t316, .slice Ao16 t317.length co16] 24 (0, 0))) := ⟨by (with_reducible repeat (first | refine blk_drewN ?_ _ | refine blk_drew ?_ | refine blk_alloc ?_ _)); refine blk_put (cs := #[.int .i64 t314, .int .i64 t315, .bool t316, .slice none 0 0]) ?_ 3 _ rfl; (with_reducible repeat (first | refine blk_drewN ?_ _ | refine blk_drew ?_ | refine blk_alloc ?_ _)); refine blk_put (cs := #[.int .i64 t314, .int .i64 t315, .bool false, .slice none 0 0]) ?_ 2 _ rfl; (with_reducible repeat (first | refine blk_drewN ?_ _ | refine blk_drew ?_ | refine blk_alloc ?_ _)); refine blk_put (cs := #[.int .i64 t314, .int .i64 0, .bool false, .slice none 0 0]) ?_ 1 _ rfl; (with_reducible repeat (first | refine blk_drewN ?_ _ | refine blk_drew ?_ | refine blk_alloc ?_ _)); refine blk_put (cs := #[.int .i64 0, .int .i64 0, .bool false, .slice none 0 0]) ?_ 0 _ rfl; (with_reducible repeat (first | refine blk_drewN ?_ _ | refine blk_drew ?_ | refine blk_alloc ?_ _)); exact BK321.out⟩
 have n3_ : Aside0 (IsS79 w ((((w12.setCell ⟨gb321, 0, none⟩ (.int .i64 t314)).setCell ⟨gb321, 1, none⟩ (.int .i64 t315)).setCell ⟨gb321, 2, none⟩ (.bool t316)).setCell ⟨gb321, 3, none⟩ (.slice Ao16 t317.length co16)) g313 t320) := ⟨by repeat (first | (with_reducible first | exact HI313.out | apply IsS79.alloc | apply IsS79.drewN | apply IsS79.drew | apply IsS79.set_0 | refine IsS79.far ?_ NB313_311.out _ | refine IsS79.far ?_ NB313_321.out _) | exact HI313.out)⟩
 have n4_ : Aside0 (Below w.heap.size w ((((w12.setCell ⟨gb321, 0, none⟩ (.int .i64 t314)).setCell ⟨gb321, 1, none⟩ (.int .i64 t315)).setCell ⟨gb321, 2, none⟩ (.bool t316)).setCell ⟨gb321, 3, none⟩ (.slice Ao16 t317.length co16))) := ⟨by repeat (first | (with_reducible first | exact HB.out | apply below_alloc | apply pw_below_drewN | apply below_drew1 | refine below_set ?_ (IsS79.ge HI313.out) | refine below_set ?_ GE311.out | refine below_set ?_ GE321.out) | exact HB.out)⟩
 (try clear HO319)
 (try clear BK311)
 (try clear BK321)
 (try clear HI313)
 (try clear HB)
 generalize ((((w12.setCell ⟨gb321, 0, none⟩ (.int .i64 t314)).setCell ⟨gb321, 1, none⟩ (.int .i64 t315)).setCell ⟨gb321, 2, none⟩ (.bool t316)).setCell ⟨gb321, 3, none⟩ (.slice Ao16 t317.length co16)) = w17 at n0_ n1_ n2_ n3_ n4_ ⊢
 have HO319 := n0_
 have BK311 := n1_
 have BK321 := n2_
 have HI313 := n3_
 have HB := n4_
 clear n0_ n1_ n2_ n3_ n4_
 (try (rw [drewN_self w17]; generalize hq_ : World.drewN w17 _ = w17; have n0_ : Aside0 (Kd.R (Kd.int .i64) 3 w17 w.heap.size (fun _ => True) (.slice Ao16 t317.length co16) t317) := ⟨by rw [← hq_]; exact (by (with_reducible repeat (first | apply Kd.R_alloc | apply Kd.R_drewN | apply Kd.R_drew)); exact HO319.out)⟩; have n1_ : Aside0 (w17.heap[gb311]? = some (.cells #[.int .i64 a0_0, .int .i64 a0_1, .bool a0_2, .slice A0_3 l0_3.length c0_3] 24 (0, 0))) := ⟨by rw [← hq_]; exact (by (with_reducible repeat (first | refine blk_drewN ?_ _ | refine blk_drew ?_ | refine blk_alloc ?_ _)); exact BK311.out)⟩; have n2_ : Aside0 (w17.heap[gb321]? = some (.cells #[.int .i64 t314, .int .i64 t315, .bool t316, .slice Ao16 t317.length co16] 24 (0, 0))) := ⟨by rw [← hq_]; exact (by (with_reducible repeat (first | refine blk_drewN ?_ _ | refine blk_drew ?_ | refine blk_alloc ?_ _)); exact BK321.out)⟩; have n3_ : Aside0 (IsS79 w w17 g313 t320) := ⟨by rw [← hq_]; exact (by repeat (first | (with_reducible first | exact HI313.out | apply IsS79.alloc | apply IsS79.drewN | apply IsS79.drew | apply IsS79.set_0 | refine IsS79.far ?_ NB313_311.out _ | refine IsS79.far ?_ NB313_321.out _) | exact HI313.out))⟩; have n4_ : Aside0 (Below w.heap.size w w17) := ⟨by rw [← hq_]; exact (by repeat (first | (with_reducible first | exact HB.out | apply below_alloc | apply pw_below_drewN | apply below_drew1 | refine below_set ?_ (IsS79.ge HI313.out) | refine below_set ?_ GE311.out | refine below_set ?_ GE321.out) | exact HB.out))⟩; clear HO319 BK311 BK321 HI313 HB hq_; have HO319 := n0_; have BK311 := n1_; have BK321 := n2_; have HI313 := n3_; have HB := n4_; clear n0_ n1_ n2_ n3_ n4_))
 have n0_ := Aside0.mk (Kd.R_drew HO319.out)
 have n1_ := Aside0.mk (blk_drew BK311.out)
 have n2_ := Aside0.mk (blk_drew BK321.out)
 have n3_ := Aside0.mk (IsS79.drew HI313.out)
 have n4_ := Aside0.mk (below_drew1 HB.out)
 clear HO319 BK311 BK321 HI313 HB
 have HO319 := n0_
 have BK311 := n1_
 have BK321 := n2_
 have HI313 := n3_
 have HB := n4_
 clear n0_ n1_ n2_ n3_ n4_
 refine start_ (n := 18) (S := fun w' => w'.cell? ⟨gb321, 0, none⟩ = some (.int .i64 t314) ∧ w'.cell? ⟨gb321, 1, none⟩ = some (.int .i64 t315) ∧ w'.cell? ⟨gb321, 2, none⟩ = some (.bool t316) ∧ w'.cell? ⟨gb321, 3, none⟩ = some (.slice Ao16 t317.length co16)) (ds := []) #[false, false, false, false, false, false, false, false, false, false, false, false, false, false, false, false, false, false] (by kernel_rfl) rfl rfl ⟨(blk_cell BK321.out 0).trans rfl, (blk_cell BK321.out 1).trans rfl, (blk_cell BK321.out 2).trans rfl, (blk_cell BK321.out 3).trans rfl⟩ (fun hHeld => ?_); refine with_tabW thermionlaw01_weights.tab4 thermionlaw01_weights.bits4 (fun HT_ HW_ => ?_)
 generalize w17.drew = w18 at HO319 BK311 BK321 HI313 HB hHeld ⊢
 refine pure_ (i := 0) (N := some 23) (v := ?_) (a' := ?_) (bS 18 1) rfl rfl (any_of HT_.out (by kernel_rfl)) (fun _ _ _ h => h) (Or.inl ⟨by rfl, ?_⟩) ?_ ?_; rotate_left; (· intro w'; go_simp; with_reducible rfl); rotate_left; (· simp only [Act.put, sT, sZ, sS, i64_w, i32_w]; rfl)
 refine pure_ (i := 1) (N := some 24) (v := ?_) (a' := ?_) (bS 18 3) rfl rfl (any_of HT_.out (by kernel_rfl)) (fun _ _ _ h => h) (Or.inl ⟨by rfl, ?_⟩) ?_ ?_; rotate_left; (· intro w'; go_simp; with_reducible rfl); rotate_left; (· simp only [Act.put, sT, sZ, sS, i64_w, i32_w]; rfl)
 refine pure_ (i := 2) (N := some 25) (v := ?_) (a' := ?_) (bS 18 7) rfl rfl (any_of HT_.out (by kernel_rfl)) (fun _ _ _ h => h) (Or.inl ⟨by rfl, ?_⟩) ?_ ?_; rotate_left; (· intro w'; go_simp; with_reducible rfl); rotate_left; (· simp only [Act.put, sT, sZ, sS, i64_w, i32_w]; rfl)
 refine pure_ (i := 4) (N := some 27) (v := ?_) (a' := ?_) (bS 18 23) rfl rfl (any_of HT_.out (by kernel_rfl)) (fun _ _ _ h => h) (Or.inl ⟨by rfl, ?_⟩) ?_ ?_; rotate_left; (· intro w'; go_simp; with_reducible rfl); rotate_left; (· simp only [Act.put, sT, sZ, sS, i64_w, i32_w]; rfl)
 refine pure_ (i := 5) (N := some 28) (v := ?_) (a' := ?_) (bS 18 55) rfl rfl (any_of HT_.out (by kernel_rfl)) (fun _ _ _ h => h) (Or.inl ⟨by rfl, ?_⟩) ?_ ?_; rotate_left; (· intro w'; go_simp; with_reducible rfl); rotate_left; (· simp only [Act.put, sT, sZ, sS, i64_w, i32_w]; rfl)
 refine pure_ (i := 6) (N := some 29) (v := ?_) (a' := ?_) (bS 18 119) rfl rfl (any_of HT_.out (by kernel_rfl)) (fun _ _ _ h => h) (Or.inl ⟨by rfl, ?_⟩) ?_ ?_; rotate_left; (· intro w'; go_simp; with_reducible rfl); rotate_left; (· simp only [Act.put, sT, sZ, sS, i64_w, i32_w]; rfl)
 refine pure_ (i := 7) (N := some 30) (v := ?_) (a' := ?_) (bS 18 247) rfl rfl (any_of HT_.out (by kernel_rfl)) (fun _ _ _ h => h) (Or.inl ⟨by rfl, ?_⟩) ?_ ?_; rotate_left; (· intro w'; go_simp; with_reducible rfl); rotate_left; (· simp only [Act.put, sT, sZ, sS, i64_w, i32_w]; rfl)
 refine pure_ (i := 8) (N := some 31) (v := ?_) (a' := ?_) (bS 18 503) rfl rfl (any_of HT_.out (by kernel_rfl)) (fun _ _ _ h => h) (Or.inl ⟨by rfl, ?_⟩) ?_ ?_; rotate_left; (· intro w'; go_simp; with_reducible rfl); rotate_left; (· simp only [Act.put, sT, sZ, sS, i64_w, i32_w]; rfl)
 refine pure_ (i := 9) (N := some 32) (v := ?_) (a' := ?_) (bS 18 1015) rfl rfl (any_of HT_.out (by kernel_rfl)) (fun _ _ _ h => h) (Or.inl ⟨by rfl, ?_⟩) ?_ ?_; rotate_left; (· intro w'; go_simp; with_reducible rfl); rotate_left; (· simp only [Act.put, sT, sZ, sS, i64_w, i32_w]; rfl)
 refine pure_ (i := 12) (N := some 35) (v := ?_) (a' := ?_) (bS 18 5111) rfl rfl (any_of HT_.out (by kernel_rfl)) (fun _ _ _ h => h) (Or.inl ⟨by rfl, ?_⟩) ?_ ?_; rotate_left; (· intro w'; go_simp; with_reducible rfl); rotate_left; (· simp only [Act.put, sT, sZ, sS, i64_w, i32_w]; rfl)
 refine pure_ (i := 13) (N := some 36) (v := ?_) (a' := ?_) (bS 18 13303) rfl rfl (any_of HT_.out (by kernel_rfl)) (fun _ _ _ h => h) (Or.inl ⟨by rfl, ?_⟩) ?_ ?_; rotate_left; (· intro w'; go_simp; with_reducible rfl); rotate_left; (· simp only [Act.put, sT, sZ, sS, i64_w, i32_w]; rfl)
 refine take_ (i := 10) (N := some 33) (v := ?_) (a' := ?_) (bS 18 14327) rfl rfl (take_ofW HT_.out HW_.out (by kernel_rfl)) (fun _ _ _ h => h) (Or.inl ⟨by rfl, ?_⟩) hHeld ?_ ?_; rotate_left; (· rintro w' ⟨s0, s1, s2, s3⟩; go_simp; with_reducible rfl); rotate_left; (· simp only [Act.put, sT, sZ, sS, i64_w, i32_w]; rfl)
 refine pure_ (i := 11) (N := some 34) (v := ?_) (a' := ?_) (bS 18 16375) rfl rfl (any_of HT_.out (by kernel_rfl)) (fun _ _ _ h => h) (Or.inl ⟨by rfl, ?_⟩) ?_ ?_; rotate_left; (· intro w'; go_simp; with_reducible rfl); rotate_left; (· simp only [Act.put, sT, sZ, sS, i64_w, i32_w]; rfl)
 refine take_ (i := 14) (N := some 37) (v := ?_) (a' := ?_) (bS 18 32759) rfl rfl (take_ofW HT_.out HW_.out (by kernel_rfl)) (fun _ _ _ h => h) (Or.inl ⟨by rfl, ?_⟩) hHeld ?_ ?_; rotate_left; (· rintro w' ⟨s0, s1, s2, s3⟩; go_simp; with_reducible rfl); rotate_left; (· simp only [Act.put, sT, sZ, sS, i64_w, i32_w]; rfl)
 refine pure_ (i := 15) (N := some 38) (v := ?_) (a' := ?_) (bS 18 65527) rfl rfl (any_of HT_.out (by kernel_rfl)) (fun _ _ _ h => h) (Or.inl ⟨by rfl, ?_⟩) ?_ ?_; rotate_left; (· intro w'; go_simp; with_reducible rfl); rotate_left; (· simp only [Act.put, sT, sZ, sS, i64_w, i32_w]; rfl)
 refine one_ (i := 3) (N := some 26) (bS 18 65535) rfl rfl (one_of HT_.out (by kernel_rfl)) (by decide) (fun K hK => ?_)
 refine goes_ Try.func28 (by kernel_rfl) rfl #[.int .i64 a3, .int .i64 (t317.length : Int)] (by rfl) rfl rfl (by (try simp only [List.map_toArray, List.map_cons, List.map_nil]); first | done | rfl | (simp only [List.length_drop, List.length_take]; rfl)) ?_
 with_reducible refine (thermionkit_Mod.calls a3 (t317.length : Int) t323 _ A8.out).mono ?_
 rintro e w' ⟨rfl, ⟨nd, rfl⟩⟩
 refine ⟨_, rfl, ?_⟩
 refine hK.out _ _ ⟨(blk_cell BK321.out 0).trans rfl, (blk_cell BK321.out 1).trans rfl, (blk_cell BK321.out 2).trans rfl, (blk_cell BK321.out 3).trans rfl⟩ (fun hHeld => ?_)
 clear hK K
 refine norm_ (a' := ?_) ?_ ?_
 rotate_left
 ·show Act.put _ (some 26) _ = _
  simp only [Act.put, sT, sZ, sS, i64_w, i32_w]
  rfl
 refine one_ (i := 16) (N := some 39) (bS 18 131071) rfl rfl (one_of HT_.out (by kernel_rfl)) (by decide) (fun K hK => ?_)
 refine Kd.R_lit_step (Kd.int .i64) _ 3 ?hg (N := 39) ?hd (xs := ([a3, t323, wrap64 (t322 - 1), wrap64 (t322 + 1), wrap64 (t322 - t314), wrap64 (t322 + t314)] : List Int)) (inner := [.int .i64 a3, .int .i64 t323, .int .i64 (wrap64 (t322 - 1)), .int .i64 (wrap64 (t322 + 1)), .int .i64 (wrap64 (t322 - t314)), .int .i64 (wrap64 (t322 + t314))]) (ok := fun _ => True) (okp := fun _ => True) ?hr ?hp (fun _ hk => hk) trivial (Below.refl _ _) (Nat.le_refl _) (by simp) ?_; (case hd => rfl); (case hg => rfl); (case hr => first | (go_simp; done) | (go_simp; rfl)); (case hp => exact (Reps.one (show Kd.M (Kd.int .i64) _ _ _ a3 [.int .i64 a3] from rfl) (Reps.one (show Kd.M (Kd.int .i64) _ _ _ t323 [.int .i64 t323] from rfl) (Reps.one (show Kd.M (Kd.int .i64) _ _ _ (wrap64 (t322 - 1)) [.int .i64 (wrap64 (t322 - 1))] from rfl) (Reps.one (show Kd.M (Kd.int .i64) _ _ _ (wrap64 (t322 + 1)) [.int .i64 (wrap64 (t322 + 1))] from rfl) (Reps.one (show Kd.M (Kd.int .i64) _ _ _ (wrap64 (t322 - t314)) [.int .i64 (wrap64 (t322 - t314))] from rfl) (Reps.one (show Kd.M (Kd.int .i64) _ _ _ (wrap64 (t322 + t314)) [.int .i64 (wrap64 (t322 + t314))] from rfl) (Reps.none _ _))))))))
 intro v325 w19 ho20 hb hg_ hnew_
 clear hg_ hnew_
 (first | rw [← Ny324.out] at ho20 | (simp only [Int.reduceToNat] at ho20; rw [← Ny324.out] at ho20))
 have n0_ := Aside0.mk (Kd.R_elder' (by (with_reducible repeat (first | apply Kd.R_alloc | apply Kd.R_drewN | apply Kd.R_drew)); exact HO319.out) (Kd.R_base ho20) hb)
 have n1_ := Aside0.mk (Kd.R_lower (Kd.R_new' ho20 (Kd.R_lt (by (with_reducible repeat (first | apply Kd.R_alloc | apply Kd.R_drewN | apply Kd.R_drew)); exact HO319.out))) (below_size (by repeat (first | (with_reducible first | exact HB.out | apply below_alloc | apply pw_below_drewN | apply below_drew1 | refine below_set ?_ (IsS79.ge HI313.out) | refine below_set ?_ GE311.out | refine below_set ?_ GE321.out) | exact HB.out))))
 have n2_ := Aside0.mk (blk_below (g := gb311) (o := .cells #[.int .i64 a0_0, .int .i64 a0_1, .bool a0_2, .slice A0_3 l0_3.length c0_3] 24 (0, 0)) (by (with_reducible repeat (first | refine blk_drewN ?_ _ | refine blk_drew ?_ | refine blk_alloc ?_ _)); exact BK311.out) hb)
 have n3_ := Aside0.mk (IsS79.below (by repeat (first | (with_reducible first | exact HI313.out | apply IsS79.alloc | apply IsS79.drewN | apply IsS79.drew | apply IsS79.set_0 | refine IsS79.far ?_ NB313_311.out _ | refine IsS79.far ?_ NB313_321.out _) | exact HI313.out)) hb)
 have n4_ := Aside0.mk (blk_below (g := gb321) (o := .cells #[.int .i64 t314, .int .i64 t315, .bool t316, .slice Ao16 t317.length co16] 24 (0, 0)) (by (with_reducible repeat (first | refine blk_drewN ?_ _ | refine blk_drew ?_ | refine blk_alloc ?_ _)); exact BK321.out) hb)
 have n5_ := Aside0.mk (below_step (by repeat (first | (with_reducible first | exact HB.out | apply below_alloc | apply pw_below_drewN | apply below_drew1 | refine below_set ?_ (IsS79.ge HI313.out) | refine below_set ?_ GE311.out | refine below_set ?_ GE321.out) | exact HB.out)) hb)
 clear HO319 BK311 HI313 BK321 HB
 have HO319 := n0_
 have HO326 := n1_
 have BK311 := n2_
 have HI313 := n3_
 have BK321 := n4_
 have HB := n5_
 clear n0_ n1_ n2_ n3_ n4_ n5_ hb ho20
 refine hK.out _ _ ⟨(blk_cell BK321.out 0).trans rfl, (blk_cell BK321.out 1).trans rfl, (blk_cell BK321.out 2).trans rfl, (blk_cell BK321.out 3).trans rfl⟩ (fun hHeld => ?_)
 clear hK K
 refine norm_ (a' := ?_) ?_ ?_
 rotate_left
 ·show Act.put _ (some 39) _ = _
  simp only [Act.put, sT, sZ, sS, i64_w, i32_w]
  rfl
 refine pure_ (i := 17) (N := some 12) (v := ?_) (a' := ?_) (bS 18 262143) rfl rfl (any_of HT_.out (by kernel_rfl)) (fun _ _ _ h => h) (Or.inl ⟨by rfl, ?_⟩) ?_ ?_; rotate_left; (· intro w'; go_simp; with_reducible rfl); rotate_left; (· simp only [Act.put, sT, sZ, sS, i64_w, i32_w]; rfl)
 refine done_ (done_of HT_.out (by kernel_rfl)) ?_
 try go_wp2
 go_loopg [13] k (fun kq v13 w' => ∃ (x13_1 : Int), v13 = .int .i64 x13_1 ∧ Aside0 (thermionlaw01_weights.l0 kq a2 a3 t322 y324 x13_1 a0_0 a0_1 a0_2 l0_3 t314 t315 t316 t317 = some r) ∧ Aside0 (kq ≤ k) ∧ Aside0 (Kd.R (Kd.int .i64) 3 w' w.heap.size (fun k_ => some k_ ≠ ((.slice Ao16 t317.length co16) : Value).ownBlock) v325 y324) ∧ Aside0 (Kd.R (Kd.int .i64) 3 w' w.heap.size (fun k_ => some k_ ≠ (v325 : Value).ownBlock) (.slice Ao16 t317.length co16) t317) ∧ Aside0 (w'.heap[gb311]? = some (.cells #[.int .i64 a0_0, .int .i64 a0_1, .bool a0_2, (.slice A0_3 l0_3.length c0_3)] 24 (0, 0))) ∧ Aside0 (w'.heap[gb321]? = some (.cells #[.int .i64 t314, .int .i64 t315, .bool t316, (.slice Ao16 t317.length co16)] 24 (0, 0))) ∧ Aside0 (Below w.heap.size w w'))
 case atStart => exact ⟨(0), (by first | rfl | (simp; done) | (simp [*]; done)), H', ⟨Nat.le_refl _⟩, ⟨by (with_reducible repeat (first | apply Kd.R_alloc | apply Kd.R_drewN | apply Kd.R_drew)); exact Kd.R_mono HO326.out (fun _ hk => hk.2)⟩, ⟨by (with_reducible repeat (first | apply Kd.R_alloc | apply Kd.R_drewN | apply Kd.R_drew)); exact Kd.R_mono HO319.out (fun _ hk => hk.2)⟩, ⟨by (with_reducible repeat (first | refine blk_drewN ?_ _ | refine blk_drew ?_ | refine blk_alloc ?_ _)); exact BK311.out⟩, ⟨by (with_reducible repeat (first | refine blk_drewN ?_ _ | refine blk_drew ?_ | refine blk_alloc ?_ _)); exact BK321.out⟩, ⟨by repeat (first | (with_reducible first | exact HB.out | apply below_alloc | apply pw_below_drewN | apply below_drew1 | refine below_set ?_ (IsS79.ge HI313.out) | refine below_set ?_ GE311.out | refine below_set ?_ GE321.out) | exact HB.out)⟩⟩
 case round =>
  clear H'
  try clear c1
  try clear c2
  try clear p2
  try clear c4
  try clear p6
  try clear c13
  try clear c14
  try clear hcz15_0
  try clear hcz15_1
  try clear hcz15_2
  try clear hcz15_3
  try clear hfz15_0
  try clear hfz15_1
  try clear hfz15_2
  try clear hfz15_3
  obtain ⟨x13_1, rfl, HA, HK1, HO_12, HO_322003, BK311, BK321, HB⟩ := hrel
  cases gk with
  | zero => exact absurd HA.out (by simp [thermionlaw01_weights.l0])
  | succ k1 =>
   have H := HA.out
   clear HA
   simp only [thermionlaw01_weights.l0] at H
   by_cases c21 : x13_1 < (y324.length : Int)
   ·rw [if_pos c21] at H
    have c21b0 := decide_eq_true c21
    clear c21
    by_cases c22 : 0 ≤ x13_1
    ·rw [if_pos c22] at H
     have c22b0 := decide_eq_true c22
     clear c22
     replace H := Option.bind_eq_some_iff.mp H
     obtain ⟨t330, A230, H⟩ := H
     replace H : ((thermionref01_Weight.f k1 t314 t315 t316 t317 t322 (rd y324 x13_1)).bind fun t332 => (if t330 = t332 then (thermionlaw01_weights.l0 k1 a2 a3 t322 y324 (wrap64 (x13_1 + 1)) a0_0 a0_1 a0_2 l0_3 t314 t315 t316 t317) else (some false))) = some r := H
     have A23 := Aside0.mk A230
     clear A230
     replace H := Option.bind_eq_some_iff.mp H
     obtain ⟨t332, A240, H⟩ := H
     replace H : (if t330 = t332 then (thermionlaw01_weights.l0 k1 a2 a3 t322 y324 (wrap64 (x13_1 + 1)) a0_0 a0_1 a0_2 l0_3 t314 t315 t316 t317) else (some false)) = some r := H
     have A24 := Aside0.mk A240
     clear A240
     by_cases c25 : t330 = t332
     ·rw [if_pos c25] at H
      have c25b0 : (t330 == t332) = true := beq_iff_eq.mpr c25
      have c25b1 : (t330 != t332) = false := bne_eq_false_iff_eq.mpr c25
      clear c25
      have H' := Aside0.mk H
      clear H
      obtain ⟨Ao26, co26, eo26⟩ := Kd.R_slice HO_12.out
      subst eo26
      try go_wp2
      have n0_ := Aside0.mk (Kd.R_drew HO_12.out)
      have n1_ := Aside0.mk (Kd.R_drew HO_322003.out)
      have n2_ := Aside0.mk (blk_drew BK311.out)
      have n3_ := Aside0.mk (blk_drew BK321.out)
      have n4_ := Aside0.mk (below_drew1 HB.out)
      clear HO_12 HO_322003 BK311 BK321 HB
      have HO_12 := n0_
      have HO_322003 := n1_
      have BK311 := n2_
      have BK321 := n3_
      have HB := n4_
      clear n0_ n1_ n2_ n3_ n4_
      have p329 : 0 ≤ (x13_1 : Int) := of_decide_eq_true (by first | (with_reducible assumption) | assumption)
      have q329 : x13_1 < (y324.length : Int) := of_decide_eq_true (by first | (with_reducible assumption) | assumption)
      obtain ⟨ad329, e329, hx329_0⟩ := Kd.at_int (Kd.R_reads' HO_12.out).2.2 x13_1 p329 q329
      cases e329
      replace p329 := eq_true p329
      replace q329 := eq_true q329
      have p331 : 0 ≤ (x13_1 : Int) := of_decide_eq_true (by first | (with_reducible assumption) | assumption)
      have q331 : x13_1 < (y324.length : Int) := of_decide_eq_true (by first | (with_reducible assumption) | assumption)
      obtain ⟨ad331, e331, hx331_0⟩ := Kd.at_int (Kd.R_reads' HO_12.out).2.2 x13_1 p331 q331
      obtain rfl : ad329 = ad331 := (by injection e331)
      replace p331 := eq_true p331
      replace q331 := eq_true q331
      refine start_ (n := 15) (S := fun w' => w'.cell? ⟨gb321, 0, none⟩ = some (.int .i64 t314) ∧ w'.cell? ⟨gb321, 1, none⟩ = some (.int .i64 t315) ∧ w'.cell? ⟨gb321, 2, none⟩ = some (.bool t316) ∧ w'.cell? ⟨gb321, 3, none⟩ = some (.slice Ao16 t317.length co16) ∧ w'.cell? (ad329.add (x13_1).toNat) = some (.int .i64 (rd y324 x13_1)) ∧ w'.cell? (ad329.add (x13_1).toNat) = some (.int .i64 (rd y324 x13_1))) (ds := []) #[false, false, false, false, false, false, false, false, false, false, false, false, false, false, false] (by kernel_rfl) rfl rfl ⟨(blk_cell BK321.out 0).trans rfl, (blk_cell BK321.out 1).trans rfl, (blk_cell BK321.out 2).trans rfl, (blk_cell BK321.out 3).trans rfl, hx329_0, hx331_0⟩ (fun hHeld => ?_); refine with_tabW thermionlaw01_weights.tab8 thermionlaw01_weights.bits8 (fun HT_ HW_ => ?_)
      generalize wr.drew = w27 at HO_12 HO_322003 BK311 BK321 HB hx329_0 hx331_0 hHeld ⊢
      refine pure_ (i := 1) (N := some 47) (v := ?_) (a' := ?_) (bS 15 2) rfl rfl (any_of HT_.out (by kernel_rfl)) (fun _ _ _ h => h) (Or.inl ⟨by rfl, ?_⟩) ?_ ?_; rotate_left; (· intro w'; go_simp; with_reducible rfl); rotate_left; (· simp only [Act.put, sT, sZ, sS, i64_w, i32_w]; rfl)
      refine pure_ (i := 2) (N := some 48) (v := ?_) (a' := ?_) (bS 15 6) rfl rfl (any_of HT_.out (by kernel_rfl)) (fun _ _ _ h => h) (Or.inl ⟨by rfl, ?_⟩) ?_ ?_; rotate_left; (· intro w'; go_simp; with_reducible rfl); rotate_left; (· simp only [Act.put, sT, sZ, sS, i64_w, i32_w]; rfl)
      refine pure_ (i := 3) (N := some 49) (v := ?_) (a' := ?_) (bS 15 14) rfl rfl (any_of HT_.out (by kernel_rfl)) (fun _ _ _ h => h) (Or.inl ⟨by rfl, ?_⟩) ?_ ?_; rotate_left; (· intro w'; go_simp; with_reducible rfl); rotate_left; (· simp only [Act.put, sT, sZ, sS, i64_w, i32_w]; rfl)
      refine pure_ (i := 4) (N := some 50) (v := ?_) (a' := ?_) (bS 15 30) rfl rfl (any_of HT_.out (by kernel_rfl)) (fun _ _ _ h => h) (Or.inl ⟨by rfl, ?_⟩) ?_ ?_; rotate_left; (· intro w'; go_simp; with_reducible rfl); rotate_left; (· simp only [Act.put, sT, sZ, sS, i64_w, i32_w]; rfl)
      refine pure_ (i := 8) (N := some 54) (v := ?_) (a' := ?_) (bS 15 286) rfl rfl (any_of HT_.out (by kernel_rfl)) (fun _ _ _ h => h) (Or.inl ⟨by rfl, ?_⟩) ?_ ?_; rotate_left; (· intro w'; go_simp; with_reducible rfl); rotate_left; (· simp only [Act.put, sT, sZ, sS, i64_w, i32_w]; rfl)
      refine pure_ (i := 9) (N := some 55) (v := ?_) (a' := ?_) (bS 15 798) rfl rfl (any_of HT_.out (by kernel_rfl)) (fun _ _ _ h => h) (Or.inl ⟨by rfl, ?_⟩) ?_ ?_; rotate_left; (· intro w'; go_simp; with_reducible rfl); rotate_left; (· simp only [Act.put, sT, sZ, sS, i64_w, i32_w]; rfl)
      refine pure_ (i := 10) (N := some 56) (v := ?_) (a' := ?_) (bS 15 1822) rfl rfl (any_of HT_.out (by kernel_rfl)) (fun _ _ _ h => h) (Or.inl ⟨by rfl, ?_⟩) ?_ ?_; rotate_left; (· intro w'; go_simp; with_reducible rfl); rotate_left; (· simp only [Act.put, sT, sZ, sS, i64_w, i32_w]; rfl)
      refine pure_ (i := 11) (N := some 57) (v := ?_) (a' := ?_) (bS 15 3870) rfl rfl (any_of HT_.out (by kernel_rfl)) (fun _ _ _ h => h) (Or.inl ⟨by rfl, ?_⟩) ?_ ?_; rotate_left; (· intro w'; go_simp; with_reducible rfl); rotate_left; (· simp only [Act.put, sT, sZ, sS, i64_w, i32_w]; rfl)
      refine take_ (i := 0) (N := some 46) (v := ?_) (a' := ?_) (bS 15 3871) rfl rfl (take_ofW HT_.out HW_.out (by kernel_rfl)) (fun _ _ _ h => h) (Or.inl ⟨by rfl, ?_⟩) hHeld ?_ ?_; rotate_left; (· rintro w' ⟨s0, s1, s2, s3, s4, s5⟩; go_simp; with_reducible rfl); rotate_left; (· simp only [Act.put, sT, sZ, sS, i64_w, i32_w]; rfl)
      refine take_ (i := 5) (N := some 51) (v := ?_) (a' := ?_) (bS 15 3903) rfl rfl (take_ofW HT_.out HW_.out (by kernel_rfl)) (fun _ _ _ h => h) (Or.inl ⟨by rfl, ?_⟩) hHeld ?_ ?_; rotate_left; (· rintro w' ⟨s0, s1, s2, s3, s4, s5⟩; go_simp; with_reducible rfl); rotate_left; (· simp only [Act.put, sT, sZ, sS, i64_w, i32_w]; rfl)
      refine take_ (i := 7) (N := some 53) (v := ?_) (a' := ?_) (bS 15 4031) rfl rfl (take_ofW HT_.out HW_.out (by kernel_rfl)) (fun _ _ _ h => h) (Or.inl ⟨by rfl, ?_⟩) hHeld ?_ ?_; rotate_left; (· rintro w' ⟨s0, s1, s2, s3, s4, s5⟩; go_simp; with_reducible rfl); rotate_left; (· simp only [Act.put, sT, sZ, sS, i64_w, i32_w]; rfl)
      refine take_ (i := 12) (N := some 58) (v := ?_) (a' := ?_) (bS 15 8127) rfl rfl (take_ofW HT_.out HW_.out (by kernel_rfl)) (fun _ _ _ h => h) (Or.inl ⟨by rfl, ?_⟩) hHeld ?_ ?_; rotate_left; (· rintro w' ⟨s0, s1, s2, s3, s4, s5⟩; go_simp; with_reducible rfl); rotate_left; (· simp only [Act.put, sT, sZ, sS, i64_w, i32_w]; rfl)
      refine one_ (i := 6) (N := some 52) (bS 15 8191) rfl rfl (one_of HT_.out (by kernel_rfl)) (by decide) (fun K hK => ?_)
      refine goes_ Try.func63 (by kernel_rfl) rfl #[.agg #[.int .i64 t314, .int .i64 t315, .bool t316, .slice Ao16 t317.length co16], .int .i64 t322, .int .i64 (rd y324 x13_1)] (by rfl) rfl rfl (by (try simp only [List.map_toArray, List.map_cons, List.map_nil]); first | done | rfl | (simp only [List.length_drop, List.length_take]; rfl)) ?_
      with_reducible refine (field_Weight.calls t314 t315 t316 _ _ t317 t322 (rd y324 x13_1) t330 _ ?side1 ?side2 A23.out).mono ?_
      (case side1 => repeat (first | exact (Kd.R_reads' HO_322003.out).2.2 | (with_reducible refine Kd.C_alloc ?_ _) | (with_reducible refine Kd.C_drewN ?_ _) | (with_reducible refine Kd.C_drew ?_)))
      (case side2 => exact (Kd.R_reads' HO_322003.out).2.1)
      rintro e w28 ⟨rfl, hb⟩
      have HS4_ := (hb.cell (World.block_lt_of_cell? _ _ (hHeld.2.2.2.2.1))).trans (hHeld.2.2.2.2.1)
      have HS5_ := (hb.cell (World.block_lt_of_cell? _ _ (hHeld.2.2.2.2.2))).trans (hHeld.2.2.2.2.2)
      refine ⟨_, rfl, ?_⟩
      have n0_ := Aside0.mk (Kd.R_below (by (with_reducible repeat (first | apply Kd.R_alloc | apply Kd.R_drewN | apply Kd.R_drew)); exact HO_12.out) hb)
      have n1_ := Aside0.mk (Kd.R_below (by (with_reducible repeat (first | apply Kd.R_alloc | apply Kd.R_drewN | apply Kd.R_drew)); exact HO_322003.out) hb)
      have n2_ := Aside0.mk (blk_below (g := gb311) (o := .cells #[.int .i64 a0_0, .int .i64 a0_1, .bool a0_2, .slice A0_3 l0_3.length c0_3] 24 (0, 0)) (by (with_reducible repeat (first | refine blk_drewN ?_ _ | refine blk_drew ?_ | refine blk_alloc ?_ _)); exact BK311.out) hb)
      have n3_ := Aside0.mk (blk_below (g := gb321) (o := .cells #[.int .i64 t314, .int .i64 t315, .bool t316, .slice Ao16 t317.length co16] 24 (0, 0)) (by (with_reducible repeat (first | refine blk_drewN ?_ _ | refine blk_drew ?_ | refine blk_alloc ?_ _)); exact BK321.out) hb)
      have n4_ := Aside0.mk (below_step (by repeat (first | (with_reducible first | exact HB.out | apply below_alloc | apply pw_below_drewN | apply below_drew1 | refine below_set ?_ GE311.out | refine below_set ?_ GE321.out) | exact HB.out)) hb)
      clear HO_12 HO_322003 BK311 BK321 HB
      have HO_12 := n0_
      have HO_322003 := n1_
      have BK311 := n2_
      have BK321 := n3_
      have HB := n4_
      clear n0_ n1_ n2_ n3_ n4_
      (try clear hb)
      (try clear hb2)
      (try clear hk)
      (try clear hi)
      refine hK.out _ _ ⟨(blk_cell BK321.out 0).trans rfl, (blk_cell BK321.out 1).trans rfl, (blk_cell BK321.out 2).trans rfl, (blk_cell BK321.out 3).trans rfl, HS4_, HS5_⟩ (fun hHeld => ?_)
      clear hK K
      refine norm_ (a' := ?_) ?_ ?_
      rotate_left
      ·show Act.put _ (some 52) _ = _
       simp only [Act.put, sT, sZ, sS, i64_w, i32_w]
       rfl
      refine one_ (i := 13) (N := some 59) (bS 15 16383) rfl rfl (one_of HT_.out (by kernel_rfl)) (by decide) (fun K hK => ?_)
      refine goes_ Try.func33 (by kernel_rfl) rfl #[.agg #[.int .i64 t314, .int .i64 t315, .bool t316, .slice Ao16 t317.length co16], .int .i64 t322, .int .i64 (rd y324 x13_1)] (by rfl) rfl rfl (by (try simp only [List.map_toArray, List.map_cons, List.map_nil]); first | done | rfl | (simp only [List.length_drop, List.length_take]; rfl)) ?_
      with_reducible refine (thermionref01_Weight.calls k1 t314 t315 t316 _ _ t317 t322 (rd y324 x13_1) t332 _ ?side1 ?side2 A24.out).mono ?_
      (case side1 => repeat (first | exact (Kd.R_reads' HO_322003.out).2.2 | (with_reducible refine Kd.C_alloc ?_ _) | (with_reducible refine Kd.C_drewN ?_ _) | (with_reducible refine Kd.C_drew ?_)))
      (case side2 => exact (Kd.R_reads' HO_322003.out).2.1)
      rintro e w29 ⟨rfl, hb⟩
      have HS4_ := (hb.cell (World.block_lt_of_cell? _ _ (hHeld.2.2.2.2.1))).trans (hHeld.2.2.2.2.1)
      have HS5_ := (hb.cell (World.block_lt_of_cell? _ _ (hHeld.2.2.2.2.2))).trans (hHeld.2.2.2.2.2)
      refine ⟨_, rfl, ?_⟩
      have n0_ := Aside0.mk (Kd.R_below (by (with_reducible repeat (first | apply Kd.R_alloc | apply Kd.R_drewN | apply Kd.R_drew)); exact HO_12.out) hb)
      have n1_ := Aside0.mk (Kd.R_below (by (with_reducible repeat (first | apply Kd.R_alloc | apply Kd.R_drewN | apply Kd.R_drew)); exact HO_322003.out) hb)
      have n2_ := Aside0.mk (blk_below (g := gb311) (o := .cells #[.int .i64 a0_0, .int .i64 a0_1, .bool a0_2, .slice A0_3 l0_3.length c0_3] 24 (0, 0)) (by (with_reducible repeat (first | refine blk_drewN ?_ _ | refine blk_drew ?_ | refine blk_alloc ?_ _)); exact BK311.out) hb)
      have n3_ := Aside0.mk (blk_below (g := gb321) (o := .cells #[.int .i64 t314, .int .i64 t315, .bool t316, .slice Ao16 t317.length co16] 24 (0, 0)) (by (with_reducible repeat (first | refine blk_drewN ?_ _ | refine blk_drew ?_ | refine blk_alloc ?_ _)); exact BK321.out) hb)
      have n4_ := Aside0.mk (below_step (by repeat (first | (with_reducible first | exact HB.out | apply below_alloc | apply pw_below_drewN | apply below_drew1 | refine below_set ?_ GE311.out | refine below_set ?_ GE321.out) | exact HB.out)) hb)
      clear HO_12 HO_322003 BK311 BK321 HB
      have HO_12 := n0_
      have HO_322003 := n1_
      have BK311 := n2_
      have BK321 := n3_
      have HB := n4_
      clear n0_ n1_ n2_ n3_ n4_
      (try clear hb)
      (try clear hb2)
      (try clear hk)
      (try clear hi)
      refine hK.out _ _ ⟨(blk_cell BK321.out 0).trans rfl, (blk_cell BK321.out 1).trans rfl, (blk_cell BK321.out 2).trans rfl, (blk_cell BK321.out 3).trans rfl, HS4_, HS5_⟩ (fun hHeld => ?_)
      clear hK K
      refine norm_ (a' := ?_) ?_ ?_
      rotate_left
      ·show Act.put _ (some 59) _ = _
       simp only [Act.put, sT, sZ, sS, i64_w, i32_w]
       rfl
      refine pure_ (i := 14) (N := some 60) (v := ?_) (a' := ?_) (bS 15 32767) rfl rfl (any_of HT_.out (by kernel_rfl)) (fun _ _ _ h => h) (Or.inl ⟨by rfl, ?_⟩) ?_ ?_; rotate_left; (· intro w'; go_simp; with_reducible rfl); rotate_left; (· simp only [Act.put, sT, sZ, sS, i64_w, i32_w]; rfl)
      refine done_ (done_of HT_.out (by kernel_rfl)) ?_
      try go_wp2
      go_roundg k1
      case measure => have := HK1.out; omega
      case rel => exact ⟨(wrap64 (x13_1 + 1)), (by first | rfl | (simp; done) | (simp [*]; done)), H', ⟨by have := HK1.out; omega⟩, ⟨by (with_reducible repeat (first | apply Kd.R_alloc | apply Kd.R_drewN | apply Kd.R_drew)); exact HO_12.out⟩, ⟨by (with_reducible repeat (first | apply Kd.R_alloc | apply Kd.R_drewN | apply Kd.R_drew)); exact HO_322003.out⟩, ⟨by (with_reducible repeat (first | refine blk_drewN ?_ _ | refine blk_drew ?_ | refine blk_alloc ?_ _)); exact BK311.out⟩, ⟨by (with_reducible repeat (first | refine blk_drewN ?_ _ | refine blk_drew ?_ | refine blk_alloc ?_ _)); exact BK321.out⟩, ⟨by repeat (first | (with_reducible first | exact HB.out | apply below_alloc | apply pw_below_drewN | apply below_drew1 | refine below_set ?_ GE311.out | refine below_set ?_ GE321.out) | exact HB.out)⟩⟩
     ·rw [if_neg c25] at H
      have c25b0 : (t330 == t332) = false := beq_eq_false_iff_ne.mpr c25
      have c25b1 : (t330 != t332) = true := bne_iff_ne.mpr c25
      obtain rfl := Option.some.inj H
      obtain ⟨Ao30, co30, eo30⟩ := Kd.R_slice HO_12.out
      subst eo30
      try go_wp2
      have n0_ := Aside0.mk (Kd.R_drew HO_12.out)
      have n1_ := Aside0.mk (Kd.R_drew HO_322003.out)
      have n2_ := Aside0.mk (blk_drew BK311.out)
      have n3_ := Aside0.mk (blk_drew BK321.out)
      have n4_ := Aside0.mk (below_drew1 HB.out)
      clear HO_12 HO_322003 BK311 BK321 HB
      have HO_12 := n0_
      have HO_322003 := n1_
      have BK311 := n2_
      have BK321 := n3_
      have HB := n4_
      clear n0_ n1_ n2_ n3_ n4_
      have p329 : 0 ≤ (x13_1 : Int) := of_decide_eq_true (by first | (with_reducible assumption) | assumption)
      have q329 : x13_1 < (y324.length : Int) := of_decide_eq_true (by first | (with_reducible assumption) | assumption)
      obtain ⟨ad329, e329, hx329_0⟩ := Kd.at_int (Kd.R_reads' HO_12.out).2.2 x13_1 p329 q329
      cases e329
      replace p329 := eq_true p329
      replace q329 := eq_true q329
      have p331 : 0 ≤ (x13_1 : Int) := of_decide_eq_true (by first | (with_reducible assumption) | assumption)
      have q331 : x13_1 < (y324.length : Int) := of_decide_eq_true (by first | (with_reducible assumption) | assumption)
      obtain ⟨ad331, e331, hx331_0⟩ := Kd.at_int (Kd.R_reads' HO_12.out).2.2 x13_1 p331 q331
      obtain rfl : ad329 = ad331 := (by injection e331)
      replace p331 := eq_true p331
      replace q331 := eq_true q331
      refine start_ (n := 15) (S := fun w' => w'.cell? ⟨gb321, 0, none⟩ = some (.int .i64 t314) ∧ w'.cell? ⟨gb321, 1, none⟩ = some (.int .i64 t315) ∧ w'.cell? ⟨gb321, 2, none⟩ = some (.bool t316) ∧ w'.cell? ⟨gb321, 3, none⟩ = some (.slice Ao16 t317.length co16) ∧ w'.cell? (ad329.add (x13_1).toNat) = some (.int .i64 (rd y324 x13_1)) ∧ w'.cell? (ad329.add (x13_1).toNat) = some (.int .i64 (rd y324 x13_1))) (ds := []) #[false, false, false, false, false, false, false, false, false, false, false, false, false, false, false] (by kernel_rfl) rfl rfl ⟨(blk_cell BK321.out 0).trans rfl, (blk_cell BK321.out 1).trans rfl, (blk_cell BK321.out 2).trans rfl, (blk_cell BK321.out 3).trans rfl, hx329_0, hx331_0⟩ (fun hHeld => ?_); refine with_tabW thermionlaw01_weights.tab8 thermionlaw01_weights.bits8 (fun HT_ HW_ => ?_)
      generalize wr.drew = w31 at HO_12 HO_322003 BK311 BK321 HB hx329_0 hx331_0 hHeld ⊢
      refine pure_ (i := 1) (N := some 47) (v := ?_) (a' := ?_) (bS 15 2) rfl rfl (any_of HT_.out (by kernel_rfl)) (fun _ _ _ h => h) (Or.inl ⟨by rfl, ?_⟩) ?_ ?_; rotate_left; (· intro w'; go_simp; with_reducible rfl); rotate_left; (· simp only [Act.put, sT, sZ, sS, i64_w, i32_w]; rfl)
      refine pure_ (i := 2) (N := some 48) (v := ?_) (a' := ?_) (bS 15 6) rfl rfl (any_of HT_.out (by kernel_rfl)) (fun _ _ _ h => h) (Or.inl ⟨by rfl, ?_⟩) ?_ ?_; rotate_left; (· intro w'; go_simp; with_reducible rfl); rotate_left; (· simp only [Act.put, sT, sZ, sS, i64_w, i32_w]; rfl)
      refine pure_ (i := 3) (N := some 49) (v := ?_) (a' := ?_) (bS 15 14) rfl rfl (any_of HT_.out (by kernel_rfl)) (fun _ _ _ h => h) (Or.inl ⟨by rfl, ?_⟩) ?_ ?_; rotate_left; (· intro w'; go_simp; with_reducible rfl); rotate_left; (· simp only [Act.put, sT, sZ, sS, i64_w, i32_w]; rfl)
      refine pure_ (i := 4) (N := some 50) (v := ?_) (a' := ?_) (bS 15 30) rfl rfl (any_of HT_.out (by kernel_rfl)) (fun _ _ _ h => h) (Or.inl ⟨by rfl, ?_⟩) ?_ ?_; rotate_left; (· intro w'; go_simp; with_reducible rfl); rotate_left; (· simp only [Act.put, sT, sZ, sS, i64_w, i32_w]; rfl)
      refine pure_ (i := 8) (N := some 54) (v := ?_) (a' := ?_) (bS 15 286) rfl rfl (any_of HT_.out (by kernel_rfl)) (fun _ _ _ h => h) (Or.inl ⟨by rfl, ?_⟩) ?_ ?_; rotate_left; (· intro w'; go_simp; with_reducible rfl); rotate_left; (· simp only [Act.put, sT, sZ, sS, i64_w, i32_w]; rfl)
      refine pure_ (i := 9) (N := some 55) (v := ?_) (a' := ?_) (bS 15 798) rfl rfl (any_of HT_.out (by kernel_rfl)) (fun _ _ _ h => h) (Or.inl ⟨by rfl, ?_⟩) ?_ ?_; rotate_left; (· intro w'; go_simp; with_reducible rfl); rotate_left; (· simp only [Act.put, sT, sZ, sS, i64_w, i32_w]; rfl)
      refine pure_ (i := 10) (N := some 56) (v := ?_) (a' := ?_) (bS 15 1822) rfl rfl (any_of HT_.out (by kernel_rfl)) (fun _ _ _ h => h) (Or.inl ⟨by rfl, ?_⟩) ?_ ?_; rotate_left; (· intro w'; go_simp; with_reducible rfl); rotate_left; (· simp only [Act.put, sT, sZ, sS, i64_w, i32_w]; rfl)
      refine pure_ (i := 11) (N := some 57) (v := ?_) (a' := ?_) (bS 15 3870) rfl rfl (any_of HT_.out (by kernel_rfl)) (fun _ _ _ h => h) (Or.inl ⟨by rfl, ?_⟩) ?_ ?_; rotate_left; (· intro w'; go_simp; with_reducible rfl); rotate_left; (· simp only [Act.put, sT, sZ, sS, i64_w, i32_w]; rfl)
      refine take_ (i := 0) (N := some 46) (v := ?_) (a' := ?_) (bS 15 3871) rfl rfl (take_ofW HT_.out HW_.out (by kernel_rfl)) (fun _ _ _ h => h) (Or.inl ⟨by rfl, ?_⟩) hHeld ?_ ?_; rotate_left; (· rintro w' ⟨s0, s1, s2, s3, s4, s5⟩; go_simp; with_reducible rfl); rotate_left; (· simp only [Act.put, sT, sZ, sS, i64_w, i32_w]; rfl)
      refine take_ (i := 5) (N := some 51) (v := ?_) (a' := ?_) (bS 15 3903) rfl rfl (take_ofW HT_.out HW_.out (by kernel_rfl)) (fun _ _ _ h => h) (Or.inl ⟨by rfl, ?_⟩) hHeld ?_ ?_; rotate_left; (· rintro w' ⟨s0, s1, s2, s3, s4, s5⟩; go_simp; with_reducible rfl); rotate_left; (· simp only [Act.put, sT, sZ, sS, i64_w, i32_w]; rfl)
      refine take_ (i := 7) (N := some 53) (v := ?_) (a' := ?_) (bS 15 4031) rfl rfl (take_ofW HT_.out HW_.out (by kernel_rfl)) (fun _ _ _ h => h) (Or.inl ⟨by rfl, ?_⟩) hHeld ?_ ?_; rotate_left; (· rintro w' ⟨s0, s1, s2, s3, s4, s5⟩; go_simp; with_reducible rfl); rotate_left; (· simp only [Act.put, sT, sZ, sS, i64_w, i32_w]; rfl)
      refine take_ (i := 12) (N := some 58) (v := ?_) (a' := ?_) (bS 15 8127) rfl rfl (take_ofW HT_.out HW_.out (by kernel_rfl)) (fun _ _ _ h => h) (Or.inl ⟨by rfl, ?_⟩) hHeld ?_ ?_; rotate_left; (· rintro w' ⟨s0, s1, s2, s3, s4, s5⟩; go_simp; with_reducible rfl); rotate_left; (· simp only [Act.put, sT, sZ, sS, i64_w, i32_w]; rfl)
      refine one_ (i := 6) (N := some 52) (bS 15 8191) rfl rfl (one_of HT_.out (by kernel_rfl)) (by decide) (fun K hK => ?_)
      refine goes_ Try.func63 (by kernel_rfl) rfl #[.agg #[.int .i64 t314, .int .i64 t315, .bool t316, .slice Ao16 t317.length co16], .int .i64 t322, .int .i64 (rd y324 x13_1)] (by rfl) rfl rfl (by (try simp only [List.map_toArray, List.map_cons, List.map_nil]); first | done | rfl | (simp only [List.length_drop, List.length_take]; rfl)) ?_
      with_reducible refine (field_Weight.calls t314 t315 t316 _ _ t317 t322 (rd y324 x13_1) t330 _ ?side1 ?side2 A23.out).mono ?_
      (case side1 => repeat (first | exact (Kd.R_reads' HO_322003.out).2.2 | (with_reducible refine Kd.C_alloc ?_ _) | (with_reducible refine Kd.C_drewN ?_ _) | (with_reducible refine Kd.C_drew ?_)))
      (case side2 => exact (Kd.R_reads' HO_322003.out).2.1)
      rintro e w32 ⟨rfl, hb⟩
      have HS4_ := (hb.cell (World.block_lt_of_cell? _ _ (hHeld.2.2.2.2.1))).trans (hHeld.2.2.2.2.1)
      have HS5_ := (hb.cell (World.block_lt_of_cell? _ _ (hHeld.2.2.2.2.2))).trans (hHeld.2.2.2.2.2)
      refine ⟨_, rfl, ?_⟩
      have n0_ := Aside0.mk (Kd.R_below (by (with_reducible repeat (first | apply Kd.R_alloc | apply Kd.R_drewN | apply Kd.R_drew)); exact HO_12.out) hb)
      have n1_ := Aside0.mk (Kd.R_below (by (with_reducible repeat (first | apply Kd.R_alloc | apply Kd.R_drewN | apply Kd.R_drew)); exact HO_322003.out) hb)
      have n2_ := Aside0.mk (blk_below (g := gb311) (o := .cells #[.int .i64 a0_0, .int .i64 a0_1, .bool a0_2, .slice A0_3 l0_3.length c0_3] 24 (0, 0)) (by (with_reducible repeat (first | refine blk_drewN ?_ _ | refine blk_drew ?_ | refine blk_alloc ?_ _)); exact BK311.out) hb)
      have n3_ := Aside0.mk (blk_below (g := gb321) (o := .cells #[.int .i64 t314, .int .i64 t315, .bool t316, .slice Ao16 t317.length co16] 24 (0, 0)) (by (with_reducible repeat (first | refine blk_drewN ?_ _ | refine blk_drew ?_ | refine blk_alloc ?_ _)); exact BK321.out) hb)
      have n4_ := Aside0.mk (below_step (by repeat (first | (with_reducible first | exact HB.out | apply below_alloc | apply pw_below_drewN | apply below_drew1 | refine below_set ?_ GE311.out | refine below_set ?_ GE321.out) | exact HB.out)) hb)
      clear HO_12 HO_322003 BK311 BK321 HB
      have HO_12 := n0_
      have HO_322003 := n1_
      have BK311 := n2_
      have BK321 := n3_
      have HB := n4_
      clear n0_ n1_ n2_ n3_ n4_
      (try clear hb)
      (try clear hb2)
      (try clear hk)
      (try clear hi)
      refine hK.out _ _ ⟨(blk_cell BK321.out 0).trans rfl, (blk_cell BK321.out 1).trans rfl, (blk_cell BK321.out 2).trans rfl, (blk_cell BK321.out 3).trans rfl, HS4_, HS5_⟩ (fun hHeld => ?_)
      clear hK K
      refine norm_ (a' := ?_) ?_ ?_
      rotate_left
      ·show Act.put _ (some 52) _ = _
       simp only [Act.put, sT, sZ, sS, i64_w, i32_w]
       rfl
      refine one_ (i := 13) (N := some 59) (bS 15 16383) rfl rfl (one_of HT_.out (by kernel_rfl)) (by decide) (fun K hK => ?_)
      refine goes_ Try.func33 (by kernel_rfl) rfl #[.agg #[.int .i64 t314, .int .i64 t315, .bool t316, .slice Ao16 t317.length co16], .int .i64 t322, .int .i64 (rd y324 x13_1)] (by rfl) rfl rfl (by (try simp only [List.map_toArray, List.map_cons, List.map_nil]); first | done | rfl | (simp only [List.length_drop, List.length_take]; rfl)) ?_
      with_reducible refine (thermionref01_Weight.calls k1 t314 t315 t316 _ _ t317 t322 (rd y324 x13_1) t332 _ ?side1 ?side2 A24.out).mono ?_
      (case side1 => repeat (first | exact (Kd.R_reads' HO_322003.out).2.2 | (with_reducible refine Kd.C_alloc ?_ _) | (with_reducible refine Kd.C_drewN ?_ _) | (with_reducible refine Kd.C_drew ?_)))
      (case side2 => exact (Kd.R_reads' HO_322003.out).2.1)
      rintro e w33 ⟨rfl, hb⟩
      have HS4_ := (hb.cell (World.block_lt_of_cell? _ _ (hHeld.2.2.2.2.1))).trans (hHeld.2.2.2.2.1)
      have HS5_ := (hb.cell (World.block_lt_of_cell? _ _ (hHeld.2.2.2.2.2))).trans (hHeld.2.2.2.2.2)
      refine ⟨_, rfl, ?_⟩
      have n0_ := Aside0.mk (Kd.R_below (by (with_reducible repeat (first | apply Kd.R_alloc | apply Kd.R_drewN | apply Kd.R_drew)); exact HO_12.out) hb)
      have n1_ := Aside0.mk (Kd.R_below (by (with_reducible repeat (first | apply Kd.R_alloc | apply Kd.R_drewN | apply Kd.R_drew)); exact HO_322003.out) hb)
      have n2_ := Aside0.mk (blk_below (g := gb311) (o := .cells #[.int .i64 a0_0, .int .i64 a0_1, .bool a0_2, .slice A0_3 l0_3.length c0_3] 24 (0, 0)) (by (with_reducible repeat (first | refine blk_drewN ?_ _ | refine blk_drew ?_ | refine blk_alloc ?_ _)); exact BK311.out) hb)
      have n3_ := Aside0.mk (blk_below (g := gb321) (o := .cells #[.int .i64 t314, .int .i64 t315, .bool t316, .slice Ao16 t317.length co16] 24 (0, 0)) (by (with_reducible repeat (first | refine blk_drewN ?_ _ | refine blk_drew ?_ | refine blk_alloc ?_ _)); exact BK321.out) hb)
      have n4_ := Aside0.mk (below_step (by repeat (first | (with_reducible first | exact HB.out | apply below_alloc | apply pw_below_drewN | apply below_drew1 | refine below_set ?_ GE311.out | refine below_set ?_ GE321.out) | exact HB.out)) hb)
      clear HO_12 HO_322003 BK311 BK321 HB
      have HO_12 := n0_
      have HO_322003 := n1_
      have BK311 := n2_
      have BK321 := n3_
      have HB := n4_
      clear n0_ n1_ n2_ n3_ n4_
      (try clear hb)
      (try clear hb2)
      (try clear hk)
      (try clear hi)
      refine hK.out _ _ ⟨(blk_cell BK321.out 0).trans rfl, (blk_cell BK321.out 1).trans rfl, (blk_cell BK321.out 2).trans rfl, (blk_cell BK321.out 3).trans rfl, HS4_, HS5_⟩ (fun hHeld => ?_)
      clear hK K
      refine norm_ (a' := ?_) ?_ ?_
      rotate_left
      ·show Act.put _ (some 59) _ = _
       simp only [Act.put, sT, sZ, sS, i64_w, i32_w]
       rfl
      refine pure_ (i := 14) (N := some 60) (v := ?_) (a' := ?_) (bS 15 32767) rfl rfl (any_of HT_.out (by kernel_rfl)) (fun _ _ _ h => h) (Or.inl ⟨by rfl, ?_⟩) ?_ ?_; rotate_left; (· intro w'; go_simp; with_reducible rfl); rotate_left; (· simp only [Act.put, sT, sZ, sS, i64_w, i32_w]; rfl)
      refine done_ (done_of HT_.out (by kernel_rfl)) ?_
      try go_wp2
      go_ret
      exact ⟨by first | rfl | (simp [errW_none, errW_some] <;> rfl) | (simp [*, errW_none, errW_some] <;> rfl), by repeat (first | (with_reducible first | exact HB.out | apply below_alloc | apply pw_below_drewN | apply below_drew1 | refine below_set ?_ GE311.out | refine below_set ?_ GE321.out) | exact HB.out)⟩
    ·rw [if_neg c22] at H
     exact absurd H (by simp)
   ·rw [if_neg c21] at H
    have c21b0 := decide_eq_false c21
    clear c21
    replace H := Option.bind_eq_some_iff.mp H
    obtain ⟨t327, A340, H⟩ := H
    replace H : ((thermionref01_Weight.f k1 a0_0 a0_1 a0_2 l0_3 a2 a3).bind fun t328 => (some (t327 == t328))) = some r := H
    have A34 := Aside0.mk A340
    clear A340
    replace H := Option.bind_eq_some_iff.mp H
    obtain ⟨t328, A350, H⟩ := H
    replace H : (some (t327 == t328)) = some r := H
    have A35 := Aside0.mk A350
    clear A350
    obtain rfl := Option.some.inj H
    obtain ⟨Ao36, co36, eo36⟩ := Kd.R_slice HO_12.out
    subst eo36
    try go_wp2
    have n0_ := Aside0.mk (Kd.R_drew HO_12.out)
    have n1_ := Aside0.mk (Kd.R_drew HO_322003.out)
    have n2_ := Aside0.mk (blk_drew BK311.out)
    have n3_ := Aside0.mk (blk_drew BK321.out)
    have n4_ := Aside0.mk (below_drew1 HB.out)
    clear HO_12 HO_322003 BK311 BK321 HB
    have HO_12 := n0_
    have HO_322003 := n1_
    have BK311 := n2_
    have BK321 := n3_
    have HB := n4_
    clear n0_ n1_ n2_ n3_ n4_
    refine start_ (n := 10) (S := fun w' => w'.cell? ⟨gb311, 0, none⟩ = some (.int .i64 a0_0) ∧ w'.cell? ⟨gb311, 1, none⟩ = some (.int .i64 a0_1) ∧ w'.cell? ⟨gb311, 2, none⟩ = some (.bool a0_2) ∧ w'.cell? ⟨gb311, 3, none⟩ = some (.slice A0_3 l0_3.length c0_3)) (ds := []) #[false, false, false, false, false, false, false, false, false, false] (by kernel_rfl) rfl rfl ⟨(blk_cell BK311.out 0).trans rfl, (blk_cell BK311.out 1).trans rfl, (blk_cell BK311.out 2).trans rfl, (blk_cell BK311.out 3).trans rfl⟩ (fun hHeld => ?_); refine with_tabW thermionlaw01_weights.tab10 thermionlaw01_weights.bits10 (fun HT_ HW_ => ?_)
    generalize wr.drew = w37 at HO_12 HO_322003 BK311 BK321 HB hHeld ⊢
    refine pure_ (i := 1) (N := some 62) (v := ?_) (a' := ?_) (bS 10 2) rfl rfl (any_of HT_.out (by kernel_rfl)) (fun _ _ _ h => h) (Or.inl ⟨by rfl, ?_⟩) ?_ ?_; rotate_left; (· intro w'; go_simp; with_reducible rfl); rotate_left; (· simp only [Act.put, sT, sZ, sS, i64_w, i32_w]; rfl)
    refine pure_ (i := 2) (N := some 63) (v := ?_) (a' := ?_) (bS 10 6) rfl rfl (any_of HT_.out (by kernel_rfl)) (fun _ _ _ h => h) (Or.inl ⟨by rfl, ?_⟩) ?_ ?_; rotate_left; (· intro w'; go_simp; with_reducible rfl); rotate_left; (· simp only [Act.put, sT, sZ, sS, i64_w, i32_w]; rfl)
    refine pure_ (i := 5) (N := some 66) (v := ?_) (a' := ?_) (bS 10 38) rfl rfl (any_of HT_.out (by kernel_rfl)) (fun _ _ _ h => h) (Or.inl ⟨by rfl, ?_⟩) ?_ ?_; rotate_left; (· intro w'; go_simp; with_reducible rfl); rotate_left; (· simp only [Act.put, sT, sZ, sS, i64_w, i32_w]; rfl)
    refine pure_ (i := 6) (N := some 67) (v := ?_) (a' := ?_) (bS 10 102) rfl rfl (any_of HT_.out (by kernel_rfl)) (fun _ _ _ h => h) (Or.inl ⟨by rfl, ?_⟩) ?_ ?_; rotate_left; (· intro w'; go_simp; with_reducible rfl); rotate_left; (· simp only [Act.put, sT, sZ, sS, i64_w, i32_w]; rfl)
    refine take_ (i := 0) (N := some 61) (v := ?_) (a' := ?_) (bS 10 103) rfl rfl (take_ofW HT_.out HW_.out (by kernel_rfl)) (fun _ _ _ h => h) (Or.inl ⟨by rfl, ?_⟩) hHeld ?_ ?_; rotate_left; (· rintro w' ⟨s0, s1, s2, s3⟩; go_simp; with_reducible rfl); rotate_left; (· simp only [Act.put, sT, sZ, sS, i64_w, i32_w]; rfl)
    refine take_ (i := 4) (N := some 65) (v := ?_) (a' := ?_) (bS 10 119) rfl rfl (take_ofW HT_.out HW_.out (by kernel_rfl)) (fun _ _ _ h => h) (Or.inl ⟨by rfl, ?_⟩) hHeld ?_ ?_; rotate_left; (· rintro w' ⟨s0, s1, s2, s3⟩; go_simp; with_reducible rfl); rotate_left; (· simp only [Act.put, sT, sZ, sS, i64_w, i32_w]; rfl)
    refine one_ (i := 3) (N := some 64) (bS 10 127) rfl rfl (one_of HT_.out (by kernel_rfl)) (by decide) (fun K hK => ?_)
    refine goes_ Try.func63 (by kernel_rfl) rfl #[.agg #[.int .i64 a0_0, .int .i64 a0_1, .bool a0_2, .slice A0_3 l0_3.length c0_3], .int .i64 a2, .int .i64 a3] (by rfl) rfl rfl (by (try simp only [List.map_toArray, List.map_cons, List.map_nil]); first | done | rfl | (simp only [List.length_drop, List.length_take]; rfl)) ?_
    with_reducible refine (field_Weight.calls a0_0 a0_1 a0_2 _ _ l0_3 a2 a3 t327 _ ?side1 ?side2 A34.out).mono ?_
    (case side1 => repeat (first | exact (Kd.C_below HR0_3.out HB.out) | (with_reducible refine Kd.C_alloc ?_ _) | (with_reducible refine Kd.C_drewN ?_ _) | (with_reducible refine Kd.C_drew ?_)))
    (case side2 => exact HC0_3.out)
    rintro e w38 ⟨rfl, hb⟩
    refine ⟨_, rfl, ?_⟩
    have n0_ := Aside0.mk (Kd.R_below (by (with_reducible repeat (first | apply Kd.R_alloc | apply Kd.R_drewN | apply Kd.R_drew)); exact HO_12.out) hb)
    have n1_ := Aside0.mk (Kd.R_below (by (with_reducible repeat (first | apply Kd.R_alloc | apply Kd.R_drewN | apply Kd.R_drew)); exact HO_322003.out) hb)
    have n2_ := Aside0.mk (blk_below (g := gb311) (o := .cells #[.int .i64 a0_0, .int .i64 a0_1, .bool a0_2, .slice A0_3 l0_3.length c0_3] 24 (0, 0)) (by (with_reducible repeat (first | refine blk_drewN ?_ _ | refine blk_drew ?_ | refine blk_alloc ?_ _)); exact BK311.out) hb)
    have n3_ := Aside0.mk (blk_below (g := gb321) (o := .cells #[.int .i64 t314, .int .i64 t315, .bool t316, .slice Ao16 t317.length co16] 24 (0, 0)) (by (with_reducible repeat (first | refine blk_drewN ?_ _ | refine blk_drew ?_ | refine blk_alloc ?_ _)); exact BK321.out) hb)
    have n4_ := Aside0.mk (below_step (by repeat (first | (with_reducible first | exact HB.out | apply below_alloc | apply pw_below_drewN | apply below_drew1 | refine below_set ?_ GE311.out | refine below_set ?_ GE321.out) | exact HB.out)) hb)
    clear HO_12 HO_322003 BK311 BK321 HB
    have HO_12 := n0_
    have HO_322003 := n1_
    have BK311 := n2_
    have BK321 := n3_
    have HB := n4_
    clear n0_ n1_ n2_ n3_ n4_
    (try clear hb)
    (try clear hb2)
    (try clear hk)
    (try clear hi)
    refine hK.out _ _ ⟨(blk_cell BK311.out 0).trans rfl, (blk_cell BK311.out 1).trans rfl, (blk_cell BK311.out 2).trans rfl, (blk_cell BK311.out 3).trans rfl⟩ (fun hHeld => ?_)
    clear hK K
    refine norm_ (a' := ?_) ?_ ?_
    rotate_left
    ·show Act.put _ (some 64) _ = _
     simp only [Act.put, sT, sZ, sS, i64_w, i32_w]
     rfl
    refine one_ (i := 7) (N := some 68) (bS 10 255) rfl rfl (one_of HT_.out (by kernel_rfl)) (by decide) (fun K hK => ?_)
    refine goes_ Try.func33 (by kernel_rfl) rfl #[.agg #[.int .i64 a0_0, .int .i64 a0_1, .bool a0_2, .slice A0_3 l0_3.length c0_3], .int .i64 a2, .int .i64 a3] (by rfl) rfl rfl (by (try simp only [List.map_toArray, List.map_cons, List.map_nil]); first | done | rfl | (simp only [List.length_drop, List.length_take]; rfl)) ?_
    with_reducible refine (thermionref01_Weight.calls k1 a0_0 a0_1 a0_2 _ _ l0_3 a2 a3 t328 _ ?side1 ?side2 A35.out).mono ?_
    (case side1 => repeat (first | exact (Kd.C_below HR0_3.out HB.out) | (with_reducible refine Kd.C_alloc ?_ _) | (with_reducible refine Kd.C_drewN ?_ _) | (with_reducible refine Kd.C_drew ?_)))
    (case side2 => exact HC0_3.out)
    rintro e w39 ⟨rfl, hb⟩
    refine ⟨_, rfl, ?_⟩
    have n0_ := Aside0.mk (Kd.R_below (by (with_reducible repeat (first | apply Kd.R_alloc | apply Kd.R_drewN | apply Kd.R_drew)); exact HO_12.out) hb)
    have n1_ := Aside0.mk (Kd.R_below (by (with_reducible repeat (first | apply Kd.R_alloc | apply Kd.R_drewN | apply Kd.R_drew)); exact HO_322003.out) hb)
    have n2_ := Aside0.mk (blk_below (g := gb311) (o := .cells #[.int .i64 a0_0, .int .i64 a0_1, .bool a0_2, .slice A0_3 l0_3.length c0_3] 24 (0, 0)) (by (with_reducible repeat (first | refine blk_drewN ?_ _ | refine blk_drew ?_ | refine blk_alloc ?_ _)); exact BK311.out) hb)
    have n3_ := Aside0.mk (blk_below (g := gb321) (o := .cells #[.int .i64 t314, .int .i64 t315, .bool t316, .slice Ao16 t317.length co16] 24 (0, 0)) (by (with_reducible repeat (first | refine blk_drewN ?_ _ | refine blk_drew ?_ | refine blk_alloc ?_ _)); exact BK321.out) hb)
    have n4_ := Aside0.mk (below_step (by repeat (first | (with_reducible first | exact HB.out | apply below_alloc | apply pw_below_drewN | apply below_drew1 | refine below_set ?_ GE311.out | refine below_set ?_ GE321.out) | exact HB.out)) hb)
    clear HO_12 HO_322003 BK311 BK321 HB
    have HO_12 := n0_
    have HO_322003 := n1_
    have BK311 := n2_
    have BK321 := n3_
    have HB := n4_
    clear n0_ n1_ n2_ n3_ n4_
    (try clear hb)
    (try clear hb2)
    (try clear hk)
    (try clear hi)
    refine hK.out _ _ ⟨(blk_cell BK311.out 0).trans rfl, (blk_cell BK311.out 1).trans rfl, (blk_cell BK311.out 2).trans rfl, (blk_cell BK311.out 3).trans rfl⟩ (fun hHeld => ?_)
    clear hK K
    refine norm_ (a' := ?_) ?_ ?_
    rotate_left
    ·show Act.put _ (some 68) _ = _
     simp only [Act.put, sT, sZ, sS, i64_w, i32_w]
     rfl
    refine pure_ (i := 8) (N := some 69) (v := ?_) (a' := ?_) (bS 10 511) rfl rfl (any_of HT_.out (by kernel_rfl)) (fun _ _ _ h => h) (Or.inl ⟨by rfl, ?_⟩) ?_ ?_; rotate_left; (· intro w'; go_simp; with_reducible rfl); rotate_left; (· simp only [Act.put, sT, sZ, sS, i64_w, i32_w]; rfl)
    refine pure_ (i := 9) (N := some 8) (v := ?_) (a' := ?_) (bS 10 1023) rfl rfl (any_of HT_.out (by kernel_rfl)) (fun _ _ _ h => h) (Or.inl ⟨by rfl, ?_⟩) ?_ ?_; rotate_left; (· intro w'; go_simp; with_reducible rfl); rotate_left; (· simp only [Act.put, sT, sZ, sS, i64_w, i32_w]; rfl)
    refine done_ (done_of HT_.out (by kernel_rfl)) ?_
    try go_wp2
    go_ret
    exact ⟨by first | rfl | (simp [errW_none, errW_some] <;> rfl) | (simp [*, errW_none, errW_some] <;> rfl), by repeat (first | (with_reducible first | exact HB.out | apply below_alloc | apply pw_below_drewN | apply below_drew1 | refine below_set ?_ GE311.out | refine below_set ?_ GE321.out) | exact HB.out)⟩
end Go.Proofs.Ytndkkjpgnmahbaa.Print
end

section
namespace Go.Proofs.Ytndkkjpgnmahbaa.Print
open Go.RowKit Go.Proofs.YtndkkjpgnmahbaaW.PrintWords Go.Proofs.YtndkkjpgnmahbaaW.PrintLast Go.Proofs.YtndkkjpgnmahbaaW.PrintMore Go.Proofs.Field
set_option linter.unusedVariables false
set_option linter.unusedSimpArgs false
theorem Ev.of_mono {α : Type} {f : Nat → Option α} {r : α} (hm : ∀ k, LeO (f k) (f (k + 1))) {k0 : Nat} (h : f k0 = some r) : Ev f r := by
 refine ⟨k0, fun k hk => ?_⟩
 obtain ⟨d, rfl⟩ : ∃ d, k = k0 + d := ⟨k - k0, by omega⟩
 clear hk
 induction d with
 | zero => exact h
 | succ d ih => exact hm _ _ ih
def elecE (W H : Int) (R : Bool) (C : List Int) : List Int := if checkErr W H R C = 0 then elec C else []
theorem ourelec_eq (W H : Int) (R : Bool) (C : List Int) (hl : C.length ≤ 1000000) : Ev (fun k => field_Electrodes.f k W H R C) (elecE W H R C) := by
 unfold elecE
 by_cases q : checkErr W H R C = 0
 ·rw [if_pos q]
  exact Ev.of_mono (fun k => field_Electrodes.mono W H R C k) (electrodes_eq hl q)
 ·rw [if_neg q]
  refine ⟨0, fun k _ => ?_⟩
  show (field_Check.f W H R C).bind _ = _
  rw [obnd (show field_Check.f W H R C = some (checkErr W H R C) from rfl), if_neg q]
theorem refelec_step (W H : Int) (R : Bool) (C : List Int) (hl : C.length ≤ 1000000) (e : Nat) (h1 : 1 ≤ e) (h6 : e ≤ 6) (x : List Int) (hx : x.length ≤ 1000) {r : List Int} (h : Ev (fun k => thermionref01_Electrodes.l0 k (pick C x (e : Int)) ((e + 1 : Nat) : Int) W H R C) r) :
  Ev (fun k => thermionref01_Electrodes.l0 k x (e : Int) W H R C) r := by
 obtain ⟨K1, hK1⟩ := refhas_go W H R C (e : Int) hl C.length 0 (by omega)
 rw [List.drop_zero, decide_eq_true (show (0 : Int) < e by omega), Bool.true_and] at hK1
 obtain ⟨K2, hK2⟩ := h
 have hw : wrap64 ((e : Int) + 1) = ((e + 1 : Nat) : Int) := by rw [IntWalk.wrap64_in _ (by omega)]; omega
 refine ⟨K1 + K2 + 1, fun k hk => ?_⟩
 obtain ⟨k, rfl⟩ : ∃ k', k = k' + 1 := ⟨k - 1, by omega⟩
 have h1' : thermionref01_has.f k W H R C (e : Int) = some (C.contains (e : Int)) := hK1 k (by omega)
 show thermionref01_Electrodes.l0 (k + 1) _ _ _ _ _ _ = _
 rw [thermionref01_Electrodes.l0, if_pos (by omega), obnd h1', hw]
 have h2 := hK2 k (by omega)
 unfold pick at h2
 by_cases q : C.contains (e : Int) = true
 ·rw [if_pos q, if_pos (by omega)]
  simp only [q, if_true] at h2
  exact h2
 ·rw [if_neg q]
  simp only [q, if_false] at h2
  exact h2
theorem refelec_eq (W H : Int) (R : Bool) (C : List Int) (hl : C.length ≤ 1000000) : Ev (fun k => thermionref01_Electrodes.f k W H R C) (elecE W H R C) := by
 obtain ⟨K, hK⟩ := refcheck_eq W H R C
 have hK' : ∀ k, K ≤ k → thermionref01_Check.f k W H R C = some (checkErr W H R C) := hK
 unfold elecE
 by_cases q : checkErr W H R C = 0
 ·rw [if_pos q]
  have L1 := pick_length C [] 1
  have L2 := pick_length C (pick C [] 1) 2
  have L3 := pick_length C (pick C (pick C [] 1) 2) 3
  have L4 := pick_length C (pick C (pick C (pick C [] 1) 2) 3) 4
  have L5 := pick_length C (pick C (pick C (pick C (pick C [] 1) 2) 3) 4) 5
  rw [List.length_nil] at L1
  have e7 : Ev (fun k => thermionref01_Electrodes.l0 k (pick C (pick C (pick C (pick C (pick C (pick C [] 1) 2) 3) 4) 5) 6) 7 W H R C) (elec C) := Ev.now (fun k => by
   rw [thermionref01_Electrodes.l0, if_neg (by omega)]
   have h1 := pick_filter C [1, 2, 3, 4, 5, 6] []
   rw [List.nil_append] at h1
   rw [show elec C = _ from h1.symm]
   rfl)
  have e6 := refelec_step W H R C hl 6 (by omega) (by omega) _ (by omega) e7
  have e5 := refelec_step W H R C hl 5 (by omega) (by omega) _ (by omega) e6
  have e4 := refelec_step W H R C hl 4 (by omega) (by omega) _ (by omega) e5
  have e3 := refelec_step W H R C hl 3 (by omega) (by omega) _ (by omega) e4
  have e2 := refelec_step W H R C hl 2 (by omega) (by omega) _ (by omega) e3
  obtain ⟨K1, hK1⟩ := refelec_step W H R C hl 1 (by omega) (by omega) [] (by simp) e2
  refine ⟨K + K1, fun k hk => ?_⟩
  show (thermionref01_Check.f k W H R C).bind _ = _
  rw [obnd (hK' k (by omega)), if_pos q]
  exact hK1 k (by omega)
 ·rw [if_neg q]
  refine ⟨K, fun k hk => ?_⟩
  show (thermionref01_Check.f k W H R C).bind _ = _
  rw [obnd (hK' k hk), if_neg q]
theorem refweight_eq (W H : Int) (R : Bool) (C : List Int) (a b : Int) : Ev (fun k => thermionref01_Weight.f k W H R C a b) (weightOf W H R C a b) := by
 obtain ⟨K, hK⟩ := refcheck_eq W H R C
 have hK' : ∀ k, K ≤ k → thermionref01_Check.f k W H R C = some (checkErr W H R C) := hK
 by_cases q : checkErr W H R C = 0
 ·obtain ⟨p1, p2, p3, p4, p5, _⟩ := check_parts q
  obtain ⟨W', rfl⟩ : ∃ W' : Nat, W = W' := ⟨W.toNat, by omega⟩
  obtain ⟨H', rfl⟩ : ∃ H' : Nat, H = H' := ⟨H.toNat, by omega⟩
  have hlen : C.length = W' * H' := by rw [← Int.natCast_mul] at p5; omega
  have h256 : W' * H' ≤ 256 := Nat.mul_le_mul (show W' ≤ 16 by omega) (show H' ≤ 16 by omega)
  have hin : ∃ K2, ∀ k, K2 ≤ k → thermionref01_weight.f k (W' : Int) (H' : Int) R C a b = some (weightOf W' H' R C a b) := by
   by_cases g : 0 ≤ a ∧ a < ((W' * H' : Nat) : Int)
   ·obtain ⟨i, rfl⟩ : ∃ i : Nat, a = i := ⟨a.toNat, by omega⟩
    refine ⟨2, fun k hk => ?_⟩
    obtain ⟨k, rfl⟩ : ∃ k', k = k' + 2 := ⟨k - 2, by omega⟩
    rw [weight_eq (by omega) (by omega) R C (by omega) b k]
    unfold wtR weightOf
    congr 1
    by_cases t : b < 0
    ·rw [if_neg (by omega), if_pos (.inr (.inr (.inr t)))]
    ·have hc : ¬ (checkErr (W' : Int) (H' : Int) R C ≠ 0 ∨ (i : Int) < 0 ∨ (C.length : Int) ≤ (i : Int) ∨ b < 0) := fun z => by
      rcases z with z | z
      ·exact z q
      ·rw [hlen] at z; omega
     rw [if_neg hc, Int.toNat_natCast, Int.toNat_natCast, Int.toNat_natCast]
     by_cases u : b < ((W' * H' : Nat) : Int)
     ·rw [if_pos (by omega)]
     ·rw [if_neg (by omega)]
      unfold netM
      rw [if_neg (by omega)]
   ·have hwo : weightOf (W' : Int) (H' : Int) R C a b = 0 := by
     unfold weightOf
     rw [if_pos (by right; rw [hlen]; omega)]
    rw [hwo]
    have w0 : wrap64 ((W' : Int) * (H' : Int)) = ((W' * H' : Nat) : Int) := by
     rw [← Int.natCast_mul]; exact IntWalk.wrap64_in _ (by omega)
    have w1 : wrap64 (((W' * H' : Nat) : Int) - 1) = ((W' * H' : Nat) : Int) - 1 := IntWalk.wrap64_in _ (by omega)
    have hb : thermionref01_beyond.f a 0 (wrap64 ((wrap64 ((W' : Int) * (H' : Int))) - 1)) = some true := by
     rw [beyond_eq, w0, w1, decide_eq_true (by omega)]
    refine ⟨1, fun k hk => ?_⟩
    obtain ⟨k, rfl⟩ : ∃ k', k = k' + 1 := ⟨k - 1, by omega⟩
    unfold thermionref01_weight.f
    rw [obnd hb, if_pos rfl, thermionref01_weight.j0, if_pos rfl]
  obtain ⟨K2, hK2⟩ := hin
  refine ⟨K + K2, fun k hk => ?_⟩
  show (thermionref01_Check.f k _ _ R C).bind _ = _
  rw [obnd (hK' k (by omega)), if_pos q, obnd (hK2 k (by omega))]
 ·have hwo : weightOf W H R C a b = 0 := by unfold weightOf; rw [if_pos (.inl q)]
  rw [hwo]
  refine ⟨K, fun k hk => ?_⟩
  show (thermionref01_Check.f k W H R C).bind _ = _
  rw [obnd (hK' k hk), if_neg q]
theorem weights_go (W H : Int) (R : Bool) (C : List Int) (a b x : Int) (L : List Int) (W2 H2 : Int) (R2 : Bool) (C2 : List Int) (hL : L.length ≤ 1000) : ∀ (d i : Nat), i + d = L.length → Ev (fun k => thermionlaw01_weights.l0 k a b x L (i : Int) W H R C W2 H2 R2 C2) true
 | 0, i, h => by
  obtain ⟨K, hK⟩ := refweight_eq W H R C a b
  refine ⟨K + 1, fun k hk => ?_⟩
  obtain ⟨k, rfl⟩ : ∃ k', k = k' + 1 := ⟨k - 1, by omega⟩
  have h1 : thermionref01_Weight.f k W H R C a b = some (weightOf W H R C a b) := hK k (by omega)
  show thermionlaw01_weights.l0 (k + 1) _ _ _ _ _ _ _ _ _ _ _ _ _ = _
  rw [thermionlaw01_weights.l0, if_neg (by omega), obnd (show field_Weight.f W H R C a b = some (weightOf W H R C a b) from rfl), obnd h1, beq_self_eq_true]
 | d + 1, i, h => by
  have hi : i < L.length := by omega
  have hw : wrap64 ((i : Int) + 1) = ((i + 1 : Nat) : Int) := by rw [IntWalk.wrap64_in _ (by omega)]; omega
  obtain ⟨K, hK⟩ := refweight_eq W2 H2 R2 C2 x L[i]
  obtain ⟨K2, hK2⟩ := weights_go W H R C a b x L W2 H2 R2 C2 hL d (i + 1) (by omega)
  refine ⟨K + K2 + 1, fun k hk => ?_⟩
  obtain ⟨k, rfl⟩ : ∃ k', k = k' + 1 := ⟨k - 1, by omega⟩
  have h1 : thermionref01_Weight.f k W2 H2 R2 C2 x L[i] = some (weightOf W2 H2 R2 C2 x L[i]) := hK k (by omega)
  show thermionlaw01_weights.l0 (k + 1) _ _ _ _ _ _ _ _ _ _ _ _ _ = _
  rw [thermionlaw01_weights.l0, if_pos (by omega), if_pos (by omega), rd_at L i hi, obnd (show field_Weight.f W2 H2 R2 C2 x L[i] = some (weightOf W2 H2 R2 C2 x L[i]) from rfl), obnd h1, if_pos rfl, hw]
  exact hK2 k (by omega)
theorem weights_true (W H : Int) (R : Bool) (C nums : List Int) (a b : Int) : Ev (fun k => thermionlaw01_weights.f k W H R C nums a b) true := by
 obtain ⟨s0, hs0⟩ : ∃ s, thermionkit_NewDice.f nums = some s := ⟨_, rfl⟩
 obtain ⟨W', H', R', C', s1, hp, b1, b2, b3, b4, hl, h256, _, _⟩ := dealt_plan s0 8 6 (by omega) (by omega)
 have hpos : 0 < C'.length := by rw [hl]; exact Nat.mul_pos b1 b3
 obtain ⟨m, hm, _⟩ := mod_eq a (C'.length : Int) (by omega) (by omega)
 obtain ⟨n, hn, _⟩ := mod_eq b (C'.length : Int) (by omega) (by omega)
 obtain ⟨K, hK⟩ := weights_go W H R C a b (m : Int) [b, (n : Int), wrap64 ((m : Int) - 1), wrap64 ((m : Int) + 1), wrap64 ((m : Int) - (W' : Int)), wrap64 ((m : Int) + (W' : Int))] W' H' R' C' (by simp) 6 0 (by simp)
 refine ⟨K, fun k hk => ?_⟩
 show thermionlaw01_weights.f k W H R C nums a b = _
 unfold thermionlaw01_weights.f
 rw [obnd hs0, obnd hp, obnd hm, obnd hn]
 exact hK k hk
end Go.Proofs.Ytndkkjpgnmahbaa.Print
end

section
namespace Go.Proofs.Ytndkkjpgnmahbaa.H
open Go.RowKit Go.Proofs.YtndkkjpgnmahbaaW.PrintWords Go.Proofs.YtndkkjpgnmahbaaW.PrintLast Go.Proofs.YtndkkjpgnmahbaaW.PrintMore Go.Proofs.Ytndkkjpgnmahbaa.Print
namespace Mem
variable {w W W1 : World} {l : List (Nat × Array Value × TypeId)} {g : Nat} {old new : Array Value} {t : TypeId}
theorem keepd (h : Mem w W ((g, old, t) :: l)) (hK : KeepBut W W1 g none) (hB : Below w.heap.size w W1) (hg : W1.heap[g]? = some (.cells new t (0, 0))) : Mem w W1 ((g, new, t) :: l) := by
 refine ⟨hB, fun p hp => ?_, fun p hp => ?_, ?_⟩
 ·rcases List.mem_cons.1 hp with rfl | hp
  ·exact hg
  ·have h1 := h.blk p (List.mem_cons_of_mem _ hp)
   rw [hK.2 p.1 (blk_lt h1) (Ne.symm (h.ne p hp)) (by simp)]
   exact h1
 ·rcases List.mem_cons.1 hp with rfl | hp
  ·exact h.geh
  ·exact h.ge p (List.mem_cons_of_mem _ hp)
 ·have a := h.apart
  simp only [List.pairwise_cons] at a ⊢
  exact a
end Mem
end Go.Proofs.Ytndkkjpgnmahbaa.H
namespace Go.Proofs.Ytndkkjpgnmahbaa.Print
open Go.RowKit Go.Proofs.YtndkkjpgnmahbaaW.PrintWords Go.Proofs.YtndkkjpgnmahbaaW.PrintLast Go.Proofs.YtndkkjpgnmahbaaW.PrintMore Go.Proofs.Ytndkkjpgnmahbaa.H Go.Proofs.Field
set_option linter.unusedVariables false
section
variable {P : Program} {ops : Array Oper} {o : Oper} {a : Act} {Q : Exit → Act → World → Prop} {K : Act → World → Prop} {w W : World} {l : List (Nat × Array Value × TypeId)}
end
theorem dice_is {w0 W : World} {g : Nat} {s : Int} {l : List (Nat × Array Value × TypeId)} (h : Mem w0 W ((g, #[.int .u64 s], 79) :: l)) : IsS79 w0 W g s := ⟨h.head, h.geh⟩
theorem dice_row {w0 W W1 : World} {g : Nat} {s s' : Int} {l : List (Nat × Array Value × TypeId)} {v : Value} {ok : Nat → Prop} {r : List Int} (h : Mem w0 W ((g, #[.int .u64 s], 79) :: l)) (hK : KeepBut W W1 g none) (hB : Below w0.heap.size w0 W1) (hI : IsS79 w0 W1 g s')
  (hR : Kd.R (Kd.int .i64) 3 W1 W.heap.size ok v r) (hp : 0 < r.length) : ∃ g2 c cur, v = .slice (some ⟨g2, 0, none⟩) r.length c ∧ r.length ≤ c ∧ IsNums cur r ∧ Mem w0 W1 ((g2, cur, 3) :: (g, #[.int .u64 s'], 79) :: l) := by
 obtain ⟨g2, c, cur, rfl, a1, a2, a3, _, a5⟩ := R_mem hR hp
 have h1 := h.keepd hK hB hI.1
 refine ⟨g2, c, cur, rfl, a1, a5, h1.below, fun p hp => ?_, fun p hp => ?_, .cons (fun p hp => ?_) h1.apart⟩
 ·rcases List.mem_cons.1 hp with rfl | hp
  ·exact a2
  ·exact h1.blk p hp
 ·rcases List.mem_cons.1 hp with rfl | hp
  ·exact Nat.le_trans h.below.size a3
  ·exact h1.ge p hp
 ·have h3 : p.1 < W.heap.size := by
   rcases List.mem_cons.1 hp with rfl | hp
   ·exact blk_lt h.head
   ·exact blk_lt (h.blk p (List.mem_cons_of_mem _ hp))
  show g2 ≠ p.1
  omega
theorem plan_cells {W : World} {g : Nat} {Wd Hd : Int} {R : Bool} {A : Option Addr} {n c : Nat} (h : W.heap[g]? = some (.cells (planV Wd Hd R A n c) 24 (0, 0))) : W.cell? ⟨g, 0, none⟩ = some (.int .i64 Wd) ∧ W.cell? ⟨g, 1, none⟩ = some (.int .i64 Hd) ∧ W.cell? ⟨g, 2, none⟩ = some (.bool R) ∧ W.cell? ⟨g, 3, none⟩ = some (.slice A n c) :=
 ⟨(blk_cell h 0).trans rfl, (blk_cell h 1).trans rfl, (blk_cell h 2).trans rfl, (blk_cell h 3).trans rfl⟩
end Go.Proofs.Ytndkkjpgnmahbaa.Print
end

section
namespace Go.Proofs.Ytndkkjpgnmahbaa.Print
open Go.RowKit Go.Proofs.YtndkkjpgnmahbaaW.PrintWords Go.Proofs.YtndkkjpgnmahbaaW.PrintLast Go.Proofs.YtndkkjpgnmahbaaW.PrintMore Go.Proofs.Ytndkkjpgnmahbaa.H Go.Proofs.Field
attribute [local go_sem] max2_int min2_int max_two min_two max_three min_three max_four min_four
set_option linter.unusedVariables false
set_option linter.unusedSimpArgs false
def checksF.T5 : Bool × List (List Nat × List Nat) := (true, [([], []), ([0], [0]), ([], []), ([], []), ([3], [3]), ([4], [4]), ([2, 5], [2, 5]), ([], []), ([7, 6], [7]), ([8], [8]), ([1, 6, 0, 1, 2, 3, 4, 5, 6, 7, 8, 9], [1, 6]), ([10, 9, 8, 0, 1, 2, 3, 4, 5, 6, 7, 8, 9], [9, 10])])
def checksF.B5 : List Nat := [0, 1, 0, 0, 8, 24, 60, 0, 252, 508, 1023, 2047]
theorem checksF.tab5 : rtab .any (opsOf Try.f11 5) = checksF.T5 := by kernel_rfl
theorem checksF.bits5 : waitsOk checksF.T5.2 checksF.B5 = true := by kernel_rfl
def checksF.T11 : Bool × List (List Nat × List Nat) := (true, [([], []), ([0], [0]), ([], []), ([], []), ([2, 3], [2, 3]), ([4], [4]), ([5, 1], [5]), ([1, 6], [1, 6]), ([7, 6], [7]), ([8], [8]), ([8], [8]), ([9, 10, 8, 8], [8, 9, 10]), ([8], [8]), ([8], [8]), ([12, 13, 8], [8, 12, 13]), ([14, 8], [8, 14]), ([8], [8]), ([15, 16, 11, 8], [8, 15, 16]), ([11, 17, 8], [8, 11, 17]), ([8, 18], [8, 18]), ([19, 17], [19]), ([20], [20]), ([21, 20, 20], [20, 21]), ([20], [20]), ([20], [20]), ([23, 24, 20], [20, 23, 24]), ([25, 20], [20, 25]), ([26, 22, 20], [20, 26]), ([22, 27, 27, 20], [20, 22, 27]), ([28, 20], [20, 28]), ([20, 29], [20, 29])])
def checksF.B11 : List Nat := [0, 1, 0, 0, 12, 28, 63, 127, 255, 511, 511, 2047, 511, 511, 12799, 29183, 511, 131071, 262143, 524287, 1048575, 2097151, 4194303, 2097151, 2097151, 27262975, 60817407, 134217727, 268435455, 536870911, 1073741823]
theorem checksF.tab11 : rtab .any (opsOf Try.f11 11) = checksF.T11 := by kernel_rfl
theorem checksF.bits11 : waitsOk checksF.T11.2 checksF.B11 = true := by kernel_rfl
def checksF.T14 : Bool × List (List Nat × List Nat) := (true, [([], []), ([], []), ([], []), ([1, 2], [1, 2]), ([3], [3]), ([0, 4], [0, 4]), ([5], [5]), ([6, 5], [6]), ([7], [7]), ([7], [7]), ([8, 9, 7, 7], [7, 8, 9]), ([10, 7], [7, 10]), ([7, 11], [7, 11]), ([12, 10], [12]), ([13], [13]), ([13], [13]), ([14, 15, 13, 13], [13, 14, 15]), ([13], [13]), ([13], [13]), ([17, 18, 13], [13, 17, 18]), ([19, 13], [13, 19]), ([13], [13]), ([20, 21, 16, 13], [13, 20, 21]), ([16, 22, 13], [13, 16, 22]), ([13, 23], [13, 23])])
def checksF.B14 : List Nat := [0, 0, 0, 6, 14, 31, 63, 127, 255, 255, 1023, 2047, 4095, 8191, 16383, 16383, 65535, 16383, 16383, 409599, 933887, 16383, 4194303, 8388607, 16777215]
theorem checksF.tab14 : rtab .any (opsOf Try.f11 14) = checksF.T14 := by kernel_rfl
theorem checksF.bits14 : waitsOk checksF.T14.2 checksF.B14 = true := by kernel_rfl
def checksF.T20 : Bool × List (List Nat × List Nat) := (true, [([], []), ([], []), ([], []), ([1, 2], [1, 2]), ([3], [3]), ([0, 4], [0, 4]), ([5], [5]), ([6, 5], [6]), ([7], [7]), ([7], [7]), ([8, 9, 7, 7], [7, 8, 9]), ([10, 7], [7, 10]), ([7, 11], [7, 11])])
def checksF.B20 : List Nat := [0, 0, 0, 6, 14, 31, 63, 127, 255, 255, 1023, 2047, 4095]
theorem checksF.tab20 : rtab .any (opsOf Try.f11 20) = checksF.T20 := by kernel_rfl
theorem checksF.bits20 : waitsOk checksF.T20.2 checksF.B20 = true := by kernel_rfl
structure PR (w : World) (A : Option Addr) (c : Nat) (C : List Int) : Prop where
 r : Kd.C (Kd.int .i64) w A C.length C
 c : C.length ≤ c
theorem PR.below {w w1 : World} {A : Option Addr} {c : Nat} {C : List Int} (h : PR w A c C) (hb : Below w.heap.size w w1) : PR w1 A c C := ⟨Kd.C_below h.r hb, h.c⟩
structure Facts (W H : Int) (R : Bool) (C v : List Int) (Wq Hq : Int) (Rq : Bool) (Cq : List Int) (K : Nat) : Prop where
 e0 : thermionref01_Check.f K W H R C = some (checkErr W H R C)
 e1 : thermionref01_CheckVolts.f K W H R C v = some (voltErr W H R C v)
 l0 : field_Electrodes.f K W H R C = some (elecE W H R C)
 l1 : thermionref01_Electrodes.f K W H R C = some (elecE W H R C)
 ls : thermionkit_Same.f K (elecE W H R C) (elecE W H R C) = some true
 s0 : thermionref01_Same.f K W H R C W H R C = some true
 s1 : field_Same.f K W H R C W H R C = some true
 s2 : field_Same.f K W H R C Wq Hq Rq Cq = some (decide (W = Wq ∧ H = Hq ∧ R = Rq ∧ C = Cq))
 s3 : thermionref01_Same.f K W H R C Wq Hq Rq Cq = some (decide (W = Wq ∧ H = Hq ∧ R = Rq ∧ C = Cq))
 sv : thermionkit_Same.f K v v = some true
theorem elecE_length (W H : Int) (R : Bool) (C : List Int) : (elecE W H R C).length ≤ 6 := by
 unfold elecE elec
 split
 ·exact Nat.le_trans (List.length_filter_le _ _) (by simp)
 ·simp
theorem facts_ev (W H : Int) (R : Bool) (C v : List Int) (Wq Hq : Int) (Rq : Bool) (Cq : List Int) (h1 : C.length ≤ 1000) (h2 : v.length ≤ 1000) : ∃ K, Facts W H R C v Wq Hq Rq Cq K := by
 obtain ⟨K0, h0⟩ := refcheck_eq W H R C
 obtain ⟨K1, h1'⟩ := refvolts_eq W H R C v
 obtain ⟨K2, h2'⟩ := ourelec_eq W H R C (by omega)
 obtain ⟨K3, h3⟩ := refelec_eq W H R C (by omega)
 obtain ⟨K4, h4⟩ := same_eq (elecE W H R C) (by have := elecE_length W H R C; omega)
 obtain ⟨K5, h5⟩ := refsame_eq W H R C W H R C (by omega)
 obtain ⟨K6, h6⟩ := oursame_eq W H R C W H R C (by omega)
 obtain ⟨K7, h7⟩ := oursame_eq W H R C Wq Hq Rq Cq (by omega)
 obtain ⟨K8, h8⟩ := refsame_eq W H R C Wq Hq Rq Cq (by omega)
 obtain ⟨K9, h9⟩ := same_eq v (by omega)
 have e : decide (W = W ∧ H = H ∧ R = R ∧ C = C) = true := by simp
 rw [e] at h5 h6
 exact ⟨K0 + K1 + K2 + K3 + K4 + K5 + K6 + K7 + K8 + K9, h0 _ (by omega), h1' _ (by omega), h2' _ (by omega), h3 _ (by omega), h4 _ (by omega), h5 _ (by omega), h6 _ (by omega), h7 _ (by omega), h8 _ (by omega), h9 _ (by omega)⟩
structure RS (wr V : World) (gl2 i g16 gq : Nat) (Wx Hx : Int) (Rx : Bool) (Ax : Option Addr) (cx : Nat) (Cx : List Int) (Ao : Option Addr) (co : Nat) (Av : Option Addr) (cv : Nat) (A2 : Option Addr) (c2 : Nat) (v : List Int) (Wq Hq : Int) (Rq : Bool) (Aq : Option Addr) (cq : Nat) (Cq : List Int) : Prop where
 b : Below wr.heap.size wr V
 x : PR V Ax cx Cx
 o : PR V Ao co Cx
 v2 : PR V Av cv v
 v : PR V A2 c2 v
 q : PR V Aq cq Cq
 g16 : V.heap[g16]? = some (.cells (planV Wx Hx Rx Ao Cx.length co) 24 (0, 0))
 gq : V.heap[gq]? = some (.cells (planV Wq Hq Rq Aq Cq.length cq) 24 (0, 0))
 cells : V.cell? ⟨gl2, i * 4, none⟩ = some (.int .i64 Wx) ∧ V.cell? ⟨gl2, i * 4 + 1, none⟩ = some (.int .i64 Hx) ∧ V.cell? ⟨gl2, i * 4 + 2, none⟩ = some (.bool Rx) ∧ V.cell? ⟨gl2, i * 4 + 3, none⟩ = some (.slice Ax Cx.length cx)
theorem RS.step {wr V V1 : World} {gl2 i g16 gq : Nat} {Wx Hx : Int} {Rx : Bool} {Ax : Option Addr} {cx : Nat} {Cx : List Int} {Ao : Option Addr} {co : Nat} {Av : Option Addr} {cv : Nat} {A2 : Option Addr} {c2 : Nat} {v : List Int} {Wq Hq : Int} {Rq : Bool} {Aq : Option Addr} {cq : Nat} {Cq : List Int}
  (h : RS wr V gl2 i g16 gq Wx Hx Rx Ax cx Cx Ao co Av cv A2 c2 v Wq Hq Rq Aq cq Cq) (hb : Below V.heap.size V V1) : RS wr V1 gl2 i g16 gq Wx Hx Rx Ax cx Cx Ao co Av cv A2 c2 v Wq Hq Rq Aq cq Cq :=
 ⟨below_step h.b hb, h.x.below hb, h.o.below hb, h.v2.below hb, h.v.below hb, h.q.below hb, blk_below h.g16 hb, blk_below h.gq hb, cell_later hb h.cells.1, cell_later hb h.cells.2.1, cell_later hb h.cells.2.2.1, cell_later hb h.cells.2.2.2⟩
theorem row_round {W : World} {base g18 n cc j : Nat} {Ac : Option Addr} {L : List Int} (h : Kd.R (Kd.int .i64) 3 W base (fun k => k ≠ g18) (.slice Ac n cc) L) (hl : L.length = n) (hj : j < n) :
  ∃ (gc : Nat) (x : Int), Ac = some ⟨gc, 0, none⟩ ∧ W.cell? ⟨gc, j, none⟩ = some (.int .i64 x) ∧ W.frozen? ⟨gc, j, none⟩ = false ∧ gc ≠ g18 ∧ base ≤ gc ∧ ∀ y, ∃ L', L'.length = n ∧ Kd.R (Kd.int .i64) 3 (W.setCell ⟨gc, j, none⟩ (.int .i64 y)) base (fun k => k ≠ g18) (.slice Ac n cc) L' := by
 subst hl
 obtain ⟨gc, c, e, hb, hlt, _⟩ := Kd.R_form h (by omega)
 injection e with e1 e2 e3
 subst e1
 have h1 := Kd.R_celln (enc := Value.int .i64) (h1 := fun _ => rfl) (0 : Int) h (j : Int) (by omega) (by omega)
 rw [Int.toNat_natCast] at h1
 refine ⟨gc, _, rfl, h1.1, h1.2, h.1 gc rfl, hb, fun y => ?_⟩
 have h2 := Kd.R_putn (enc := Value.int .i64) (h1 := fun _ => rfl) h (j : Int) y
 rw [Int.toNat_natCast] at h2
 exact ⟨_, by rw [List.length_set], h2⟩
theorem cells8 {a b c d e f g h : Prop} (h1 : a ∧ b ∧ c ∧ d) (h2 : e ∧ f ∧ g ∧ h) : a ∧ b ∧ c ∧ d ∧ e ∧ f ∧ g ∧ h := ⟨h1.1, h1.2.1, h1.2.2.1, h1.2.2.2, h2⟩
theorem cells16' {a b c d e f g h i j k l m n o p : Prop} (h1 : a ∧ b ∧ c ∧ d) (h2 : e ∧ f ∧ g ∧ h) (h3 : i ∧ j ∧ k ∧ l) (h4 : m ∧ n ∧ o ∧ p) : a ∧ b ∧ c ∧ d ∧ e ∧ f ∧ g ∧ h ∧ i ∧ j ∧ k ∧ l ∧ m ∧ n ∧ o ∧ p := ⟨h1.1, h1.2.1, h1.2.2.1, h1.2.2.2, h2.1, h2.2.1, h2.2.2.1, h2.2.2.2, h3.1, h3.2.1, h3.2.2.1, h3.2.2.2, h4⟩
theorem big_nil (W H : Int) (R : Bool) (A : Option Addr) (c : Nat) (C : List Int) (b : Bool) (w : World) (hr : Kd.C (Kd.int .i64) w A C.length C) (hc : C.length ≤ c) (hb : decide (300 < C.length) = b) :
  Calls Try.prog 19 #[.agg (planV W H R A C.length c), .slice none 0 0] w fun e w' => e = .returned (.bool b) ∧ Below w.heap.size w w' :=
 thermionlaw01_big.calls _ W H R A c C none 0 [] b w hr hc ⟨rfl, by simp, fun h => absurd h (by simp)⟩ (by simp) (by rw [big_eq W H R C [] (by simp), ← hb]; rfl)
set_option maxHeartbeats 6400000 in
set_option maxRecDepth 100000 in
theorem checks_calls (W H : Int) (R : Bool) (A : Option Addr) (c : Nat) (C : List Int) (Wq Hq : Int) (Rq : Bool) (Aq : Option Addr) (cq : Nat) (Cq : List Int) (A2 : Option Addr) (c2 : Nat) (v : List Int) (A3 : Option Addr) (c3 : Nat) (l3 : List Int) (a4 a5 : Int) (w : World)
  (hr : Kd.C (Kd.int .i64) w A C.length C) (hc : C.length ≤ c) (hrq : Kd.C (Kd.int .i64) w Aq Cq.length Cq) (hcq : Cq.length ≤ cq) (hr2 : Kd.C (Kd.int .i64) w A2 v.length v) (hc2 : v.length ≤ c2) (hr3 : Kd.C (Kd.int .i64) w A3 l3.length l3) (hc3 : l3.length ≤ c3) :
  Calls Try.prog 11 #[.agg (planV W H R A C.length c), .agg (planV Wq Hq Rq Aq Cq.length cq), .slice A2 v.length c2, .slice A3 l3.length c3, .int .i64 a4, .int .i64 a5] w fun e w' => e = .returned (.bool true) ∧ Below w.heap.size w w' := by
 obtain ⟨s0, hs0⟩ : ∃ s, thermionkit_NewDice.f l3 = some s := ⟨_, rfl⟩
 obtain ⟨W', H', R', C', v', s1, s2, D⟩ := dealt s0 8 6 (by omega) (by omega)
 have hpos : 0 < C'.length := by rw [D.len]; exact Nat.mul_pos D.W1 D.H1
 obtain ⟨k, hk, hk1⟩ := mod_eq a4 (C'.length : Int) (by omega) (by have := D.small; omega)
 obtain ⟨m9, hm9, hm91⟩ := mod_eq a5 9 (by omega) (by omega)
 obtain ⟨C2, hC2⟩ : ∃ l, (if Int.tmod a5 3 = 0 then C'.set k ((m9 : Int) - 1) else C') = l := ⟨_, rfl⟩
 have hC2l : C2.length = C'.length := by rw [← hC2]; split; rw [List.length_set]; rfl
 obtain ⟨KW, hKW⟩ := weights_true W H R C l3 a4 a5
 obtain ⟨b1, hb1⟩ : ∃ b, ((([v]).any (fun x => decide (300 < x.length))) || decide (300 < C.length)) = b := ⟨_, rfl⟩
 obtain ⟨b2, hb2⟩ : ∃ b, decide (300 < Cq.length) = b := ⟨_, rfl⟩
 have HKW := Aside0.mk (hKW KW (Nat.le_refl _))
 have HC2 := Aside0.mk hC2
 have HC2L := Aside0.mk hC2l
 have HPOS := Aside0.mk hpos
 have HSMA := Aside0.mk D.small
 have HND := Aside0.mk hs0
 have HD := Aside0.mk D
 have HMD := Aside0.mk hk
 have HKL := Aside0.mk hk1
 have HM9 := Aside0.mk hm9
 have HM9L := Aside0.mk hm91
 have HAW := Aside0.mk awake_true
 have HP := Aside0.mk (PR.mk hr hc)
 have HQ_ := Aside0.mk (PR.mk hrq hcq)
 have HV := Aside0.mk (PR.mk hr2 hc2)
 have HL := Aside0.mk (PR.mk hr3 hc3)
 have HB1 := Aside0.mk hb1
 have HB2 := Aside0.mk hb2
 have HM := Aside0.mk (Mem.start w)
 have hu24 := Try.underlying24
 have hu22 := Try.underlying22
 have hu46 := Try.underlying46
 have hu56 := Try.underlying56
 clear hr hc hrq hcq hr2 hc2 hr3 hc3 hs0 D hpos hk hk1 hm9 hm91 hC2 hC2l hKW hb1 hb2
 go_enter Try.func11, Try.ntmps11
 cases b1
 case true =>
  go_wp2_with (first
   | ((with_reducible refine gate_dst (N := 6) rfl ?_); refine ev_box HM.out rfl 24 (.tmp 0) rfl (cs := planV W H R A C.length c) rfl ?_; intro gp w1 hm1 hq1; clear hq1; have HM1 := Aside0.mk hm1; clear hm1 HM)
   | ((with_reducible refine gate_dst (N := 7) rfl ?_); refine ev_box HM1.out rfl 24 (.tmp 1) rfl (cs := planV Wq Hq Rq Aq Cq.length cq) rfl ?_; intro gq w2 hm1 hq1; clear hq1; have HM2 := Aside0.mk hm1; clear hm1 HM1)
   | ((with_reducible refine gate_dst (N := 20) rfl ?_); refine ev_load HM2.out.second rfl 24 (.tmp 6) rfl rfl _ Try.underlying24 rfl size24 rfl ?_)
   | ((with_reducible refine gate_dst (N := 22) rfl ?_); refine ev_lit HM2.out rfl [.slice A2 v.length c2] 1 22 ?hrl ?_; (case hrl => first | (go_simp; done) | (go_simp; rfl)); intro gl w3 hm1 hq1; clear hq1; have HM3 := Aside0.mk hm1; clear hm1 HM2)
   | (go_at_call 19; refine (big_at W H R A c C gl 1 [(A2, c2, v)] rfl (by omega) true _ (HP.out.below HM3.out.below).r HP.out.c HM3.out.head (fun p hp => by obtain rfl := List.mem_singleton.1 hp; exact ⟨(HV.out.below HM3.out.below).r, HV.out.c⟩) HB1.out).mono ?_; rintro e1 w5 ⟨rfl, hb⟩; have HM5 := Aside0.mk (HM3.out.step hb); clear hb HM3; have qq := plan_cells HM5.out.second; obtain ⟨qq0, qq1, qq2, qq3⟩ := qq)
   | (go_at_call 20; refine (thermionlaw01_awake.calls 10 true _ HAW.out).mono ?_; rintro e1 wE ⟨rfl, hb⟩; have HE := Aside0.mk (below_step HM5.out.below hb); clear hb))
  go_ret
  exact ⟨rfl, HE.out⟩
 case false =>
 cases b2
 case true =>
  go_wp2_with (first
   | ((with_reducible refine gate_dst (N := 6) rfl ?_); refine ev_box HM.out rfl 24 (.tmp 0) rfl (cs := planV W H R A C.length c) rfl ?_; intro gp w1 hm1 hq1; clear hq1; have HM1 := Aside0.mk hm1; clear hm1 HM)
   | ((with_reducible refine gate_dst (N := 7) rfl ?_); refine ev_box HM1.out rfl 24 (.tmp 1) rfl (cs := planV Wq Hq Rq Aq Cq.length cq) rfl ?_; intro gq w2 hm1 hq1; clear hq1; have HM2 := Aside0.mk hm1; clear hm1 HM1)
   | ((with_reducible refine gate_dst (N := 20) rfl ?_); refine ev_load HM2.out.second rfl 24 (.tmp 6) rfl rfl _ Try.underlying24 rfl size24 rfl ?_)
   | ((with_reducible refine gate_dst (N := 22) rfl ?_); refine ev_lit HM2.out rfl [.slice A2 v.length c2] 1 22 ?hrl ?_; (case hrl => first | (go_simp; done) | (go_simp; rfl)); intro gl w3 hm1 hq1; clear hq1; have HM3 := Aside0.mk hm1; clear hm1 HM2)
   | (go_at_call 19; refine (big_at W H R A c C gl 1 [(A2, c2, v)] rfl (by omega) false _ (HP.out.below HM3.out.below).r HP.out.c HM3.out.head (fun p hp => by obtain rfl := List.mem_singleton.1 hp; exact ⟨(HV.out.below HM3.out.below).r, HV.out.c⟩) HB1.out).mono ?_; rintro e1 w5 ⟨rfl, hb⟩; have HM5 := Aside0.mk (HM3.out.step hb); clear hb HM3; have qq := plan_cells HM5.out.second; obtain ⟨qq0, qq1, qq2, qq3⟩ := qq)
   | (go_at_call 19; refine (big_nil Wq Hq Rq Aq cq Cq true _ (HQ_.out.below HM5.out.below).r HQ_.out.c HB2.out).mono ?_; rintro e1 we ⟨rfl, hb⟩; have HM6 := Aside0.mk (HM5.out.step hb); clear hb HM5 qq0 qq1 qq2 qq3)
   | (go_at_call 20; refine (thermionlaw01_awake.calls 10 true _ HAW.out).mono ?_; rintro e1 wE ⟨rfl, hb⟩; have HE := Aside0.mk (below_step HM6.out.below hb); clear hb))
  go_ret
  exact ⟨rfl, HE.out⟩
 case false =>
  go_upto_region 4 with (first
   | ((with_reducible refine gate_dst (N := 6) rfl ?_); refine ev_box HM.out rfl 24 (.tmp 0) rfl (cs := planV W H R A C.length c) rfl ?_; intro gp w1 hm1 hq1; clear hq1; have HM1 := Aside0.mk hm1; clear hm1 HM)
   | ((with_reducible refine gate_dst (N := 7) rfl ?_); refine ev_box HM1.out rfl 24 (.tmp 1) rfl (cs := planV Wq Hq Rq Aq Cq.length cq) rfl ?_; intro gq w2 hm1 hq1; clear hq1; have HM2 := Aside0.mk hm1; clear hm1 HM1)
   | ((with_reducible refine gate_dst (N := 20) rfl ?_); refine ev_load HM2.out.second rfl 24 (.tmp 6) rfl rfl _ Try.underlying24 rfl size24 rfl ?_)
   | ((with_reducible refine gate_dst (N := 22) rfl ?_); refine ev_lit HM2.out rfl [.slice A2 v.length c2] 1 22 ?hrl ?_; (case hrl => first | (go_simp; done) | (go_simp; rfl)); intro gl w3 hm1 hq1; clear hq1; have HM3 := Aside0.mk hm1; clear hm1 HM2)
   | (go_at_call 19; refine (big_at W H R A c C gl 1 [(A2, c2, v)] rfl (by omega) false _ (HP.out.below HM3.out.below).r HP.out.c HM3.out.head (fun p hp => by obtain rfl := List.mem_singleton.1 hp; exact ⟨(HV.out.below HM3.out.below).r, HV.out.c⟩) HB1.out).mono ?_; rintro e1 w5 ⟨rfl, hb⟩; have HM5 := Aside0.mk (HM3.out.step hb); clear hb HM3; have qq := plan_cells HM5.out.second; obtain ⟨qq0, qq1, qq2, qq3⟩ := qq)
   | (go_at_call 19; refine (big_nil Wq Hq Rq Aq cq Cq false _ (HQ_.out.below HM5.out.below).r HQ_.out.c HB2.out).mono ?_; rintro e1 we ⟨rfl, hb⟩; have HM6 := Aside0.mk (HM5.out.step hb); clear hb HM5 qq0 qq1 qq2 qq3; have HEB := Aside0.mk HM6.out.below; have HGP := Aside0.mk HM6.out.third; have HGQ := Aside0.mk HM6.out.second; replace HP := Aside0.mk (HP.out.below HEB.out); replace HQ_ := Aside0.mk (HQ_.out.below HEB.out); replace HV := Aside0.mk (HV.out.below HEB.out); replace HL := Aside0.mk (HL.out.below HEB.out); clear HM6)
   | (go_at_call 21; refine (thermionkit_NewDice.calls A3 c3 l3 s0 we we (Below.refl _ _) HL.out.r HL.out.c HND.out).mono ?_; rintro e1 u1 ⟨g, rfl, hI, hB, hb⟩; have HD1 := Aside0.mk ((Mem.start we).add hb hI.1 hI.2); clear hI hB hb HND)
   | (go_at_call 22; refine (thermionkit_PlanOf.calls g s0 8 6 W' H' R' C' s1 we u1 (dice_is HD1.out) HD1.out.below HD.out.plan).mono ?_; rintro e1 u2 ⟨vp, rfl, hR, hI, hB, hK⟩; obtain ⟨gC, cC, cuC, rfl, hcC, hnC, hm1⟩ := dice_row HD1.out hK hB hI hR HPOS.out; have HNC := Aside0.mk (And.intro hnC hcC); have HD2 := Aside0.mk hm1; clear hR hI hB hK hcC hnC hm1 HD1)
   | ((with_reducible refine gate_dst (N := 13) rfl ?_); refine ev_new HD2.out rfl 24 rfl info24 ?_; intro g13 u3 hm1 hq1; have HD3 := Aside0.mk hm1; clear hm1 hq1 HD2)
   | ((with_reducible refine gate_store (t := 24) (p := 13) rfl ?_); refine ev_store HD3.out rfl 24 (.tmp 13) (.tmp 31) rfl rfl (cs := planV W' H' R' (some ⟨gC, 0, none⟩) C'.length cC) rfl size24 rfl rfl (by simp [Value.oneCell']) ?_; intro u4 hm1 hq1; clear hq1; have HD4 := Aside0.mk hm1; clear hm1 HD3))
  have HN : Aside0 (C.length ≤ 300 ∧ Cq.length ≤ 300 ∧ v.length ≤ 300) := ⟨by
   have h1 := HB1.out
   have h2 := HB2.out
   simp only [List.any_cons, List.any_nil, Bool.or_false, Bool.or_eq_false_iff, decide_eq_false_iff_not] at h1 h2
   omega⟩
  obtain ⟨K1, hF1⟩ := facts_ev W H R C v Wq Hq Rq Cq (by have := HN.out; omega) (by have := HN.out; omega)
  obtain ⟨K2, hF2⟩ := facts_ev (W' : Int) (H' : Int) R' C2 v Wq Hq Rq Cq (by have := HC2L.out; have := HSMA.out; omega) (by have := HN.out; omega)
  have HF1 := Aside0.mk hF1
  have HF2 := Aside0.mk hF2
  clear HB1 HB2 hF1 hF2 HD
  by_cases z : Int.tmod a5 3 = 0
  case' pos =>
   have z1 : (Int.tmod a5 3 == 0) = true := beq_iff_eq.mpr z
   have z2 := decide_eq_true z
   have HZ := Aside0.mk z
   clear z
   go_upto_region 5 with fail
   have k1' : (0 : Int) ≤ (k : Int) := by omega
   have k2' : (k : Int) < (C'.length : Int) := HKL.out
   have k3' : (k : Int) ≤ 9223372036854775807 := by have := HKL.out; have := HSMA.out; omega
   have n1 : IntKind.i64.wrap ((m9 : Int) - 1) = (m9 : Int) - 1 := IntWalk.i64_in _ (by have := HM9L.out; omega)
   have n2 : wrap64 ((m9 : Int) - 1) = (m9 : Int) - 1 := IntWalk.wrap64_in _ (by have := HM9L.out; omega)
   have HE := Aside0.mk (HNC.out.1.2 k (by have := HKL.out; omega))
   have HQ := Aside0.mk HD4.out.drew
   clear HD4
   refine start_ (n := 12) (S := fun w' => w'.cell? ⟨g13, 3, none⟩ = some (.slice (some ⟨gC, 0, none⟩) C'.length cC)) (ds := [11]) #[false, false, false, false, false, false, false, false, false, false, false, false] (by kernel_rfl) rfl rfl ((plan_cells HQ.out.head).2.2.2) (fun hHeld => ?_); refine with_tabW checksF.tab5 checksF.bits5 (fun HT_ HW_ => ?_)
   refine pure_ (i := 0) (N := some 35) (v := ?_) (a' := ?_) (bS 12 1) rfl rfl (any_of HT_.out (by kernel_rfl)) (fun _ _ _ h => h) (Or.inl ⟨by rfl, ?_⟩) ?_ ?_; rotate_left; (· intro w'; go_simp; with_reducible rfl); rotate_left; (· simp only [Act.put, sT, sZ, sS, i64_w, i32_w]; rfl)
   refine pure_ (i := 2) (N := some 37) (v := ?_) (a' := ?_) (bS 12 5) rfl rfl (any_of HT_.out (by kernel_rfl)) (fun _ _ _ h => h) (Or.inl ⟨by rfl, ?_⟩) ?_ ?_; rotate_left; (· intro w'; go_simp; with_reducible rfl); rotate_left; (· simp only [Act.put, sT, sZ, sS, i64_w, i32_w]; rfl)
   refine pure_ (i := 3) (N := some 38) (v := ?_) (a' := ?_) (bS 12 13) rfl rfl (any_of HT_.out (by kernel_rfl)) (fun _ _ _ h => h) (Or.inl ⟨by rfl, ?_⟩) ?_ ?_; rotate_left; (· intro w'; go_simp; with_reducible rfl); rotate_left; (· simp only [Act.put, sT, sZ, sS, i64_w, i32_w]; rfl)
   refine pure_ (i := 7) (N := some 42) (v := ?_) (a' := ?_) (bS 12 141) rfl rfl (any_of HT_.out (by kernel_rfl)) (fun _ _ _ h => h) (Or.inl ⟨by rfl, ?_⟩) ?_ ?_; rotate_left; (· intro w'; go_simp; with_reducible rfl); rotate_left; (· simp only [Act.put, sT, sZ, sS, i64_w, i32_w]; rfl)
   refine take_ (i := 1) (N := some 36) (v := ?_) (a' := ?_) (bS 12 143) rfl rfl (take_ofW HT_.out HW_.out (by kernel_rfl)) (fun _ _ _ h => h) (Or.inl ⟨by rfl, ?_⟩) hHeld ?_ ?_; rotate_left; (· intro w' s0; go_simp; with_reducible rfl); rotate_left; (· simp only [Act.put, sT, sZ, sS, i64_w, i32_w]; rfl)
   refine take_ (i := 4) (N := some 39) (v := ?_) (a' := ?_) (bS 12 159) rfl rfl (take_ofW HT_.out HW_.out (by kernel_rfl)) (fun _ _ _ h => h) (Or.inl ⟨by rfl, ?_⟩) hHeld ?_ ?_; rotate_left; (· intro w' s0; go_simp; with_reducible rfl); rotate_left; (· simp only [Act.put, sT, sZ, sS, i64_w, i32_w]; rfl)
   refine pure_ (i := 5) (N := some 40) (v := ?_) (a' := ?_) (bS 12 191) rfl rfl (any_of HT_.out (by kernel_rfl)) (fun _ _ _ h => h) (Or.inl ⟨by rfl, ?_⟩) ?_ ?_; rotate_left; (· intro w'; go_simp; with_reducible rfl); rotate_left; (· simp only [Act.put, sT, sZ, sS, i64_w, i32_w]; rfl)
   refine one_ (i := 6) (N := some 41) (bS 12 255) rfl rfl (one_of HT_.out (by kernel_rfl)) (by decide) (fun K hK => ?_)
   refine goes_ Try.func28 (by kernel_rfl) rfl #[.int .i64 a4, .int .i64 (C'.length : Int)] (by rfl) rfl rfl (by (try simp only [List.map_toArray, List.map_cons, List.map_nil]); first | done | rfl) ?_
   with_reducible refine (thermionkit_Mod.calls a4 (C'.length : Int) k _ HMD.out).mono ?_
   rintro e1 wq ⟨rfl, hb⟩
   have HQ2 := Aside0.mk (HQ.out.step hb.below)
   clear hb HQ
   have HQ := HQ2
   clear HQ2
   refine ⟨_, rfl, ?_⟩
   refine hK.out _ _ ((plan_cells HQ.out.head).2.2.2) (fun hHeld => ?_)
   clear hK K
   refine norm_ (a' := ?_) ?_ ?_
   rotate_left
   ·show Act.put _ (some 41) _ = _
    simp only [Act.put, sT, sZ, sS, i64_w, i32_w]
    rfl
   refine one_ (i := 8) (N := some 43) (bS 12 511) rfl rfl (one_of HT_.out (by kernel_rfl)) (by decide) (fun K hK => ?_)
   refine goes_ Try.func28 (by kernel_rfl) rfl #[.int .i64 a5, .int .i64 9] (by rfl) rfl rfl (by (try simp only [List.map_toArray, List.map_cons, List.map_nil]); first | done | rfl) ?_
   with_reducible refine (thermionkit_Mod.calls a5 9 m9 _ HM9.out).mono ?_
   rintro e1 wq ⟨rfl, hb⟩
   have HQ2 := Aside0.mk (HQ.out.step hb.below)
   clear hb HQ
   have HQ := HQ2
   clear HQ2
   refine ⟨_, rfl, ?_⟩
   refine hK.out _ _ ((plan_cells HQ.out.head).2.2.2) (fun hHeld => ?_)
   clear hK K
   refine norm_ (a' := ?_) ?_ ?_
   rotate_left
   ·show Act.put _ (some 43) _ = _
    simp only [Act.put, sT, sZ, sS, i64_w, i32_w]
    rfl
   refine pure_ (i := 9) (N := some 44) (v := ?_) (a' := ?_) (bS 12 1023) rfl rfl (any_of HT_.out (by kernel_rfl)) (fun _ _ _ h => h) (Or.inl ⟨by rfl, ?_⟩) ?_ ?_; rotate_left; (· intro w'; go_simp; with_reducible rfl); rotate_left; (· simp only [Act.put, sT, sZ, sS, i64_w, i32_w]; rfl)
   refine pure_ (i := 10) (N := some 45) (v := ?_) (a' := ?_) (bS 12 2047) rfl rfl (any_of HT_.out (by kernel_rfl)) (fun _ _ _ h => h) (Or.inl ⟨by rfl, ?_⟩) ?_ ?_; rotate_left; (· intro w'; go_simp; with_reducible rfl); rotate_left; (· simp only [Act.put, sT, sZ, sS, i64_w, i32_w]; rfl)
   refine last_ (i := 11) (N := none) (bS 12 4095) rfl rfl (one_of HT_.out (by kernel_rfl)) (by decide) (fun K hK => ?_)
   have cX := (blk_cell HQ.out.second k).trans HE.out
   have fX := blk_frozen HQ.out.second k
   go_simp
   refine hK.out _ _ ?_
   clear hK K
   refine done_ (done_of HT_.out (by kernel_rfl)) ?_
   clear hHeld HT_ HW_
   clear cX fX n1 n2 k1' k2' k3' z1 z2
   have HQ2 := Aside0.mk ((HQ.out.swap.put k (.int .i64 ((m9 : Int) - 1)) rfl).swap)
   generalize wq.setCell _ _ = wz at HQ2 ⊢
   have HNA : Aside0 (IsNums (cuC.setIfInBounds k (.int .i64 ((m9 : Int) - 1))) C2 ∧ C'.length ≤ cC) := ⟨by rw [← HC2.out, if_pos HZ.out]; exact HNC.out.1.set k _, HNC.out.2⟩
   generalize cuC.setIfInBounds k _ = cuA at HQ2 HNA
   clear HQ HNC HE HZ
   have HQ := HQ2
   clear HQ2
   go_upto_region 6 with fail
  case' neg =>
   have z1 : (Int.tmod a5 3 == 0) = false := beq_eq_false_iff_ne.mpr z
   have z2 := decide_eq_false z
   have HNA : Aside0 (IsNums cuC C2 ∧ C'.length ≤ cC) := ⟨by rw [← HC2.out, if_neg z]; exact HNC.out.1, HNC.out.2⟩
   clear z
   have HQ := HD4
   go_upto_region 6 with fail
   generalize cuC = cuA at HQ HNA
   generalize u4 = wz at HQ ⊢
   clear HNC HD4 z1 z2
  all_goals
   go_wp2_with (first
    | ((with_reducible refine gate_dst (N := 46) rfl ?_); refine ev_load (blk_below HGP.out HQ.out.below) rfl 24 (.tmp 6) rfl rfl _ Try.underlying24 rfl size24 rfl ?_)
    | ((with_reducible refine gate_dst (N := 47) rfl ?_); refine ev_load HQ.out.head rfl 24 (.tmp 13) rfl rfl _ Try.underlying24 rfl size24 rfl ?_)
    | ((with_reducible refine gate_dst (N := 48) rfl ?_); refine ev_lit HQ.out rfl [.int .i64 W, .int .i64 H, .bool R, .slice A C.length c, .int .i64 (W' : Int), .int .i64 (H' : Int), .bool R', .slice (some ⟨gC, 0, none⟩) C'.length cC] 2 24 ?hrl ?_; (case hrl => first | (go_simp; done) | (go_simp; rfl)); intro gl2 w7 hm1 hq1; clear hq1; have HM7 := Aside0.mk hm1; clear hm1 HQ))
   go_loopg [15] 2 (fun k v15 w' => ∃ (i : Nat), v15 = .int .i64 (i : Int) ∧ Aside0 (i + k = 2) ∧ Aside0 (Mem we w' [(gl2, #[.int .i64 W, .int .i64 H, .bool R, .slice A C.length c, .int .i64 (W' : Int), .int .i64 (H' : Int), .bool R', .slice (some ⟨gC, 0, none⟩) C'.length cC], 24), (g13, planV W' H' R' (some ⟨gC, 0, none⟩) C'.length cC, 24), (gC, cuA, 3), (g, #[.int .u64 s1], 79)]))
   case atStart => exact ⟨0, by go_num, ⟨by omega⟩, HM7⟩
   case round =>
    clear HM7
    obtain ⟨i, rfl, HK, HM⟩ := hrel
    by_cases hi2 : i < 2
    ·have HI2 := Aside0.mk hi2
     have b1 : decide ((i : Int) < 2) = true := by simp; omega
     have b2 : decide (i < 2) = true := by simp; omega
     have b3 : (0 : Int) ≤ (i : Int) := by omega
     have b4 : (i : Int) < 2 := by omega
     have b5 : wrap64 ((i : Int) + 1) = ((i + 1 : Nat) : Int) := by rw [IntWalk.wrap64_in _ (by omega)]; omega
     obtain ⟨Wx, Hx, Rx, Ax, cx, Cx, Kx, hF, hP, hN, c0, c1, c2', c3'⟩ : ∃ (Wx Hx : Int) (Rx : Bool) (Ax : Option Addr) (cx : Nat) (Cx : List Int) (Kx : Nat), Facts Wx Hx Rx Cx v Wq Hq Rq Cq Kx ∧ PR wr Ax cx Cx ∧ Cx.length ≤ 300 ∧ wr.cell? ⟨gl2, i * 4, none⟩ = some (.int .i64 Wx) ∧ wr.cell? ⟨gl2, i * 4 + 1, none⟩ = some (.int .i64 Hx) ∧ wr.cell? ⟨gl2, i * 4 + 2, none⟩ = some (.bool Rx) ∧ wr.cell? ⟨gl2, i * 4 + 3, none⟩ = some (.slice Ax Cx.length cx) := by
      have hc := blk_cell HM.out.head
      rcases (show i = 0 ∨ i = 1 by omega) with rfl | rfl
      ·exact ⟨W, H, R, A, c, C, K1, HF1.out, HP.out.below HM.out.below, HN.out.1, (hc 0).trans rfl, (hc 1).trans rfl, (hc 2).trans rfl, (hc 3).trans rfl⟩
      ·refine ⟨W', H', R', some ⟨gC, 0, none⟩, cC, C2, K2, HF2.out, ⟨C_mem HM.out.third HNA.out.1, by rw [HC2L.out]; exact HNA.out.2⟩, by have := HC2L.out; have := HSMA.out; omega, (hc 4).trans rfl, (hc 5).trans rfl, (hc 6).trans rfl, (hc 7).trans (by rw [HC2L.out]; rfl)⟩
     have HF := Aside0.mk hF
     have HX := Aside0.mk hP
     have HNX := Aside0.mk hN
     clear hi2 hF hP hN
     have HO0 := Aside0.mk (And.intro (HV.out.below HM.out.below) (HQ_.out.below HM.out.below))
     have HGQ2 := Aside0.mk (blk_below HGQ.out HM.out.below)
     have HCL := Aside0.mk (And.intro c0 (And.intro c1 (And.intro c2' c3')))
     go_upto_region 11 with (first
      | (go_at_call 24; refine (thermionref01_Copy.calls Wx Hx Rx Ax cx Cx Wx Hx Rx Cx _ HX.out.r HX.out.c (refcopy_eq Wx Hx Rx Cx (by have := HNX.out; omega))).mono ?_; rintro e1 y1 ⟨vo, rfl, hR, hb⟩; obtain ⟨Ao, co, ee⟩ := Kd.R_slice hR; subst ee; have hr1 := Kd.R_reads' hR; have HB1 := Aside0.mk hb; have HO := Aside0.mk (PR.mk hr1.2.2 hr1.2.1); clear hR hr1 hb c0 c1 c2' c3')
      | (go_at_call 38; refine (thermionkit_Own.calls A2 c2 v v _ (HO0.out.1.below HB1.out).r HV.out.c (own_eq v (by have := HN.out; omega))).mono ?_; rintro e1 y2 ⟨vo, rfl, hR, hb⟩; obtain ⟨Av, cv, ee⟩ := Kd.R_slice hR; subst ee; have hr1 := Kd.R_reads' hR; have HB2 := Aside0.mk (below_step HB1.out hb); have HO2 := Aside0.mk (HO.out.below hb); have HW := Aside0.mk (PR.mk hr1.2.2 hr1.2.1); clear hR hr1 hb HB1 HO)
      | ((with_reducible refine gate_dst (N := 16) rfl ?_); refine ev_new (Mem.start y2) rfl 24 rfl info24 ?_; intro g16 y3 hm1 hq1; have HY := Aside0.mk hm1; clear hm1 hq1)
      | ((with_reducible refine gate_store (t := 24) (p := 16) rfl ?_); refine ev_store HY.out rfl 24 (.tmp 16) (.tmp 59) rfl rfl (cs := planV Wx Hx Rx Ao Cx.length co) rfl size24 rfl rfl (by simp [Value.oneCell']) ?_; intro y4 hm1 hq1; have HS : Aside0 (RS wr y4 gl2 i g16 gq Wx Hx Rx Ax cx Cx Ao co Av cv A2 c2 v Wq Hq Rq Aq cq Cq) := ⟨⟨below_step HB2.out hm1.below, HX.out.below (below_step HB2.out hm1.below), HO2.out.below hm1.below, HW.out.below hm1.below, HO0.out.1.below (below_step HB2.out hm1.below), HO0.out.2.below (below_step HB2.out hm1.below), hm1.head, blk_below HGQ2.out (below_step HB2.out hm1.below), cell_later (below_step HB2.out hm1.below) HCL.out.1, cell_later (below_step HB2.out hm1.below) HCL.out.2.1, cell_later (below_step HB2.out hm1.below) HCL.out.2.2.1, cell_later (below_step HB2.out hm1.below) HCL.out.2.2.2⟩⟩; clear hm1 hq1 HY HB2 HO2 HW HX HO0 HGQ2 HCL))
     replace HS := Aside0.mk (HS.out.step (below_drew1 (Below.refl _ _)))
     refine start_ (n := 31) (S := fun w' => w'.cell? ⟨g16, 0, none⟩ = some (.int .i64 Wx) ∧ w'.cell? ⟨g16, 1, none⟩ = some (.int .i64 Hx) ∧ w'.cell? ⟨g16, 2, none⟩ = some (.bool Rx) ∧ w'.cell? ⟨g16, 3, none⟩ = some (.slice Ao Cx.length co) ∧ w'.cell? ⟨gl2, i * 4, none⟩ = some (.int .i64 Wx) ∧ w'.cell? ⟨gl2, i * 4 + 1, none⟩ = some (.int .i64 Hx) ∧ w'.cell? ⟨gl2, i * 4 + 2, none⟩ = some (.bool Rx) ∧ w'.cell? ⟨gl2, i * 4 + 3, none⟩ = some (.slice Ax Cx.length cx)) (ds := []) #[false, false, false, false, false, false, false, false, false, false, false, false, false, false, false, false, false, false, false, false, false, false, false, false, false, false, false, false, false, false, false] (by kernel_rfl) rfl rfl (cells8 (plan_cells HS.out.g16) HS.out.cells) (fun hHeld => ?_); refine with_tabW checksF.tab11 checksF.bits11 (fun HT_ HW_ => ?_)
     refine pure_ (i := 2) (N := some 64) (v := ?_) (a' := ?_) (bS 31 4) rfl rfl (any_of HT_.out (by kernel_rfl)) (fun _ _ _ h => h) (Or.inl ⟨by rfl, ?_⟩) ?_ ?_; rotate_left; (· intro w'; go_simp; with_reducible rfl); rotate_left; (· simp only [Act.put, sT, sZ, sS, i64_w, i32_w]; rfl)
     refine pure_ (i := 3) (N := some 65) (v := ?_) (a' := ?_) (bS 31 12) rfl rfl (any_of HT_.out (by kernel_rfl)) (fun _ _ _ h => h) (Or.inl ⟨by rfl, ?_⟩) ?_ ?_; rotate_left; (· intro w'; go_simp; with_reducible rfl); rotate_left; (· simp only [Act.put, sT, sZ, sS, i64_w, i32_w]; rfl)
     refine pure_ (i := 4) (N := some 66) (v := ?_) (a' := ?_) (bS 31 28) rfl rfl (any_of HT_.out (by kernel_rfl)) (fun _ _ _ h => h) (Or.inl ⟨by rfl, ?_⟩) ?_ ?_; rotate_left; (· intro w'; go_simp; with_reducible rfl); rotate_left; (· simp only [Act.put, sT, sZ, sS, i64_w, i32_w]; rfl)
     refine take_ (i := 0) (N := some 62) (v := ?_) (a' := ?_) (bS 31 29) rfl rfl (take_ofW HT_.out HW_.out (by kernel_rfl)) (fun _ _ _ h => h) (Or.inl ⟨by rfl, ?_⟩) hHeld ?_ ?_; rotate_left; (· rintro w' ⟨s0, s1, s2, s3, s4, s5, s6, s7⟩; go_simp; with_reducible rfl); rotate_left; (· simp only [Act.put, sT, sZ, sS, i64_w, i32_w]; rfl)
     refine take_ (i := 5) (N := some 67) (v := ?_) (a' := ?_) (bS 31 61) rfl rfl (take_ofW HT_.out HW_.out (by kernel_rfl)) (fun _ _ _ h => h) (Or.inl ⟨by rfl, ?_⟩) hHeld ?_ ?_; rotate_left; (· rintro w' ⟨s0, s1, s2, s3, s4, s5, s6, s7⟩; go_simp; with_reducible rfl); rotate_left; (· simp only [Act.put, sT, sZ, sS, i64_w, i32_w]; rfl)
     refine one_ (i := 1) (N := some 63) (bS 31 63) rfl rfl (one_of HT_.out (by kernel_rfl)) (by decide) (fun K hK => ?_)
     refine goes_ Try.func39 (by kernel_rfl) rfl #[.agg (planV Wx Hx Rx Ao Cx.length co)] (by rfl) rfl rfl (by (try simp only [List.map_toArray, List.map_cons, List.map_nil]); first | done | rfl) ?_
     with_reducible refine (field_Check.calls Wx Hx Rx Ao co Cx (checkErr Wx Hx Rx Cx) _ HS.out.o.r HS.out.o.c rfl).mono ?_
     rintro e1 wq ⟨rfl, hb⟩
     have HS2 := Aside0.mk (HS.out.step (by first | exact hb | exact hb.below))
     clear hb HS
     have HS := HS2
     clear HS2
     refine ⟨_, rfl, ?_⟩
     refine hK.out _ _ (cells8 (plan_cells HS.out.g16) HS.out.cells) (fun hHeld => ?_)
     clear hK K
     refine norm_ (a' := ?_) ?_ ?_
     rotate_left
     ·show Act.put _ (some 63) _ = _
      simp only [Act.put, sT, sZ, sS, i64_w, i32_w]
      rfl
     refine one_ (i := 6) (N := some 68) (bS 31 127) rfl rfl (one_of HT_.out (by kernel_rfl)) (by decide) (fun K hK => ?_)
     refine goes_ Try.func40 (by kernel_rfl) rfl #[.agg (planV Wx Hx Rx Ax Cx.length cx)] (by rfl) rfl rfl (by (try simp only [List.map_toArray, List.map_cons, List.map_nil]); first | done | rfl) ?_
     with_reducible refine (thermionref01_Check.calls Kx Wx Hx Rx Ax cx Cx (checkErr Wx Hx Rx Cx) _ HS.out.x.r HS.out.x.c HF.out.e0).mono ?_
     rintro e1 wq ⟨rfl, hb⟩
     have HS2 := Aside0.mk (HS.out.step (by first | exact hb | exact hb.below))
     clear hb HS
     have HS := HS2
     clear HS2
     refine ⟨_, rfl, ?_⟩
     refine hK.out _ _ (cells8 (plan_cells HS.out.g16) HS.out.cells) (fun hHeld => ?_)
     clear hK K
     refine norm_ (a' := ?_) ?_ ?_
     rotate_left
     ·show Act.put _ (some 68) _ = _
      simp only [Act.put, sT, sZ, sS, i64_w, i32_w]
      rfl
     refine pure_ (i := 7) (N := some 69) (v := ?_) (a' := ?_) (bS 31 255) rfl rfl (any_of HT_.out (by kernel_rfl)) (fun _ _ _ h => h) (Or.inl ⟨by rfl, ?_⟩) ?_ ?_; rotate_left; (· intro w'; go_simp; with_reducible rfl); rotate_left; (· simp only [Act.put, sT, sZ, sS, i64_w, i32_w]; rfl)
     refine pure_ (i := 8) (N := some 70) (v := ?_) (a' := ?_) (bS 31 511) rfl rfl (any_of HT_.out (by kernel_rfl)) (fun _ _ _ h => h) (Or.inl ⟨by rfl, ?_⟩) ?_ ?_; rotate_left; (· intro w'; go_simp; with_reducible rfl); rotate_left; (· simp only [Act.put, sT, sZ, sS, i64_w, i32_w]; rfl)
     refine pure_ (i := 10) (N := some 72) (v := ?_) (a' := ?_) (bS 31 1535) rfl rfl (any_of HT_.out (by kernel_rfl)) (fun _ _ _ h => h) (Or.inl ⟨by rfl, ?_⟩) ?_ ?_; rotate_left; (· intro w'; go_simp; with_reducible rfl); rotate_left; (· simp only [Act.put, sT, sZ, sS, i64_w, i32_w]; rfl)
     refine pure_ (i := 12) (N := some 74) (v := ?_) (a' := ?_) (bS 31 5631) rfl rfl (any_of HT_.out (by kernel_rfl)) (fun _ _ _ h => h) (Or.inl ⟨by rfl, ?_⟩) ?_ ?_; rotate_left; (· intro w'; go_simp; with_reducible rfl); rotate_left; (· simp only [Act.put, sT, sZ, sS, i64_w, i32_w]; rfl)
     refine pure_ (i := 13) (N := some 75) (v := ?_) (a' := ?_) (bS 31 13823) rfl rfl (any_of HT_.out (by kernel_rfl)) (fun _ _ _ h => h) (Or.inl ⟨by rfl, ?_⟩) ?_ ?_; rotate_left; (· intro w'; go_simp; with_reducible rfl); rotate_left; (· simp only [Act.put, sT, sZ, sS, i64_w, i32_w]; rfl)
     refine pure_ (i := 14) (N := some 76) (v := ?_) (a' := ?_) (bS 31 30207) rfl rfl (any_of HT_.out (by kernel_rfl)) (fun _ _ _ h => h) (Or.inl ⟨by rfl, ?_⟩) ?_ ?_; rotate_left; (· intro w'; go_simp; with_reducible rfl); rotate_left; (· simp only [Act.put, sT, sZ, sS, i64_w, i32_w]; rfl)
     refine pure_ (i := 16) (N := some 78) (v := ?_) (a' := ?_) (bS 31 95743) rfl rfl (any_of HT_.out (by kernel_rfl)) (fun _ _ _ h => h) (Or.inl ⟨by rfl, ?_⟩) ?_ ?_; rotate_left; (· intro w'; go_simp; with_reducible rfl); rotate_left; (· simp only [Act.put, sT, sZ, sS, i64_w, i32_w]; rfl)
     refine take_ (i := 9) (N := some 71) (v := ?_) (a' := ?_) (bS 31 96255) rfl rfl (take_ofW HT_.out HW_.out (by kernel_rfl)) (fun _ _ _ h => h) (Or.inl ⟨by rfl, ?_⟩) hHeld ?_ ?_; rotate_left; (· rintro w' ⟨s0, s1, s2, s3, s4, s5, s6, s7⟩; go_simp; with_reducible rfl); rotate_left; (· simp only [Act.put, sT, sZ, sS, i64_w, i32_w]; rfl)
     refine take_ (i := 15) (N := some 77) (v := ?_) (a' := ?_) (bS 31 129023) rfl rfl (take_ofW HT_.out HW_.out (by kernel_rfl)) (fun _ _ _ h => h) (Or.inl ⟨by rfl, ?_⟩) hHeld ?_ ?_; rotate_left; (· rintro w' ⟨s0, s1, s2, s3, s4, s5, s6, s7⟩; go_simp; with_reducible rfl); rotate_left; (· simp only [Act.put, sT, sZ, sS, i64_w, i32_w]; rfl)
     refine one_ (i := 11) (N := some 73) (bS 31 131071) rfl rfl (one_of HT_.out (by kernel_rfl)) (by decide) (fun K hK => ?_)
     refine goes_ Try.func41 (by kernel_rfl) rfl #[.agg (planV Wx Hx Rx Ao Cx.length co), .slice Av v.length cv] (by rfl) rfl rfl (by (try simp only [List.map_toArray, List.map_cons, List.map_nil]); first | done | rfl) ?_
     with_reducible refine (field_CheckVolts.calls Wx Hx Rx Ao co Cx Av cv v (voltErr Wx Hx Rx Cx v) _ HS.out.o.r HS.out.o.c HS.out.v2.r HS.out.v2.c rfl).mono ?_
     rintro e1 wq ⟨rfl, hb⟩
     have HS2 := Aside0.mk (HS.out.step (by first | exact hb | exact hb.below))
     clear hb HS
     have HS := HS2
     clear HS2
     refine ⟨_, rfl, ?_⟩
     refine hK.out _ _ (cells8 (plan_cells HS.out.g16) HS.out.cells) (fun hHeld => ?_)
     clear hK K
     refine norm_ (a' := ?_) ?_ ?_
     rotate_left
     ·show Act.put _ (some 73) _ = _
      simp only [Act.put, sT, sZ, sS, i64_w, i32_w]
      rfl
     refine one_ (i := 17) (N := some 79) (bS 31 262143) rfl rfl (one_of HT_.out (by kernel_rfl)) (by decide) (fun K hK => ?_)
     refine goes_ Try.func42 (by kernel_rfl) rfl #[.agg (planV Wx Hx Rx Ax Cx.length cx), .slice A2 v.length c2] (by rfl) rfl rfl (by (try simp only [List.map_toArray, List.map_cons, List.map_nil]); first | done | rfl) ?_
     with_reducible refine (thermionref01_CheckVolts.calls Kx Wx Hx Rx Ax cx Cx A2 c2 v (voltErr Wx Hx Rx Cx v) _ HS.out.x.r HS.out.x.c HS.out.v.r HS.out.v.c HF.out.e1).mono ?_
     rintro e1 wq ⟨rfl, hb⟩
     have HS2 := Aside0.mk (HS.out.step (by first | exact hb | exact hb.below))
     clear hb HS
     have HS := HS2
     clear HS2
     refine ⟨_, rfl, ?_⟩
     refine hK.out _ _ (cells8 (plan_cells HS.out.g16) HS.out.cells) (fun hHeld => ?_)
     clear hK K
     refine norm_ (a' := ?_) ?_ ?_
     rotate_left
     ·show Act.put _ (some 79) _ = _
      simp only [Act.put, sT, sZ, sS, i64_w, i32_w]
      rfl
     refine pure_ (i := 18) (N := some 80) (v := ?_) (a' := ?_) (bS 31 524287) rfl rfl (any_of HT_.out (by kernel_rfl)) (fun _ _ _ h => h) (Or.inl ⟨by rfl, ?_⟩) ?_ ?_; rotate_left; (· intro w'; go_simp; with_reducible rfl); rotate_left; (· simp only [Act.put, sT, sZ, sS, i64_w, i32_w]; rfl)
     refine pure_ (i := 19) (N := some 81) (v := ?_) (a' := ?_) (bS 31 1048575) rfl rfl (any_of HT_.out (by kernel_rfl)) (fun _ _ _ h => h) (Or.inl ⟨by rfl, ?_⟩) ?_ ?_; rotate_left; (· intro w'; go_simp; with_reducible rfl); rotate_left; (· simp only [Act.put, sT, sZ, sS, i64_w, i32_w]; rfl)
     refine pure_ (i := 20) (N := some 82) (v := ?_) (a' := ?_) (bS 31 2097151) rfl rfl (any_of HT_.out (by kernel_rfl)) (fun _ _ _ h => h) (Or.inl ⟨by rfl, ?_⟩) ?_ ?_; rotate_left; (· intro w'; go_simp; with_reducible rfl); rotate_left; (· simp only [Act.put, sT, sZ, sS, i64_w, i32_w]; rfl)
     refine pure_ (i := 23) (N := some 85) (v := ?_) (a' := ?_) (bS 31 10485759) rfl rfl (any_of HT_.out (by kernel_rfl)) (fun _ _ _ h => h) (Or.inl ⟨by rfl, ?_⟩) ?_ ?_; rotate_left; (· intro w'; go_simp; with_reducible rfl); rotate_left; (· simp only [Act.put, sT, sZ, sS, i64_w, i32_w]; rfl)
     refine pure_ (i := 24) (N := some 86) (v := ?_) (a' := ?_) (bS 31 27262975) rfl rfl (any_of HT_.out (by kernel_rfl)) (fun _ _ _ h => h) (Or.inl ⟨by rfl, ?_⟩) ?_ ?_; rotate_left; (· intro w'; go_simp; with_reducible rfl); rotate_left; (· simp only [Act.put, sT, sZ, sS, i64_w, i32_w]; rfl)
     refine pure_ (i := 25) (N := some 87) (v := ?_) (a' := ?_) (bS 31 60817407) rfl rfl (any_of HT_.out (by kernel_rfl)) (fun _ _ _ h => h) (Or.inl ⟨by rfl, ?_⟩) ?_ ?_; rotate_left; (· intro w'; go_simp; with_reducible rfl); rotate_left; (· simp only [Act.put, sT, sZ, sS, i64_w, i32_w]; rfl)
     refine take_ (i := 21) (N := some 83) (v := ?_) (a' := ?_) (bS 31 62914559) rfl rfl (take_ofW HT_.out HW_.out (by kernel_rfl)) (fun _ _ _ h => h) (Or.inl ⟨by rfl, ?_⟩) hHeld ?_ ?_; rotate_left; (· rintro w' ⟨s0, s1, s2, s3, s4, s5, s6, s7⟩; go_simp; with_reducible rfl); rotate_left; (· simp only [Act.put, sT, sZ, sS, i64_w, i32_w]; rfl)
     refine take_ (i := 26) (N := some 88) (v := ?_) (a' := ?_) (bS 31 130023423) rfl rfl (take_ofW HT_.out HW_.out (by kernel_rfl)) (fun _ _ _ h => h) (Or.inl ⟨by rfl, ?_⟩) hHeld ?_ ?_; rotate_left; (· rintro w' ⟨s0, s1, s2, s3, s4, s5, s6, s7⟩; go_simp; with_reducible rfl); rotate_left; (· simp only [Act.put, sT, sZ, sS, i64_w, i32_w]; rfl)
     refine one_ (i := 22) (N := some 84) (bS 31 134217727) rfl rfl (one_of HT_.out (by kernel_rfl)) (by decide) (fun K hK => ?_)
     refine goes_ Try.func44 (by kernel_rfl) rfl #[.agg (planV Wx Hx Rx Ao Cx.length co)] (by rfl) rfl rfl (by (try simp only [List.map_toArray, List.map_cons, List.map_nil]); first | done | rfl) ?_
     with_reducible refine (field_Electrodes.calls Kx Wx Hx Rx Ao co Cx (elecE Wx Hx Rx Cx) _ HS.out.o.r HS.out.o.c HF.out.l0).mono ?_
     rintro e1 wq ⟨ve, rfl, hR, hb⟩
     have HS2 := Aside0.mk (HS.out.step (by first | exact hb | exact hb.below))
     obtain ⟨AE, cE, ee⟩ := Kd.R_slice hR
     subst ee
     have hr1 := Kd.R_reads' hR
     have HE1 := Aside0.mk (PR.mk hr1.2.2 hr1.2.1)
     clear hR hr1 hb HS
     have HS := HS2
     clear HS2
     refine ⟨_, rfl, ?_⟩
     refine hK.out _ _ (cells8 (plan_cells HS.out.g16) HS.out.cells) (fun hHeld => ?_)
     clear hK K
     refine norm_ (a' := ?_) ?_ ?_
     rotate_left
     ·show Act.put _ (some 84) _ = _
      simp only [Act.put, sT, sZ, sS, i64_w, i32_w]
      rfl
     refine one_ (i := 27) (N := some 89) (bS 31 268435455) rfl rfl (one_of HT_.out (by kernel_rfl)) (by decide) (fun K hK => ?_)
     refine goes_ Try.func45 (by kernel_rfl) rfl #[.agg (planV Wx Hx Rx Ax Cx.length cx)] (by rfl) rfl rfl (by (try simp only [List.map_toArray, List.map_cons, List.map_nil]); first | done | rfl) ?_
     with_reducible refine (thermionref01_Electrodes.calls Kx Wx Hx Rx Ax cx Cx (elecE Wx Hx Rx Cx) _ HS.out.x.r HS.out.x.c HF.out.l1).mono ?_
     rintro e1 wq ⟨ve, rfl, hR, hb⟩
     have HS2 := Aside0.mk (HS.out.step (by first | exact hb | exact hb.below))
     obtain ⟨AF, cF, ee⟩ := Kd.R_slice hR
     subst ee
     have hr1 := Kd.R_reads' hR
     have HE2 := Aside0.mk (PR.mk hr1.2.2 hr1.2.1)
     clear hR hr1
     replace HE1 := Aside0.mk (HE1.out.below hb)
     clear hb HS
     have HS := HS2
     clear HS2
     refine ⟨_, rfl, ?_⟩
     refine hK.out _ _ (cells8 (plan_cells HS.out.g16) HS.out.cells) (fun hHeld => ?_)
     clear hK K
     refine norm_ (a' := ?_) ?_ ?_
     rotate_left
     ·show Act.put _ (some 89) _ = _
      simp only [Act.put, sT, sZ, sS, i64_w, i32_w]
      rfl
     refine one_ (i := 28) (N := some 90) (bS 31 536870911) rfl rfl (one_of HT_.out (by kernel_rfl)) (by decide) (fun K hK => ?_)
     refine goes_ Try.func43 (by kernel_rfl) rfl #[.slice AE (elecE Wx Hx Rx Cx).length cE, .slice AF (elecE Wx Hx Rx Cx).length cF] (by rfl) rfl rfl (by (try simp only [List.map_toArray, List.map_cons, List.map_nil]); first | done | rfl) ?_
     with_reducible refine (thermionkit_Same.calls Kx AE cE (elecE Wx Hx Rx Cx) AF cF (elecE Wx Hx Rx Cx) true _ HE1.out.r HE1.out.c HE2.out.r HE2.out.c HF.out.ls).mono ?_
     rintro e1 wq ⟨rfl, hb⟩
     have HS2 := Aside0.mk (HS.out.step (by first | exact hb | exact hb.below))
     clear HE1 HE2 hb HS
     have HS := HS2
     clear HS2
     refine ⟨_, rfl, ?_⟩
     refine hK.out _ _ (cells8 (plan_cells HS.out.g16) HS.out.cells) (fun hHeld => ?_)
     clear hK K
     refine norm_ (a' := ?_) ?_ ?_
     rotate_left
     ·show Act.put _ (some 90) _ = _
      simp only [Act.put, sT, sZ, sS, i64_w, i32_w]
      rfl
     refine pure_ (i := 29) (N := some 91) (v := ?_) (a' := ?_) (bS 31 1073741823) rfl rfl (any_of HT_.out (by kernel_rfl)) (fun _ _ _ h => h) (Or.inl ⟨by rfl, ?_⟩) ?_ ?_; rotate_left; (· intro w'; go_simp; with_reducible rfl); rotate_left; (· simp only [Act.put, sT, sZ, sS, i64_w, i32_w]; rfl)
     refine pure_ (i := 30) (N := some 92) (v := ?_) (a' := ?_) (bS 31 2147483647) rfl rfl (any_of HT_.out (by kernel_rfl)) (fun _ _ _ h => h) (Or.inl ⟨by rfl, ?_⟩) ?_ ?_; rotate_left; (· intro w'; go_simp; with_reducible rfl); rotate_left; (· simp only [Act.put, sT, sZ, sS, i64_w, i32_w]; rfl)
     refine done_ (done_of HT_.out (by kernel_rfl)) ?_
     clear hHeld HT_ HW_
     go_upto_region 14 with (first
      | ((with_reducible refine gate_dst (N := 93) rfl ?_); refine ev_load HS.out.g16 rfl 24 (.tmp 16) rfl rfl _ Try.underlying24 rfl size24 rfl ?_)
      | (go_at_call 46; refine (field_Copy.calls Wx Hx Rx Ao co Cx Wx Hx Rx Cx _ HS.out.o.r HS.out.o.c (ourcopy_eq Wx Hx Rx Cx (by have := HNX.out; omega))).mono ?_; rintro e1 z1 ⟨vc, rfl, hR, hb⟩; have HRC := Aside0.mk hR; have HBZ := Aside0.mk hb; clear hR hb)
      | ((with_reducible refine gate_dst (N := 18) rfl ?_); refine ev_new (Mem.start z1) rfl 24 rfl info24 ?_; intro g18 z2 hm1 hq1; have HY := Aside0.mk hm1; clear hm1 hq1)
      | ((with_reducible refine gate_store (t := 24) (p := 18) rfl ?_); refine ev_store HY.out rfl 24 (.tmp 18) (.tmp 94) rfl rfl (cs := #[.int .i64 Wx, .int .i64 Hx, .bool Rx, vc]) rfl size24 rfl rfl (by obtain ⟨q1, q2, q3⟩ := Kd.R_slice HRC.out; subst q3; simp [Value.oneCell']) ?_; intro z3 hm1 hq1; have HG18 := Aside0.mk hm1.head; have HGE0 := Aside0.mk hm1.geh; have HRC2 := Aside0.mk (Kd.R_types (Kd.R_below HRC.out hm1.below) hm1.head (by decide)); have HBZ0 := Aside0.mk HBZ.out.size; have HBY := Aside0.mk (below_step HBZ.out hm1.below); clear hm1 hq1 HY HBZ HRC))
     obtain ⟨zb, rfl⟩ : ∃ z : World, z = wq := ⟨_, rfl⟩
     obtain ⟨Ac, cc, ee⟩ := Kd.R_slice HRC2.out
     subst ee
     have HC0 := Aside0.mk (PR.mk (Kd.R_reads' HRC2.out).2.2 (Kd.R_reads' HRC2.out).2.1)
     have HT : Aside0 (RS wr z3 gl2 i g16 gq Wx Hx Rx Ax cx Cx Ao co Av cv A2 c2 v Wq Hq Rq Aq cq Cq) := ⟨HS.out.step HBY.out⟩
     have HGE : Aside0 (zb.heap.size ≤ g18) := ⟨Nat.le_trans HBZ0.out HGE0.out⟩
     have HG := Aside0.mk HG18.out
     replace HT := Aside0.mk (HT.out.step (below_drew1 (Below.refl _ _)))
     replace HG : Aside0 (z3.drew.heap[g18]? = some (.cells (planV Wx Hx Rx Ac Cx.length cc) 24 (0, 0))) := ⟨HG18.out⟩
     replace HC0 := Aside0.mk (HC0.out.below (below_drew1 (Below.refl _ _)))
     have HDR : Aside0 (Below z3.heap.size z3 z3.drew) := ⟨below_drew1 (Below.refl _ _)⟩
     obtain ⟨rq, hrq⟩ : ∃ b, decide (Wx = Wq ∧ Hx = Hq ∧ Rx = Rq ∧ Cx = Cq) = b := ⟨_, rfl⟩
     have HRQ1 : Aside0 (field_Same.f Kx Wx Hx Rx Cx Wq Hq Rq Cq = some rq) := ⟨by rw [← hrq]; exact HF.out.s2⟩
     have HRQ2 : Aside0 (thermionref01_Same.f Kx Wx Hx Rx Cx Wq Hq Rq Cq = some rq) := ⟨by rw [← hrq]; exact HF.out.s3⟩
     clear hrq
     refine start_ (n := 25) (S := fun w' => w'.cell? ⟨g18, 0, none⟩ = some (.int .i64 Wx) ∧ w'.cell? ⟨g18, 1, none⟩ = some (.int .i64 Hx) ∧ w'.cell? ⟨g18, 2, none⟩ = some (.bool Rx) ∧ w'.cell? ⟨g18, 3, none⟩ = some (.slice Ac Cx.length cc) ∧ w'.cell? ⟨g16, 0, none⟩ = some (.int .i64 Wx) ∧ w'.cell? ⟨g16, 1, none⟩ = some (.int .i64 Hx) ∧ w'.cell? ⟨g16, 2, none⟩ = some (.bool Rx) ∧ w'.cell? ⟨g16, 3, none⟩ = some (.slice Ao Cx.length co) ∧ w'.cell? ⟨gq, 0, none⟩ = some (.int .i64 Wq) ∧ w'.cell? ⟨gq, 1, none⟩ = some (.int .i64 Hq) ∧ w'.cell? ⟨gq, 2, none⟩ = some (.bool Rq) ∧ w'.cell? ⟨gq, 3, none⟩ = some (.slice Aq Cq.length cq) ∧ w'.cell? ⟨gl2, i * 4, none⟩ = some (.int .i64 Wx) ∧ w'.cell? ⟨gl2, i * 4 + 1, none⟩ = some (.int .i64 Hx) ∧ w'.cell? ⟨gl2, i * 4 + 2, none⟩ = some (.bool Rx) ∧ w'.cell? ⟨gl2, i * 4 + 3, none⟩ = some (.slice Ax Cx.length cx)) (ds := []) #[false, false, false, false, false, false, false, false, false, false, false, false, false, false, false, false, false, false, false, false, false, false, false, false, false] (by kernel_rfl) rfl rfl (cells16' (plan_cells HG.out) (plan_cells HT.out.g16) (plan_cells HT.out.gq) HT.out.cells) (fun hHeld => ?_); refine with_tabW checksF.tab14 checksF.bits14 (fun HT_ HW_ => ?_)
     refine pure_ (i := 1) (N := some 96) (v := ?_) (a' := ?_) (bS 25 2) rfl rfl (any_of HT_.out (by kernel_rfl)) (fun _ _ _ h => h) (Or.inl ⟨by rfl, ?_⟩) ?_ ?_; rotate_left; (· intro w'; go_simp; with_reducible rfl); rotate_left; (· simp only [Act.put, sT, sZ, sS, i64_w, i32_w]; rfl)
     refine pure_ (i := 2) (N := some 97) (v := ?_) (a' := ?_) (bS 25 6) rfl rfl (any_of HT_.out (by kernel_rfl)) (fun _ _ _ h => h) (Or.inl ⟨by rfl, ?_⟩) ?_ ?_; rotate_left; (· intro w'; go_simp; with_reducible rfl); rotate_left; (· simp only [Act.put, sT, sZ, sS, i64_w, i32_w]; rfl)
     refine pure_ (i := 3) (N := some 98) (v := ?_) (a' := ?_) (bS 25 14) rfl rfl (any_of HT_.out (by kernel_rfl)) (fun _ _ _ h => h) (Or.inl ⟨by rfl, ?_⟩) ?_ ?_; rotate_left; (· intro w'; go_simp; with_reducible rfl); rotate_left; (· simp only [Act.put, sT, sZ, sS, i64_w, i32_w]; rfl)
     refine take_ (i := 0) (N := some 95) (v := ?_) (a' := ?_) (bS 25 15) rfl rfl (take_ofW HT_.out HW_.out (by kernel_rfl)) (fun _ _ _ h => h) (Or.inl ⟨by rfl, ?_⟩) hHeld ?_ ?_; rotate_left; (· rintro w' ⟨s0, s1, s2, s3, s4, s5, s6, s7, s8, s9, s10, s11, s12, s13, s14, s15⟩; go_simp; with_reducible rfl); rotate_left; (· simp only [Act.put, sT, sZ, sS, i64_w, i32_w]; rfl)
     refine take_ (i := 4) (N := some 99) (v := ?_) (a' := ?_) (bS 25 31) rfl rfl (take_ofW HT_.out HW_.out (by kernel_rfl)) (fun _ _ _ h => h) (Or.inl ⟨by rfl, ?_⟩) hHeld ?_ ?_; rotate_left; (· rintro w' ⟨s0, s1, s2, s3, s4, s5, s6, s7, s8, s9, s10, s11, s12, s13, s14, s15⟩; go_simp; with_reducible rfl); rotate_left; (· simp only [Act.put, sT, sZ, sS, i64_w, i32_w]; rfl)
     refine one_ (i := 5) (N := some 100) (bS 25 63) rfl rfl (one_of HT_.out (by kernel_rfl)) (by decide) (fun K hK => ?_)
     refine goes_ Try.func29 (by kernel_rfl) rfl #[.agg (planV Wx Hx Rx Ac Cx.length cc), .agg (planV Wx Hx Rx Ax Cx.length cx)] (by rfl) rfl rfl (by (try simp only [List.map_toArray, List.map_cons, List.map_nil]); first | done | rfl) ?_
     with_reducible refine (thermionref01_Same.calls Kx Wx Hx Rx Ac cc Cx Wx Hx Rx Ax cx Cx true _ HC0.out.r HC0.out.c HT.out.x.r HT.out.x.c HF.out.s0).mono ?_
     rintro e1 wq ⟨rfl, hb⟩
     have HT2 := Aside0.mk (HT.out.step hb)
     have HG2 := Aside0.mk (blk_below HG.out hb)
     have HC2' := Aside0.mk (HC0.out.below hb)
     have HDR2 := Aside0.mk (below_step HDR.out hb)
     clear hb HT HG HC0 HDR
     have HT := HT2
     have HG := HG2
     have HC0 := HC2'
     have HDR := HDR2
     clear HT2 HG2 HC2' HDR2
     refine ⟨_, rfl, ?_⟩
     refine hK.out _ _ (cells16' (plan_cells HG.out) (plan_cells HT.out.g16) (plan_cells HT.out.gq) HT.out.cells) (fun hHeld => ?_)
     clear hK K
     refine norm_ (a' := ?_) ?_ ?_
     rotate_left
     ·show Act.put _ (some 100) _ = _
      simp only [Act.put, sT, sZ, sS, i64_w, i32_w]
      rfl
     refine pure_ (i := 6) (N := some 101) (v := ?_) (a' := ?_) (bS 25 127) rfl rfl (any_of HT_.out (by kernel_rfl)) (fun _ _ _ h => h) (Or.inl ⟨by rfl, ?_⟩) ?_ ?_; rotate_left; (· intro w'; go_simp; with_reducible rfl); rotate_left; (· simp only [Act.put, sT, sZ, sS, i64_w, i32_w]; rfl)
     refine pure_ (i := 7) (N := some 102) (v := ?_) (a' := ?_) (bS 25 255) rfl rfl (any_of HT_.out (by kernel_rfl)) (fun _ _ _ h => h) (Or.inl ⟨by rfl, ?_⟩) ?_ ?_; rotate_left; (· intro w'; go_simp; with_reducible rfl); rotate_left; (· simp only [Act.put, sT, sZ, sS, i64_w, i32_w]; rfl)
     refine take_ (i := 8) (N := some 103) (v := ?_) (a' := ?_) (bS 25 511) rfl rfl (take_ofW HT_.out HW_.out (by kernel_rfl)) (fun _ _ _ h => h) (Or.inl ⟨by rfl, ?_⟩) hHeld ?_ ?_; rotate_left; (· rintro w' ⟨s0, s1, s2, s3, s4, s5, s6, s7, s8, s9, s10, s11, s12, s13, s14, s15⟩; go_simp; with_reducible rfl); rotate_left; (· simp only [Act.put, sT, sZ, sS, i64_w, i32_w]; rfl)
     refine take_ (i := 9) (N := some 104) (v := ?_) (a' := ?_) (bS 25 1023) rfl rfl (take_ofW HT_.out HW_.out (by kernel_rfl)) (fun _ _ _ h => h) (Or.inl ⟨by rfl, ?_⟩) hHeld ?_ ?_; rotate_left; (· rintro w' ⟨s0, s1, s2, s3, s4, s5, s6, s7, s8, s9, s10, s11, s12, s13, s14, s15⟩; go_simp; with_reducible rfl); rotate_left; (· simp only [Act.put, sT, sZ, sS, i64_w, i32_w]; rfl)
     refine one_ (i := 10) (N := some 105) (bS 25 2047) rfl rfl (one_of HT_.out (by kernel_rfl)) (by decide) (fun K hK => ?_)
     refine goes_ Try.func47 (by kernel_rfl) rfl #[.agg (planV Wx Hx Rx Ac Cx.length cc), .agg (planV Wx Hx Rx Ao Cx.length co)] (by rfl) rfl rfl (by (try simp only [List.map_toArray, List.map_cons, List.map_nil]); first | done | rfl) ?_
     with_reducible refine (field_Same.calls Kx Wx Hx Rx Ac cc Cx Wx Hx Rx Ao co Cx true _ HC0.out.r HC0.out.c HT.out.o.r HT.out.o.c HF.out.s1).mono ?_
     rintro e1 wq ⟨rfl, hb⟩
     have HT2 := Aside0.mk (HT.out.step hb)
     have HG2 := Aside0.mk (blk_below HG.out hb)
     have HC2' := Aside0.mk (HC0.out.below hb)
     have HDR2 := Aside0.mk (below_step HDR.out hb)
     clear hb HT HG HC0 HDR
     have HT := HT2
     have HG := HG2
     have HC0 := HC2'
     have HDR := HDR2
     clear HT2 HG2 HC2' HDR2
     refine ⟨_, rfl, ?_⟩
     refine hK.out _ _ (cells16' (plan_cells HG.out) (plan_cells HT.out.g16) (plan_cells HT.out.gq) HT.out.cells) (fun hHeld => ?_)
     clear hK K
     refine norm_ (a' := ?_) ?_ ?_
     rotate_left
     ·show Act.put _ (some 105) _ = _
      simp only [Act.put, sT, sZ, sS, i64_w, i32_w]
      rfl
     refine pure_ (i := 11) (N := some 106) (v := ?_) (a' := ?_) (bS 25 4095) rfl rfl (any_of HT_.out (by kernel_rfl)) (fun _ _ _ h => h) (Or.inl ⟨by rfl, ?_⟩) ?_ ?_; rotate_left; (· intro w'; go_simp; with_reducible rfl); rotate_left; (· simp only [Act.put, sT, sZ, sS, i64_w, i32_w]; rfl)
     refine pure_ (i := 12) (N := some 107) (v := ?_) (a' := ?_) (bS 25 8191) rfl rfl (any_of HT_.out (by kernel_rfl)) (fun _ _ _ h => h) (Or.inl ⟨by rfl, ?_⟩) ?_ ?_; rotate_left; (· intro w'; go_simp; with_reducible rfl); rotate_left; (· simp only [Act.put, sT, sZ, sS, i64_w, i32_w]; rfl)
     refine pure_ (i := 13) (N := some 108) (v := ?_) (a' := ?_) (bS 25 16383) rfl rfl (any_of HT_.out (by kernel_rfl)) (fun _ _ _ h => h) (Or.inl ⟨by rfl, ?_⟩) ?_ ?_; rotate_left; (· intro w'; go_simp; with_reducible rfl); rotate_left; (· simp only [Act.put, sT, sZ, sS, i64_w, i32_w]; rfl)
     refine pure_ (i := 17) (N := some 112) (v := ?_) (a' := ?_) (bS 25 147455) rfl rfl (any_of HT_.out (by kernel_rfl)) (fun _ _ _ h => h) (Or.inl ⟨by rfl, ?_⟩) ?_ ?_; rotate_left; (· intro w'; go_simp; with_reducible rfl); rotate_left; (· simp only [Act.put, sT, sZ, sS, i64_w, i32_w]; rfl)
     refine pure_ (i := 18) (N := some 113) (v := ?_) (a' := ?_) (bS 25 409599) rfl rfl (any_of HT_.out (by kernel_rfl)) (fun _ _ _ h => h) (Or.inl ⟨by rfl, ?_⟩) ?_ ?_; rotate_left; (· intro w'; go_simp; with_reducible rfl); rotate_left; (· simp only [Act.put, sT, sZ, sS, i64_w, i32_w]; rfl)
     refine pure_ (i := 19) (N := some 114) (v := ?_) (a' := ?_) (bS 25 933887) rfl rfl (any_of HT_.out (by kernel_rfl)) (fun _ _ _ h => h) (Or.inl ⟨by rfl, ?_⟩) ?_ ?_; rotate_left; (· intro w'; go_simp; with_reducible rfl); rotate_left; (· simp only [Act.put, sT, sZ, sS, i64_w, i32_w]; rfl)
     refine take_ (i := 14) (N := some 109) (v := ?_) (a' := ?_) (bS 25 950271) rfl rfl (take_ofW HT_.out HW_.out (by kernel_rfl)) (fun _ _ _ h => h) (Or.inl ⟨by rfl, ?_⟩) hHeld ?_ ?_; rotate_left; (· rintro w' ⟨s0, s1, s2, s3, s4, s5, s6, s7, s8, s9, s10, s11, s12, s13, s14, s15⟩; go_simp; with_reducible rfl); rotate_left; (· simp only [Act.put, sT, sZ, sS, i64_w, i32_w]; rfl)
     refine take_ (i := 15) (N := some 110) (v := ?_) (a' := ?_) (bS 25 983039) rfl rfl (take_ofW HT_.out HW_.out (by kernel_rfl)) (fun _ _ _ h => h) (Or.inl ⟨by rfl, ?_⟩) hHeld ?_ ?_; rotate_left; (· rintro w' ⟨s0, s1, s2, s3, s4, s5, s6, s7, s8, s9, s10, s11, s12, s13, s14, s15⟩; go_simp; with_reducible rfl); rotate_left; (· simp only [Act.put, sT, sZ, sS, i64_w, i32_w]; rfl)
     refine take_ (i := 20) (N := some 115) (v := ?_) (a' := ?_) (bS 25 2031615) rfl rfl (take_ofW HT_.out HW_.out (by kernel_rfl)) (fun _ _ _ h => h) (Or.inl ⟨by rfl, ?_⟩) hHeld ?_ ?_; rotate_left; (· rintro w' ⟨s0, s1, s2, s3, s4, s5, s6, s7, s8, s9, s10, s11, s12, s13, s14, s15⟩; go_simp; with_reducible rfl); rotate_left; (· simp only [Act.put, sT, sZ, sS, i64_w, i32_w]; rfl)
     refine take_ (i := 21) (N := some 116) (v := ?_) (a' := ?_) (bS 25 4128767) rfl rfl (take_ofW HT_.out HW_.out (by kernel_rfl)) (fun _ _ _ h => h) (Or.inl ⟨by rfl, ?_⟩) hHeld ?_ ?_; rotate_left; (· rintro w' ⟨s0, s1, s2, s3, s4, s5, s6, s7, s8, s9, s10, s11, s12, s13, s14, s15⟩; go_simp; with_reducible rfl); rotate_left; (· simp only [Act.put, sT, sZ, sS, i64_w, i32_w]; rfl)
     refine one_ (i := 16) (N := some 111) (bS 25 4194303) rfl rfl (one_of HT_.out (by kernel_rfl)) (by decide) (fun K hK => ?_)
     refine goes_ Try.func47 (by kernel_rfl) rfl #[.agg (planV Wx Hx Rx Ao Cx.length co), .agg (planV Wq Hq Rq Aq Cq.length cq)] (by rfl) rfl rfl (by (try simp only [List.map_toArray, List.map_cons, List.map_nil]); first | done | rfl) ?_
     with_reducible refine (field_Same.calls Kx Wx Hx Rx Ao co Cx Wq Hq Rq Aq cq Cq rq _ HT.out.o.r HT.out.o.c HT.out.q.r HT.out.q.c HRQ1.out).mono ?_
     rintro e1 wq ⟨rfl, hb⟩
     have HT2 := Aside0.mk (HT.out.step hb)
     have HG2 := Aside0.mk (blk_below HG.out hb)
     have HC2' := Aside0.mk (HC0.out.below hb)
     have HDR2 := Aside0.mk (below_step HDR.out hb)
     clear hb HT HG HC0 HDR
     have HT := HT2
     have HG := HG2
     have HC0 := HC2'
     have HDR := HDR2
     clear HT2 HG2 HC2' HDR2
     refine ⟨_, rfl, ?_⟩
     refine hK.out _ _ (cells16' (plan_cells HG.out) (plan_cells HT.out.g16) (plan_cells HT.out.gq) HT.out.cells) (fun hHeld => ?_)
     clear hK K
     refine norm_ (a' := ?_) ?_ ?_
     rotate_left
     ·show Act.put _ (some 111) _ = _
      simp only [Act.put, sT, sZ, sS, i64_w, i32_w]
      rfl
     refine one_ (i := 22) (N := some 117) (bS 25 8388607) rfl rfl (one_of HT_.out (by kernel_rfl)) (by decide) (fun K hK => ?_)
     refine goes_ Try.func29 (by kernel_rfl) rfl #[.agg (planV Wx Hx Rx Ax Cx.length cx), .agg (planV Wq Hq Rq Aq Cq.length cq)] (by rfl) rfl rfl (by (try simp only [List.map_toArray, List.map_cons, List.map_nil]); first | done | rfl) ?_
     with_reducible refine (thermionref01_Same.calls Kx Wx Hx Rx Ax cx Cx Wq Hq Rq Aq cq Cq rq _ HT.out.x.r HT.out.x.c HT.out.q.r HT.out.q.c HRQ2.out).mono ?_
     rintro e1 wq ⟨rfl, hb⟩
     have HT2 := Aside0.mk (HT.out.step hb)
     have HG2 := Aside0.mk (blk_below HG.out hb)
     have HC2' := Aside0.mk (HC0.out.below hb)
     have HDR2 := Aside0.mk (below_step HDR.out hb)
     clear hb HT HG HC0 HDR
     have HT := HT2
     have HG := HG2
     have HC0 := HC2'
     have HDR := HDR2
     clear HT2 HG2 HC2' HDR2
     refine ⟨_, rfl, ?_⟩
     refine hK.out _ _ (cells16' (plan_cells HG.out) (plan_cells HT.out.g16) (plan_cells HT.out.gq) HT.out.cells) (fun hHeld => ?_)
     clear hK K
     refine norm_ (a' := ?_) ?_ ?_
     rotate_left
     ·show Act.put _ (some 117) _ = _
      simp only [Act.put, sT, sZ, sS, i64_w, i32_w]
      rfl
     refine pure_ (i := 23) (N := some 118) (v := ?_) (a' := ?_) (bS 25 16777215) rfl rfl (any_of HT_.out (by kernel_rfl)) (fun _ _ _ h => h) (Or.inl ⟨by rfl, ?_⟩) ?_ ?_; rotate_left; (· intro w'; go_simp; with_reducible rfl); rotate_left; (· simp only [Act.put, sT, sZ, sS, i64_w, i32_w]; rfl)
     refine pure_ (i := 24) (N := some 119) (v := ?_) (a' := ?_) (bS 25 33554431) rfl rfl (any_of HT_.out (by kernel_rfl)) (fun _ _ _ h => h) (Or.inl ⟨by rfl, ?_⟩) ?_ ?_; rotate_left; (· intro w'; go_simp; with_reducible rfl); rotate_left; (· simp only [Act.put, sT, sZ, sS, i64_w, i32_w]; rfl)
     refine done_ (done_of HT_.out (by kernel_rfl)) ?_
     clear hHeld HT_ HW_
     obtain ⟨zc, rfl⟩ : ∃ z : World, z = wq := ⟨_, rfl⟩
     have HRL := Aside0.mk (Kd.R_mono (Kd.R_below HRC2.out HDR.out) (fun k hk => hk.2))
     have HBL := Aside0.mk (below_step HBY.out HDR.out)
     clear HT HC0 HRC2 HDR HRQ1 HRQ2 HBY HG18
     go_wp2_with fail
     go_loopg [19] Cx.length (fun k v19 w' => ∃ (j : Nat) (L : List Int), v19 = .int .i64 (j : Int) ∧ Aside0 (j + k = Cx.length) ∧ Aside0 (L.length = Cx.length) ∧ Aside0 (Kd.R (Kd.int .i64) 3 w' zb.heap.size (fun k => k ≠ g18) (.slice Ac Cx.length cc) L) ∧ Aside0 (w'.heap[g18]? = some (.cells (planV Wx Hx Rx Ac Cx.length cc) 24 (0, 0))) ∧ Aside0 (Below zb.heap.size zb w') ∧ Aside0 (zb.heap.size ≤ g18))
     case atStart => exact ⟨0, Cx, by go_num, ⟨by omega⟩, ⟨rfl⟩, HRL, HG, HBL, HGE⟩
     case round =>
      clear HRL HG HBL HGE
      obtain ⟨j, L, rfl, HKJ, HLL, HRL, HG, HBL, HGE⟩ := hrel
      have d3 : wr.cell? ⟨g18, 3, none⟩ = some (.slice Ac Cx.length cc) := (plan_cells HG.out).2.2.2
      by_cases hj : j < Cx.length
      ·have HJ := Aside0.mk hj
       have e1 : decide ((j : Int) < (Cx.length : Int)) = true := by simp; omega
       have e2 : decide (j < Cx.length) = true := by simp; omega
       have e3 : (j : Int) < (Cx.length : Int) := by omega
       have e4 : (0 : Int) ≤ (j : Int) := by omega
       have e5 : wrap64 ((j : Int) + 1) = ((j + 1 : Nat) : Int) := by rw [IntWalk.wrap64_in _ (by have := HNX.out; omega)]; omega
       obtain ⟨gc, x, ee, cX, fX, hne, hge, hput⟩ := row_round HRL.out HLL.out hj
       subst ee
       obtain ⟨L', hL', hR'⟩ := hput (wrap64 (x + 1))
       have HR' := Aside0.mk hR'
       have HL' := Aside0.mk hL'
       have HNE := Aside0.mk (And.intro hne hge)
       clear hput hR' hL' hne hge hj
       go_wp2_with fail
       go_roundg (Cx.length - (j + 1))
       case measure => have := HKJ.out; have := HJ.out; omega
       case rel => exact ⟨j + 1, L', by first | exact congrArg _ e5 | go_num, ⟨by have := HJ.out; omega⟩, HL', HR', ⟨blk_far (p := ⟨gc, j, none⟩) HG.out (Ne.symm HNE.out.1) _⟩, ⟨below_set HBL.out HNE.out.2⟩, HGE⟩
      ·obtain rfl : j = Cx.length := by have := HKJ.out; omega
       have e1 : decide ((Cx.length : Int) < (Cx.length : Int)) = false := by simp
       have e2 : decide (Cx.length < Cx.length) = false := by simp
       clear hj
       go_upto_region 20 with fail
       have HT := Aside0.mk (HS.out.step HBL.out)
       clear HS HRL HLL HKJ HG HBL HGE d3 e1 e2
       replace HT := Aside0.mk (HT.out.step (below_drew1 (Below.refl _ _)))
       refine start_ (n := 13) (S := fun w' => w'.cell? ⟨g16, 0, none⟩ = some (.int .i64 Wx) ∧ w'.cell? ⟨g16, 1, none⟩ = some (.int .i64 Hx) ∧ w'.cell? ⟨g16, 2, none⟩ = some (.bool Rx) ∧ w'.cell? ⟨g16, 3, none⟩ = some (.slice Ao Cx.length co) ∧ w'.cell? ⟨gl2, i * 4, none⟩ = some (.int .i64 Wx) ∧ w'.cell? ⟨gl2, i * 4 + 1, none⟩ = some (.int .i64 Hx) ∧ w'.cell? ⟨gl2, i * 4 + 2, none⟩ = some (.bool Rx) ∧ w'.cell? ⟨gl2, i * 4 + 3, none⟩ = some (.slice Ax Cx.length cx)) (ds := []) #[false, false, false, false, false, false, false, false, false, false, false, false, false] (by kernel_rfl) rfl rfl (cells8 (plan_cells HT.out.g16) HT.out.cells) (fun hHeld => ?_); refine with_tabW checksF.tab20 checksF.bits20 (fun HT_ HW_ => ?_)
       refine pure_ (i := 1) (N := some 135) (v := ?_) (a' := ?_) (bS 13 2) rfl rfl (any_of HT_.out (by kernel_rfl)) (fun _ _ _ h => h) (Or.inl ⟨by rfl, ?_⟩) ?_ ?_; rotate_left; (· intro w'; go_simp; with_reducible rfl); rotate_left; (· simp only [Act.put, sT, sZ, sS, i64_w, i32_w]; rfl)
       refine pure_ (i := 2) (N := some 136) (v := ?_) (a' := ?_) (bS 13 6) rfl rfl (any_of HT_.out (by kernel_rfl)) (fun _ _ _ h => h) (Or.inl ⟨by rfl, ?_⟩) ?_ ?_; rotate_left; (· intro w'; go_simp; with_reducible rfl); rotate_left; (· simp only [Act.put, sT, sZ, sS, i64_w, i32_w]; rfl)
       refine pure_ (i := 3) (N := some 137) (v := ?_) (a' := ?_) (bS 13 14) rfl rfl (any_of HT_.out (by kernel_rfl)) (fun _ _ _ h => h) (Or.inl ⟨by rfl, ?_⟩) ?_ ?_; rotate_left; (· intro w'; go_simp; with_reducible rfl); rotate_left; (· simp only [Act.put, sT, sZ, sS, i64_w, i32_w]; rfl)
       refine take_ (i := 0) (N := some 134) (v := ?_) (a' := ?_) (bS 13 15) rfl rfl (take_ofW HT_.out HW_.out (by kernel_rfl)) (fun _ _ _ h => h) (Or.inl ⟨by rfl, ?_⟩) hHeld ?_ ?_; rotate_left; (· rintro w' ⟨s0, s1, s2, s3, s4, s5, s6, s7⟩; go_simp; with_reducible rfl); rotate_left; (· simp only [Act.put, sT, sZ, sS, i64_w, i32_w]; rfl)
       refine take_ (i := 4) (N := some 138) (v := ?_) (a' := ?_) (bS 13 31) rfl rfl (take_ofW HT_.out HW_.out (by kernel_rfl)) (fun _ _ _ h => h) (Or.inl ⟨by rfl, ?_⟩) hHeld ?_ ?_; rotate_left; (· rintro w' ⟨s0, s1, s2, s3, s4, s5, s6, s7⟩; go_simp; with_reducible rfl); rotate_left; (· simp only [Act.put, sT, sZ, sS, i64_w, i32_w]; rfl)
       refine one_ (i := 5) (N := some 139) (bS 13 63) rfl rfl (one_of HT_.out (by kernel_rfl)) (by decide) (fun K hK => ?_)
       refine goes_ Try.func29 (by kernel_rfl) rfl #[.agg (planV Wx Hx Rx Ao Cx.length co), .agg (planV Wx Hx Rx Ax Cx.length cx)] (by rfl) rfl rfl (by (try simp only [List.map_toArray, List.map_cons, List.map_nil]); first | done | rfl) ?_
       with_reducible refine (thermionref01_Same.calls Kx Wx Hx Rx Ao co Cx Wx Hx Rx Ax cx Cx true _ HT.out.o.r HT.out.o.c HT.out.x.r HT.out.x.c HF.out.s0).mono ?_
       rintro e1 wq ⟨rfl, hb⟩
       have HT2 := Aside0.mk (HT.out.step (by first | exact hb | exact hb.below))
       clear hb HT
       have HT := HT2
       clear HT2
       refine ⟨_, rfl, ?_⟩
       refine hK.out _ _ (cells8 (plan_cells HT.out.g16) HT.out.cells) (fun hHeld => ?_)
       clear hK K
       refine norm_ (a' := ?_) ?_ ?_
       rotate_left
       ·show Act.put _ (some 139) _ = _
        simp only [Act.put, sT, sZ, sS, i64_w, i32_w]
        rfl
       refine pure_ (i := 6) (N := some 140) (v := ?_) (a' := ?_) (bS 13 127) rfl rfl (any_of HT_.out (by kernel_rfl)) (fun _ _ _ h => h) (Or.inl ⟨by rfl, ?_⟩) ?_ ?_; rotate_left; (· intro w'; go_simp; with_reducible rfl); rotate_left; (· simp only [Act.put, sT, sZ, sS, i64_w, i32_w]; rfl)
       refine pure_ (i := 7) (N := some 141) (v := ?_) (a' := ?_) (bS 13 255) rfl rfl (any_of HT_.out (by kernel_rfl)) (fun _ _ _ h => h) (Or.inl ⟨by rfl, ?_⟩) ?_ ?_; rotate_left; (· intro w'; go_simp; with_reducible rfl); rotate_left; (· simp only [Act.put, sT, sZ, sS, i64_w, i32_w]; rfl)
       refine pure_ (i := 8) (N := some 142) (v := ?_) (a' := ?_) (bS 13 511) rfl rfl (any_of HT_.out (by kernel_rfl)) (fun _ _ _ h => h) (Or.inl ⟨by rfl, ?_⟩) ?_ ?_; rotate_left; (· intro w'; go_simp; with_reducible rfl); rotate_left; (· simp only [Act.put, sT, sZ, sS, i64_w, i32_w]; rfl)
       refine pure_ (i := 9) (N := some 143) (v := ?_) (a' := ?_) (bS 13 1023) rfl rfl (any_of HT_.out (by kernel_rfl)) (fun _ _ _ h => h) (Or.inl ⟨by rfl, ?_⟩) ?_ ?_; rotate_left; (· intro w'; go_simp; with_reducible rfl); rotate_left; (· simp only [Act.put, sT, sZ, sS, i64_w, i32_w]; rfl)
       refine one_ (i := 10) (N := some 144) (bS 13 2047) rfl rfl (one_of HT_.out (by kernel_rfl)) (by decide) (fun K hK => ?_)
       refine goes_ Try.func43 (by kernel_rfl) rfl #[.slice Av v.length cv, .slice A2 v.length c2] (by rfl) rfl rfl (by (try simp only [List.map_toArray, List.map_cons, List.map_nil]); first | done | rfl) ?_
       with_reducible refine (thermionkit_Same.calls Kx Av cv v A2 c2 v true _ HT.out.v2.r HT.out.v2.c HT.out.v.r HT.out.v.c HF.out.sv).mono ?_
       rintro e1 wq ⟨rfl, hb⟩
       have HT2 := Aside0.mk (HT.out.step (by first | exact hb | exact hb.below))
       clear hb HT
       have HT := HT2
       clear HT2
       refine ⟨_, rfl, ?_⟩
       refine hK.out _ _ (cells8 (plan_cells HT.out.g16) HT.out.cells) (fun hHeld => ?_)
       clear hK K
       refine norm_ (a' := ?_) ?_ ?_
       rotate_left
       ·show Act.put _ (some 144) _ = _
        simp only [Act.put, sT, sZ, sS, i64_w, i32_w]
        rfl
       refine pure_ (i := 11) (N := some 145) (v := ?_) (a' := ?_) (bS 13 4095) rfl rfl (any_of HT_.out (by kernel_rfl)) (fun _ _ _ h => h) (Or.inl ⟨by rfl, ?_⟩) ?_ ?_; rotate_left; (· intro w'; go_simp; with_reducible rfl); rotate_left; (· simp only [Act.put, sT, sZ, sS, i64_w, i32_w]; rfl)
       refine pure_ (i := 12) (N := some 146) (v := ?_) (a' := ?_) (bS 13 8191) rfl rfl (any_of HT_.out (by kernel_rfl)) (fun _ _ _ h => h) (Or.inl ⟨by rfl, ?_⟩) ?_ ?_; rotate_left; (· intro w'; go_simp; with_reducible rfl); rotate_left; (· simp only [Act.put, sT, sZ, sS, i64_w, i32_w]; rfl)
       refine done_ (done_of HT_.out (by kernel_rfl)) ?_
       clear hHeld HT_ HW_
       go_wp2_with fail
       go_roundg (2 - (i + 1))
       case measure => have := HK.out; have := HI2.out; omega
       case rel => exact ⟨i + 1, by first | exact congrArg _ b5 | go_num, ⟨by have := HK.out; have := HI2.out; omega⟩, ⟨HM.out.step HT.out.b⟩⟩
    ·obtain rfl : i = 2 := by have := HK.out; omega
     have b1 : decide (((2 : Nat) : Int) < 2) = false := by simp
     go_wp2_with (first
      | ((with_reducible refine gate_dst (N := 147) rfl ?_); refine ev_load (blk_below HGP.out HM.out.below) rfl 24 (.tmp 6) rfl rfl _ Try.underlying24 rfl size24 rfl ?_)
      | (go_at_call 48; refine (thermionlaw01_weights.calls KW W H R A c C A3 c3 l3 a4 a5 true _ (HP.out.below HM.out.below).r HP.out.c (HL.out.below HM.out.below).r HL.out.c HKW.out).mono ?_; rintro e1 x1 ⟨rfl, hb⟩; have HM8 := Aside0.mk (HM.out.step hb); clear hb HM HKW)
      | (go_at_call 20; refine (thermionlaw01_awake.calls 10 true _ HAW.out).mono ?_; rintro e1 wE ⟨rfl, hb⟩; have HE := Aside0.mk (below_step HEB.out (HM8.out.step hb).below); clear hb))
     go_ret
     exact ⟨rfl, HE.out⟩
end Go.Proofs.Ytndkkjpgnmahbaa.Print
end

section
namespace Go.Proofs.YtndkkjpgnmahbaaW.PrintWords
open Go.ChangeShapes Go.WideShapes
end Go.Proofs.YtndkkjpgnmahbaaW.PrintWords
end

section
namespace Go.Proofs.Ytndkkjpgnmahbaa.Print
open Go.RowKit Go.Proofs.YtndkkjpgnmahbaaW.PrintWords Go.Proofs.YtndkkjpgnmahbaaW.PrintLast Go.Proofs.YtndkkjpgnmahbaaW.PrintMore
set_option linter.unusedVariables false
set_option linter.unusedSimpArgs false
def Word64 (x : Int) : Prop := (Lit.int .i64 x).wf = true
theorem Word64.range {x : Int} (h : Word64 x) : -9223372036854775808 ≤ x ∧ x ≤ 9223372036854775807 := by
 unfold Word64 at h
 simp only [Lit.wf, Bool.and_eq_true, decide_eq_true_eq] at h
 have e1 : IntKind.min .i64 = -9223372036854775808 := by decide
 have e2 : IntKind.max .i64 = 9223372036854775807 := by decide
 omega
section
variable {H : Type} {enc : TypeId × Value → H} {W : World} {base : Nat} {sp : Nat → Bool} {held : Bool} {n : Nat} {cs : List Value} {x : DataW H × List MemPlace}
theorem trod_int3 (h : DataW.trod enc Try.prog W base sp held n 3 cs = some x) : ∃ y, cs = [.int .i64 y] ∧ Word64 y := by
 obtain ⟨y, rfl, _, hw⟩ := DataW.trod_int Try.underlying3 h
 exact ⟨y, rfl, hw⟩
theorem trod_bool4 (h : DataW.trod enc Try.prog W base sp held n 4 cs = some x) : ∃ y, cs = [.bool y] := by
 obtain ⟨y, rfl, _⟩ := DataW.trod_bool Try.underlying4 h
 exact ⟨y, rfl⟩
theorem pick_list {α : Type} (m : Nat) (P : Nat → α → Prop) (h : ∀ i, i < m → ∃ y, P i y) : ∃ xs : List α, xs.length = m ∧ ∀ i (hi : i < xs.length), P i xs[i] := by
 induction m with
 | zero => exact ⟨[], rfl, fun i hi => absurd hi (by simp)⟩
 | succ m ih =>
  obtain ⟨xs, hl, hx⟩ := ih (fun i hi => h i (by omega))
  obtain ⟨y, hy⟩ := h m (by omega)
  refine ⟨xs ++ [y], by simp [hl], fun i hi => ?_⟩
  by_cases q : i < xs.length
  ·rw [List.getElem_append_left q]
   exact hx i q
  ·have : i = m := by rw [List.length_append, List.length_singleton] at hi; omega
   subst this
   rw [List.getElem_append_right (by omega)]
   simpa [hl] using hy
theorem trod_list {α : Type} {d : Kd α} {t e : TypeId} {Wf : α → Prop} (ht : Try.prog.underlying t = some (.slice e)) (hsz : Try.prog.cellsOf e = d.sz) (hopen : ∀ n cs x, DataW.trod enc Try.prog W base sp held n e cs = some x → ∃ y, d.K W y cs ∧ Wf y)
  (h : DataW.trod enc Try.prog W base sp held n t cs = some x) : ∃ (A : Option Addr) (xs : List α) (c : Nat), cs = [.slice A xs.length c] ∧ xs.length ≤ c ∧ c ≤ maxLen ∧ d.C W A xs.length xs ∧ ∀ y, y ∈ xs → Wf y := by
 rcases DataW.trod_slice ht h with ⟨rfl, _⟩ | ⟨a, len, cap, elems, rest, m, _, rfl, _, hb, hl, hm, hlen, hel, _, _⟩
 ·exact ⟨none, [], 0, rfl, by simp, by simp, ⟨rfl, by simp, fun h => absurd h (by simp)⟩, fun y hy => by cases hy⟩
 ·have each : ∀ i, i < len → ∃ y, (∃ ci, ci.length = d.sz ∧ d.K W y ci ∧ ∀ j u, ci[j]? = some u → W.cell? (a.add (i * d.sz + j)) = some u) ∧ Wf y := by
   intro i hi
   have h1 := hel i hi
   rw [List.getElem?_eq_getElem (by omega), Option.bind_eq_some_iff] at h1
   obtain ⟨ci, hci, htr⟩ := h1
   obtain ⟨y, hK, hW⟩ := hopen _ _ _ htr
   obtain ⟨_, hcl, hcc⟩ := World.cells?_some hci
   rw [hsz] at hcl hcc
   refine ⟨y, ⟨ci, hcl, hK, fun j u hu => ?_⟩, hW⟩
   have hj : j < d.sz := by
    have := (List.getElem?_eq_some_iff.1 hu).1
    omega
   have := hcc j hj
   rw [hu] at this
   rw [← this, add_add]
  obtain ⟨xs, hxl, hxs⟩ := pick_list len _ each
  refine ⟨some a, xs, cap, by rw [hxl], by omega, hm, ⟨rfl, ?_, fun _ => ⟨a, rfl, fun j p hj => ?_⟩⟩, fun y hy => ?_⟩
  ·have : maxLen ≤ 9223372036854775807 := by unfold maxLen; omega
   omega
  ·obtain ⟨hj1, hj2⟩ := List.getElem?_eq_some_iff.1 hj
   have := (hxs j hj1).1
   rw [hj2] at this
   exact this
  ·obtain ⟨i, hi, rfl⟩ := List.mem_iff_getElem.1 hy
   exact (hxs i hi).2
theorem cells3 : Try.prog.cellsOf 3 = 1 := by kernel_rfl
theorem cells4 : Try.prog.cellsOf 4 = 1 := by kernel_rfl
theorem cells22 : Try.prog.cellsOf 22 = 1 := by kernel_rfl
theorem cells24 : Try.prog.cellsOf 24 = 4 := by kernel_rfl
theorem trod_field {t : TypeId} {fs : Array Field} (ht : Try.prog.underlying t = some (.struct fs)) (h : DataW.trod enc Try.prog W base sp held n t cs = some x) :
  cs.length = Try.prog.cellsOf t ∧ ∀ (i : Nat) (f : Field), fs[i]? = some f → ∃ m y, DataW.trod enc Try.prog W base sp held m f.type ((cs.drop f.offset).take (Try.prog.cellsOf f.type)) = some y := by
 obtain ⟨xs, m, _, _, hl, hlen, hf⟩ := DataW.trod_struct ht h
 refine ⟨hl, fun i f hi => ?_⟩
 have h1 := hf i f hi
 have hix : i < xs.length := by
  have := (Array.getElem?_eq_some_iff.1 hi).1
  omega
 rw [List.getElem?_eq_getElem hix] at h1
 exact ⟨m, _, h1⟩
theorem trod_at {t : TypeId} {fs : Array Field} (ht : Try.prog.underlying t = some (.struct fs)) (h : DataW.trod enc Try.prog W base sp held n t cs = some x) (i : Nat) (ty off k : Nat) {f : Field} (hi : fs[i]? = some f) (h1 : f.type = ty) (h2 : f.offset = off) (h3 : Try.prog.cellsOf ty = k) :
  ∃ m y, DataW.trod enc Try.prog W base sp held m ty ((cs.drop off).take k) = some y := by
 obtain ⟨m, y, e⟩ := (trod_field ht h).2 i f hi
 rw [h1, h2, h3] at e
 exact ⟨m, y, e⟩
theorem trod_ints (h : DataW.trod enc Try.prog W base sp held n 22 cs = some x) : ∃ (A : Option Addr) (xs : List Int) (c : Nat), cs = [.slice A xs.length c] ∧ xs.length ≤ c ∧ c ≤ maxLen ∧ (Kd.int .i64).C W A xs.length xs ∧ ∀ y, y ∈ xs → Word64 y :=
 trod_list (d := Kd.int .i64) Try.underlying22 cells3 (fun _ _ _ h => by
  obtain ⟨y, rfl, hw⟩ := trod_int3 h
  exact ⟨y, rfl, hw⟩) h
theorem trod_plan (h : DataW.trod enc Try.prog W base sp held n 24 cs = some x) : ∃ (Wd Hd : Int) (R : Bool) (A : Option Addr) (L : List Int) (c : Nat), cs = [.int .i64 Wd, .int .i64 Hd, .bool R, .slice A L.length c] ∧ Word64 Wd ∧ Word64 Hd ∧ L.length ≤ c ∧ c ≤ maxLen ∧ (Kd.int .i64).C W A L.length L ∧ ∀ y, y ∈ L → Word64 y := by
 have hl := (trod_field Try.underlying24 h).1
 rw [cells24] at hl
 obtain ⟨m0, y0, h0⟩ := trod_at Try.underlying24 h 0 3 0 _ rfl rfl rfl cells3
 obtain ⟨m1, y1, h1⟩ := trod_at Try.underlying24 h 1 3 1 _ rfl rfl rfl cells3
 obtain ⟨m2, y2, h2⟩ := trod_at Try.underlying24 h 2 4 2 _ rfl rfl rfl cells4
 obtain ⟨m3, y3, h3⟩ := trod_at Try.underlying24 h 3 22 3 _ rfl rfl rfl cells22
 obtain ⟨a, e0, w0⟩ := trod_int3 h0
 obtain ⟨b, e1, w1⟩ := trod_int3 h1
 obtain ⟨r, e2⟩ := trod_bool4 h2
 obtain ⟨A, L, c, e3, hc, hm, hC, hw⟩ := trod_ints h3
 match cs, hl with
 | [c0, c1, c2, c3], _ =>
  simp at e0 e1 e2 e3
  subst e0
  subst e1
  subst e2
  subst e3
  exact ⟨a, b, r, A, L, c, rfl, w0, w1, hc, hm, hC, hw⟩
end
end Go.Proofs.Ytndkkjpgnmahbaa.Print
end
