/- Part 6 of the texts of a claim about Ytndkkjpgnmahbaa, put together by a program of this work: what the Go functions do, and that their calls do so. -/
import Derived.Test.YtndkkjpgnmahbaaFM2
import Derived.Test.YtndkkjpgnmahbaaFM5
import Derived.Test.YtndkkjpgnmahbaaFM3
import Derived.Test.YtndkkjpgnmahbaaFM4
import Derived.SizedLaws
import Derived.ChangeSlices
section
namespace Go.Proofs.Ytndkkjpgnmahbaa.Print
open Go.RowKit Go.Proofs.YtndkkjpgnmahbaaW.PrintWords Go.Proofs.YtndkkjpgnmahbaaW.PrintLast Go.Proofs.YtndkkjpgnmahbaaW.PrintMore
attribute [local go_sem] max2_int min2_int max_two min_two max_three min_three max_four min_four
set_option linter.unusedVariables false
set_option linter.unusedSimpArgs false
def thermionlaw01_mirrored.l0 : Nat → Bool → List Int → Int → Int → Int → Bool → List Int → Int → Int → Bool → List Int → Option (Int × Int × Bool × List Int × List Int)
 | 0, _, _, _, _, _, _, _, _, _, _, _ => none
 | k + 1, x1, x7, x8, x602000, x602001, x602002, x602003, x610000, x610001, x610002, x610003 => if x8 < (x602003.length : Int) then (if x602000 = 0 then (none) else (if x1 = true then (if x7.length < 17592186044416 then (if 0 ≤ (wrap64 ((wrap64 ((wrap64 ((wrap64 (x602001 - 1)) - (wrap64 (Int.tdiv x8 x602000)))) * x602000)) + (Int.tmod x8 x602000))) then (if (wrap64 ((wrap64 ((wrap64 ((wrap64 (x602001 - 1)) - (wrap64 (Int.tdiv x8 x602000)))) * x602000)) + (Int.tmod x8 x602000))) < (x602003.length : Int) then (if 0 ≤ x8 then (if x8 < (x610003.length : Int) then (thermionlaw01_mirrored.l0 k x1 (x7 ++ [wrap64 ((wrap64 ((wrap64 ((wrap64 (x602001 - 1)) - (wrap64 (Int.tdiv x8 x602000)))) * x602000)) + (Int.tmod x8 x602000))]) (wrap64 (x8 + 1)) x602000 x602001 x602002 x602003 x610000 x610001 x610002 (x610003.set (x8 : Int).toNat (rd x602003 (wrap64 ((wrap64 ((wrap64 ((wrap64 (x602001 - 1)) - (wrap64 (Int.tdiv x8 x602000)))) * x602000)) + (Int.tmod x8 x602000)))))) else (none)) else (none)) else (none)) else (none)) else (none)) else (if x7.length < 17592186044416 then (if 0 ≤ (wrap64 ((wrap64 ((wrap64 (Int.tdiv x8 x602000)) * x602000)) + (wrap64 ((wrap64 (x602000 - 1)) - (Int.tmod x8 x602000))))) then (if (wrap64 ((wrap64 ((wrap64 (Int.tdiv x8 x602000)) * x602000)) + (wrap64 ((wrap64 (x602000 - 1)) - (Int.tmod x8 x602000))))) < (x602003.length : Int) then (if 0 ≤ x8 then (if x8 < (x610003.length : Int) then (thermionlaw01_mirrored.l0 k x1 (x7 ++ [wrap64 ((wrap64 ((wrap64 (Int.tdiv x8 x602000)) * x602000)) + (wrap64 ((wrap64 (x602000 - 1)) - (Int.tmod x8 x602000))))]) (wrap64 (x8 + 1)) x602000 x602001 x602002 x602003 x610000 x610001 x610002 (x610003.set (x8 : Int).toNat (rd x602003 (wrap64 ((wrap64 ((wrap64 (Int.tdiv x8 x602000)) * x602000)) + (wrap64 ((wrap64 (x602000 - 1)) - (Int.tmod x8 x602000)))))))) else (none)) else (none)) else (none)) else (none)) else (none)))) else (some (x610000, x610001, x610002, x610003, x7))
def thermionlaw01_mirrored.f (k : Nat) (a0_0 : Int) (a0_1 : Int) (a0_2 : Bool) (l0_3 : List Int) (a1 : Bool) : Option (Int × Int × Bool × List Int × List Int) := (thermionref01_Copy.f a0_0 a0_1 a0_2 l0_3).bind fun bt603 => (thermionlaw01_mirrored.l0 k a1 ([] : List Int) 0 a0_0 a0_1 a0_2 l0_3 bt603.1 bt603.2.1 bt603.2.2.1 bt603.2.2.2)
def thermionlaw01_mirrored.T6 : Bool × List (List Nat × List Nat) := (true, [([], []), ([0], [0]), ([1], [1]), ([], []), ([], []), ([4], [4]), ([3, 5], [3, 5]), ([2, 6], [2, 6]), ([], []), ([], []), ([9], [9]), ([8, 10], [8, 10]), ([7, 0, 1, 2, 3, 4, 5, 6, 7], [7]), ([11, 12, 0, 1, 2, 3, 4, 5, 6, 7, 8, 9, 10, 11, 12], [11])])
def thermionlaw01_mirrored.B6 : List Nat := [0, 1, 3, 0, 0, 16, 56, 127, 0, 0, 512, 1792, 255, 8191]
theorem thermionlaw01_mirrored.tab6 : rtab .any (opsOf Try.f35 6) = thermionlaw01_mirrored.T6 := by kernel_rfl
theorem thermionlaw01_mirrored.bits6 : waitsOk thermionlaw01_mirrored.T6.2 thermionlaw01_mirrored.B6 = true := by kernel_rfl
def thermionlaw01_mirrored.T8 : Bool × List (List Nat × List Nat) := (true, [([], []), ([], []), ([1], [1]), ([0, 2], [0, 2]), ([], []), ([4], [4]), ([5], [5]), ([], []), ([], []), ([8], [8]), ([7, 9], [7, 9]), ([6, 10], [6, 10]), ([3, 0, 1, 2, 3], [3]), ([11, 12, 0, 1, 2, 3, 4, 5, 6, 7, 8, 9, 10, 11, 12], [11])])
def thermionlaw01_mirrored.B8 : List Nat := [0, 0, 2, 7, 0, 16, 48, 0, 0, 256, 896, 2032, 15, 8191]
theorem thermionlaw01_mirrored.tab8 : rtab .any (opsOf Try.f35 8) = thermionlaw01_mirrored.T8 := by kernel_rfl
theorem thermionlaw01_mirrored.bits8 : waitsOk thermionlaw01_mirrored.T8.2 thermionlaw01_mirrored.B8 = true := by kernel_rfl
def thermionlaw01_mirrored.T10 : Bool × List (List Nat × List Nat) := (true, [([], []), ([0], [0]), ([], []), ([], []), ([3], [3]), ([], []), ([], []), ([6], [6]), ([5, 7], [5, 7]), ([], []), ([8, 9], [8, 9]), ([4, 10], [4, 10]), ([11], [11]), ([1, 2, 0, 1, 2, 3, 4, 5, 6, 7, 8, 9, 10, 11, 12], [1, 2]), ([13, 12, 0, 1, 2, 3, 4, 5, 6, 7, 8, 9, 10, 11, 12], [12, 13])])
def thermionlaw01_mirrored.B10 : List Nat := [0, 1, 0, 0, 8, 0, 0, 64, 224, 0, 992, 2040, 4088, 8191, 16383]
theorem thermionlaw01_mirrored.tab10 : rtab .any (opsOf Try.f35 10) = thermionlaw01_mirrored.T10 := by kernel_rfl
theorem thermionlaw01_mirrored.bits10 : waitsOk thermionlaw01_mirrored.T10.2 thermionlaw01_mirrored.B10 = true := by kernel_rfl
set_option maxHeartbeats 8000000 in
set_option maxRecDepth 100000 in
theorem thermionlaw01_mirrored.calls (k : Nat) (a0_0 : Int) (a0_1 : Int) (a0_2 : Bool) (A0_3 : Option Addr) (c0_3 : Nat) (l0_3 : List Int) (a1 : Bool) (r1 : Int) (r2 : Int) (r3 : Bool) (r4 : List Int) (r5 : List Int) (w : World) (hr0_3 : Kd.C (Kd.int .i64) w A0_3 l0_3.length l0_3) (hc0_3 : l0_3.length ≤ c0_3) (h : thermionlaw01_mirrored.f k a0_0 a0_1 a0_2 l0_3 a1 = some (r1, r2, r3, r4, r5)) :
  Calls Try.prog 35 #[.agg #[.int .i64 a0_0, .int .i64 a0_1, .bool a0_2, .slice A0_3 l0_3.length c0_3], .bool a1] w fun e w' => ∃ v3_ v4_ : Value, e = .returned (.tuple #[.agg #[.int .i64 r1, .int .i64 r2, .bool r3, v3_], v4_]) ∧ Kd.R (Kd.int .i64) 3 w' w.heap.size (fun k_ => some k_ ≠ (v4_ : Value).ownBlock) v3_ r4 ∧ Kd.R (Kd.int .i64) 3 w' w.heap.size (fun k_ => some k_ ≠ (v3_ : Value).ownBlock) v4_ r5 ∧ Below w.heap.size w w' := by
 have hu24 := Try.underlying24
 have HR0_3 := Aside0.mk hr0_3
 have HC0_3 := Aside0.mk hc0_3
 clear hr0_3 hc0_3
 have HB := Aside0.mk (Below.refl w.heap.size w)
 have H : ((thermionref01_Copy.f a0_0 a0_1 a0_2 l0_3).bind fun bt603 => (thermionlaw01_mirrored.l0 k a1 ([] : List Int) 0 a0_0 a0_1 a0_2 l0_3 bt603.1 bt603.2.1 bt603.2.2.1 bt603.2.2.2)) = some (r1, r2, r3, r4, r5) := h
 clear h
 replace H := Option.bind_eq_some_iff.mp H
 obtain ⟨⟨t603, t604, t605, t606⟩, A30, H⟩ := H
 replace H : (thermionlaw01_mirrored.l0 k a1 ([] : List Int) 0 a0_0 a0_1 a0_2 l0_3 t603 t604 t605 t606) = some (r1, r2, r3, r4, r5) := H
 have A3 := Aside0.mk A30
 clear A30
 have H' := Aside0.mk H
 clear H
 go_enter Try.func35, Try.ntmps35
 go_wp2_with (first | ((with_reducible refine gate_dst (N := 2) rfl ?_); refine box_event ?hg (N := 2) ?hd (cs := #[.int .i64 a0_0, .int .i64 a0_1, .bool a0_2, .slice A0_3 l0_3.length c0_3]) (t := 24) ?hr ?_; (case hd => rfl); (case hg => rfl); (case hr => first | (go_simp; done) | (go_simp; rfl)); intro gb601 hg w4 hbox hb; have n0_ := Aside0.mk (below_step (by repeat (first | (with_reducible first | exact HB.out | apply below_alloc | apply pw_below_drewN | apply below_drew1) | exact HB.out)) hb); have n1_ := Aside0.mk (hbox); have n2_ := Aside0.mk ((by rw [hg]; exact (below_size (by repeat (first | (with_reducible first | exact HB.out | apply below_alloc | apply pw_below_drewN | apply below_drew1) | exact HB.out))) : w.heap.size ≤ gb601)); have n3_ := Aside0.mk ((by rw [hg]; exact (below_size (by repeat (first | (with_reducible first | exact HB.out | apply below_alloc | apply pw_below_drewN | apply below_drew1) | exact HB.out))) : w.heap.size ≤ gb601)); clear HB; have HB := n0_; have BK601 := n1_; have GW601 := n2_; have GE601 := n3_; clear n0_ n1_ n2_ n3_; clear hb hbox hg) | ((with_reducible refine gate_dst (N := 4) rfl ?_); refine box_event ?hg (N := 4) ?hd (cs := #[.int .i64 0, .int .i64 0, .bool false, .slice none 0 0]) (t := 24) ?hr ?_; (case hd => rfl); (case hg => rfl); (case hr => first | (go_simp; done) | (go_simp; rfl)); intro gb602 hg w5 hbox hb; have n0_ := Aside0.mk (blk_below (g := gb601) (o := .cells #[.int .i64 a0_0, .int .i64 a0_1, .bool a0_2, .slice A0_3 l0_3.length c0_3] 24 (0, 0)) (by (with_reducible repeat (first | refine blk_drewN ?_ _ | refine blk_drew ?_ | refine blk_alloc ?_ _)); exact BK601.out) hb); have n1_ := Aside0.mk (below_step (by repeat (first | (with_reducible first | exact HB.out | apply below_alloc | apply pw_below_drewN | apply below_drew1 | refine below_set ?_ GE601.out) | exact HB.out)) hb); have n2_ := Aside0.mk (hbox); have n3_ := Aside0.mk ((by rw [hg]; exact (below_size (by repeat (first | (with_reducible first | exact HB.out | apply below_alloc | apply pw_below_drewN | apply below_drew1 | refine below_set ?_ GE601.out) | exact HB.out))) : w.heap.size ≤ gb602)); have n4_ := Aside0.mk ((by rw [hg]; exact (below_size (by repeat (first | (with_reducible first | exact HB.out | apply below_alloc | apply pw_below_drewN | apply below_drew1 | refine below_set ?_ GE601.out) | exact HB.out))) : w.heap.size ≤ gb602)); have n5_ := Aside0.mk ((by rw [hg]; exact Nat.ne_of_lt (blk_lt (g := gb601) (o := .cells #[.int .i64 a0_0, .int .i64 a0_1, .bool a0_2, .slice A0_3 l0_3.length c0_3] 24 (0, 0)) (by (with_reducible repeat (first | refine blk_drewN ?_ _ | refine blk_drew ?_ | refine blk_alloc ?_ _)); exact BK601.out)) : gb601 ≠ gb602)); have n6_ := Aside0.mk ((by rw [hg]; exact Nat.ne_of_gt (blk_lt (g := gb601) (o := .cells #[.int .i64 a0_0, .int .i64 a0_1, .bool a0_2, .slice A0_3 l0_3.length c0_3] 24 (0, 0)) (by (with_reducible repeat (first | refine blk_drewN ?_ _ | refine blk_drew ?_ | refine blk_alloc ?_ _)); exact BK601.out)) : gb602 ≠ gb601)); clear BK601; clear HB; have BK601 := n0_; have HB := n1_; have BK602 := n2_; have GW602 := n3_; have GE602 := n4_; have NB601_602 := n5_; have NB602_601 := n6_; clear n0_ n1_ n2_ n3_ n4_ n5_ n6_; clear hb hbox hg; have hnb6 := NB601_602.out; have hnc6 := NB602_601.out; have hcz7_0 : w5.cell? ⟨gb601, 0, none⟩ = some (.int .i64 a0_0) := (blk_cell BK601.out 0).trans rfl; have hcz7_1 : w5.cell? ⟨gb601, 1, none⟩ = some (.int .i64 a0_1) := (blk_cell BK601.out 1).trans rfl; have hcz7_2 : w5.cell? ⟨gb601, 2, none⟩ = some (.bool a0_2) := (blk_cell BK601.out 2).trans rfl; have hcz7_3 : w5.cell? ⟨gb601, 3, none⟩ = some (.slice A0_3 l0_3.length c0_3) := (blk_cell BK601.out 3).trans rfl; have hfz7_0 := blk_frozen BK601.out 0; have hfz7_1 := blk_frozen BK601.out 1; have hfz7_2 := blk_frozen BK601.out 2; have hfz7_3 := blk_frozen BK601.out 3) | ((with_reducible refine gate_callee (f := 24) rfl ?_); refine goesL_ (some 12) rfl rfl Try.func24 (by kernel_rfl) rfl #[.agg #[.int .i64 a0_0, .int .i64 a0_1, .bool a0_2, .slice A0_3 l0_3.length c0_3]] rfl (by (try simp only [List.map_toArray, List.map_cons, List.map_nil]); first | done | rfl | (simp only [List.length_drop, List.length_take]; rfl)) ?_; (with_reducible refine (thermionref01_Copy.calls a0_0 a0_1 a0_2 _ _ l0_3 t603 t604 t605 t606 _ ?side1 ?side2 A3.out).mono ?_); (case side1 => repeat (first | exact (Kd.C_below HR0_3.out HB.out) | (with_reducible refine Kd.C_alloc ?_ _) | (with_reducible refine Kd.C_drewN ?_ _) | (with_reducible refine Kd.C_drew ?_))); (case side2 => exact HC0_3.out); rintro e w8 ⟨v607, rfl, ho0, hb⟩; refine ⟨_, rfl, ?_⟩; have n0_ := Aside0.mk (Kd.R_lower ho0 (below_size (by repeat (first | (with_reducible first | exact HB.out | apply below_alloc | apply pw_below_drewN | apply below_drew1 | refine below_set ?_ GE601.out | refine below_set ?_ GE602.out) | exact HB.out)))); have n1_ := Aside0.mk (blk_below (g := gb601) (o := .cells #[.int .i64 a0_0, .int .i64 a0_1, .bool a0_2, .slice A0_3 l0_3.length c0_3] 24 (0, 0)) (by (with_reducible repeat (first | refine blk_drewN ?_ _ | refine blk_drew ?_ | refine blk_alloc ?_ _)); exact BK601.out) hb); have n2_ := Aside0.mk (blk_below (g := gb602) (o := .cells #[.int .i64 0, .int .i64 0, .bool false, .slice none 0 0] 24 (0, 0)) (by (with_reducible repeat (first | refine blk_drewN ?_ _ | refine blk_drew ?_ | refine blk_alloc ?_ _)); exact BK602.out) hb); have n3_ := Aside0.mk (below_step (by repeat (first | (with_reducible first | exact HB.out | apply below_alloc | apply pw_below_drewN | apply below_drew1 | refine below_set ?_ GE601.out | refine below_set ?_ GE602.out) | exact HB.out)) hb); clear BK601; clear BK602; clear HB; have HO608 := n0_; have BK601 := n1_; have BK602 := n2_; have HB := n3_; clear n0_ n1_ n2_ n3_; (try clear hb); (try clear hb2); (try clear hk); (try clear hi); (try clear ho0)) | ((with_reducible refine gate_dst (N := 6) rfl ?_); refine box_event ?hg (N := 6) ?hd (cs := #[.int .i64 0, .int .i64 0, .bool false, .slice none 0 0]) (t := 24) ?hr ?_; (case hd => rfl); (case hg => rfl); (case hr => first | (go_simp; done) | (go_simp; rfl)); intro gb609 hg w9 hbox hb; have n0_ := Aside0.mk (Kd.R_below (by (with_reducible repeat (first | apply Kd.R_alloc | apply Kd.R_drewN | apply Kd.R_drew)); exact HO608.out) hb); have n1_ := Aside0.mk (blk_below (g := gb601) (o := .cells #[.int .i64 a0_0, .int .i64 a0_1, .bool a0_2, .slice A0_3 l0_3.length c0_3] 24 (0, 0)) (by (with_reducible repeat (first | refine blk_drewN ?_ _ | refine blk_drew ?_ | refine blk_alloc ?_ _)); exact BK601.out) hb); have n2_ := Aside0.mk (blk_below (g := gb602) (o := .cells #[.int .i64 0, .int .i64 0, .bool false, .slice none 0 0] 24 (0, 0)) (by (with_reducible repeat (first | refine blk_drewN ?_ _ | refine blk_drew ?_ | refine blk_alloc ?_ _)); exact BK602.out) hb); have n3_ := Aside0.mk (below_step (by repeat (first | (with_reducible first | exact HB.out | apply below_alloc | apply pw_below_drewN | apply below_drew1 | refine below_set ?_ GE601.out | refine below_set ?_ GE602.out) | exact HB.out)) hb); have n4_ := Aside0.mk (hbox); have n5_ := Aside0.mk ((by rw [hg]; exact (below_size (by repeat (first | (with_reducible first | exact HB.out | apply below_alloc | apply pw_below_drewN | apply below_drew1 | refine below_set ?_ GE601.out | refine below_set ?_ GE602.out) | exact HB.out))) : w.heap.size ≤ gb609)); have n6_ := Aside0.mk ((by rw [hg]; exact (below_size (by repeat (first | (with_reducible first | exact HB.out | apply below_alloc | apply pw_below_drewN | apply below_drew1 | refine below_set ?_ GE601.out | refine below_set ?_ GE602.out) | exact HB.out))) : w.heap.size ≤ gb609)); have n7_ := Aside0.mk ((by rw [hg]; exact Nat.ne_of_lt (blk_lt (g := gb601) (o := .cells #[.int .i64 a0_0, .int .i64 a0_1, .bool a0_2, .slice A0_3 l0_3.length c0_3] 24 (0, 0)) (by (with_reducible repeat (first | refine blk_drewN ?_ _ | refine blk_drew ?_ | refine blk_alloc ?_ _)); exact BK601.out)) : gb601 ≠ gb609)); have n8_ := Aside0.mk ((by rw [hg]; exact Nat.ne_of_gt (blk_lt (g := gb601) (o := .cells #[.int .i64 a0_0, .int .i64 a0_1, .bool a0_2, .slice A0_3 l0_3.length c0_3] 24 (0, 0)) (by (with_reducible repeat (first | refine blk_drewN ?_ _ | refine blk_drew ?_ | refine blk_alloc ?_ _)); exact BK601.out)) : gb609 ≠ gb601)); have n9_ := Aside0.mk ((by rw [hg]; exact Nat.ne_of_lt (blk_lt (g := gb602) (o := .cells #[.int .i64 0, .int .i64 0, .bool false, .slice none 0 0] 24 (0, 0)) (by (with_reducible repeat (first | refine blk_drewN ?_ _ | refine blk_drew ?_ | refine blk_alloc ?_ _)); exact BK602.out)) : gb602 ≠ gb609)); have n10_ := Aside0.mk ((by rw [hg]; exact Nat.ne_of_gt (blk_lt (g := gb602) (o := .cells #[.int .i64 0, .int .i64 0, .bool false, .slice none 0 0] 24 (0, 0)) (by (with_reducible repeat (first | refine blk_drewN ?_ _ | refine blk_drew ?_ | refine blk_alloc ?_ _)); exact BK602.out)) : gb609 ≠ gb602)); clear HO608; clear BK601; clear BK602; clear HB; have HO608 := n0_; have BK601 := n1_; have BK602 := n2_; have HB := n3_; have BK609 := n4_; have GW609 := n5_; have GE609 := n6_; have NB601_609 := n7_; have NB609_601 := n8_; have NB602_609 := n9_; have NB609_602 := n10_; clear n0_ n1_ n2_ n3_ n4_ n5_ n6_ n7_ n8_ n9_ n10_; clear hb hbox hg; have hnb10 := NB609_601.out; have hnc10 := NB601_609.out; have hnb11 := NB609_602.out; have hnc11 := NB602_609.out; have hcz12_0 : w9.cell? ⟨gb609, 0, none⟩ = some (.int .i64 0) := (blk_cell BK609.out 0).trans rfl; have hcz12_1 : w9.cell? ⟨gb609, 1, none⟩ = some (.int .i64 0) := (blk_cell BK609.out 1).trans rfl; have hcz12_2 : w9.cell? ⟨gb609, 2, none⟩ = some (.bool false) := (blk_cell BK609.out 2).trans rfl; have hcz12_3 : w9.cell? ⟨gb609, 3, none⟩ = some (.slice none 0 0) := (blk_cell BK609.out 3).trans rfl; have hfz12_0 := blk_frozen BK609.out 0; have hfz12_1 := blk_frozen BK609.out 1; have hfz12_2 := blk_frozen BK609.out 2; have hfz12_3 := blk_frozen BK609.out 3; obtain ⟨Ao13, co13, eo13⟩ := Kd.R_slice HO608.out; subst eo13))
 go_loopg [7, 8] k (fun kq v7 v8 w' => ∃ (x7_1 : List Int) (x8_1 : Int) (x610003_1 : List Int) (u610003 : Value), v8 = .int .i64 x8_1 ∧ Aside0 (thermionlaw01_mirrored.l0 kq a1 x7_1 x8_1 a0_0 a0_1 a0_2 l0_3 t603 t604 t605 x610003_1 = some (r1, r2, r3, r4, r5)) ∧ Aside0 (kq ≤ k) ∧ Aside0 (Kd.R (Kd.int .i64) 3 w' w.heap.size (fun k_ => some k_ ≠ (u610003 : Value).ownBlock) v7 x7_1) ∧ Aside0 (Kd.R (Kd.int .i64) 3 w' w.heap.size (fun k_ => some k_ ≠ (v7 : Value).ownBlock) u610003 x610003_1) ∧ Aside0 (w'.heap[gb601]? = some (.cells #[.int .i64 a0_0, .int .i64 a0_1, .bool a0_2, (.slice A0_3 l0_3.length c0_3)] 24 (0, 0))) ∧ Aside0 (w'.heap[gb602]? = some (.cells #[.int .i64 0, .int .i64 0, .bool false, (.slice none 0 0)] 24 (0, 0))) ∧ Aside0 (w'.heap[gb609]? = some (.cells #[.int .i64 t603, .int .i64 t604, .bool t605, u610003] 24 (0, 0))) ∧ Aside0 (Below w.heap.size w w'))
 case atStart => exact ⟨(([] : List Int)), (0), (t606), (.slice Ao13 t606.length co13), (by first | rfl | (simp; done) | (simp [*]; done)), H', ⟨Nat.le_refl _⟩, ⟨by first | exact Kd.R_nil _ _ _ _ _ | exact Kd.N_nil _ _ _ _ _ | exact Kd.V_nil _ _ _ _ _ | exact Kd.Q_nil _ _ _ _ _ | exact Kd.S_nil _ _ _ _ _⟩, ⟨by (with_reducible repeat (first | apply Kd.R_alloc | apply Kd.R_drewN | apply Kd.R_drew)); exact Kd.R_mono (Kd.R_far (p := ⟨gb609, 3, none⟩) (Kd.R_far (p := ⟨gb609, 2, none⟩) (Kd.R_far (p := ⟨gb609, 1, none⟩) (Kd.R_far (p := ⟨gb609, 0, none⟩) (Kd.R_types HO608.out BK609.out (by decide)) (fun _ hk => hk.2) (.int .i64 t603)) (fun _ hk => hk.2) (.int .i64 t604)) (fun _ hk => hk.2) (.bool t605)) (fun _ hk => hk.2) (.slice Ao13 t606.length co13)) (fun _ hk => (by simp [Value.ownBlock]))⟩, ⟨by (with_reducible repeat (first | refine blk_drewN ?_ _ | refine blk_drew ?_ | refine blk_alloc ?_ _)); refine blk_far ?_ NB601_609.out _; (with_reducible repeat (first | refine blk_drewN ?_ _ | refine blk_drew ?_ | refine blk_alloc ?_ _)); refine blk_far ?_ NB601_609.out _; (with_reducible repeat (first | refine blk_drewN ?_ _ | refine blk_drew ?_ | refine blk_alloc ?_ _)); refine blk_far ?_ NB601_609.out _; (with_reducible repeat (first | refine blk_drewN ?_ _ | refine blk_drew ?_ | refine blk_alloc ?_ _)); refine blk_far ?_ NB601_609.out _; (with_reducible repeat (first | refine blk_drewN ?_ _ | refine blk_drew ?_ | refine blk_alloc ?_ _)); exact BK601.out⟩, ⟨by (with_reducible repeat (first | refine blk_drewN ?_ _ | refine blk_drew ?_ | refine blk_alloc ?_ _)); refine blk_far ?_ NB602_609.out _; (with_reducible repeat (first | refine blk_drewN ?_ _ | refine blk_drew ?_ | refine blk_alloc ?_ _)); refine blk_far ?_ NB602_609.out _; (with_reducible repeat (first | refine blk_drewN ?_ _ | refine blk_drew ?_ | refine blk_alloc ?_ _)); refine blk_far ?_ NB602_609.out _; (with_reducible repeat (first | refine blk_drewN ?_ _ | refine blk_drew ?_ | refine blk_alloc ?_ _)); refine blk_far ?_ NB602_609.out _; (with_reducible repeat (first | refine blk_drewN ?_ _ | refine blk_drew ?_ | refine blk_alloc ?_ _)); exact BK602.out⟩, ⟨by (with_reducible repeat (first | refine blk_drewN ?_ _ | refine blk_drew ?_ | refine blk_alloc ?_ _)); refine blk_put (cs := #[.int .i64 t603, .int .i64 t604, .bool t605, .slice none 0 0]) ?_ 3 _ rfl; (with_reducible repeat (first | refine blk_drewN ?_ _ | refine blk_drew ?_ | refine blk_alloc ?_ _)); refine blk_put (cs := #[.int .i64 t603, .int .i64 t604, .bool false, .slice none 0 0]) ?_ 2 _ rfl; (with_reducible repeat (first | refine blk_drewN ?_ _ | refine blk_drew ?_ | refine blk_alloc ?_ _)); refine blk_put (cs := #[.int .i64 t603, .int .i64 0, .bool false, .slice none 0 0]) ?_ 1 _ rfl; (with_reducible repeat (first | refine blk_drewN ?_ _ | refine blk_drew ?_ | refine blk_alloc ?_ _)); refine blk_put (cs := #[.int .i64 0, .int .i64 0, .bool false, .slice none 0 0]) ?_ 0 _ rfl; (with_reducible repeat (first | refine blk_drewN ?_ _ | refine blk_drew ?_ | refine blk_alloc ?_ _)); exact BK609.out⟩, ⟨by repeat (first | (with_reducible first | exact HB.out | apply below_alloc | apply pw_below_drewN | apply below_drew1 | refine below_set ?_ GE601.out | refine below_set ?_ GE602.out | refine below_set ?_ GE609.out) | exact HB.out)⟩⟩
 case round =>
  clear H'
  try clear c1
  try clear c2
  try clear p2
  try clear c3
  try clear c6
  try clear c10
  try clear c11
  try clear hcz12_0
  try clear hcz12_1
  try clear hcz12_2
  try clear hcz12_3
  try clear hcz7_0
  try clear hcz7_1
  try clear hcz7_2
  try clear hcz7_3
  try clear hfz12_0
  try clear hfz12_1
  try clear hfz12_2
  try clear hfz12_3
  try clear hfz7_0
  try clear hfz7_1
  try clear hfz7_2
  try clear hfz7_3
  obtain ⟨x7_1, x8_1, x610003_1, u610003, rfl, HA, HK1, HO_7, HO_610003, BK601, BK602, BK609, HB⟩ := hrel
  cases gk with
  | zero => exact absurd HA.out (by simp [thermionlaw01_mirrored.l0])
  | succ k1 =>
   have H := HA.out
   clear HA
   simp only [thermionlaw01_mirrored.l0] at H
   by_cases c14 : x8_1 < (l0_3.length : Int)
   ·rw [if_pos c14] at H
    have c14b0 : decide (x8_1 < (l0_3.length : Int)) = true := decide_eq_true c14
    clear c14
    by_cases c15 : a0_0 = 0
    ·rw [if_pos c15] at H
     exact absurd H (by simp)
    ·rw [if_neg c15] at H
     have c15b0 : (a0_0 == 0) = false := beq_eq_false_iff_ne.mpr c15
     have c15b1 : (a0_0 != 0) = true := bne_iff_ne.mpr c15
     by_cases c16 : a1 = true
     ·subst c16
      have H1 : (if x7_1.length < 17592186044416 then (if 0 ≤ (wrap64 ((wrap64 ((wrap64 ((wrap64 (a0_1 - 1)) - (wrap64 (Int.tdiv x8_1 a0_0)))) * a0_0)) + (Int.tmod x8_1 a0_0))) then (if (wrap64 ((wrap64 ((wrap64 ((wrap64 (a0_1 - 1)) - (wrap64 (Int.tdiv x8_1 a0_0)))) * a0_0)) + (Int.tmod x8_1 a0_0))) < (l0_3.length : Int) then (if 0 ≤ x8_1 then (if x8_1 < (x610003_1.length : Int) then (thermionlaw01_mirrored.l0 k1 true (x7_1 ++ [wrap64 ((wrap64 ((wrap64 ((wrap64 (a0_1 - 1)) - (wrap64 (Int.tdiv x8_1 a0_0)))) * a0_0)) + (Int.tmod x8_1 a0_0))]) (wrap64 (x8_1 + 1)) a0_0 a0_1 a0_2 l0_3 t603 t604 t605 (x610003_1.set (x8_1 : Int).toNat (rd l0_3 (wrap64 ((wrap64 ((wrap64 ((wrap64 (a0_1 - 1)) - (wrap64 (Int.tdiv x8_1 a0_0)))) * a0_0)) + (Int.tmod x8_1 a0_0)))))) else (none)) else (none)) else (none)) else (none)) else (none)) = some (r1, r2, r3, r4, r5) := by rw [if_pos rfl] at H; exact H
      clear H
      have H := H1
      clear H1
      by_cases c17 : x7_1.length < 17592186044416
      ·rw [if_pos c17] at H
       have LMc17 := Aside0.mk c17
       clear c17
       obtain ⟨y610, hy610⟩ : ∃ y_ : List Int, y_ = (x7_1 ++ [wrap64 ((wrap64 ((wrap64 ((wrap64 (a0_1 - 1)) - (wrap64 (Int.tdiv x8_1 a0_0)))) * a0_0)) + (Int.tmod x8_1 a0_0))]) := ⟨_, rfl⟩
       replace H : (if 0 ≤ (wrap64 ((wrap64 ((wrap64 ((wrap64 (a0_1 - 1)) - (wrap64 (Int.tdiv x8_1 a0_0)))) * a0_0)) + (Int.tmod x8_1 a0_0))) then (if (wrap64 ((wrap64 ((wrap64 ((wrap64 (a0_1 - 1)) - (wrap64 (Int.tdiv x8_1 a0_0)))) * a0_0)) + (Int.tmod x8_1 a0_0))) < (l0_3.length : Int) then (if 0 ≤ x8_1 then (if x8_1 < (x610003_1.length : Int) then (thermionlaw01_mirrored.l0 k1 true y610 (wrap64 (x8_1 + 1)) a0_0 a0_1 a0_2 l0_3 t603 t604 t605 (x610003_1.set (x8_1 : Int).toNat (rd l0_3 (wrap64 ((wrap64 ((wrap64 ((wrap64 (a0_1 - 1)) - (wrap64 (Int.tdiv x8_1 a0_0)))) * a0_0)) + (Int.tmod x8_1 a0_0)))))) else (none)) else (none)) else (none)) else (none)) = some (r1, r2, r3, r4, r5) := by first | (rw [hy610]; with_reducible exact H) | (have H2_ := (Option.bind_some _ _).symm.trans H; rw [hy610]; with_reducible exact H2_) | (have H2_ := (Option.bind_some _ _).symm.trans H; with_reducible exact H2_) | with_reducible exact H | (rw [hy610]; exact H) | exact H
       have Ny610 := Aside0.mk hy610
       clear hy610
       obtain ⟨ji18, hji18⟩ : ∃ j_ : Int, (wrap64 ((wrap64 ((wrap64 ((wrap64 (a0_1 - 1)) - (wrap64 (Int.tdiv x8_1 a0_0)))) * a0_0)) + (Int.tmod x8_1 a0_0))) = j_ := ⟨_, rfl⟩
       replace H : (if 0 ≤ (ji18) then (if (ji18) < (l0_3.length : Int) then (if 0 ≤ x8_1 then (if x8_1 < (x610003_1.length : Int) then (thermionlaw01_mirrored.l0 k1 true y610 (wrap64 (x8_1 + 1)) a0_0 a0_1 a0_2 l0_3 t603 t604 t605 (x610003_1.set (x8_1 : Int).toNat (rd l0_3 (ji18)))) else (none)) else (none)) else (none)) else (none)) = some (r1, r2, r3, r4, r5) := by first | (rw [hji18] at H; exact H) | (simp only [hji18] at H ⊢; exact H)
       (try rw [hji18] at Ny610)
       have hji18w : (IntKind.i64.wrap ((wrap64 ((wrap64 ((wrap64 (a0_1 - 1)) - (wrap64 (Int.tdiv x8_1 a0_0)))) * a0_0)) + (Int.tmod x8_1 a0_0))) = ji18 := (i64_w _).trans hji18
       by_cases c19 : 0 ≤ (ji18)
       ·rw [if_pos c19] at H
        have c19b0 : decide (0 ≤ (ji18)) = true := decide_eq_true c19
        clear c19
        by_cases c20 : (ji18) < (l0_3.length : Int)
        ·rw [if_pos c20] at H
         have c20b0 : decide ((ji18) < (l0_3.length : Int)) = true := decide_eq_true c20
         clear c20
         by_cases c21 : 0 ≤ x8_1
         ·rw [if_pos c21] at H
          have c21b0 : decide (0 ≤ x8_1) = true := decide_eq_true c21
          clear c21
          by_cases c22 : x8_1 < (x610003_1.length : Int)
          ·rw [if_pos c22] at H
           have c22b0 : decide (x8_1 < (x610003_1.length : Int)) = true := decide_eq_true c22
           clear c22
           obtain ⟨y614, hy614⟩ : ∃ y_ : List Int, y_ = (x610003_1.set (x8_1 : Int).toNat (rd l0_3 (ji18))) := ⟨_, rfl⟩
           replace H : (thermionlaw01_mirrored.l0 k1 true y610 (wrap64 (x8_1 + 1)) a0_0 a0_1 a0_2 l0_3 t603 t604 t605 y614) = some (r1, r2, r3, r4, r5) := by first | (rw [hy614]; with_reducible exact H) | (have H2_ := (Option.bind_some _ _).symm.trans H; rw [hy614]; with_reducible exact H2_) | (have H2_ := (Option.bind_some _ _).symm.trans H; with_reducible exact H2_) | with_reducible exact H | (rw [hy614]; exact H) | exact H
           have Ny614 := Aside0.mk hy614
           clear hy614
           have H' := Aside0.mk H
           clear H
           have hnb24 := NB601_602.out
           have hnc24 := NB602_601.out
           have hnb25 := NB601_609.out
           have hnc25 := NB609_601.out
           have hcz26_0 : wr.cell? ⟨gb601, 0, none⟩ = some (.int .i64 a0_0) := (blk_cell BK601.out 0).trans rfl
           have hcz26_1 : wr.cell? ⟨gb601, 1, none⟩ = some (.int .i64 a0_1) := (blk_cell BK601.out 1).trans rfl
           have hcz26_2 : wr.cell? ⟨gb601, 2, none⟩ = some (.bool a0_2) := (blk_cell BK601.out 2).trans rfl
           have hcz26_3 : wr.cell? ⟨gb601, 3, none⟩ = some (.slice A0_3 l0_3.length c0_3) := (blk_cell BK601.out 3).trans rfl
           have hfz26_0 := blk_frozen BK601.out 0
           have hfz26_1 := blk_frozen BK601.out 1
           have hfz26_2 := blk_frozen BK601.out 2
           have hfz26_3 := blk_frozen BK601.out 3
           try go_wp2
           have n0_ := Aside0.mk (Kd.R_drew HO_7.out)
           have n1_ := Aside0.mk (Kd.R_drew HO_610003.out)
           have n2_ := Aside0.mk (blk_drew BK601.out)
           have n3_ := Aside0.mk (blk_drew BK602.out)
           have n4_ := Aside0.mk (blk_drew BK609.out)
           have n5_ := Aside0.mk (below_drew1 HB.out)
           clear HO_7
           clear HO_610003
           clear BK601
           clear BK602
           clear BK609
           clear HB
           have HO_7 := n0_
           have HO_610003 := n1_
           have BK601 := n2_
           have BK602 := n3_
           have BK609 := n4_
           have HB := n5_
           clear n0_ n1_ n2_ n3_ n4_ n5_
           refine start_ (n := 14) (S := fun w' => w'.cell? ⟨gb601, 0, none⟩ = some (.int .i64 a0_0) ∧ w'.cell? ⟨gb601, 1, none⟩ = some (.int .i64 a0_1) ∧ w'.cell? ⟨gb601, 2, none⟩ = some (.bool a0_2) ∧ w'.cell? ⟨gb601, 3, none⟩ = some (.slice A0_3 l0_3.length c0_3)) (ds := []) #[false, false, false, false, false, false, false, false, false, false, false, false, false, false] (by kernel_rfl) rfl rfl ⟨(blk_cell BK601.out 0).trans rfl, (blk_cell BK601.out 1).trans rfl, (blk_cell BK601.out 2).trans rfl, (blk_cell BK601.out 3).trans rfl⟩ (fun hHeld => ?_); refine with_tabW thermionlaw01_mirrored.tab6 thermionlaw01_mirrored.bits6 (fun HT_ HW_ => ?_)
           generalize wr.drew = w27 at HO_7 HO_610003 BK601 BK602 BK609 HB hHeld ⊢
           refine pure_ (i := 0) (N := some 20) (v := ?_) (a' := ?_) #[true, false, false, false, false, false, false, false, false, false, false, false, false, false] rfl rfl (any_of HT_.out (by kernel_rfl)) (fun _ _ _ h => h) (Or.inl ⟨by rfl, ?_⟩) ?_ ?_
           rotate_left
           ·intro w'
            go_simp
            with_reducible rfl
           rotate_left
           ·simp only [Act.put, List.setIfInBounds_toArray, List.set_cons_zero, List.set_cons_succ, i64_w, i32_w]
            rfl
           refine pure_ (i := 3) (N := some 23) (v := ?_) (a' := ?_) #[true, false, false, true, false, false, false, false, false, false, false, false, false, false] rfl rfl (any_of HT_.out (by kernel_rfl)) (fun _ _ _ h => h) (Or.inl ⟨by rfl, ?_⟩) ?_ ?_
           rotate_left
           ·intro w'
            go_simp
            with_reducible rfl
           rotate_left
           ·simp only [Act.put, List.setIfInBounds_toArray, List.set_cons_zero, List.set_cons_succ, i64_w, i32_w]
            rfl
           refine pure_ (i := 4) (N := some 24) (v := ?_) (a' := ?_) #[true, false, false, true, true, false, false, false, false, false, false, false, false, false] rfl rfl (any_of HT_.out (by kernel_rfl)) (fun _ _ _ h => h) (Or.inl ⟨by rfl, ?_⟩) ?_ ?_
           rotate_left
           ·intro w'
            go_simp
            with_reducible rfl
           rotate_left
           ·simp only [Act.put, List.setIfInBounds_toArray, List.set_cons_zero, List.set_cons_succ, i64_w, i32_w]
            rfl
           refine pure_ (i := 8) (N := some 28) (v := ?_) (a' := ?_) #[true, false, false, true, true, false, false, false, true, false, false, false, false, false] rfl rfl (any_of HT_.out (by kernel_rfl)) (fun _ _ _ h => h) (Or.inl ⟨by rfl, ?_⟩) ?_ ?_
           rotate_left
           ·intro w'
            go_simp
            with_reducible rfl
           rotate_left
           ·simp only [Act.put, List.setIfInBounds_toArray, List.set_cons_zero, List.set_cons_succ, i64_w, i32_w]
            rfl
           refine pure_ (i := 9) (N := some 29) (v := ?_) (a' := ?_) #[true, false, false, true, true, false, false, false, true, true, false, false, false, false] rfl rfl (any_of HT_.out (by kernel_rfl)) (fun _ _ _ h => h) (Or.inl ⟨by rfl, ?_⟩) ?_ ?_
           rotate_left
           ·intro w'
            go_simp
            with_reducible rfl
           rotate_left
           ·simp only [Act.put, List.setIfInBounds_toArray, List.set_cons_zero, List.set_cons_succ, i64_w, i32_w]
            rfl
           refine take_ (i := 1) (N := some 21) (v := ?_) (a' := ?_) #[true, true, false, true, true, false, false, false, true, true, false, false, false, false] rfl rfl (take_ofW HT_.out HW_.out (by kernel_rfl)) (fun _ _ _ h => h) (Or.inl ⟨by rfl, ?_⟩) hHeld ?_ ?_
           rotate_left
           ·rintro w' ⟨s0, s1, s2, s3⟩
            go_simp
            with_reducible rfl
           rotate_left
           ·simp only [Act.put, List.setIfInBounds_toArray, List.set_cons_zero, List.set_cons_succ, i64_w, i32_w]
            rfl
           refine pure_ (i := 2) (N := some 22) (v := ?_) (a' := ?_) #[true, true, true, true, true, false, false, false, true, true, false, false, false, false] rfl rfl (any_of HT_.out (by kernel_rfl)) (fun _ _ _ h => h) (Or.inl ⟨by rfl, ?_⟩) ?_ ?_
           rotate_left
           ·intro w'
            go_simp
            with_reducible rfl
           rotate_left
           ·simp only [Act.put, List.setIfInBounds_toArray, List.set_cons_zero, List.set_cons_succ, i64_w, i32_w]
            rfl
           refine take_ (i := 5) (N := some 25) (v := ?_) (a' := ?_) #[true, true, true, true, true, true, false, false, true, true, false, false, false, false] rfl rfl (take_ofW HT_.out HW_.out (by kernel_rfl)) (fun _ _ _ h => h) (Or.inl ⟨by rfl, ?_⟩) hHeld ?_ ?_
           rotate_left
           ·rintro w' ⟨s0, s1, s2, s3⟩
            go_simp
            with_reducible rfl
           rotate_left
           ·simp only [Act.put, List.setIfInBounds_toArray, List.set_cons_zero, List.set_cons_succ, i64_w, i32_w]
            rfl
           refine pure_ (i := 6) (N := some 26) (v := ?_) (a' := ?_) #[true, true, true, true, true, true, true, false, true, true, false, false, false, false] rfl rfl (any_of HT_.out (by kernel_rfl)) (fun _ _ _ h => h) (Or.inl ⟨by rfl, ?_⟩) ?_ ?_
           rotate_left
           ·intro w'
            go_simp
            with_reducible rfl
           rotate_left
           ·simp only [Act.put, List.setIfInBounds_toArray, List.set_cons_zero, List.set_cons_succ, i64_w, i32_w]
            rfl
           refine pure_ (i := 7) (N := some 27) (v := ?_) (a' := ?_) #[true, true, true, true, true, true, true, true, true, true, false, false, false, false] rfl rfl (any_of HT_.out (by kernel_rfl)) (fun _ _ _ h => h) (Or.inl ⟨by rfl, ?_⟩) ?_ ?_
           rotate_left
           ·intro w'
            go_simp
            with_reducible rfl
           rotate_left
           ·simp only [Act.put, List.setIfInBounds_toArray, List.set_cons_zero, List.set_cons_succ, i64_w, i32_w]
            rfl
           refine pure_ (i := 12) (N := some 9) (v := ?_) (a' := ?_) #[true, true, true, true, true, true, true, true, true, true, false, false, true, false] rfl rfl (any_of HT_.out (by kernel_rfl)) (fun _ _ _ h => h) (Or.inl ⟨by rfl, ?_⟩) ?_ ?_
           rotate_left
           ·intro w'
            go_simp
            with_reducible rfl
           rotate_left
           ·simp only [Act.put, List.setIfInBounds_toArray, List.set_cons_zero, List.set_cons_succ, i64_w, i32_w]
            rfl
           refine take_ (i := 10) (N := some 30) (v := ?_) (a' := ?_) #[true, true, true, true, true, true, true, true, true, true, true, false, true, false] rfl rfl (take_ofW HT_.out HW_.out (by kernel_rfl)) (fun _ _ _ h => h) (Or.inl ⟨by rfl, ?_⟩) hHeld ?_ ?_
           rotate_left
           ·rintro w' ⟨s0, s1, s2, s3⟩
            go_simp
            with_reducible rfl
           rotate_left
           ·simp only [Act.put, List.setIfInBounds_toArray, List.set_cons_zero, List.set_cons_succ, i64_w, i32_w]
            rfl
           refine pure_ (i := 11) (N := some 31) (v := ?_) (a' := ?_) #[true, true, true, true, true, true, true, true, true, true, true, true, true, false] rfl rfl (any_of HT_.out (by kernel_rfl)) (fun _ _ _ h => h) (Or.inl ⟨by rfl, ?_⟩) ?_ ?_
           rotate_left
           ·intro w'
            go_simp
            with_reducible rfl
           rotate_left
           ·simp only [Act.put, List.setIfInBounds_toArray, List.set_cons_zero, List.set_cons_succ, i64_w, i32_w]
            rfl
           refine pure_ (i := 13) (N := some 10) (v := ?_) (a' := ?_) #[true, true, true, true, true, true, true, true, true, true, true, true, true, true] rfl rfl (any_of HT_.out (by kernel_rfl)) (fun _ _ _ h => h) (Or.inl ⟨by rfl, ?_⟩) ?_ ?_
           rotate_left
           ·intro w'
            go_simp
            with_reducible rfl
           rotate_left
           ·simp only [Act.put, List.setIfInBounds_toArray, List.set_cons_zero, List.set_cons_succ, i64_w, i32_w]
            rfl
           refine done_ (done_of HT_.out (by kernel_rfl)) ?_
           try go_wp2
           have n0_ := Aside0.mk (Kd.R_drew HO_7.out)
           have n1_ := Aside0.mk (Kd.R_drew HO_610003.out)
           have n2_ := Aside0.mk (blk_drew BK601.out)
           have n3_ := Aside0.mk (blk_drew BK602.out)
           have n4_ := Aside0.mk (blk_drew BK609.out)
           have n5_ := Aside0.mk (below_drew1 HB.out)
           clear HO_7
           clear HO_610003
           clear BK601
           clear BK602
           clear BK609
           clear HB
           have HO_7 := n0_
           have HO_610003 := n1_
           have BK601 := n2_
           have BK602 := n3_
           have BK609 := n4_
           have HB := n5_
           clear n0_ n1_ n2_ n3_ n4_ n5_
           refine start_ (n := 14) (S := fun w' => w'.cell? ⟨gb601, 0, none⟩ = some (.int .i64 a0_0) ∧ w'.cell? ⟨gb601, 1, none⟩ = some (.int .i64 a0_1) ∧ w'.cell? ⟨gb601, 2, none⟩ = some (.bool a0_2) ∧ w'.cell? ⟨gb601, 3, none⟩ = some (.slice A0_3 l0_3.length c0_3)) (ds := []) #[false, false, false, false, false, false, false, false, false, false, false, false, false, false] (by kernel_rfl) rfl rfl ⟨(blk_cell BK601.out 0).trans rfl, (blk_cell BK601.out 1).trans rfl, (blk_cell BK601.out 2).trans rfl, (blk_cell BK601.out 3).trans rfl⟩ (fun hHeld => ?_); refine with_tabW thermionlaw01_mirrored.tab8 thermionlaw01_mirrored.bits8 (fun HT_ HW_ => ?_)
           generalize w27.drew = w28 at HO_7 HO_610003 BK601 BK602 BK609 HB hHeld ⊢
           refine pure_ (i := 0) (N := some 33) (v := ?_) (a' := ?_) #[true, false, false, false, false, false, false, false, false, false, false, false, false, false] rfl rfl (any_of HT_.out (by kernel_rfl)) (fun _ _ _ h => h) (Or.inl ⟨by rfl, ?_⟩) ?_ ?_
           rotate_left
           ·intro w'
            go_simp
            with_reducible rfl
           rotate_left
           ·simp only [Act.put, List.setIfInBounds_toArray, List.set_cons_zero, List.set_cons_succ, i64_w, i32_w]
            rfl
           refine pure_ (i := 1) (N := some 34) (v := ?_) (a' := ?_) #[true, true, false, false, false, false, false, false, false, false, false, false, false, false] rfl rfl (any_of HT_.out (by kernel_rfl)) (fun _ _ _ h => h) (Or.inl ⟨by rfl, ?_⟩) ?_ ?_
           rotate_left
           ·intro w'
            go_simp
            with_reducible rfl
           rotate_left
           ·simp only [Act.put, List.setIfInBounds_toArray, List.set_cons_zero, List.set_cons_succ, i64_w, i32_w]
            rfl
           refine pure_ (i := 4) (N := some 37) (v := ?_) (a' := ?_) #[true, true, false, false, true, false, false, false, false, false, false, false, false, false] rfl rfl (any_of HT_.out (by kernel_rfl)) (fun _ _ _ h => h) (Or.inl ⟨by rfl, ?_⟩) ?_ ?_
           rotate_left
           ·intro w'
            go_simp
            with_reducible rfl
           rotate_left
           ·simp only [Act.put, List.setIfInBounds_toArray, List.set_cons_zero, List.set_cons_succ, i64_w, i32_w]
            rfl
           refine pure_ (i := 7) (N := some 40) (v := ?_) (a' := ?_) #[true, true, false, false, true, false, false, true, false, false, false, false, false, false] rfl rfl (any_of HT_.out (by kernel_rfl)) (fun _ _ _ h => h) (Or.inl ⟨by rfl, ?_⟩) ?_ ?_
           rotate_left
           ·intro w'
            go_simp
            with_reducible rfl
           rotate_left
           ·simp only [Act.put, List.setIfInBounds_toArray, List.set_cons_zero, List.set_cons_succ, i64_w, i32_w]
            rfl
           refine pure_ (i := 8) (N := some 41) (v := ?_) (a' := ?_) #[true, true, false, false, true, false, false, true, true, false, false, false, false, false] rfl rfl (any_of HT_.out (by kernel_rfl)) (fun _ _ _ h => h) (Or.inl ⟨by rfl, ?_⟩) ?_ ?_
           rotate_left
           ·intro w'
            go_simp
            with_reducible rfl
           rotate_left
           ·simp only [Act.put, List.setIfInBounds_toArray, List.set_cons_zero, List.set_cons_succ, i64_w, i32_w]
            rfl
           refine take_ (i := 2) (N := some 35) (v := ?_) (a' := ?_) #[true, true, true, false, true, false, false, true, true, false, false, false, false, false] rfl rfl (take_ofW HT_.out HW_.out (by kernel_rfl)) (fun _ _ _ h => h) (Or.inl ⟨by rfl, ?_⟩) hHeld ?_ ?_
           rotate_left
           ·rintro w' ⟨s0, s1, s2, s3⟩
            go_simp
            with_reducible rfl
           rotate_left
           ·simp only [Act.put, List.setIfInBounds_toArray, List.set_cons_zero, List.set_cons_succ, i64_w, i32_w]
            rfl
           refine pure_ (i := 3) (N := some 36) (v := ?_) (a' := ?_) #[true, true, true, true, true, false, false, true, true, false, false, false, false, false] rfl rfl (any_of HT_.out (by kernel_rfl)) (fun _ _ _ h => h) (Or.inl ⟨by rfl, ?_⟩) ?_ ?_
           rotate_left
           ·intro w'
            go_simp
            with_reducible rfl
           rotate_left
           ·simp only [Act.put, List.setIfInBounds_toArray, List.set_cons_zero, List.set_cons_succ, i64_w, i32_w]
            rfl
           refine pure_ (i := 12) (N := some 9) (v := ?_) (a' := ?_) #[true, true, true, true, true, false, false, true, true, false, false, false, true, false] rfl rfl (any_of HT_.out (by kernel_rfl)) (fun _ _ _ h => h) (Or.inl ⟨by rfl, ?_⟩) ?_ ?_
           rotate_left
           ·intro w'
            go_simp
            with_reducible rfl
           rotate_left
           ·simp only [Act.put, List.setIfInBounds_toArray, List.set_cons_zero, List.set_cons_succ, i64_w, i32_w]
            rfl
           refine take_ (i := 5) (N := some 38) (v := ?_) (a' := ?_) #[true, true, true, true, true, true, false, true, true, false, false, false, true, false] rfl rfl (take_ofW HT_.out HW_.out (by kernel_rfl)) (fun _ _ _ h => h) (Or.inl ⟨by rfl, ?_⟩) hHeld ?_ ?_
           rotate_left
           ·rintro w' ⟨s0, s1, s2, s3⟩
            go_simp
            with_reducible rfl
           rotate_left
           ·simp only [Act.put, List.setIfInBounds_toArray, List.set_cons_zero, List.set_cons_succ, i64_w, i32_w]
            rfl
           refine pure_ (i := 6) (N := some 39) (v := ?_) (a' := ?_) #[true, true, true, true, true, true, true, true, true, false, false, false, true, false] rfl rfl (any_of HT_.out (by kernel_rfl)) (fun _ _ _ h => h) (Or.inl ⟨by rfl, ?_⟩) ?_ ?_
           rotate_left
           ·intro w'
            go_simp
            with_reducible rfl
           rotate_left
           ·simp only [Act.put, List.setIfInBounds_toArray, List.set_cons_zero, List.set_cons_succ, i64_w, i32_w]
            rfl
           refine take_ (i := 9) (N := some 42) (v := ?_) (a' := ?_) #[true, true, true, true, true, true, true, true, true, true, false, false, true, false] rfl rfl (take_ofW HT_.out HW_.out (by kernel_rfl)) (fun _ _ _ h => h) (Or.inl ⟨by rfl, ?_⟩) hHeld ?_ ?_
           rotate_left
           ·rintro w' ⟨s0, s1, s2, s3⟩
            go_simp
            with_reducible rfl
           rotate_left
           ·simp only [Act.put, List.setIfInBounds_toArray, List.set_cons_zero, List.set_cons_succ, i64_w, i32_w]
            rfl
           refine pure_ (i := 10) (N := some 43) (v := ?_) (a' := ?_) #[true, true, true, true, true, true, true, true, true, true, true, false, true, false] rfl rfl (any_of HT_.out (by kernel_rfl)) (fun _ _ _ h => h) (Or.inl ⟨by rfl, ?_⟩) ?_ ?_
           rotate_left
           ·intro w'
            go_simp
            with_reducible rfl
           rotate_left
           ·simp only [Act.put, List.setIfInBounds_toArray, List.set_cons_zero, List.set_cons_succ, i64_w, i32_w]
            rfl
           refine pure_ (i := 11) (N := some 44) (v := ?_) (a' := ?_) #[true, true, true, true, true, true, true, true, true, true, true, true, true, false] rfl rfl (any_of HT_.out (by kernel_rfl)) (fun _ _ _ h => h) (Or.inl ⟨by rfl, ?_⟩) ?_ ?_
           rotate_left
           ·intro w'
            go_simp
            with_reducible rfl
           rotate_left
           ·simp only [Act.put, List.setIfInBounds_toArray, List.set_cons_zero, List.set_cons_succ, i64_w, i32_w]
            rfl
           refine pure_ (i := 13) (N := some 10) (v := ?_) (a' := ?_) #[true, true, true, true, true, true, true, true, true, true, true, true, true, true] rfl rfl (any_of HT_.out (by kernel_rfl)) (fun _ _ _ h => h) (Or.inl ⟨by rfl, ?_⟩) ?_ ?_
           rotate_left
           ·intro w'
            go_simp
            with_reducible rfl
           rotate_left
           ·simp only [Act.put, List.setIfInBounds_toArray, List.set_cons_zero, List.set_cons_succ, i64_w, i32_w]
            rfl
           refine done_ (done_of HT_.out (by kernel_rfl)) ?_
           have hcz29_0 : w28.cell? ⟨gb601, 0, none⟩ = some (.int .i64 a0_0) := (blk_cell BK601.out 0).trans rfl
           have hcz29_1 : w28.cell? ⟨gb601, 1, none⟩ = some (.int .i64 a0_1) := (blk_cell BK601.out 1).trans rfl
           have hcz29_2 : w28.cell? ⟨gb601, 2, none⟩ = some (.bool a0_2) := (blk_cell BK601.out 2).trans rfl
           have hcz29_3 : w28.cell? ⟨gb601, 3, none⟩ = some (.slice A0_3 l0_3.length c0_3) := (blk_cell BK601.out 3).trans rfl
           have hfz29_0 := blk_frozen BK601.out 0
           have hfz29_1 := blk_frozen BK601.out 1
           have hfz29_2 := blk_frozen BK601.out 2
           have hfz29_3 := blk_frozen BK601.out 3
           try go_wp2_with (first | ((with_reducible refine gate_builtin (b := .append) (xs := #[.tmp 45, .tmp 52]) rfl ?_); at_builtin; refine Kd.R_append (Kd.int .i64) (w0 := w) w.heap.size rfl (.tmp 45) (.tmp 52) 22 3 (.int .i64 0) 8 rfl Try.underlying22 info3 rfl (by decide) (by omega) u7 x7_1 ji18 [.int .i64 ji18] (fun k_ => some k_ ≠ (u610003 : Value).ownBlock) (fun _ => False) rfl rfl ?aP (fun _ hk => hk.elim) ?aF ?aO ?aB ?aS ?aL ?_; (case aP => exact rfl); (case aB => exact (by repeat (first | (with_reducible first | exact HB.out | apply below_alloc | apply pw_below_drewN | apply below_drew1 | refine below_set ?_ GE601.out | refine below_set ?_ GE602.out | refine below_set ?_ GE609.out) | exact HB.out))); (case aF => exact (fun k_ hk => Kd.fresh' (Kd.R_lt (by (with_reducible repeat (first | apply Kd.R_alloc | apply Kd.R_drewN | apply Kd.R_drew)); exact HO_610003.out)) k_ hk)); (case aO => exact (by (with_reducible repeat (first | apply Kd.R_alloc | apply Kd.R_drewN | apply Kd.R_drew)); exact HO_7.out)); (case aS => exact (below_size (by repeat (first | (with_reducible first | exact HB.out | apply below_alloc | apply pw_below_drewN | apply below_drew1 | refine below_set ?_ GE601.out | refine below_set ?_ GE602.out | refine below_set ?_ GE609.out) | exact HB.out)))); (case aL => have := LMc17.out; omega); intro v611 w30 ho hb hg hat; rw [← Ny610.out] at ho; have n0_ := Aside0.mk (Kd.R_after (ok := (fun _ => True)) (by (with_reducible repeat (first | apply Kd.R_alloc | apply Kd.R_drewN | apply Kd.R_drew)); exact Kd.R_mono HO_610003.out (fun _ hk => ⟨trivial, hk⟩)) hg hat); have n1_ := Aside0.mk (blk_grown (g := gb601) (o := .cells #[.int .i64 a0_0, .int .i64 a0_1, .bool a0_2, .slice A0_3 l0_3.length c0_3] 24 (0, 0)) (by (with_reducible repeat (first | refine blk_drewN ?_ _ | refine blk_drew ?_ | refine blk_alloc ?_ _)); exact BK601.out) hg (Kd.R_ne HO_7.out BK601.out (by decide))); have n2_ := Aside0.mk (blk_grown (g := gb602) (o := .cells #[.int .i64 0, .int .i64 0, .bool false, .slice none 0 0] 24 (0, 0)) (by (with_reducible repeat (first | refine blk_drewN ?_ _ | refine blk_drew ?_ | refine blk_alloc ?_ _)); exact BK602.out) hg (Kd.R_ne HO_7.out BK602.out (by decide))); have n3_ := Aside0.mk (blk_grown (g := gb609) (o := .cells #[.int .i64 t603, .int .i64 t604, .bool t605, u610003] 24 (0, 0)) (by (with_reducible repeat (first | refine blk_drewN ?_ _ | refine blk_drew ?_ | refine blk_alloc ?_ _)); exact BK609.out) hg (Kd.R_ne HO_7.out BK609.out (by decide))); have n4_ := Aside0.mk (hb); have n5_ := Aside0.mk (ho); clear HO_610003; clear BK601; clear BK602; clear BK609; clear HB; clear HO_7; have HO_610003 := n0_; have BK601 := n1_; have BK602 := n2_; have BK609 := n3_; have HB := n4_; have HO612 := n5_; clear n0_ n1_ n2_ n3_ n4_ n5_; clear ho hb hg hat))
           have n0_ := Aside0.mk (Kd.R_drew HO_610003.out)
           have n1_ := Aside0.mk (Kd.R_drew HO612.out)
           have n2_ := Aside0.mk (blk_drew BK601.out)
           have n3_ := Aside0.mk (blk_drew BK602.out)
           have n4_ := Aside0.mk (blk_drew BK609.out)
           have n5_ := Aside0.mk (below_drew1 HB.out)
           clear HO_610003
           clear HO612
           clear BK601
           clear BK602
           clear BK609
           clear HB
           have HO_610003 := n0_
           have HO612 := n1_
           have BK601 := n2_
           have BK602 := n3_
           have BK609 := n4_
           have HB := n5_
           clear n0_ n1_ n2_ n3_ n4_ n5_
           have p613 : 0 ≤ ((ji18) : Int) := of_decide_eq_true (by first | (with_reducible assumption) | assumption)
           have q613 : (ji18) < (l0_3.length : Int) := of_decide_eq_true (by first | (with_reducible assumption) | assumption)
           obtain ⟨ad613, e613, hx613_0⟩ := Kd.at_int HR0_3.out (ji18) p613 q613
           have hw613_0 := hx613_0
           cases e613
           replace hx613_0 := (HB.out.cell (World.block_lt_of_cell? w _ hx613_0)).trans hx613_0
           replace p613 := eq_true p613
           replace q613 := eq_true q613
           have p23 : 0 ≤ (x8_1 : Int) := of_decide_eq_true (by first | (with_reducible assumption) | assumption)
           have q23 : (x8_1 : Int) < ((x610003_1.length : Int) : Int) := of_decide_eq_true (by first | (with_reducible assumption) | assumption)
           obtain ⟨go23, co23, eo23, gb23, gl23, cl23, HG23⟩ := Kd.R_form HO_610003.out (by omega)
           (first | cases eo23 | (injection eo23 with ea_ en_ ec_; (first | subst ea_ | (injection ea_ with ea_; subst ea_)); subst ec_; clear en_))
           have GB23 := Aside0.mk gb23
           have GG23 := Aside0.mk HG23
           clear gb23 gl23 HG23
           obtain ⟨hx23_0, hf23_0⟩ := Kd.R_celln 0 HO_610003.out (x8_1 : Int) p23 q23
           replace p23 := eq_true p23
           replace q23 := eq_true q23
           have HP32 := Kd.R_putn HO_610003.out (x8_1 : Int) (rd l0_3 (ji18))
           rw [← Ny614.out] at HP32
           have HQ32 := Aside0.mk HP32
           clear HP32
           refine start_ (n := 15) (S := fun w' => w'.cell? ⟨gb609, 0, none⟩ = some (.int .i64 t603) ∧ w'.cell? ⟨gb609, 1, none⟩ = some (.int .i64 t604) ∧ w'.cell? ⟨gb609, 2, none⟩ = some (.bool t605) ∧ w'.cell? ⟨gb609, 3, none⟩ = some (.slice (some ⟨go23, 0, none⟩) x610003_1.length co23) ∧ w'.cell? ⟨gb601, 0, none⟩ = some (.int .i64 a0_0) ∧ w'.cell? ⟨gb601, 1, none⟩ = some (.int .i64 a0_1) ∧ w'.cell? ⟨gb601, 2, none⟩ = some (.bool a0_2) ∧ w'.cell? ⟨gb601, 3, none⟩ = some (.slice (some ad613) l0_3.length c0_3) ∧ w'.cell? (ad613.add ((ji18)).toNat) = some (.int .i64 (rd l0_3 (ji18)))) (ds := [14]) #[false, false, false, false, false, false, false, false, false, false, false, false, false, false, false] (by kernel_rfl) rfl rfl ⟨(blk_cell BK609.out 0).trans rfl, (blk_cell BK609.out 1).trans rfl, (blk_cell BK609.out 2).trans rfl, (blk_cell BK609.out 3).trans rfl, (blk_cell BK601.out 0).trans rfl, (blk_cell BK601.out 1).trans rfl, (blk_cell BK601.out 2).trans rfl, (blk_cell BK601.out 3).trans rfl, ((HB.out.cell (World.block_lt_of_cell? w _ hw613_0)).trans hw613_0)⟩ (fun hHeld => ?_); refine with_tabW thermionlaw01_mirrored.tab10 thermionlaw01_mirrored.bits10 (fun HT_ HW_ => ?_)
           generalize w30.drew = w31 at HO_610003 HO612 BK601 BK602 BK609 HB GG23 HQ32 hf23_0 hx23_0 hx613_0 hHeld ⊢
           refine pure_ (i := 0) (N := some 54) (v := ?_) (a' := ?_) #[true, false, false, false, false, false, false, false, false, false, false, false, false, false, false] rfl rfl (any_of HT_.out (by kernel_rfl)) (fun _ _ _ h => h) (Or.inl ⟨by rfl, ?_⟩) ?_ ?_
           rotate_left
           ·intro w'
            go_simp
            with_reducible rfl
           rotate_left
           ·simp only [Act.put, List.setIfInBounds_toArray, List.set_cons_zero, List.set_cons_succ, i64_w, i32_w]
            rfl
           refine pure_ (i := 2) (N := some 56) (v := ?_) (a' := ?_) #[true, false, true, false, false, false, false, false, false, false, false, false, false, false, false] rfl rfl (any_of HT_.out (by kernel_rfl)) (fun _ _ _ h => h) (Or.inl ⟨by rfl, ?_⟩) ?_ ?_
           rotate_left
           ·intro w'
            go_simp
            with_reducible rfl
           rotate_left
           ·simp only [Act.put, List.setIfInBounds_toArray, List.set_cons_zero, List.set_cons_succ, i64_w, i32_w]
            rfl
           refine pure_ (i := 3) (N := some 57) (v := ?_) (a' := ?_) #[true, false, true, true, false, false, false, false, false, false, false, false, false, false, false] rfl rfl (any_of HT_.out (by kernel_rfl)) (fun _ _ _ h => h) (Or.inl ⟨by rfl, ?_⟩) ?_ ?_
           rotate_left
           ·intro w'
            go_simp
            with_reducible rfl
           rotate_left
           ·simp only [Act.put, List.setIfInBounds_toArray, List.set_cons_zero, List.set_cons_succ, i64_w, i32_w]
            rfl
           refine pure_ (i := 5) (N := some 59) (v := ?_) (a' := ?_) #[true, false, true, true, false, true, false, false, false, false, false, false, false, false, false] rfl rfl (any_of HT_.out (by kernel_rfl)) (fun _ _ _ h => h) (Or.inl ⟨by rfl, ?_⟩) ?_ ?_
           rotate_left
           ·intro w'
            go_simp
            with_reducible rfl
           rotate_left
           ·simp only [Act.put, List.setIfInBounds_toArray, List.set_cons_zero, List.set_cons_succ, i64_w, i32_w]
            rfl
           refine pure_ (i := 6) (N := some 60) (v := ?_) (a' := ?_) #[true, false, true, true, false, true, true, false, false, false, false, false, false, false, false] rfl rfl (any_of HT_.out (by kernel_rfl)) (fun _ _ _ h => h) (Or.inl ⟨by rfl, ?_⟩) ?_ ?_
           rotate_left
           ·intro w'
            go_simp
            with_reducible rfl
           rotate_left
           ·simp only [Act.put, List.setIfInBounds_toArray, List.set_cons_zero, List.set_cons_succ, i64_w, i32_w]
            rfl
           refine pure_ (i := 9) (N := some 63) (v := ?_) (a' := ?_) #[true, false, true, true, false, true, true, false, false, true, false, false, false, false, false] rfl rfl (any_of HT_.out (by kernel_rfl)) (fun _ _ _ h => h) (Or.inl ⟨by rfl, ?_⟩) ?_ ?_
           rotate_left
           ·intro w'
            go_simp
            with_reducible rfl
           rotate_left
           ·simp only [Act.put, List.setIfInBounds_toArray, List.set_cons_zero, List.set_cons_succ, i64_w, i32_w]
            rfl
           refine take_ (i := 1) (N := some 55) (v := ?_) (a' := ?_) #[true, true, true, true, false, true, true, false, false, true, false, false, false, false, false] rfl rfl (take_ofW HT_.out HW_.out (by kernel_rfl)) (fun _ _ _ h => h) (Or.inl ⟨by rfl, ?_⟩) hHeld ?_ ?_
           rotate_left
           ·rintro w' ⟨s0, s1, s2, s3, s4, s5, s6, s7, s8⟩
            go_simp
            with_reducible rfl
           rotate_left
           ·simp only [Act.put, List.setIfInBounds_toArray, List.set_cons_zero, List.set_cons_succ, i64_w, i32_w]
            rfl
           refine take_ (i := 4) (N := some 58) (v := ?_) (a' := ?_) #[true, true, true, true, true, true, true, false, false, true, false, false, false, false, false] rfl rfl (take_ofW HT_.out HW_.out (by kernel_rfl)) (fun _ _ _ h => h) (Or.inl ⟨by rfl, ?_⟩) hHeld ?_ ?_
           rotate_left
           ·rintro w' ⟨s0, s1, s2, s3, s4, s5, s6, s7, s8⟩
            go_simp
            with_reducible rfl
           rotate_left
           ·simp only [Act.put, List.setIfInBounds_toArray, List.set_cons_zero, List.set_cons_succ, i64_w, i32_w]
            rfl
           refine take_ (i := 7) (N := some 61) (v := ?_) (a' := ?_) #[true, true, true, true, true, true, true, true, false, true, false, false, false, false, false] rfl rfl (take_ofW HT_.out HW_.out (by kernel_rfl)) (fun _ _ _ h => h) (Or.inl ⟨by rfl, ?_⟩) hHeld ?_ ?_
           rotate_left
           ·rintro w' ⟨s0, s1, s2, s3, s4, s5, s6, s7, s8⟩
            go_simp
            with_reducible rfl
           rotate_left
           ·simp only [Act.put, List.setIfInBounds_toArray, List.set_cons_zero, List.set_cons_succ, i64_w, i32_w]
            rfl
           refine pure_ (i := 8) (N := some 62) (v := ?_) (a' := ?_) #[true, true, true, true, true, true, true, true, true, true, false, false, false, false, false] rfl rfl (any_of HT_.out (by kernel_rfl)) (fun _ _ _ h => h) (Or.inl ⟨by rfl, ?_⟩) ?_ ?_
           rotate_left
           ·intro w'
            go_simp
            with_reducible rfl
           rotate_left
           ·simp only [Act.put, List.setIfInBounds_toArray, List.set_cons_zero, List.set_cons_succ, i64_w, i32_w]
            rfl
           refine pure_ (i := 10) (N := some 64) (v := ?_) (a' := ?_) #[true, true, true, true, true, true, true, true, true, true, true, false, false, false, false] rfl rfl (any_of HT_.out (by kernel_rfl)) (fun _ _ _ h => h) (Or.inl ⟨by rfl, ?_⟩) ?_ ?_
           rotate_left
           ·intro w'
            go_simp
            with_reducible rfl
           rotate_left
           ·simp only [Act.put, List.setIfInBounds_toArray, List.set_cons_zero, List.set_cons_succ, i64_w, i32_w]
            rfl
           refine pure_ (i := 11) (N := some 65) (v := ?_) (a' := ?_) #[true, true, true, true, true, true, true, true, true, true, true, true, false, false, false] rfl rfl (any_of HT_.out (by kernel_rfl)) (fun _ _ _ h => h) (Or.inl ⟨by rfl, ?_⟩) ?_ ?_
           rotate_left
           ·intro w'
            go_simp
            with_reducible rfl
           rotate_left
           ·simp only [Act.put, List.setIfInBounds_toArray, List.set_cons_zero, List.set_cons_succ, i64_w, i32_w]
            rfl
           refine take_ (i := 12) (N := some 66) (v := ?_) (a' := ?_) #[true, true, true, true, true, true, true, true, true, true, true, true, true, false, false] rfl rfl (take_ofW HT_.out HW_.out (by kernel_rfl)) (fun _ _ _ h => h) (Or.inl ⟨by rfl, ?_⟩) hHeld ?_ ?_
           rotate_left
           ·rintro w' ⟨s0, s1, s2, s3, s4, s5, s6, s7, s8⟩
            go_simp
            with_reducible rfl
           rotate_left
           ·simp only [Act.put, List.setIfInBounds_toArray, List.set_cons_zero, List.set_cons_succ, i64_w, i32_w]
            rfl
           refine pure_ (i := 13) (N := some 67) (v := ?_) (a' := ?_) #[true, true, true, true, true, true, true, true, true, true, true, true, true, true, false] rfl rfl (any_of HT_.out (by kernel_rfl)) (fun _ _ _ h => h) (Or.inl ⟨by rfl, ?_⟩) ?_ ?_
           rotate_left
           ·intro w'
            go_simp
            with_reducible rfl
           rotate_left
           ·simp only [Act.put, List.setIfInBounds_toArray, List.set_cons_zero, List.set_cons_succ, i64_w, i32_w]
            rfl
           refine last_ (i := 14) (N := none) #[true, true, true, true, true, true, true, true, true, true, true, true, true, true, true] rfl rfl (one_of HT_.out (by kernel_rfl)) (by decide) (fun K hK => ?_)
           refine skip_ (w1 := ?_) (by rfl) rfl ?_ ?_
           rotate_left
           ·go_simp
            rfl
           refine hK.out _ _ ?_
           clear hK K
           refine done_ (done_of HT_.out (by kernel_rfl)) ?_
           try go_wp2
           go_roundg k1
           case measure => have := HK1.out; omega
           case rel => exact ⟨(y610), (wrap64 (x8_1 + 1)), (y614), (.slice (some ⟨go23, 0, none⟩) x610003_1.length co23), (by first | rfl | (simp; done) | (simp [*]; done)), H', ⟨by have := HK1.out; omega⟩, ⟨by (with_reducible repeat (first | apply Kd.R_alloc | apply Kd.R_drewN | apply Kd.R_drew)); exact Kd.R_mono (Kd.R_far (p := ⟨go23, (x8_1 : Int).toNat, none⟩) (Kd.R_mono HO612.out (fun k_ hk => (⟨hk, fun e_ => hk (by rw [e_]; rfl)⟩ : _ ∧ k_ ≠ go23))) (fun _ hk => hk.2) (.int .i64 (rd l0_3 (ji18)))) (fun _ hk => hk.1)⟩, ⟨by (with_reducible repeat (first | apply Kd.R_alloc | apply Kd.R_drewN | apply Kd.R_drew)); exact Kd.R_mono HQ32.out (fun _ hk => hk.2)⟩, ⟨by (with_reducible repeat (first | refine blk_drewN ?_ _ | refine blk_drew ?_ | refine blk_alloc ?_ _)); refine blk_far ?_ (by have h_ := Kd.R_ne HO_610003.out BK601.out (by decide); intro e_; exact h_ (by rw [e_]; rfl)) _; (with_reducible repeat (first | refine blk_drewN ?_ _ | refine blk_drew ?_ | refine blk_alloc ?_ _)); exact BK601.out⟩, ⟨by (with_reducible repeat (first | refine blk_drewN ?_ _ | refine blk_drew ?_ | refine blk_alloc ?_ _)); refine blk_far ?_ (by have h_ := Kd.R_ne HO_610003.out BK602.out (by decide); intro e_; exact h_ (by rw [e_]; rfl)) _; (with_reducible repeat (first | refine blk_drewN ?_ _ | refine blk_drew ?_ | refine blk_alloc ?_ _)); exact BK602.out⟩, ⟨by (with_reducible repeat (first | refine blk_drewN ?_ _ | refine blk_drew ?_ | refine blk_alloc ?_ _)); refine blk_far ?_ (by have h_ := Kd.R_ne HO_610003.out BK609.out (by decide); intro e_; exact h_ (by rw [e_]; rfl)) _; (with_reducible repeat (first | refine blk_drewN ?_ _ | refine blk_drew ?_ | refine blk_alloc ?_ _)); exact BK609.out⟩, ⟨by repeat (first | (with_reducible first | exact HB.out | apply below_alloc | apply pw_below_drewN | apply below_drew1 | refine below_set ?_ GB23.out | refine below_set ?_ GE601.out | refine below_set ?_ GE602.out | refine below_set ?_ GE609.out) | exact HB.out)⟩⟩
          ·rw [if_neg c22] at H
           exact absurd H (by simp)
         ·rw [if_neg c21] at H
          exact absurd H (by simp)
        ·rw [if_neg c20] at H
         exact absurd H (by simp)
       ·rw [if_neg c19] at H
        exact absurd H (by simp)
      ·rw [if_neg c17] at H
       exact absurd H (by simp)
     ·replace c16 := Bool.eq_false_iff.mpr c16
      subst c16
      have H1 : (if x7_1.length < 17592186044416 then (if 0 ≤ (wrap64 ((wrap64 ((wrap64 (Int.tdiv x8_1 a0_0)) * a0_0)) + (wrap64 ((wrap64 (a0_0 - 1)) - (Int.tmod x8_1 a0_0))))) then (if (wrap64 ((wrap64 ((wrap64 (Int.tdiv x8_1 a0_0)) * a0_0)) + (wrap64 ((wrap64 (a0_0 - 1)) - (Int.tmod x8_1 a0_0))))) < (l0_3.length : Int) then (if 0 ≤ x8_1 then (if x8_1 < (x610003_1.length : Int) then (thermionlaw01_mirrored.l0 k1 false (x7_1 ++ [wrap64 ((wrap64 ((wrap64 (Int.tdiv x8_1 a0_0)) * a0_0)) + (wrap64 ((wrap64 (a0_0 - 1)) - (Int.tmod x8_1 a0_0))))]) (wrap64 (x8_1 + 1)) a0_0 a0_1 a0_2 l0_3 t603 t604 t605 (x610003_1.set (x8_1 : Int).toNat (rd l0_3 (wrap64 ((wrap64 ((wrap64 (Int.tdiv x8_1 a0_0)) * a0_0)) + (wrap64 ((wrap64 (a0_0 - 1)) - (Int.tmod x8_1 a0_0)))))))) else (none)) else (none)) else (none)) else (none)) else (none)) = some (r1, r2, r3, r4, r5) := by rw [if_neg (show ¬ (false = true) by decide)] at H; exact H
      clear H
      have H := H1
      clear H1
      by_cases c33 : x7_1.length < 17592186044416
      ·rw [if_pos c33] at H
       have LMc33 := Aside0.mk c33
       clear c33
       obtain ⟨y615, hy615⟩ : ∃ y_ : List Int, y_ = (x7_1 ++ [wrap64 ((wrap64 ((wrap64 (Int.tdiv x8_1 a0_0)) * a0_0)) + (wrap64 ((wrap64 (a0_0 - 1)) - (Int.tmod x8_1 a0_0))))]) := ⟨_, rfl⟩
       replace H : (if 0 ≤ (wrap64 ((wrap64 ((wrap64 (Int.tdiv x8_1 a0_0)) * a0_0)) + (wrap64 ((wrap64 (a0_0 - 1)) - (Int.tmod x8_1 a0_0))))) then (if (wrap64 ((wrap64 ((wrap64 (Int.tdiv x8_1 a0_0)) * a0_0)) + (wrap64 ((wrap64 (a0_0 - 1)) - (Int.tmod x8_1 a0_0))))) < (l0_3.length : Int) then (if 0 ≤ x8_1 then (if x8_1 < (x610003_1.length : Int) then (thermionlaw01_mirrored.l0 k1 false y615 (wrap64 (x8_1 + 1)) a0_0 a0_1 a0_2 l0_3 t603 t604 t605 (x610003_1.set (x8_1 : Int).toNat (rd l0_3 (wrap64 ((wrap64 ((wrap64 (Int.tdiv x8_1 a0_0)) * a0_0)) + (wrap64 ((wrap64 (a0_0 - 1)) - (Int.tmod x8_1 a0_0)))))))) else (none)) else (none)) else (none)) else (none)) = some (r1, r2, r3, r4, r5) := by first | (rw [hy615]; with_reducible exact H) | (have H2_ := (Option.bind_some _ _).symm.trans H; rw [hy615]; with_reducible exact H2_) | (have H2_ := (Option.bind_some _ _).symm.trans H; with_reducible exact H2_) | with_reducible exact H | (rw [hy615]; exact H) | exact H
       have Ny615 := Aside0.mk hy615
       clear hy615
       obtain ⟨ji34, hji34⟩ : ∃ j_ : Int, (wrap64 ((wrap64 ((wrap64 (Int.tdiv x8_1 a0_0)) * a0_0)) + (wrap64 ((wrap64 (a0_0 - 1)) - (Int.tmod x8_1 a0_0))))) = j_ := ⟨_, rfl⟩
       replace H : (if 0 ≤ (ji34) then (if (ji34) < (l0_3.length : Int) then (if 0 ≤ x8_1 then (if x8_1 < (x610003_1.length : Int) then (thermionlaw01_mirrored.l0 k1 false y615 (wrap64 (x8_1 + 1)) a0_0 a0_1 a0_2 l0_3 t603 t604 t605 (x610003_1.set (x8_1 : Int).toNat (rd l0_3 (ji34)))) else (none)) else (none)) else (none)) else (none)) = some (r1, r2, r3, r4, r5) := by first | (rw [hji34] at H; exact H) | (simp only [hji34] at H ⊢; exact H)
       (try rw [hji34] at Ny615)
       have hji34w : (IntKind.i64.wrap ((wrap64 ((wrap64 (Int.tdiv x8_1 a0_0)) * a0_0)) + (wrap64 ((wrap64 (a0_0 - 1)) - (Int.tmod x8_1 a0_0))))) = ji34 := (i64_w _).trans hji34
       by_cases c35 : 0 ≤ (ji34)
       ·rw [if_pos c35] at H
        have c35b0 : decide (0 ≤ (ji34)) = true := decide_eq_true c35
        clear c35
        by_cases c36 : (ji34) < (l0_3.length : Int)
        ·rw [if_pos c36] at H
         have c36b0 : decide ((ji34) < (l0_3.length : Int)) = true := decide_eq_true c36
         clear c36
         by_cases c37 : 0 ≤ x8_1
         ·rw [if_pos c37] at H
          have c37b0 : decide (0 ≤ x8_1) = true := decide_eq_true c37
          clear c37
          by_cases c38 : x8_1 < (x610003_1.length : Int)
          ·rw [if_pos c38] at H
           have c38b0 : decide (x8_1 < (x610003_1.length : Int)) = true := decide_eq_true c38
           clear c38
           obtain ⟨y619, hy619⟩ : ∃ y_ : List Int, y_ = (x610003_1.set (x8_1 : Int).toNat (rd l0_3 (ji34))) := ⟨_, rfl⟩
           replace H : (thermionlaw01_mirrored.l0 k1 false y615 (wrap64 (x8_1 + 1)) a0_0 a0_1 a0_2 l0_3 t603 t604 t605 y619) = some (r1, r2, r3, r4, r5) := by first | (rw [hy619]; with_reducible exact H) | (have H2_ := (Option.bind_some _ _).symm.trans H; rw [hy619]; with_reducible exact H2_) | (have H2_ := (Option.bind_some _ _).symm.trans H; with_reducible exact H2_) | with_reducible exact H | (rw [hy619]; exact H) | exact H
           have Ny619 := Aside0.mk hy619
           clear hy619
           have H' := Aside0.mk H
           clear H
           have hnb40 := NB601_602.out
           have hnc40 := NB602_601.out
           have hnb41 := NB601_609.out
           have hnc41 := NB609_601.out
           have hcz42_0 : wr.cell? ⟨gb601, 0, none⟩ = some (.int .i64 a0_0) := (blk_cell BK601.out 0).trans rfl
           have hcz42_1 : wr.cell? ⟨gb601, 1, none⟩ = some (.int .i64 a0_1) := (blk_cell BK601.out 1).trans rfl
           have hcz42_2 : wr.cell? ⟨gb601, 2, none⟩ = some (.bool a0_2) := (blk_cell BK601.out 2).trans rfl
           have hcz42_3 : wr.cell? ⟨gb601, 3, none⟩ = some (.slice A0_3 l0_3.length c0_3) := (blk_cell BK601.out 3).trans rfl
           have hfz42_0 := blk_frozen BK601.out 0
           have hfz42_1 := blk_frozen BK601.out 1
           have hfz42_2 := blk_frozen BK601.out 2
           have hfz42_3 := blk_frozen BK601.out 3
           try go_wp2
           have n0_ := Aside0.mk (Kd.R_drew HO_7.out)
           have n1_ := Aside0.mk (Kd.R_drew HO_610003.out)
           have n2_ := Aside0.mk (blk_drew BK601.out)
           have n3_ := Aside0.mk (blk_drew BK602.out)
           have n4_ := Aside0.mk (blk_drew BK609.out)
           have n5_ := Aside0.mk (below_drew1 HB.out)
           clear HO_7
           clear HO_610003
           clear BK601
           clear BK602
           clear BK609
           clear HB
           have HO_7 := n0_
           have HO_610003 := n1_
           have BK601 := n2_
           have BK602 := n3_
           have BK609 := n4_
           have HB := n5_
           clear n0_ n1_ n2_ n3_ n4_ n5_
           refine start_ (n := 14) (S := fun w' => w'.cell? ⟨gb601, 0, none⟩ = some (.int .i64 a0_0) ∧ w'.cell? ⟨gb601, 1, none⟩ = some (.int .i64 a0_1) ∧ w'.cell? ⟨gb601, 2, none⟩ = some (.bool a0_2) ∧ w'.cell? ⟨gb601, 3, none⟩ = some (.slice A0_3 l0_3.length c0_3)) (ds := []) #[false, false, false, false, false, false, false, false, false, false, false, false, false, false] (by kernel_rfl) rfl rfl ⟨(blk_cell BK601.out 0).trans rfl, (blk_cell BK601.out 1).trans rfl, (blk_cell BK601.out 2).trans rfl, (blk_cell BK601.out 3).trans rfl⟩ (fun hHeld => ?_); refine with_tabW thermionlaw01_mirrored.tab6 thermionlaw01_mirrored.bits6 (fun HT_ HW_ => ?_)
           generalize wr.drew = w43 at HO_7 HO_610003 BK601 BK602 BK609 HB hHeld ⊢
           refine pure_ (i := 0) (N := some 20) (v := ?_) (a' := ?_) #[true, false, false, false, false, false, false, false, false, false, false, false, false, false] rfl rfl (any_of HT_.out (by kernel_rfl)) (fun _ _ _ h => h) (Or.inl ⟨by rfl, ?_⟩) ?_ ?_
           rotate_left
           ·intro w'
            go_simp
            with_reducible rfl
           rotate_left
           ·simp only [Act.put, List.setIfInBounds_toArray, List.set_cons_zero, List.set_cons_succ, i64_w, i32_w]
            rfl
           refine pure_ (i := 3) (N := some 23) (v := ?_) (a' := ?_) #[true, false, false, true, false, false, false, false, false, false, false, false, false, false] rfl rfl (any_of HT_.out (by kernel_rfl)) (fun _ _ _ h => h) (Or.inl ⟨by rfl, ?_⟩) ?_ ?_
           rotate_left
           ·intro w'
            go_simp
            with_reducible rfl
           rotate_left
           ·simp only [Act.put, List.setIfInBounds_toArray, List.set_cons_zero, List.set_cons_succ, i64_w, i32_w]
            rfl
           refine pure_ (i := 4) (N := some 24) (v := ?_) (a' := ?_) #[true, false, false, true, true, false, false, false, false, false, false, false, false, false] rfl rfl (any_of HT_.out (by kernel_rfl)) (fun _ _ _ h => h) (Or.inl ⟨by rfl, ?_⟩) ?_ ?_
           rotate_left
           ·intro w'
            go_simp
            with_reducible rfl
           rotate_left
           ·simp only [Act.put, List.setIfInBounds_toArray, List.set_cons_zero, List.set_cons_succ, i64_w, i32_w]
            rfl
           refine pure_ (i := 8) (N := some 28) (v := ?_) (a' := ?_) #[true, false, false, true, true, false, false, false, true, false, false, false, false, false] rfl rfl (any_of HT_.out (by kernel_rfl)) (fun _ _ _ h => h) (Or.inl ⟨by rfl, ?_⟩) ?_ ?_
           rotate_left
           ·intro w'
            go_simp
            with_reducible rfl
           rotate_left
           ·simp only [Act.put, List.setIfInBounds_toArray, List.set_cons_zero, List.set_cons_succ, i64_w, i32_w]
            rfl
           refine pure_ (i := 9) (N := some 29) (v := ?_) (a' := ?_) #[true, false, false, true, true, false, false, false, true, true, false, false, false, false] rfl rfl (any_of HT_.out (by kernel_rfl)) (fun _ _ _ h => h) (Or.inl ⟨by rfl, ?_⟩) ?_ ?_
           rotate_left
           ·intro w'
            go_simp
            with_reducible rfl
           rotate_left
           ·simp only [Act.put, List.setIfInBounds_toArray, List.set_cons_zero, List.set_cons_succ, i64_w, i32_w]
            rfl
           refine take_ (i := 1) (N := some 21) (v := ?_) (a' := ?_) #[true, true, false, true, true, false, false, false, true, true, false, false, false, false] rfl rfl (take_ofW HT_.out HW_.out (by kernel_rfl)) (fun _ _ _ h => h) (Or.inl ⟨by rfl, ?_⟩) hHeld ?_ ?_
           rotate_left
           ·rintro w' ⟨s0, s1, s2, s3⟩
            go_simp
            with_reducible rfl
           rotate_left
           ·simp only [Act.put, List.setIfInBounds_toArray, List.set_cons_zero, List.set_cons_succ, i64_w, i32_w]
            rfl
           refine pure_ (i := 2) (N := some 22) (v := ?_) (a' := ?_) #[true, true, true, true, true, false, false, false, true, true, false, false, false, false] rfl rfl (any_of HT_.out (by kernel_rfl)) (fun _ _ _ h => h) (Or.inl ⟨by rfl, ?_⟩) ?_ ?_
           rotate_left
           ·intro w'
            go_simp
            with_reducible rfl
           rotate_left
           ·simp only [Act.put, List.setIfInBounds_toArray, List.set_cons_zero, List.set_cons_succ, i64_w, i32_w]
            rfl
           refine take_ (i := 5) (N := some 25) (v := ?_) (a' := ?_) #[true, true, true, true, true, true, false, false, true, true, false, false, false, false] rfl rfl (take_ofW HT_.out HW_.out (by kernel_rfl)) (fun _ _ _ h => h) (Or.inl ⟨by rfl, ?_⟩) hHeld ?_ ?_
           rotate_left
           ·rintro w' ⟨s0, s1, s2, s3⟩
            go_simp
            with_reducible rfl
           rotate_left
           ·simp only [Act.put, List.setIfInBounds_toArray, List.set_cons_zero, List.set_cons_succ, i64_w, i32_w]
            rfl
           refine pure_ (i := 6) (N := some 26) (v := ?_) (a' := ?_) #[true, true, true, true, true, true, true, false, true, true, false, false, false, false] rfl rfl (any_of HT_.out (by kernel_rfl)) (fun _ _ _ h => h) (Or.inl ⟨by rfl, ?_⟩) ?_ ?_
           rotate_left
           ·intro w'
            go_simp
            with_reducible rfl
           rotate_left
           ·simp only [Act.put, List.setIfInBounds_toArray, List.set_cons_zero, List.set_cons_succ, i64_w, i32_w]
            rfl
           refine pure_ (i := 7) (N := some 27) (v := ?_) (a' := ?_) #[true, true, true, true, true, true, true, true, true, true, false, false, false, false] rfl rfl (any_of HT_.out (by kernel_rfl)) (fun _ _ _ h => h) (Or.inl ⟨by rfl, ?_⟩) ?_ ?_
           rotate_left
           ·intro w'
            go_simp
            with_reducible rfl
           rotate_left
           ·simp only [Act.put, List.setIfInBounds_toArray, List.set_cons_zero, List.set_cons_succ, i64_w, i32_w]
            rfl
           refine pure_ (i := 12) (N := some 9) (v := ?_) (a' := ?_) #[true, true, true, true, true, true, true, true, true, true, false, false, true, false] rfl rfl (any_of HT_.out (by kernel_rfl)) (fun _ _ _ h => h) (Or.inl ⟨by rfl, ?_⟩) ?_ ?_
           rotate_left
           ·intro w'
            go_simp
            with_reducible rfl
           rotate_left
           ·simp only [Act.put, List.setIfInBounds_toArray, List.set_cons_zero, List.set_cons_succ, i64_w, i32_w]
            rfl
           refine take_ (i := 10) (N := some 30) (v := ?_) (a' := ?_) #[true, true, true, true, true, true, true, true, true, true, true, false, true, false] rfl rfl (take_ofW HT_.out HW_.out (by kernel_rfl)) (fun _ _ _ h => h) (Or.inl ⟨by rfl, ?_⟩) hHeld ?_ ?_
           rotate_left
           ·rintro w' ⟨s0, s1, s2, s3⟩
            go_simp
            with_reducible rfl
           rotate_left
           ·simp only [Act.put, List.setIfInBounds_toArray, List.set_cons_zero, List.set_cons_succ, i64_w, i32_w]
            rfl
           refine pure_ (i := 11) (N := some 31) (v := ?_) (a' := ?_) #[true, true, true, true, true, true, true, true, true, true, true, true, true, false] rfl rfl (any_of HT_.out (by kernel_rfl)) (fun _ _ _ h => h) (Or.inl ⟨by rfl, ?_⟩) ?_ ?_
           rotate_left
           ·intro w'
            go_simp
            with_reducible rfl
           rotate_left
           ·simp only [Act.put, List.setIfInBounds_toArray, List.set_cons_zero, List.set_cons_succ, i64_w, i32_w]
            rfl
           refine pure_ (i := 13) (N := some 10) (v := ?_) (a' := ?_) #[true, true, true, true, true, true, true, true, true, true, true, true, true, true] rfl rfl (any_of HT_.out (by kernel_rfl)) (fun _ _ _ h => h) (Or.inl ⟨by rfl, ?_⟩) ?_ ?_
           rotate_left
           ·intro w'
            go_simp
            with_reducible rfl
           rotate_left
           ·simp only [Act.put, List.setIfInBounds_toArray, List.set_cons_zero, List.set_cons_succ, i64_w, i32_w]
            rfl
           refine done_ (done_of HT_.out (by kernel_rfl)) ?_
           have hcz44_0 : w43.cell? ⟨gb601, 0, none⟩ = some (.int .i64 a0_0) := (blk_cell BK601.out 0).trans rfl
           have hcz44_1 : w43.cell? ⟨gb601, 1, none⟩ = some (.int .i64 a0_1) := (blk_cell BK601.out 1).trans rfl
           have hcz44_2 : w43.cell? ⟨gb601, 2, none⟩ = some (.bool a0_2) := (blk_cell BK601.out 2).trans rfl
           have hcz44_3 : w43.cell? ⟨gb601, 3, none⟩ = some (.slice A0_3 l0_3.length c0_3) := (blk_cell BK601.out 3).trans rfl
           have hfz44_0 := blk_frozen BK601.out 0
           have hfz44_1 := blk_frozen BK601.out 1
           have hfz44_2 := blk_frozen BK601.out 2
           have hfz44_3 := blk_frozen BK601.out 3
           try go_wp2_with (first | ((with_reducible refine gate_builtin (b := .append) (xs := #[.tmp 45, .tmp 52]) rfl ?_); at_builtin; refine Kd.R_append (Kd.int .i64) (w0 := w) w.heap.size rfl (.tmp 45) (.tmp 52) 22 3 (.int .i64 0) 8 rfl Try.underlying22 info3 rfl (by decide) (by omega) u7 x7_1 ji34 [.int .i64 ji34] (fun k_ => some k_ ≠ (u610003 : Value).ownBlock) (fun _ => False) rfl rfl ?aP (fun _ hk => hk.elim) ?aF ?aO ?aB ?aS ?aL ?_; (case aP => exact rfl); (case aB => exact (by repeat (first | (with_reducible first | exact HB.out | apply below_alloc | apply pw_below_drewN | apply below_drew1 | refine below_set ?_ GE601.out | refine below_set ?_ GE602.out | refine below_set ?_ GE609.out) | exact HB.out))); (case aF => exact (fun k_ hk => Kd.fresh' (Kd.R_lt (by (with_reducible repeat (first | apply Kd.R_alloc | apply Kd.R_drewN | apply Kd.R_drew)); exact HO_610003.out)) k_ hk)); (case aO => exact (by (with_reducible repeat (first | apply Kd.R_alloc | apply Kd.R_drewN | apply Kd.R_drew)); exact HO_7.out)); (case aS => exact (below_size (by repeat (first | (with_reducible first | exact HB.out | apply below_alloc | apply pw_below_drewN | apply below_drew1 | refine below_set ?_ GE601.out | refine below_set ?_ GE602.out | refine below_set ?_ GE609.out) | exact HB.out)))); (case aL => have := LMc33.out; omega); intro v616 w45 ho hb hg hat; rw [← Ny615.out] at ho; have n0_ := Aside0.mk (Kd.R_after (ok := (fun _ => True)) (by (with_reducible repeat (first | apply Kd.R_alloc | apply Kd.R_drewN | apply Kd.R_drew)); exact Kd.R_mono HO_610003.out (fun _ hk => ⟨trivial, hk⟩)) hg hat); have n1_ := Aside0.mk (blk_grown (g := gb601) (o := .cells #[.int .i64 a0_0, .int .i64 a0_1, .bool a0_2, .slice A0_3 l0_3.length c0_3] 24 (0, 0)) (by (with_reducible repeat (first | refine blk_drewN ?_ _ | refine blk_drew ?_ | refine blk_alloc ?_ _)); exact BK601.out) hg (Kd.R_ne HO_7.out BK601.out (by decide))); have n2_ := Aside0.mk (blk_grown (g := gb602) (o := .cells #[.int .i64 0, .int .i64 0, .bool false, .slice none 0 0] 24 (0, 0)) (by (with_reducible repeat (first | refine blk_drewN ?_ _ | refine blk_drew ?_ | refine blk_alloc ?_ _)); exact BK602.out) hg (Kd.R_ne HO_7.out BK602.out (by decide))); have n3_ := Aside0.mk (blk_grown (g := gb609) (o := .cells #[.int .i64 t603, .int .i64 t604, .bool t605, u610003] 24 (0, 0)) (by (with_reducible repeat (first | refine blk_drewN ?_ _ | refine blk_drew ?_ | refine blk_alloc ?_ _)); exact BK609.out) hg (Kd.R_ne HO_7.out BK609.out (by decide))); have n4_ := Aside0.mk (hb); have n5_ := Aside0.mk (ho); clear HO_610003; clear BK601; clear BK602; clear BK609; clear HB; clear HO_7; have HO_610003 := n0_; have BK601 := n1_; have BK602 := n2_; have BK609 := n3_; have HB := n4_; have HO617 := n5_; clear n0_ n1_ n2_ n3_ n4_ n5_; clear ho hb hg hat))
           have n0_ := Aside0.mk (Kd.R_drew HO_610003.out)
           have n1_ := Aside0.mk (Kd.R_drew HO617.out)
           have n2_ := Aside0.mk (blk_drew BK601.out)
           have n3_ := Aside0.mk (blk_drew BK602.out)
           have n4_ := Aside0.mk (blk_drew BK609.out)
           have n5_ := Aside0.mk (below_drew1 HB.out)
           clear HO_610003
           clear HO617
           clear BK601
           clear BK602
           clear BK609
           clear HB
           have HO_610003 := n0_
           have HO617 := n1_
           have BK601 := n2_
           have BK602 := n3_
           have BK609 := n4_
           have HB := n5_
           clear n0_ n1_ n2_ n3_ n4_ n5_
           have p618 : 0 ≤ ((ji34) : Int) := of_decide_eq_true (by first | (with_reducible assumption) | assumption)
           have q618 : (ji34) < (l0_3.length : Int) := of_decide_eq_true (by first | (with_reducible assumption) | assumption)
           obtain ⟨ad618, e618, hx618_0⟩ := Kd.at_int HR0_3.out (ji34) p618 q618
           have hw618_0 := hx618_0
           cases e618
           replace hx618_0 := (HB.out.cell (World.block_lt_of_cell? w _ hx618_0)).trans hx618_0
           replace p618 := eq_true p618
           replace q618 := eq_true q618
           have p39 : 0 ≤ (x8_1 : Int) := of_decide_eq_true (by first | (with_reducible assumption) | assumption)
           have q39 : (x8_1 : Int) < ((x610003_1.length : Int) : Int) := of_decide_eq_true (by first | (with_reducible assumption) | assumption)
           obtain ⟨go39, co39, eo39, gb39, gl39, cl39, HG39⟩ := Kd.R_form HO_610003.out (by omega)
           (first | cases eo39 | (injection eo39 with ea_ en_ ec_; (first | subst ea_ | (injection ea_ with ea_; subst ea_)); subst ec_; clear en_))
           have GB39 := Aside0.mk gb39
           have GG39 := Aside0.mk HG39
           clear gb39 gl39 HG39
           obtain ⟨hx39_0, hf39_0⟩ := Kd.R_celln 0 HO_610003.out (x8_1 : Int) p39 q39
           replace p39 := eq_true p39
           replace q39 := eq_true q39
           have HP47 := Kd.R_putn HO_610003.out (x8_1 : Int) (rd l0_3 (ji34))
           rw [← Ny619.out] at HP47
           have HQ47 := Aside0.mk HP47
           clear HP47
           refine start_ (n := 15) (S := fun w' => w'.cell? ⟨gb609, 0, none⟩ = some (.int .i64 t603) ∧ w'.cell? ⟨gb609, 1, none⟩ = some (.int .i64 t604) ∧ w'.cell? ⟨gb609, 2, none⟩ = some (.bool t605) ∧ w'.cell? ⟨gb609, 3, none⟩ = some (.slice (some ⟨go39, 0, none⟩) x610003_1.length co39) ∧ w'.cell? ⟨gb601, 0, none⟩ = some (.int .i64 a0_0) ∧ w'.cell? ⟨gb601, 1, none⟩ = some (.int .i64 a0_1) ∧ w'.cell? ⟨gb601, 2, none⟩ = some (.bool a0_2) ∧ w'.cell? ⟨gb601, 3, none⟩ = some (.slice (some ad618) l0_3.length c0_3) ∧ w'.cell? (ad618.add ((ji34)).toNat) = some (.int .i64 (rd l0_3 (ji34)))) (ds := [14]) #[false, false, false, false, false, false, false, false, false, false, false, false, false, false, false] (by kernel_rfl) rfl rfl ⟨(blk_cell BK609.out 0).trans rfl, (blk_cell BK609.out 1).trans rfl, (blk_cell BK609.out 2).trans rfl, (blk_cell BK609.out 3).trans rfl, (blk_cell BK601.out 0).trans rfl, (blk_cell BK601.out 1).trans rfl, (blk_cell BK601.out 2).trans rfl, (blk_cell BK601.out 3).trans rfl, ((HB.out.cell (World.block_lt_of_cell? w _ hw618_0)).trans hw618_0)⟩ (fun hHeld => ?_); refine with_tabW thermionlaw01_mirrored.tab10 thermionlaw01_mirrored.bits10 (fun HT_ HW_ => ?_)
           generalize w45.drew = w46 at HO_610003 HO617 BK601 BK602 BK609 HB GG39 HQ47 hf39_0 hx39_0 hx618_0 hHeld ⊢
           refine pure_ (i := 0) (N := some 54) (v := ?_) (a' := ?_) #[true, false, false, false, false, false, false, false, false, false, false, false, false, false, false] rfl rfl (any_of HT_.out (by kernel_rfl)) (fun _ _ _ h => h) (Or.inl ⟨by rfl, ?_⟩) ?_ ?_
           rotate_left
           ·intro w'
            go_simp
            with_reducible rfl
           rotate_left
           ·simp only [Act.put, List.setIfInBounds_toArray, List.set_cons_zero, List.set_cons_succ, i64_w, i32_w]
            rfl
           refine pure_ (i := 2) (N := some 56) (v := ?_) (a' := ?_) #[true, false, true, false, false, false, false, false, false, false, false, false, false, false, false] rfl rfl (any_of HT_.out (by kernel_rfl)) (fun _ _ _ h => h) (Or.inl ⟨by rfl, ?_⟩) ?_ ?_
           rotate_left
           ·intro w'
            go_simp
            with_reducible rfl
           rotate_left
           ·simp only [Act.put, List.setIfInBounds_toArray, List.set_cons_zero, List.set_cons_succ, i64_w, i32_w]
            rfl
           refine pure_ (i := 3) (N := some 57) (v := ?_) (a' := ?_) #[true, false, true, true, false, false, false, false, false, false, false, false, false, false, false] rfl rfl (any_of HT_.out (by kernel_rfl)) (fun _ _ _ h => h) (Or.inl ⟨by rfl, ?_⟩) ?_ ?_
           rotate_left
           ·intro w'
            go_simp
            with_reducible rfl
           rotate_left
           ·simp only [Act.put, List.setIfInBounds_toArray, List.set_cons_zero, List.set_cons_succ, i64_w, i32_w]
            rfl
           refine pure_ (i := 5) (N := some 59) (v := ?_) (a' := ?_) #[true, false, true, true, false, true, false, false, false, false, false, false, false, false, false] rfl rfl (any_of HT_.out (by kernel_rfl)) (fun _ _ _ h => h) (Or.inl ⟨by rfl, ?_⟩) ?_ ?_
           rotate_left
           ·intro w'
            go_simp
            with_reducible rfl
           rotate_left
           ·simp only [Act.put, List.setIfInBounds_toArray, List.set_cons_zero, List.set_cons_succ, i64_w, i32_w]
            rfl
           refine pure_ (i := 6) (N := some 60) (v := ?_) (a' := ?_) #[true, false, true, true, false, true, true, false, false, false, false, false, false, false, false] rfl rfl (any_of HT_.out (by kernel_rfl)) (fun _ _ _ h => h) (Or.inl ⟨by rfl, ?_⟩) ?_ ?_
           rotate_left
           ·intro w'
            go_simp
            with_reducible rfl
           rotate_left
           ·simp only [Act.put, List.setIfInBounds_toArray, List.set_cons_zero, List.set_cons_succ, i64_w, i32_w]
            rfl
           refine pure_ (i := 9) (N := some 63) (v := ?_) (a' := ?_) #[true, false, true, true, false, true, true, false, false, true, false, false, false, false, false] rfl rfl (any_of HT_.out (by kernel_rfl)) (fun _ _ _ h => h) (Or.inl ⟨by rfl, ?_⟩) ?_ ?_
           rotate_left
           ·intro w'
            go_simp
            with_reducible rfl
           rotate_left
           ·simp only [Act.put, List.setIfInBounds_toArray, List.set_cons_zero, List.set_cons_succ, i64_w, i32_w]
            rfl
           refine take_ (i := 1) (N := some 55) (v := ?_) (a' := ?_) #[true, true, true, true, false, true, true, false, false, true, false, false, false, false, false] rfl rfl (take_ofW HT_.out HW_.out (by kernel_rfl)) (fun _ _ _ h => h) (Or.inl ⟨by rfl, ?_⟩) hHeld ?_ ?_
           rotate_left
           ·rintro w' ⟨s0, s1, s2, s3, s4, s5, s6, s7, s8⟩
            go_simp
            with_reducible rfl
           rotate_left
           ·simp only [Act.put, List.setIfInBounds_toArray, List.set_cons_zero, List.set_cons_succ, i64_w, i32_w]
            rfl
           refine take_ (i := 4) (N := some 58) (v := ?_) (a' := ?_) #[true, true, true, true, true, true, true, false, false, true, false, false, false, false, false] rfl rfl (take_ofW HT_.out HW_.out (by kernel_rfl)) (fun _ _ _ h => h) (Or.inl ⟨by rfl, ?_⟩) hHeld ?_ ?_
           rotate_left
           ·rintro w' ⟨s0, s1, s2, s3, s4, s5, s6, s7, s8⟩
            go_simp
            with_reducible rfl
           rotate_left
           ·simp only [Act.put, List.setIfInBounds_toArray, List.set_cons_zero, List.set_cons_succ, i64_w, i32_w]
            rfl
           refine take_ (i := 7) (N := some 61) (v := ?_) (a' := ?_) #[true, true, true, true, true, true, true, true, false, true, false, false, false, false, false] rfl rfl (take_ofW HT_.out HW_.out (by kernel_rfl)) (fun _ _ _ h => h) (Or.inl ⟨by rfl, ?_⟩) hHeld ?_ ?_
           rotate_left
           ·rintro w' ⟨s0, s1, s2, s3, s4, s5, s6, s7, s8⟩
            go_simp
            with_reducible rfl
           rotate_left
           ·simp only [Act.put, List.setIfInBounds_toArray, List.set_cons_zero, List.set_cons_succ, i64_w, i32_w]
            rfl
           refine pure_ (i := 8) (N := some 62) (v := ?_) (a' := ?_) #[true, true, true, true, true, true, true, true, true, true, false, false, false, false, false] rfl rfl (any_of HT_.out (by kernel_rfl)) (fun _ _ _ h => h) (Or.inl ⟨by rfl, ?_⟩) ?_ ?_
           rotate_left
           ·intro w'
            go_simp
            with_reducible rfl
           rotate_left
           ·simp only [Act.put, List.setIfInBounds_toArray, List.set_cons_zero, List.set_cons_succ, i64_w, i32_w]
            rfl
           refine pure_ (i := 10) (N := some 64) (v := ?_) (a' := ?_) #[true, true, true, true, true, true, true, true, true, true, true, false, false, false, false] rfl rfl (any_of HT_.out (by kernel_rfl)) (fun _ _ _ h => h) (Or.inl ⟨by rfl, ?_⟩) ?_ ?_
           rotate_left
           ·intro w'
            go_simp
            with_reducible rfl
           rotate_left
           ·simp only [Act.put, List.setIfInBounds_toArray, List.set_cons_zero, List.set_cons_succ, i64_w, i32_w]
            rfl
           refine pure_ (i := 11) (N := some 65) (v := ?_) (a' := ?_) #[true, true, true, true, true, true, true, true, true, true, true, true, false, false, false] rfl rfl (any_of HT_.out (by kernel_rfl)) (fun _ _ _ h => h) (Or.inl ⟨by rfl, ?_⟩) ?_ ?_
           rotate_left
           ·intro w'
            go_simp
            with_reducible rfl
           rotate_left
           ·simp only [Act.put, List.setIfInBounds_toArray, List.set_cons_zero, List.set_cons_succ, i64_w, i32_w]
            rfl
           refine take_ (i := 12) (N := some 66) (v := ?_) (a' := ?_) #[true, true, true, true, true, true, true, true, true, true, true, true, true, false, false] rfl rfl (take_ofW HT_.out HW_.out (by kernel_rfl)) (fun _ _ _ h => h) (Or.inl ⟨by rfl, ?_⟩) hHeld ?_ ?_
           rotate_left
           ·rintro w' ⟨s0, s1, s2, s3, s4, s5, s6, s7, s8⟩
            go_simp
            with_reducible rfl
           rotate_left
           ·simp only [Act.put, List.setIfInBounds_toArray, List.set_cons_zero, List.set_cons_succ, i64_w, i32_w]
            rfl
           refine pure_ (i := 13) (N := some 67) (v := ?_) (a' := ?_) #[true, true, true, true, true, true, true, true, true, true, true, true, true, true, false] rfl rfl (any_of HT_.out (by kernel_rfl)) (fun _ _ _ h => h) (Or.inl ⟨by rfl, ?_⟩) ?_ ?_
           rotate_left
           ·intro w'
            go_simp
            with_reducible rfl
           rotate_left
           ·simp only [Act.put, List.setIfInBounds_toArray, List.set_cons_zero, List.set_cons_succ, i64_w, i32_w]
            rfl
           refine last_ (i := 14) (N := none) #[true, true, true, true, true, true, true, true, true, true, true, true, true, true, true] rfl rfl (one_of HT_.out (by kernel_rfl)) (by decide) (fun K hK => ?_)
           refine skip_ (w1 := ?_) (by rfl) rfl ?_ ?_
           rotate_left
           ·go_simp
            rfl
           refine hK.out _ _ ?_
           clear hK K
           refine done_ (done_of HT_.out (by kernel_rfl)) ?_
           try go_wp2
           go_roundg k1
           case measure => have := HK1.out; omega
           case rel => exact ⟨(y615), (wrap64 (x8_1 + 1)), (y619), (.slice (some ⟨go39, 0, none⟩) x610003_1.length co39), (by first | rfl | (simp; done) | (simp [*]; done)), H', ⟨by have := HK1.out; omega⟩, ⟨by (with_reducible repeat (first | apply Kd.R_alloc | apply Kd.R_drewN | apply Kd.R_drew)); exact Kd.R_mono (Kd.R_far (p := ⟨go39, (x8_1 : Int).toNat, none⟩) (Kd.R_mono HO617.out (fun k_ hk => (⟨hk, fun e_ => hk (by rw [e_]; rfl)⟩ : _ ∧ k_ ≠ go39))) (fun _ hk => hk.2) (.int .i64 (rd l0_3 (ji34)))) (fun _ hk => hk.1)⟩, ⟨by (with_reducible repeat (first | apply Kd.R_alloc | apply Kd.R_drewN | apply Kd.R_drew)); exact Kd.R_mono HQ47.out (fun _ hk => hk.2)⟩, ⟨by (with_reducible repeat (first | refine blk_drewN ?_ _ | refine blk_drew ?_ | refine blk_alloc ?_ _)); refine blk_far ?_ (by have h_ := Kd.R_ne HO_610003.out BK601.out (by decide); intro e_; exact h_ (by rw [e_]; rfl)) _; (with_reducible repeat (first | refine blk_drewN ?_ _ | refine blk_drew ?_ | refine blk_alloc ?_ _)); exact BK601.out⟩, ⟨by (with_reducible repeat (first | refine blk_drewN ?_ _ | refine blk_drew ?_ | refine blk_alloc ?_ _)); refine blk_far ?_ (by have h_ := Kd.R_ne HO_610003.out BK602.out (by decide); intro e_; exact h_ (by rw [e_]; rfl)) _; (with_reducible repeat (first | refine blk_drewN ?_ _ | refine blk_drew ?_ | refine blk_alloc ?_ _)); exact BK602.out⟩, ⟨by (with_reducible repeat (first | refine blk_drewN ?_ _ | refine blk_drew ?_ | refine blk_alloc ?_ _)); refine blk_far ?_ (by have h_ := Kd.R_ne HO_610003.out BK609.out (by decide); intro e_; exact h_ (by rw [e_]; rfl)) _; (with_reducible repeat (first | refine blk_drewN ?_ _ | refine blk_drew ?_ | refine blk_alloc ?_ _)); exact BK609.out⟩, ⟨by repeat (first | (with_reducible first | exact HB.out | apply below_alloc | apply pw_below_drewN | apply below_drew1 | refine below_set ?_ GB39.out | refine below_set ?_ GE601.out | refine below_set ?_ GE602.out | refine below_set ?_ GE609.out) | exact HB.out)⟩⟩
          ·rw [if_neg c38] at H
           exact absurd H (by simp)
         ·rw [if_neg c37] at H
          exact absurd H (by simp)
        ·rw [if_neg c36] at H
         exact absurd H (by simp)
       ·rw [if_neg c35] at H
        exact absurd H (by simp)
      ·rw [if_neg c33] at H
       exact absurd H (by simp)
   ·rw [if_neg c14] at H
    have c14b0 : decide (x8_1 < (l0_3.length : Int)) = false := decide_eq_false c14
    clear c14
    simp only [Option.some.injEq, Prod.mk.injEq] at H
    obtain ⟨rfl, rfl, rfl, rfl, rfl⟩ := H
    have hnb48 := NB601_602.out
    have hnc48 := NB602_601.out
    have hnb49 := NB601_609.out
    have hnc49 := NB609_601.out
    have hcz50_0 : wr.cell? ⟨gb601, 0, none⟩ = some (.int .i64 a0_0) := (blk_cell BK601.out 0).trans rfl
    have hcz50_1 : wr.cell? ⟨gb601, 1, none⟩ = some (.int .i64 a0_1) := (blk_cell BK601.out 1).trans rfl
    have hcz50_2 : wr.cell? ⟨gb601, 2, none⟩ = some (.bool a0_2) := (blk_cell BK601.out 2).trans rfl
    have hcz50_3 : wr.cell? ⟨gb601, 3, none⟩ = some (.slice A0_3 l0_3.length c0_3) := (blk_cell BK601.out 3).trans rfl
    have hfz50_0 := blk_frozen BK601.out 0
    have hfz50_1 := blk_frozen BK601.out 1
    have hfz50_2 := blk_frozen BK601.out 2
    have hfz50_3 := blk_frozen BK601.out 3
    have hnb51 := NB609_602.out
    have hnc51 := NB602_609.out
    have hcz52_0 : wr.cell? ⟨gb609, 0, none⟩ = some (.int .i64 t603) := (blk_cell BK609.out 0).trans rfl
    have hcz52_1 : wr.cell? ⟨gb609, 1, none⟩ = some (.int .i64 t604) := (blk_cell BK609.out 1).trans rfl
    have hcz52_2 : wr.cell? ⟨gb609, 2, none⟩ = some (.bool t605) := (blk_cell BK609.out 2).trans rfl
    have hcz52_3 : wr.cell? ⟨gb609, 3, none⟩ = some (u610003) := (blk_cell BK609.out 3).trans rfl
    have hfz52_0 := blk_frozen BK609.out 0
    have hfz52_1 := blk_frozen BK609.out 1
    have hfz52_2 := blk_frozen BK609.out 2
    have hfz52_3 := blk_frozen BK609.out 3
    have hcz53_0 : wr.cell? ⟨gb602, 0, none⟩ = some (.int .i64 0) := (blk_cell BK602.out 0).trans rfl
    have hcz53_1 : wr.cell? ⟨gb602, 1, none⟩ = some (.int .i64 0) := (blk_cell BK602.out 1).trans rfl
    have hcz53_2 : wr.cell? ⟨gb602, 2, none⟩ = some (.bool false) := (blk_cell BK602.out 2).trans rfl
    have hcz53_3 : wr.cell? ⟨gb602, 3, none⟩ = some (.slice none 0 0) := (blk_cell BK602.out 3).trans rfl
    have hfz53_0 := blk_frozen BK602.out 0
    have hfz53_1 := blk_frozen BK602.out 1
    have hfz53_2 := blk_frozen BK602.out 2
    have hfz53_3 := blk_frozen BK602.out 3
    obtain ⟨Ao54, co54, eo54⟩ := Kd.R_slice HO_610003.out
    subst eo54
    go_wp2
    refine bodyPost_ret (results_ct rfl _ _ gb602 24 #[.int .i64 t603, .int .i64 t604, .bool t605, .slice Ao54 x610003_1.length co54] (0, 0) _ rfl (by (with_reducible repeat (first | refine blk_drewN ?_ _ | refine blk_drew ?_ | refine blk_alloc ?_ _)); refine blk_put (cs := #[.int .i64 t603, .int .i64 t604, .bool t605, .slice none 0 0]) ?_ 3 _ rfl; (with_reducible repeat (first | refine blk_drewN ?_ _ | refine blk_drew ?_ | refine blk_alloc ?_ _)); refine blk_put (cs := #[.int .i64 t603, .int .i64 t604, .bool false, .slice none 0 0]) ?_ 2 _ rfl; (with_reducible repeat (first | refine blk_drewN ?_ _ | refine blk_drew ?_ | refine blk_alloc ?_ _)); refine blk_put (cs := #[.int .i64 t603, .int .i64 0, .bool false, .slice none 0 0]) ?_ 1 _ rfl; (with_reducible repeat (first | refine blk_drewN ?_ _ | refine blk_drew ?_ | refine blk_alloc ?_ _)); refine blk_put (cs := #[.int .i64 0, .int .i64 0, .bool false, .slice none 0 0]) ?_ 0 _ rfl; (with_reducible repeat (first | refine blk_drewN ?_ _ | refine blk_drew ?_ | refine blk_alloc ?_ _)); exact BK602.out) Try.underlying24 rfl (by kernel_rfl)) rfl ?_
    exact ⟨_, _, by first | rfl | (simp [errW_none, errW_some] <;> rfl) | (simp [*, errW_none, errW_some] <;> rfl), by (with_reducible repeat (first | apply Kd.R_alloc | apply Kd.R_drewN | apply Kd.R_drew)); exact Kd.R_mono (Kd.R_far (p := ⟨gb602, 3, none⟩) (Kd.R_far (p := ⟨gb602, 2, none⟩) (Kd.R_far (p := ⟨gb602, 1, none⟩) (Kd.R_far (p := ⟨gb602, 0, none⟩) (Kd.R_types HO_610003.out BK602.out (by decide)) (fun _ hk => hk.2) (.int .i64 t603)) (fun _ hk => hk.2) (.int .i64 t604)) (fun _ hk => hk.2) (.bool t605)) (fun _ hk => hk.2) (.slice Ao54 x610003_1.length co54)) (fun _ hk => hk.1), by (with_reducible repeat (first | apply Kd.R_alloc | apply Kd.R_drewN | apply Kd.R_drew)); exact Kd.R_mono (Kd.R_far (p := ⟨gb602, 3, none⟩) (Kd.R_far (p := ⟨gb602, 2, none⟩) (Kd.R_far (p := ⟨gb602, 1, none⟩) (Kd.R_far (p := ⟨gb602, 0, none⟩) (Kd.R_types HO_7.out BK602.out (by decide)) (fun _ hk => hk.2) (.int .i64 t603)) (fun _ hk => hk.2) (.int .i64 t604)) (fun _ hk => hk.2) (.bool t605)) (fun _ hk => hk.2) (.slice Ao54 x610003_1.length co54)) (fun _ hk => hk.1), by repeat (first | (with_reducible first | exact HB.out | apply below_alloc | apply pw_below_drewN | apply below_drew1 | refine below_set ?_ GE601.out | refine below_set ?_ GE602.out | refine below_set ?_ GE609.out) | exact HB.out)⟩
end Go.Proofs.Ytndkkjpgnmahbaa.Print
end

section
namespace Go.Proofs.Field
theorem sumTo_swap (f : Nat → Int) (σ : Nat → Nat) (n : Nat) (h1 : ∀ i, i < n → σ i < n) (h2 : ∀ i, i < n → σ (σ i) = i) : sumTo (fun j => f (σ j)) n = sumTo f n := by
  have e1 : sumTo (fun j => f (σ j)) n = sumTo (fun j => sumTo (fun k => if k = σ j then f k else 0) n) n := sumTo_congr (fun j hj => by
    rw [sumTo_congr (g := fun k => if k = σ j then f (σ j) else 0) (fun k _ => by
      by_cases q : k = σ j
      · rw [if_pos q, if_pos q, q]
      · rw [if_neg q, if_neg q]), sumTo_one _ _ (h1 j hj)])
  rw [e1, sumTo_comm]
  refine sumTo_congr (fun k hk => ?_)
  rw [sumTo_congr (g := fun j => if j = σ k then f k else 0) (fun j hj => by
    by_cases q : k = σ j
    · rw [if_pos q, if_pos (by rw [q, h2 j hj])]
    · rw [if_neg q, if_neg (fun e => q (by rw [e, h2 k hk]))]), sumTo_one _ _ (h1 k hk)]
theorem at_col {W y x : Nat} (hx : x < W) : (W * y + x) % W = x := by rw [Nat.mul_add_mod, Nat.mod_eq_of_lt hx]
theorem at_line {W y x : Nat} (hx : x < W) : (W * y + x) / W = y := by
  rw [Nat.mul_add_div (by omega), Nat.div_eq_of_lt hx]; rfl
theorem at_lt {W H y x : Nat} (hx : x < W) (hy : y < H) : W * y + x < W * H := by
  have : W * (y + 1) ≤ W * H := Nat.mul_le_mul_left W hy
  rw [Nat.mul_add, Nat.mul_one] at this
  omega
theorem at_inj {W y x y' x' : Nat} (hx : x < W) (hx' : x' < W) (h : W * y + x = W * y' + x') : y = y' ∧ x = x' := by
  have h1 := at_col (y := y) hx
  have h2 := at_line (y := y) hx
  rw [h, at_col hx'] at h1
  rw [h, at_line hx'] at h2
  exact ⟨h2.symm, h1.symm⟩
theorem netM_at {W H : Nat} {R : Bool} {y x y' x' : Nat} (hx : x < W) (hx' : x' < W) (hy : y < H) (hy' : y' < H) :
    netM W H R (W * y + x) (W * y' + x') = if y' = y ∧ x' = x + 1 then wgt R x false else if y' = y ∧ x = x' + 1 then wgt R x' false else if x' = x ∧ y' = y + 1 then wgt R x true else if x' = x ∧ y = y' + 1 then wgt R x' true else 0 := by
  unfold netM
  rw [if_pos ⟨at_lt hx hy, at_lt hx' hy'⟩, at_col hx, at_col hx']
  have c1 : (W * y' + x' = W * y + x + 1 ∧ 0 < x') ↔ (y' = y ∧ x' = x + 1) := by
    constructor
    · rintro ⟨h, h0⟩
      have := at_inj (W := W) (y := y') (x := x' - 1) (y' := y) (x' := x) (by omega) hx (by omega)
      omega
    · rintro ⟨rfl, h⟩; omega
  have c2 : (W * y + x = W * y' + x' + 1 ∧ 0 < x) ↔ (y' = y ∧ x = x' + 1) := by
    constructor
    · rintro ⟨h, h0⟩
      have := at_inj (W := W) (y := y) (x := x - 1) (y' := y') (x' := x') (by omega) hx' (by omega)
      omega
    · rintro ⟨rfl, h⟩; omega
  have m : ∀ z, W * (z + 1) = W * z + W := fun z => by rw [Nat.mul_add, Nat.mul_one]
  have c3 : (W * y' + x' = W * y + x + W) ↔ (x' = x ∧ y' = y + 1) := by
    constructor
    · intro h
      have := at_inj (W := W) (y := y') (x := x') (y' := y + 1) (x' := x) hx' hx (by rw [m]; omega)
      omega
    · rintro ⟨rfl, rfl⟩; rw [m]; omega
  have c4 : (W * y + x = W * y' + x' + W) ↔ (x' = x ∧ y = y' + 1) := by
    constructor
    · intro h
      have := at_inj (W := W) (y := y) (x := x) (y' := y' + 1) (x' := x') hx hx' (by rw [m]; omega)
      omega
    · rintro ⟨rfl, rfl⟩; rw [m]; omega
  simp only [c1, c2, c3, c4]
def mirr (W H : Nat) (rows : Bool) (i : Nat) : Nat := if rows = true then W * (H - 1 - i / W) + i % W else W * (i / W) + (W - 1 - i % W)
section
variable {W H : Nat} {rows : Bool}
theorem mirr_at {y x : Nat} (hx : x < W) : mirr W H rows (W * y + x) = if rows = true then W * (H - 1 - y) + x else W * y + (W - 1 - x) := by
  unfold mirr
  rw [at_col hx, at_line hx]
theorem cell_yx {i : Nat} (hi : i < W * H) : ∃ y x, i = W * y + x ∧ x < W ∧ y < H := by
  obtain ⟨_, he, hx, hy⟩ := cell_at hi
  exact ⟨_, _, he, hx, hy⟩
theorem mirr_lt {i : Nat} (hi : i < W * H) : mirr W H rows i < W * H := by
  obtain ⟨y, x, rfl, hx, hy⟩ := cell_yx hi
  rw [mirr_at hx]
  split
  · exact at_lt hx (by omega)
  · exact at_lt (by omega) hy
theorem mirr_mirr {i : Nat} (hi : i < W * H) : mirr W H rows (mirr W H rows i) = i := by
  obtain ⟨y, x, rfl, hx, hy⟩ := cell_yx hi
  rw [mirr_at hx]
  cases rows
  · rw [if_neg (by simp), mirr_at (by omega), if_neg (by simp), show W - 1 - (W - 1 - x) = x by omega]
  · rw [if_pos rfl, mirr_at hx, if_pos rfl, show H - 1 - (H - 1 - y) = y by omega]
theorem netM_mirr {R : Bool} (hR : rows = true ∨ R = false) {i j : Nat} (hi : i < W * H) (hj : j < W * H) : netM W H R (mirr W H rows i) (mirr W H rows j) = netM W H R i j := by
  obtain ⟨y, x, rfl, hx, hy⟩ := cell_yx hi
  obtain ⟨y', x', rfl, hx', hy'⟩ := cell_yx hj
  rw [mirr_at hx, mirr_at hx', netM_at hx hx' hy hy']
  clear hi hj
  cases rows
  · obtain rfl : R = false := by simpa using hR
    have w1 : ∀ z b, wgt false z b = 1 := fun z b => rfl
    rw [if_neg (by simp), if_neg (by simp), netM_at (by omega) (by omega) hy hy']
    simp only [w1]
    by_cases a : y' = y
    · subst a
      by_cases b : x' = x + 1
      · rw [if_neg (by omega), if_pos (by omega), if_pos (by omega)]
      · by_cases c : x = x' + 1
        · rw [if_pos (by omega), if_neg (by omega), if_pos (by omega)]
        · rw [if_neg (by omega), if_neg (by omega), if_neg (by omega), if_neg (by omega), if_neg (by omega), if_neg (by omega), if_neg (by omega), if_neg (by omega)]
    · rw [if_neg (by omega), if_neg (by omega), if_neg (show ¬ (y' = y ∧ x' = x + 1) by omega), if_neg (show ¬ (y' = y ∧ x = x' + 1) by omega)]
      by_cases b : x' = x
      · subst b
        by_cases c : y' = y + 1
        · rw [if_pos (by omega), if_pos (by omega)]
        · rw [if_neg (by omega), if_neg (show ¬ (x' = x' ∧ y' = y + 1) by omega)]
          by_cases d : y = y' + 1
          · rw [if_pos (by omega), if_pos (by omega)]
          · rw [if_neg (by omega), if_neg (by omega)]
      · rw [if_neg (by omega), if_neg (by omega), if_neg (by omega), if_neg (by omega)]
  · rw [if_pos rfl, if_pos rfl, netM_at hx hx' (by omega) (by omega)]
    by_cases a : y' = y
    · subst a
      by_cases b : x' = x + 1
      · rw [if_pos (by omega), if_pos (by omega)]
      · rw [if_neg (by omega), if_neg (show ¬ (y' = y' ∧ x' = x + 1) by omega)]
        by_cases c : x = x' + 1
        · rw [if_pos (by omega), if_pos (by omega)]
        · rw [if_neg (by omega), if_neg (by omega), if_neg (by omega), if_neg (by omega), if_neg (by omega), if_neg (by omega)]
    · rw [if_neg (by omega), if_neg (by omega), if_neg (show ¬ (y' = y ∧ x' = x + 1) by omega), if_neg (show ¬ (y' = y ∧ x = x' + 1) by omega)]
      by_cases b : x' = x
      · subst b
        by_cases c : y' = y + 1
        · rw [if_neg (by omega), if_pos (by omega), if_pos (by omega)]
        · rw [if_neg (show ¬ (x' = x' ∧ y' = y + 1) by omega)]
          by_cases d : y = y' + 1
          · rw [if_pos (by omega), if_pos (by omega)]
          · rw [if_neg (by omega), if_neg (by omega), if_neg (by omega)]
      · rw [if_neg (by omega), if_neg (by omega), if_neg (by omega), if_neg (by omega)]
variable {R : Bool} {C C' v : List Int}
theorem S_mirr (hR : rows = true ∨ R = false) (b : Nat → Int) {i : Nat} (hi : i < W * H) : (net W H R C').S (fun k => b (mirr W H rows k)) i = (net W H R C).S b (mirr W H rows i) := by
  show sumTo (fun j => netM W H R i j * b (mirr W H rows j)) (W * H) = sumTo (fun j => netM W H R (mirr W H rows i) j * b j) (W * H)
  rw [← sumTo_swap (fun j => netM W H R (mirr W H rows i) j * b j) (mirr W H rows) (W * H) (fun k hk => mirr_lt hk) (fun k hk => mirr_mirr hk)]
  exact sumTo_congr (fun j hj => by rw [netM_mirr hR hi hj])
theorem T_mirr (hR : rows = true ∨ R = false) {i : Nat} (hi : i < W * H) : (net W H R C').T i = (net W H R C).T (mirr W H rows i) := by
  have h := S_mirr (C := C) (C' := C') hR (fun _ => 1) hi
  rw [Net.S_const, Net.S_const] at h
  omega
theorem reach_mirr (hR : rows = true ∨ R = false) (hc : ∀ i, i < W * H → fn C' i = fn C (mirr W H rows i)) {i : Nat} (h : (net W H R C).Reach i) : (net W H R C').Reach (mirr W H rows i) := by
  induction h with
  | @el i hi he =>
    have hi' : i < W * H := hi
    refine .el (mirr_lt hi') ?_
    show decide (0 < fn C' (mirr W H rows i)) = true
    rw [hc _ (mirr_lt hi'), mirr_mirr hi']
    exact he
  | @step i j hi hm hj ih =>
    have hi' : i < W * H := hi
    have hj' : j < W * H := hj.lt
    refine .step (mirr_lt hi') ?_ ih
    show 0 < netM W H R (mirr W H rows i) (mirr W H rows j)
    rw [netM_mirr hR hi' hj']
    exact hm
theorem fine_mirr (hR : rows = true ∨ R = false) (hc : ∀ i, i < W * H → fn C' i = fn C (mirr W H rows i)) (hF : (net W H R C).Fine) : (net W H R C').Fine :=
  ⟨hF.nonneg, hF.symm, fun i hi => by
    have hi' : i < W * H := hi
    have := reach_mirr hR hc (hF.reach (mirr W H rows i) (mirr_lt hi'))
    rw [mirr_mirr hi'] at this
    exact this⟩
theorem mirr_meet (hR : rows = true ∨ R = false) (hV : Volted W H R C v) (hlen : C'.length = C.length) (hc : ∀ i, i < W * H → fn C' i = fn C (mirr W H rows i)) {N : Nat} {lo hi lo' hi' : List Int}
    (p : Pair W H R C (volt C v) N lo hi) (q : Pair W H R C' (volt C' v) N lo' hi') {i : Nat} (hiC : i < C.length) : fn lo (mirr W H rows i) ≤ fn hi' i ∧ fn lo' i ≤ fn hi (mirr W H rows i) := by
  have hF' := fine_mirr hR hc hV.fine
  have hi' : i < W * H := by rw [← hV.len]; exact hiC
  have hel : ∀ j, j < W * H → 0 < fn C' j → j < C'.length ∧ mirr W H rows j < C.length ∧ 0 < fn C (mirr W H rows j) ∧ volt C' v j = volt C v (mirr W H rows j) := fun j hj hp => by
    have := mirr_lt (rows := rows) hj
    refine ⟨by rw [hlen, hV.len]; exact hj, by rw [hV.len]; exact this, by rw [← hc j hj]; exact hp, ?_⟩
    unfold volt
    rw [hc j hj]
  have hsub : ∀ b, (net W H R C).Sub b → (net W H R C').Sub (fun k => b (mirr W H rows k)) := fun b hb j hj he => by
    have hj' : j < W * H := hj
    rw [S_mirr (C := C) hR b hj', T_mirr (C := C) hR hj']
    refine hb _ (mirr_lt hj') ?_
    rw [net_el] at he ⊢
    rw [← hc j hj']
    exact he
  have hsup : ∀ b, (net W H R C).Sup b → (net W H R C').Sup (fun k => b (mirr W H rows k)) := fun b hb j hj he => by
    have hj' : j < W * H := hj
    rw [S_mirr (C := C) hR b hj', T_mirr (C := C) hR hj']
    refine hb _ (mirr_lt hj') ?_
    rw [net_el] at he ⊢
    rw [← hc j hj']
    exact he
  constructor
  · refine Net.compare hF' (hsub _ p.low.2) q.high.2 (fun j hj he => ?_) i hi'
    obtain ⟨h1, h2, h3, h4⟩ := hel j hj (by simpa [net] using he)
    show fn lo (mirr W H rows j) ≤ _
    rw [p.low.1.el _ h2 h3, q.high.1.el j h1 (by simpa [net] using he), h4]
    exact Int.le_refl _
  · refine Net.compare hF' q.low.2 (hsup _ p.high.2) (fun j hj he => ?_) i hi'
    obtain ⟨h1, h2, h3, h4⟩ := hel j hj (by simpa [net] using he)
    show _ ≤ fn hi (mirr W H rows j)
    rw [p.high.1.el _ h2 h3, q.low.1.el j h1 (by simpa [net] using he), h4]
    exact Int.le_refl _
end
end Go.Proofs.Field
end

section
namespace Go.Proofs.Ytndkkjpgnmahbaa.Print
open Go.RowKit Go.Proofs.YtndkkjpgnmahbaaW.PrintWords Go.Proofs.YtndkkjpgnmahbaaW.PrintLast Go.Proofs.YtndkkjpgnmahbaaW.PrintMore
attribute [local go_sem] max2_int min2_int max_two min_two max_three min_three max_four min_four
set_option linter.unusedVariables false
set_option linter.unusedSimpArgs false
mutual
def field_apart.j0 : Nat → List Int → Bool → Int → Int → Bool → List Int → Option (Int)
 | 0, _, _, _, _, _, _ => none
 | k + 1, x2, x22, x856000, x856001, x856002, x856003 => if x22 = true then (some 2) else (field_apart.l0 k x2 x2 (x2.length : Int) 0 x856000 x856001 x856002 x856003)
def field_apart.l0 : Nat → List Int → List Int → Int → Int → Int → Int → Bool → List Int → Option (Int)
 | 0, _, _, _, _, _, _, _, _ => none
 | k + 1, x2, x23, x24, x25, x856000, x856001, x856002, x856003 => if x25 < x24 then (if 0 ≤ x25 then (if x25 < (x23.length : Int) then ((field_has.f k x856000 x856001 x856002 x856003 (rd x23 x25)).bind fun t858 => (if t858 = true then (field_apart.l0 k x2 x23 x24 (wrap64 (x25 + 1)) x856000 x856001 x856002 x856003) else (some 7))) else (none)) else (none)) else (field_apart.l1 k x2 x2 (x2.length : Int) 0)
def field_apart.l1 : Nat → List Int → List Int → Int → Int → Option (Int)
 | 0, _, _, _, _ => none
 | k + 1, x2, x34, x35, x36 => if x36 < x35 then (if 0 ≤ x36 then (if x36 < (x34.length : Int) then (if x36 ≤ (x2.length : Int) then ((slices_Contains_int_int.f k (x2.take (x36 : Int).toNat) (rd x34 x36)).bind fun t861 => (if t861 = true then (some 9) else (field_apart.l1 k x2 x34 x35 (wrap64 (x36 + 1))))) else (none)) else (none)) else (none)) else (some 0)
end
end Go.Proofs.Ytndkkjpgnmahbaa.Print
end

section
namespace Go.Proofs.Ytndkkjpgnmahbaa.Print
open Go.RowKit Go.Proofs.YtndkkjpgnmahbaaW.PrintWords Go.Proofs.YtndkkjpgnmahbaaW.PrintLast Go.Proofs.YtndkkjpgnmahbaaW.PrintMore
attribute [local go_sem] max2_int min2_int max_two min_two max_three min_three max_four min_four
set_option linter.unusedVariables false
set_option linter.unusedSimpArgs false
end Go.Proofs.Ytndkkjpgnmahbaa.Print
end

section
namespace Go.Proofs.Field
section
variable {W H : Nat} {R : Bool} {C v : List Int}
end
end Go.Proofs.Field
end

section
namespace Go.Proofs.Ytndkkjpgnmahbaa.Print
open Go.RowKit Go.Proofs.YtndkkjpgnmahbaaW.PrintWords Go.Proofs.YtndkkjpgnmahbaaW.PrintLast Go.Proofs.YtndkkjpgnmahbaaW.PrintMore Go.Proofs.Field
set_option linter.unusedVariables false
end Go.Proofs.Ytndkkjpgnmahbaa.Print
end

section
namespace Go.Proofs.Ytndkkjpgnmahbaa.Print
open Go.RowKit Go.Proofs.YtndkkjpgnmahbaaW.PrintWords Go.Proofs.YtndkkjpgnmahbaaW.PrintLast Go.Proofs.YtndkkjpgnmahbaaW.PrintMore Go.Proofs.Field
set_option linter.unusedVariables false
theorem list_ext {a b : List Int} (hl : a.length = b.length) (h : ∀ j, j < a.length → fn a j = fn b j) : a = b := by
  apply List.ext_getElem hl
  intro i h1 h2
  have := h i h1
  unfold fn at this
  rw [List.getD_eq_getElem?_getD, List.getD_eq_getElem?_getD, List.getElem?_eq_getElem h1, List.getElem?_eq_getElem h2] at this
  exact this
def listOf (n : Nat) (f : Nat → Int) : List Int := (List.range n).map f
theorem listOf_length (n : Nat) (f : Nat → Int) : (listOf n f).length = n := by simp [listOf]
theorem fn_listOf {n : Nat} (f : Nat → Int) {j : Nat} (hj : j < n) : fn (listOf n f) j = f j := by
  unfold fn listOf
  rw [List.getD_eq_getElem?_getD, List.getElem?_map, List.getElem?_range hj]
  rfl
theorem listOf_snoc (n : Nat) (f : Nat → Int) : listOf n f ++ [f n] = listOf (n + 1) f := by
  unfold listOf
  rw [List.range_succ, List.map_append]
  rfl
theorem listOf_set {n i : Nat} (f g : Nat → Int) (hi : i < n) : (listOf n (fun j => if j < i then f j else g j)).set i (f i) = listOf n (fun j => if j < i + 1 then f j else g j) := by
  apply list_ext
  · rw [List.length_set, listOf_length, listOf_length]
  · intro j hj
    rw [List.length_set, listOf_length] at hj
    rw [fn_set (by rw [listOf_length]; exact hi), fn_listOf _ hj, fn_listOf _ hj]
    by_cases q : j = i
    · subst q; rw [if_pos rfl, if_pos (by omega)]
    · rw [if_neg q]
      by_cases r : j < i
      · rw [if_pos r, if_pos (by omega)]
      · rw [if_neg r, if_neg (by omega)]
theorem mirr_up {W H i : Nat} (hi : i < W * H) (hW : W ≤ 16) (hH : H ≤ 16) :
    wrap64 ((wrap64 ((wrap64 ((wrap64 ((H : Int) - 1)) - (wrap64 (Int.tdiv (i : Int) (W : Int))))) * (W : Int))) + (Int.tmod (i : Int) (W : Int))) = ((mirr W H true i : Nat) : Int) := by
  have h256 : W * H ≤ 256 := by have := Nat.mul_le_mul hW hH; omega
  have hlt := mirr_lt (rows := true) hi
  obtain ⟨hW0, he, hx, hy⟩ := cell_at hi
  unfold mirr at hlt ⊢
  rw [if_pos rfl] at hlt ⊢
  have e1 : Int.tdiv (i : Int) (W : Int) = ((i / W : Nat) : Int) := by rw [Int.tdiv_eq_ediv_of_nonneg (by omega)]; exact (Int.natCast_ediv i W).symm
  have e2 : Int.tmod (i : Int) (W : Int) = ((i % W : Nat) : Int) := by rw [Int.tmod_eq_emod_of_nonneg (by omega)]; exact (Int.natCast_emod i W).symm
  rw [e1, e2]
  generalize i / W = y at *
  generalize i % W = x at *
  have e3 : ((H : Int) - 1 - (y : Int)) * (W : Int) = ((W * (H - 1 - y) : Nat) : Int) := by
    rw [show (H : Int) - 1 - (y : Int) = ((H - 1 - y : Nat) : Int) by omega, ← Int.natCast_mul, Nat.mul_comm]
  rw [IntWalk.wrap64_in (y : Int) (by omega), IntWalk.wrap64_in ((H : Int) - 1) (by omega), IntWalk.wrap64_in ((H : Int) - 1 - (y : Int)) (by omega), e3]
  generalize W * (H - 1 - y) = z at *
  rw [IntWalk.wrap64_in (z : Int) (by omega), IntWalk.wrap64_in _ (by omega)]
  omega
theorem mirr_left {W H i : Nat} (hi : i < W * H) (hW : W ≤ 16) (hH : H ≤ 16) :
    wrap64 ((wrap64 ((wrap64 (Int.tdiv (i : Int) (W : Int))) * (W : Int))) + (wrap64 ((wrap64 ((W : Int) - 1)) - (Int.tmod (i : Int) (W : Int))))) = ((mirr W H false i : Nat) : Int) := by
  have h256 : W * H ≤ 256 := by have := Nat.mul_le_mul hW hH; omega
  have hlt := mirr_lt (rows := false) hi
  obtain ⟨hW0, he, hx, hy⟩ := cell_at hi
  unfold mirr at hlt ⊢
  rw [if_neg (by simp)] at hlt ⊢
  have e1 : Int.tdiv (i : Int) (W : Int) = ((i / W : Nat) : Int) := by rw [Int.tdiv_eq_ediv_of_nonneg (by omega)]; exact (Int.natCast_ediv i W).symm
  have e2 : Int.tmod (i : Int) (W : Int) = ((i % W : Nat) : Int) := by rw [Int.tmod_eq_emod_of_nonneg (by omega)]; exact (Int.natCast_emod i W).symm
  rw [e1, e2]
  generalize i / W = y at *
  generalize i % W = x at *
  have e3 : (y : Int) * (W : Int) = ((W * y : Nat) : Int) := by rw [← Int.natCast_mul, Nat.mul_comm]
  rw [IntWalk.wrap64_in (y : Int) (by omega), e3]
  generalize W * y = z at *
  rw [IntWalk.wrap64_in (z : Int) (by omega), IntWalk.wrap64_in ((W : Int) - 1) (by omega), IntWalk.wrap64_in ((W : Int) - 1 - (x : Int)) (by omega), IntWalk.wrap64_in _ (by omega)]
  omega
theorem mirrored_go {W H : Nat} {R : Bool} {C : List Int} (b : Bool) (hl : C.length = W * H) (hW : W ≤ 16) (hH : H ≤ 16) (hW0 : 1 ≤ W) : ∀ (d i k : Nat), i + d = W * H → d + 1 ≤ k →
    thermionlaw01_mirrored.l0 k b (listOf i (fun j => ((mirr W H b j : Nat) : Int))) (i : Int) (W : Int) (H : Int) R C (W : Int) (H : Int) R (listOf (W * H) (fun j => if j < i then fn C (mirr W H b j) else fn C j)) =
      some ((W : Int), (H : Int), R, listOf (W * H) (fun j => fn C (mirr W H b j)), listOf (W * H) (fun j => ((mirr W H b j : Nat) : Int)))
  | 0, i, k, h, hk => by
    obtain ⟨k, rfl⟩ : ∃ k', k = k' + 1 := ⟨k - 1, by omega⟩
    obtain rfl : i = W * H := by omega
    rw [thermionlaw01_mirrored.l0, if_neg (by omega)]
    have : listOf (W * H) (fun j => if j < W * H then fn C (mirr W H b j) else fn C j) = listOf (W * H) (fun j => fn C (mirr W H b j)) := by
      apply list_ext
      · rw [listOf_length, listOf_length]
      · intro j hj
        rw [listOf_length] at hj
        rw [fn_listOf _ hj, fn_listOf _ hj, if_pos hj]
    rw [this]
  | d + 1, i, k, h, hk => by
    obtain ⟨k, rfl⟩ : ∃ k', k = k' + 1 := ⟨k - 1, by omega⟩
    have hi : i < W * H := by omega
    have h256 : W * H ≤ 256 := by have := Nat.mul_le_mul hW hH; omega
    have hlt := mirr_lt (rows := b) hi
    have ih := mirrored_go (R := R) b hl hW hH hW0 d (i + 1) k (by omega) (by omega)
    have hw : wrap64 ((i : Int) + 1) = ((i + 1 : Nat) : Int) := by rw [IntWalk.wrap64_in _ (by omega)]; omega
    rw [← listOf_snoc i (fun j => ((mirr W H b j : Nat) : Int)), ← listOf_set (fun j => fn C (mirr W H b j)) (fn C) hi, ← hw] at ih
    rw [thermionlaw01_mirrored.l0, if_pos (by omega), if_neg (by omega)]
    cases b with
    | true =>
      rw [if_pos rfl, mirr_up hi hW hH, if_pos (by rw [listOf_length]; omega), if_pos (by omega), if_pos (by omega), if_pos (by omega), if_pos (by rw [listOf_length]; omega), rd_fn C _ (by omega), Int.toNat_natCast]
      exact ih
    | false =>
      rw [if_neg (by simp), mirr_left hi hW hH, if_pos (by rw [listOf_length]; omega), if_pos (by omega), if_pos (by omega), if_pos (by omega), if_pos (by rw [listOf_length]; omega), rd_fn C _ (by omega), Int.toNat_natCast]
      exact ih
theorem copy_same (W H : Int) (R : Bool) (C : List Int) (h : C.length ≤ 1000000) : thermionref01_Copy.f W H R C = some (W, H, R, C) := by
  unfold thermionref01_Copy.f
  rw [obind rfl, if_pos (by rw [List.length_nil]; omega)]
  rfl
theorem mirrored_eq {W H : Nat} {R : Bool} {C : List Int} (b : Bool) (hl : C.length = W * H) (hW : W ≤ 16) (hH : H ≤ 16) (hW0 : 1 ≤ W) :
    thermionlaw01_mirrored.f (W * H + 1) (W : Int) (H : Int) R C b = some ((W : Int), (H : Int), R, listOf (W * H) (fun j => fn C (mirr W H b j)), listOf (W * H) (fun j => ((mirr W H b j : Nat) : Int))) := by
  have h256 : W * H ≤ 256 := by have := Nat.mul_le_mul hW hH; omega
  have h := mirrored_go (R := R) b hl hW hH hW0 (W * H) 0 (W * H + 1) (by omega) (by omega)
  have e : listOf (W * H) (fun j => if j < 0 then fn C (mirr W H b j) else fn C j) = C := by
    apply list_ext
    · rw [listOf_length, hl]
    · intro j hj
      rw [listOf_length] at hj
      rw [fn_listOf _ hj, if_neg (by omega)]
  rw [e] at h
  unfold thermionlaw01_mirrored.f
  rw [obind (copy_same _ _ _ _ (by omega))]
  exact h
theorem mirrors_facts {s a1 a2 : Int} {W H : Nat} {R : Bool} {C v : List Int} {s1 s2 : Int} (D : Dealt s a1 a2 W H R C v s1 s2) (n : Nat) (hn : n ≤ 200) (b : Bool) (hb : b = true ∨ R = false) :
    ∃ (C' F lo hi lo' hi' : List Int) (K K' : Nat) (st st' : Bool) (μ : Nat → Nat), thermionlaw01_mirrored.f (W * H + 1) (W : Int) (H : Int) R C b = some ((W : Int), (H : Int), R, C', F) ∧ C'.length = C.length ∧ F.length = C.length ∧ (∀ i, i < C.length → fn F i = ((μ i : Nat) : Int) ∧ μ i < C.length) ∧
      field_Solve.f W H R C v n = some (lo, hi, (K : Int), st, 0) ∧ field_Solve.f W H R C' v n = some (lo', hi', (K' : Int), st', 0) ∧ (lo.length = C.length ∧ hi.length = C.length ∧ lo'.length = C.length ∧ hi'.length = C.length) ∧
      (∀ i, i < C.length → fn lo (μ i) ≤ fn hi' i ∧ fn lo' i ≤ fn hi (μ i)) := by
  have hV := D.volted
  have hl := hV.len
  have hl2 : C.length = W * H := hl
  have hsm := D.small
  obtain ⟨C', hC'⟩ : ∃ C', listOf (W * H) (fun j => fn C (mirr W H b j)) = C' := ⟨_, rfl⟩
  have hlen' : C'.length = C.length := by rw [← hC', listOf_length, hl]
  have hfn : ∀ j, j < W * H → fn C' j = fn C (mirr W H b j) := fun j hj => by rw [← hC', fn_listOf _ hj]
  have hin : ∀ e, e ∈ C' → e ∈ C := fun e he => by
    obtain ⟨j, hj, rfl⟩ := mem_fn he
    rw [hfn j (by omega)]
    exact fn_mem (by rw [hl]; exact mirr_lt (by omega))
  have hout : ∀ e, e ∈ C → e ∈ C' := fun e he => by
    obtain ⟨j, hj, rfl⟩ := mem_fn he
    have h1 := hfn (mirr W H b j) (mirr_lt (by omega))
    rw [mirr_mirr (by omega)] at h1
    rw [← h1]
    exact fn_mem (by rw [hlen', hl]; exact mirr_lt (by omega))
  obtain ⟨c1, c2, c3, c4, c5, c6, ⟨e0, c7, c7'⟩, c8⟩ := check_parts D.check
  have hck : checkErr W H R C' = 0 := by
    unfold checkErr
    rw [if_neg (by omega), if_neg (by rw [hlen', c5]; simp), if_neg, if_neg, if_neg]
    · rw [Int.toNat_natCast, Int.toNat_natCast] at c8 ⊢
      have : looseB W H R C' = false := by
        refine (loose_iff (by rw [hlen', hl]) (by omega)).2 (fun j hj => ?_)
        have hr := (loose_iff hl hsm).1 c8 (mirr W H b j) (by rw [hl]; exact mirr_lt (by omega))
        have := reach_mirr hb hfn hr
        rw [mirr_mirr (by omega)] at this
        exact this
      rw [this]; simp
    · intro hz
      exact c7' (hz e0 (hout e0 c7))
    · rintro ⟨e, he, hbad⟩
      have := c6 e (hin e he)
      omega
  have hmx : maxOf C' = maxOf C := by
    have h1 := le_maxOf (hin _ (maxOf_mem (check_ne hck)))
    have h2 := le_maxOf (hout _ (maxOf_mem (check_ne D.check)))
    omega
  have hv' : voltErr W H R C' v = 0 := by
    obtain ⟨h1, h2, h3⟩ := volt_parts D.verr
    unfold voltErr
    rw [if_neg (by simpa using hck), if_neg (by rw [h2, hmx]; simp), if_neg]
    rintro ⟨y, hy, hbad⟩
    have := h3 y hy
    omega
  obtain ⟨W', H', eW, eH, _, _, _, _, hV'⟩ := volted_of hv'
  obtain rfl : W = W' := by omega
  obtain rfl : H = H' := by omega
  obtain ⟨t1, t2⟩ := bounds_len hV hsm n
  obtain ⟨t3, t4⟩ := bounds_len hV' (by omega) n
  have hmeet := fun i (hi : i < C.length) => mirr_meet hb hV hlen' hfn (solve_pair hV hsm n) (solve_pair hV' (by omega) n) hi
  refine ⟨C', _, _, _, _, _, _, _, _, _, mirr W H b, by rw [← hC']; exact mirrored_eq b hl D.W16 D.H16 D.W1, hlen', by rw [listOf_length, hl], fun i hi => ⟨fn_listOf _ (by omega), by rw [hl]; exact mirr_lt (by omega)⟩, solve_eq D.verr hn, solve_eq hv' hn, ⟨t1, t2, by rw [t3, hlen'], by rw [t4, hlen']⟩, fun i hi => ?_⟩
  have hmi : mirr W H b i < C.length := by rw [hl]; exact mirr_lt (by omega)
  rw [fn_take hmi, fn_take (by omega), fn_take (by omega), fn_take hmi]
  exact hmeet i hi
end Go.Proofs.Ytndkkjpgnmahbaa.Print
end

section
namespace Go.Proofs.Ytndkkjpgnmahbaa.Print
open Go.RowKit Go.Proofs.YtndkkjpgnmahbaaW.PrintWords Go.Proofs.YtndkkjpgnmahbaaW.PrintLast Go.Proofs.YtndkkjpgnmahbaaW.PrintMore Go.Proofs.Ytndkkjpgnmahbaa.H Go.Proofs.Field
attribute [local go_sem] max2_int min2_int max_two min_two max_three min_three max_four min_four
set_option linter.unusedVariables false
set_option linter.unusedSimpArgs false
def mirrorsF.T13 : Bool × List (List Nat × List Nat) := (true, [([], []), ([0], [0]), ([], []), ([], []), ([2, 3], [2, 3]), ([4], [4]), ([1, 5], [1, 5]), ([6], [6]), ([], []), ([8], [8]), ([], []), ([9, 10], [9, 10]), ([11], [11]), ([7, 12], [7, 12]), ([13], [13]), ([14], [14]), ([15, 14], [14, 15]), ([14], [14]), ([16, 17, 14], [14, 16, 17]), ([18, 14], [14, 18]), ([14], [14]), ([20, 14], [14, 20]), ([14], [14]), ([14], [14]), ([22, 23, 14], [14, 22, 23]), ([24, 14], [14, 24]), ([21, 25, 14], [14, 21, 25]), ([26, 14], [14, 26]), ([19, 27, 14], [14, 19, 27]), ([14, 28], [14, 28])])
def mirrorsF.B13 : List Nat := [0, 1, 0, 0, 12, 28, 63, 127, 0, 256, 0, 1792, 3840, 8191, 16383, 32767, 65535, 32767, 262143, 524287, 32767, 1081343, 32767, 32767, 12615679, 29392895, 66093055, 133201919, 268435455, 536870911]
theorem mirrorsF.tab13 : rtab .any (opsOf Try.f8 13) = mirrorsF.T13 := by kernel_rfl
theorem mirrorsF.bits13 : waitsOk mirrorsF.T13.2 mirrorsF.B13 = true := by kernel_rfl
set_option maxHeartbeats 6400000 in
set_option maxRecDepth 100000 in
theorem mirrors_calls (A0 : Option Addr) (c0 : Nat) (l0 : List Int) (a1 : Int) (b2x : Bool) (w : World) (hr0 : Kd.C (Kd.int .i64) w A0 l0.length l0) (hc0 : l0.length ≤ c0) :
    Calls Try.prog 8 #[.slice A0 l0.length c0, .int .i64 a1, .bool b2x] w fun e w' => e = .returned (.bool true) ∧ Below w.heap.size w w' := by
  obtain ⟨s0, hs0⟩ : ∃ s, thermionkit_NewDice.f l0 = some s := ⟨_, rfl⟩
  obtain ⟨W, H, R, C, v, s1, s2, D⟩ := dealt s0 8 6 (by omega) (by omega)
  obtain ⟨n, hn, hn1⟩ := mod_eq a1 41 (by omega) (by omega)
  obtain ⟨bb, hbb⟩ : ∃ bb, bb = (b2x || R) := ⟨_, rfl⟩
  obtain ⟨C', F, lo, hi, lo', hi', K, K', st, st', μ, hmr, hlC, hlF, hF, hs1, hs2, hlen, hmeet⟩ := mirrors_facts D n (by omega) bb (by rw [hbb]; cases b2x <;> cases R <;> simp)
  obtain ⟨kv, hkv⟩ := D.volts
  have HR0 := Aside0.mk hr0
  have HND := Aside0.mk hs0
  have HD := Aside0.mk D
  have HMD := Aside0.mk hn
  have HVO := Aside0.mk (hkv kv (Nat.le_refl _))
  have HMR := Aside0.mk hmr
  have HLC := Aside0.mk hlC
  have HLF := Aside0.mk hlF
  have HF := Aside0.mk hF
  have HS1 := Aside0.mk hs1
  have HS2 := Aside0.mk hs2
  have HLEN := Aside0.mk hlen
  have HME := Aside0.mk hmeet
  have HSM := Aside0.mk D.small
  have HAW := Aside0.mk awake_true
  have HBB := Aside0.mk hbb
  have hu24 := Try.underlying24
  have hu22 := Try.underlying22
  have hu33 := Try.underlying33
  clear hr0 hs0 D hn hkv hmr hlC hlF hF hs1 hs2 hlen hmeet hbb
  go_enter Try.func8, Try.ntmps8
  go_upto_region 4 with (first
    | (go_at_call 21; refine (thermionkit_NewDice.calls A0 c0 l0 s0 w w (Below.refl _ _) HR0.out hc0 HND.out).mono ?_; rintro e w1 ⟨g, rfl, hI1, hB1, hB1b⟩; have HI1 := Aside0.mk hI1; have HB1 := Aside0.mk hB1; clear hI1 hB1 hB1b HND)
    | (go_at_call 22; refine (thermionkit_PlanOf.calls g s0 8 6 W H R C s1 w w1 HI1.out HB1.out HD.out.plan).mono ?_; rintro e w2 ⟨v3, rfl, hR, hI, hB, hK⟩; obtain ⟨AC, cC, rfl⟩ := Kd.R_slice hR; have HP2 := Aside0.mk (PW.make hI hB hR HB1.out.size); have HN2 := Aside0.mk (Mem.start w2); clear hR hI hB hK HI1 HB1)
    | ((with_reducible refine gate_dst (N := 8) rfl ?_); refine ev_new HN2.out rfl 24 rfl info24 ?_; intro g6 w3 hm3 hq3; have HP3 := Aside0.mk (HP2.out.below hq3); have HN3 := Aside0.mk hm3; clear hm3 hq3 HN2)
    | ((with_reducible refine gate_store (t := 24) (p := 8) rfl ?_); refine ev_store HN3.out rfl 24 (.tmp 8) (.tmp 21) rfl rfl (cs := planV W H R AC C.length cC) rfl size24 rfl rfl (by simp [Value.oneCell']) ?_; intro w4 hm4 hq4; clear hq4; have HN4 := Aside0.mk hm4; have HP4 := Aside0.mk (HP2.out.below hm4.below); clear hm4 HN3 HP3 HP2)
    | ((with_reducible refine gate_dst (N := 23) rfl ?_); refine ev_load HN4.out.head rfl 24 (.tmp 8) rfl rfl _ Try.underlying24 rfl size24 rfl ?_)
    | (go_at_call 23; refine (thermionkit_VoltsOf.calls kv g s1 W H R AC cC C v s2 w w4 HP4.out.dice HP4.out.old HP4.out.reads HP4.out.cap HP4.out.far HVO.out).mono ?_; rintro e wb ⟨vv, rfl, hR, hI, hB, hK⟩; obtain ⟨AV, cV, rfl⟩ := Kd.R_slice hR; have HLB := Aside0.mk (LB.make HP4.out HN4.out hR hB hK); have HM := Aside0.mk (Mem.start wb); clear hR hI hB hK HVO HP4 HN4))
  have HBW : Aside0 (Below wb.heap.size wb wb) := ⟨Below.refl _ _⟩
  go_cut [10, 11] (fun v10 v11 wc => ∃ (g10 : Nat) (A' AF : Option Addr) (c' cF : Nat), v10 = .pointer (some ⟨g10, 0, none⟩) ∧ v11 = .slice AF C.length cF ∧ Aside0 (LB wb wc g10 W H R A' c' C' AV cV v) ∧ Aside0 (Kd.C (Kd.int .i64) wc AF F.length F))
  case first =>
    have p2 : wb.cell? ⟨g6, 2, none⟩ = some (.bool R) := (HLB.out.cells_at HBW.out).2.2.1
    cases b2x
    all_goals
      simp only [Bool.false_or, Bool.true_or] at HBB
      rw [HBB.out] at HMR
      clear HBB
      go_upto_region 5 with (first
        | ((with_reducible refine gate_dst (N := 26) rfl ?_); refine ev_load HLB.out.plan rfl 24 (.tmp 8) rfl rfl _ Try.underlying24 rfl size24 rfl ?_)
        | (go_at_call 35; (with_reducible refine (thermionlaw01_mirrored.calls (W * H + 1) W H R AC cC C _ W H R C' F _ HLB.out.rc HLB.out.hc HMR.out).mono ?_); rintro e1 wx ⟨v3, v4, rfl, hR1, hR2, hb⟩; obtain ⟨A', c', rfl⟩ := Kd.R_slice hR1; obtain ⟨AF, cF, ee⟩ := Kd.R_slice hR2; rw [ee] at hR2; have hr2 := Kd.R_reads' hR2; rw [HLF.out] at ee; subst ee; have HR1 := Aside0.mk (Kd.R_reads' hR1); have HR2 := Aside0.mk hr2; have HBX := Aside0.mk hb; clear hR1 hR2 hr2 hb)
        | ((with_reducible refine gate_dst (N := 10) rfl ?_); refine ev_new (Mem.start wx) rfl 24 rfl info24 ?_; intro g10 wy hm hq; have HX := Aside0.mk hm; clear hm hq)
        | ((with_reducible refine gate_store (t := 24) (p := 10) rfl ?_); refine ev_store HX.out rfl 24 (.tmp 10) (.tmp 33) rfl rfl (cs := planV W H R A' C'.length c') rfl size24 rfl rfl (by simp [Value.oneCell']) ?_; intro wz hm hq; have HY := Aside0.mk hm; clear hm hq HX))
      go_meet
      case rel => exact ⟨_, _, _, _, _, rfl, rfl, ⟨⟨below_step HBX.out HY.out.below, HY.out.head, Kd.C_below HR1.out.2.2 HY.out.below, HR1.out.2.1, HLB.out.rv_at (below_step HBX.out HY.out.below), HLB.out.hv⟩⟩, ⟨Kd.C_below HR2.out.2.2 HY.out.below⟩⟩
  case rest =>
  obtain ⟨g10, A', AF, c', cF, rfl, rfl, HL2, HRF⟩ := hcut
  have HOC : Aside0 (Below wb.heap.size wb wc) := ⟨HL2.out.old⟩
  have HM0 := Aside0.mk (Mem.start wc)
  have HRW0 := Aside0.mk ((Rows.nil wc).cons HRF.out)
  clear HM HRF HBW
  go_upto_region 8 with (first
    | (go_at_call 28; refine (thermionkit_Mod.calls a1 41 n _ HMD.out).mono ?_; rintro e1 wd ⟨rfl, hb⟩; have HM1 := Aside0.mk (HM0.out.step hb.below); have HRW1 := Aside0.mk (HRW0.out.below hb.below); clear hb HM0 HRW0)
    | ((with_reducible refine gate_dst (N := 38) rfl ?_); refine ev_load (HLB.out.plan_at (below_step HOC.out HM1.out.below)) rfl 24 (.tmp 8) rfl rfl _ Try.underlying24 rfl size24 rfl ?_)
    | (go_at_call 25; (with_reducible refine (solve_at W H R AC cC C AV cV (v.length) (v) n (lo) (hi) K st _ (HLB.out.rc_at (below_step HOC.out HM1.out.below)) HLB.out.hc rfl (HLB.out.rv_at (below_step HOC.out HM1.out.below)) HLB.out.hv HS1.out).mono ?_); rintro e1 w2 ⟨vl, vh, rfl, hR1, hR2, hb⟩; obtain ⟨B1, b1, ee⟩ := Kd.R_slice hR1; rw [ee] at hR1; have hr1 := Kd.R_reads' hR1; rw [HLEN.out.1] at ee; subst ee; obtain ⟨B2, b2, ee⟩ := Kd.R_slice hR2; rw [ee] at hR2; have hr2 := Kd.R_reads' hR2; rw [HLEN.out.2.1] at ee; subst ee; have HM2 := Aside0.mk (HM1.out.step hb); have HRW2 := Aside0.mk (((HRW1.out.below hb).cons hr1.2.2).cons hr2.2.2); clear hR1 hR2 hr1 hr2 hb HM1 HRW1 HS1)
    | ((with_reducible refine gate_dst (N := 13) rfl ?_); refine ev_new (Mem.start w2) rfl 33 rfl info33 ?_; intro g13 w3 hm hq; have HX3 := Aside0.mk hm; clear hm hq)
    | ((with_reducible refine gate_store (t := 33) (p := 13) rfl ?_); refine ev_store HX3.out rfl 33 (.tmp 13) (.tmp 42) rfl rfl (cs := #[.slice B1 C.length b1, .slice B2 C.length b2, .int .i64 (K : Int), .bool st]) rfl size33 rfl rfl (by simp [Value.oneCell']) ?_; intro w4 hm hq; have HM4 := Aside0.mk (mem_join HM2.out hm); have HRW4 := Aside0.mk (HRW2.out.below hm.below); clear hm hq HX3 HM2 HRW2)
    | ((with_reducible refine gate_dst (N := 45) rfl ?_); refine ev_load (HL2.out.plan_at HM4.out.below) rfl 24 (.tmp 10) rfl rfl _ Try.underlying24 rfl size24 rfl ?_)
    | (go_at_call 25; (with_reducible refine (solve_at W H R A' c' C' AV cV (v.length) (v) n (lo') (hi') K' st' _ (HL2.out.rc_at HM4.out.below) HL2.out.hc rfl (HL2.out.rv_at HM4.out.below) HL2.out.hv HS2.out).mono ?_); rintro e1 w5 ⟨vl, vh, rfl, hR1, hR2, hb⟩; obtain ⟨B3, b3, ee⟩ := Kd.R_slice hR1; rw [ee] at hR1; have hr1 := Kd.R_reads' hR1; rw [HLEN.out.2.2.1] at ee; subst ee; obtain ⟨B4, b4, ee⟩ := Kd.R_slice hR2; rw [ee] at hR2; have hr2 := Kd.R_reads' hR2; rw [HLEN.out.2.2.2] at ee; subst ee; have HM5 := Aside0.mk (HM4.out.step hb); have HRW5 := Aside0.mk (((HRW4.out.below hb).cons hr1.2.2).cons hr2.2.2); clear hR1 hR2 hr1 hr2 hb HM4 HRW4 HS2)
    | ((with_reducible refine gate_dst (N := 15) rfl ?_); refine ev_new (Mem.start w5) rfl 33 rfl info33 ?_; intro g15 w6 hm hq; have HX6 := Aside0.mk hm; clear hm hq)
    | ((with_reducible refine gate_store (t := 33) (p := 15) rfl ?_); refine ev_store HX6.out rfl 33 (.tmp 15) (.tmp 49) rfl rfl (cs := #[.slice B3 C.length b3, .slice B4 C.length b4, .int .i64 (K' : Int), .bool st']) rfl size33 rfl rfl (by simp [Value.oneCell']) ?_; intro w7 hm hq; have HM7 := Aside0.mk (mem_join HM5.out hm); have HRW7 := Aside0.mk (HRW5.out.below hm.below); clear hm hq HX6 HM5 HRW5))
  have HBP := Aside0.mk (below_step HOC.out HM7.out.below)
  have q3 : w7.cell? ⟨g6, 3, none⟩ = some (.slice AC C.length cC) := (HLB.out.cells_at HBP.out).2.2.2
  have qa0 : w7.cell? ⟨g13, 0, none⟩ = some (.slice B1 C.length b1) := (blk_cell HM7.out.second 0).trans rfl
  have qa1 : w7.cell? ⟨g13, 1, none⟩ = some (.slice B2 C.length b2) := (blk_cell HM7.out.second 1).trans rfl
  have qb0 : w7.cell? ⟨g15, 0, none⟩ = some (.slice B3 C.length b3) := (blk_cell HM7.out.head 0).trans rfl
  have qb1 : w7.cell? ⟨g15, 1, none⟩ = some (.slice B4 C.length b4) := (blk_cell HM7.out.head 1).trans rfl
  go_upto_region 10 with fail
  clear q3 qa0 qa1 qb0 qb1 HBP
  go_wp2_with fail
  go_loopg [17] C.length (fun k v17 w' => ∃ (i : Nat), v17 = .int .i64 (i : Int) ∧ Aside0 (i + k = C.length) ∧ Aside0 (Mem wc w' [(g15, #[.slice B3 C.length b3, .slice B4 C.length b4, .int .i64 (K' : Int), .bool st'], 33), (g13, #[.slice B1 C.length b1, .slice B2 C.length b2, .int .i64 (K : Int), .bool st], 33)]) ∧ Aside0 (Rows w' [(B4, hi'), (B3, lo'), (B2, hi), (B1, lo), (AF, F)]))
  case atStart => exact ⟨0, by go_num, ⟨by omega⟩, HM7, HRW7⟩
  case round =>
    clear HM7 HRW7
    obtain ⟨i, rfl, HK, HM, HRW⟩ := hrel
    by_cases hci : i < C.length
    · have HI := Aside0.mk hci
      obtain ⟨hFi, hmi⟩ := HF.out i hci
      have hms := HME.out i hci
      have rF := HRW.out.all (AF, F) (by simp)
      have r1 := HRW.out.all (B1, lo) (by simp)
      have r2 := HRW.out.all (B2, hi) (by simp)
      have r3 := HRW.out.all (B3, lo') (by simp)
      have r4 := HRW.out.all (B4, hi') (by simp)
      obtain ⟨dF, eF, xF⟩ := at_row rF i (by rw [HLF.out]; exact hci)
      obtain ⟨d3, e3, x3⟩ := at_row r3 i (by rw [HLEN.out.2.2.1]; exact hci)
      obtain ⟨d4, e4, x4⟩ := at_row r4 i (by rw [HLEN.out.2.2.2]; exact hci)
      obtain ⟨d1, e1, x1⟩ := at_row r1 (μ i) (by rw [HLEN.out.1]; exact hmi)
      obtain ⟨d2, e2, x2⟩ := at_row r2 (μ i) (by rw [HLEN.out.2.1]; exact hmi)
      simp only at eF e1 e2 e3 e4 xF x1 x2 x3 x4
      subst eF e1 e2 e3 e4
      rw [hFi] at xF
      generalize μ i = m at hmi hms xF x1 x2
      generalize fn lo m = y1 at x1 hms
      generalize fn hi m = y2 at x2 hms
      generalize fn lo' i = y3 at x3 hms
      generalize fn hi' i = y4 at x4 hms
      clear rF r1 r2 r3 r4 hFi
      have c1 : decide (y1 > y4) = false := by simp; omega
      have c2 : decide (y3 > y2) = false := by simp; omega
      clear hms
      have qa0 : wr.cell? ⟨g13, 0, none⟩ = some (.slice (some d1) C.length b1) := (blk_cell HM.out.second 0).trans rfl
      have qa1 : wr.cell? ⟨g13, 1, none⟩ = some (.slice (some d2) C.length b2) := (blk_cell HM.out.second 1).trans rfl
      have qb0 : wr.cell? ⟨g15, 0, none⟩ = some (.slice (some d3) C.length b3) := (blk_cell HM.out.head 0).trans rfl
      have qb1 : wr.cell? ⟨g15, 1, none⟩ = some (.slice (some d4) C.length b4) := (blk_cell HM.out.head 1).trans rfl
      have t1 : decide ((i : Int) < (C.length : Int)) = true := by simp; omega
      have t2 : decide (i < C.length) = true := by simp; omega
      have t3 : wrap64 ((i : Int) + 1) = ((i + 1 : Nat) : Int) := by rw [IntWalk.wrap64_in _ (by have := HSM.out; omega)]; omega
      have HM2 := HM
      clear HM
      go_upto_region 13 with fail
      have HBd := Aside0.mk (below_drew1 (Below.refl wr.heap.size wr))
      refine start_ (n := 30) (S := fun w' => w'.cell? ⟨g13, 0, none⟩ = some (.slice (some d1) C.length b1) ∧ w'.cell? ⟨g13, 1, none⟩ = some (.slice (some d2) C.length b2) ∧ w'.cell? ⟨g15, 0, none⟩ = some (.slice (some d3) C.length b3) ∧ w'.cell? ⟨g15, 1, none⟩ = some (.slice (some d4) C.length b4) ∧ w'.cell? (dF.add i) = some (.int .i64 (m : Int)) ∧ w'.cell? (d1.add m) = some (.int .i64 y1) ∧ w'.cell? (d2.add m) = some (.int .i64 y2) ∧ w'.cell? (d3.add i) = some (.int .i64 y3) ∧ w'.cell? (d4.add i) = some (.int .i64 y4)) (ds := []) #[false, false, false, false, false, false, false, false, false, false, false, false, false, false, false, false, false, false, false, false, false, false, false, false, false, false, false, false, false, false] (by kernel_rfl) rfl rfl ⟨qa0, qa1, qb0, qb1, xF, x1, x2, x3, x4⟩ (fun hHeld => ?_); refine with_tabW mirrorsF.tab13 mirrorsF.bits13 (fun HT_ HW_ => ?_)
      generalize wr.drew = wd at HBd hHeld  ⊢
      refine pure_ (i := 0) (N := some 99) (v := ?_) (a' := ?_) #[true, false, false, false, false, false, false, false, false, false, false, false, false, false, false, false, false, false, false, false, false, false, false, false, false, false, false, false, false, false] rfl rfl (any_of HT_.out (by kernel_rfl)) (fun _ _ _ h => h) (Or.inl ⟨by rfl, ?_⟩) ?_ ?_
      rotate_left
      · intro w'
        go_simp
        with_reducible rfl
      rotate_left
      · simp only [Act.put, List.setIfInBounds_toArray, List.set_cons_zero, List.set_cons_succ, i64_w, i32_w]
        rfl
      refine pure_ (i := 2) (N := some 101) (v := ?_) (a' := ?_) #[true, false, true, false, false, false, false, false, false, false, false, false, false, false, false, false, false, false, false, false, false, false, false, false, false, false, false, false, false, false] rfl rfl (any_of HT_.out (by kernel_rfl)) (fun _ _ _ h => h) (Or.inl ⟨by rfl, ?_⟩) ?_ ?_
      rotate_left
      · intro w'
        go_simp
        with_reducible rfl
      rotate_left
      · simp only [Act.put, List.setIfInBounds_toArray, List.set_cons_zero, List.set_cons_succ, i64_w, i32_w]
        rfl
      refine pure_ (i := 3) (N := some 102) (v := ?_) (a' := ?_) #[true, false, true, true, false, false, false, false, false, false, false, false, false, false, false, false, false, false, false, false, false, false, false, false, false, false, false, false, false, false] rfl rfl (any_of HT_.out (by kernel_rfl)) (fun _ _ _ h => h) (Or.inl ⟨by rfl, ?_⟩) ?_ ?_
      rotate_left
      · intro w'
        go_simp
        with_reducible rfl
      rotate_left
      · simp only [Act.put, List.setIfInBounds_toArray, List.set_cons_zero, List.set_cons_succ, i64_w, i32_w]
        rfl
      refine pure_ (i := 4) (N := some 103) (v := ?_) (a' := ?_) #[true, false, true, true, true, false, false, false, false, false, false, false, false, false, false, false, false, false, false, false, false, false, false, false, false, false, false, false, false, false] rfl rfl (any_of HT_.out (by kernel_rfl)) (fun _ _ _ h => h) (Or.inl ⟨by rfl, ?_⟩) ?_ ?_
      rotate_left
      · intro w'
        go_simp
        with_reducible rfl
      rotate_left
      · simp only [Act.put, List.setIfInBounds_toArray, List.set_cons_zero, List.set_cons_succ, i64_w, i32_w]
        rfl
      refine pure_ (i := 8) (N := some 107) (v := ?_) (a' := ?_) #[true, false, true, true, true, false, false, false, true, false, false, false, false, false, false, false, false, false, false, false, false, false, false, false, false, false, false, false, false, false] rfl rfl (any_of HT_.out (by kernel_rfl)) (fun _ _ _ h => h) (Or.inl ⟨by rfl, ?_⟩) ?_ ?_
      rotate_left
      · intro w'
        go_simp
        with_reducible rfl
      rotate_left
      · simp only [Act.put, List.setIfInBounds_toArray, List.set_cons_zero, List.set_cons_succ, i64_w, i32_w]
        rfl
      refine pure_ (i := 10) (N := some 109) (v := ?_) (a' := ?_) #[true, false, true, true, true, false, false, false, true, false, true, false, false, false, false, false, false, false, false, false, false, false, false, false, false, false, false, false, false, false] rfl rfl (any_of HT_.out (by kernel_rfl)) (fun _ _ _ h => h) (Or.inl ⟨by rfl, ?_⟩) ?_ ?_
      rotate_left
      · intro w'
        go_simp
        with_reducible rfl
      rotate_left
      · simp only [Act.put, List.setIfInBounds_toArray, List.set_cons_zero, List.set_cons_succ, i64_w, i32_w]
        rfl
      refine take_ (i := 1) (N := some 100) (v := ?_) (a' := ?_) #[true, true, true, true, true, false, false, false, true, false, true, false, false, false, false, false, false, false, false, false, false, false, false, false, false, false, false, false, false, false] rfl rfl (take_ofW HT_.out HW_.out (by kernel_rfl)) (fun _ _ _ h => h) (Or.inl ⟨by rfl, ?_⟩) hHeld ?_ ?_
      rotate_left
      · rintro w' ⟨s0, s1, s2, s3, s4, s5, s6, s7, s8⟩
        go_simp
        with_reducible rfl
      rotate_left
      · simp only [Act.put, List.setIfInBounds_toArray, List.set_cons_zero, List.set_cons_succ, i64_w, i32_w]
        rfl
      refine take_ (i := 5) (N := some 104) (v := ?_) (a' := ?_) #[true, true, true, true, true, true, false, false, true, false, true, false, false, false, false, false, false, false, false, false, false, false, false, false, false, false, false, false, false, false] rfl rfl (take_ofW HT_.out HW_.out (by kernel_rfl)) (fun _ _ _ h => h) (Or.inl ⟨by rfl, ?_⟩) hHeld ?_ ?_
      rotate_left
      · rintro w' ⟨s0, s1, s2, s3, s4, s5, s6, s7, s8⟩
        go_simp
        with_reducible rfl
      rotate_left
      · simp only [Act.put, List.setIfInBounds_toArray, List.set_cons_zero, List.set_cons_succ, i64_w, i32_w]
        rfl
      refine pure_ (i := 6) (N := some 105) (v := ?_) (a' := ?_) #[true, true, true, true, true, true, true, false, true, false, true, false, false, false, false, false, false, false, false, false, false, false, false, false, false, false, false, false, false, false] rfl rfl (any_of HT_.out (by kernel_rfl)) (fun _ _ _ h => h) (Or.inl ⟨by rfl, ?_⟩) ?_ ?_
      rotate_left
      · intro w'
        go_simp
        with_reducible rfl
      rotate_left
      · simp only [Act.put, List.setIfInBounds_toArray, List.set_cons_zero, List.set_cons_succ, i64_w, i32_w]
        rfl
      refine take_ (i := 7) (N := some 106) (v := ?_) (a' := ?_) #[true, true, true, true, true, true, true, true, true, false, true, false, false, false, false, false, false, false, false, false, false, false, false, false, false, false, false, false, false, false] rfl rfl (take_ofW HT_.out HW_.out (by kernel_rfl)) (fun _ _ _ h => h) (Or.inl ⟨by rfl, ?_⟩) hHeld ?_ ?_
      rotate_left
      · rintro w' ⟨s0, s1, s2, s3, s4, s5, s6, s7, s8⟩
        go_simp
        with_reducible rfl
      rotate_left
      · simp only [Act.put, List.setIfInBounds_toArray, List.set_cons_zero, List.set_cons_succ, i64_w, i32_w]
        rfl
      refine take_ (i := 9) (N := some 108) (v := ?_) (a' := ?_) #[true, true, true, true, true, true, true, true, true, true, true, false, false, false, false, false, false, false, false, false, false, false, false, false, false, false, false, false, false, false] rfl rfl (take_ofW HT_.out HW_.out (by kernel_rfl)) (fun _ _ _ h => h) (Or.inl ⟨by rfl, ?_⟩) hHeld ?_ ?_
      rotate_left
      · rintro w' ⟨s0, s1, s2, s3, s4, s5, s6, s7, s8⟩
        go_simp
        with_reducible rfl
      rotate_left
      · simp only [Act.put, List.setIfInBounds_toArray, List.set_cons_zero, List.set_cons_succ, i64_w, i32_w]
        rfl
      refine pure_ (i := 11) (N := some 110) (v := ?_) (a' := ?_) #[true, true, true, true, true, true, true, true, true, true, true, true, false, false, false, false, false, false, false, false, false, false, false, false, false, false, false, false, false, false] rfl rfl (any_of HT_.out (by kernel_rfl)) (fun _ _ _ h => h) (Or.inl ⟨by rfl, ?_⟩) ?_ ?_
      rotate_left
      · intro w'
        go_simp
        with_reducible rfl
      rotate_left
      · simp only [Act.put, List.setIfInBounds_toArray, List.set_cons_zero, List.set_cons_succ, i64_w, i32_w]
        rfl
      refine take_ (i := 12) (N := some 111) (v := ?_) (a' := ?_) #[true, true, true, true, true, true, true, true, true, true, true, true, true, false, false, false, false, false, false, false, false, false, false, false, false, false, false, false, false, false] rfl rfl (take_ofW HT_.out HW_.out (by kernel_rfl)) (fun _ _ _ h => h) (Or.inl ⟨by rfl, ?_⟩) hHeld ?_ ?_
      rotate_left
      · rintro w' ⟨s0, s1, s2, s3, s4, s5, s6, s7, s8⟩
        go_simp
        with_reducible rfl
      rotate_left
      · simp only [Act.put, List.setIfInBounds_toArray, List.set_cons_zero, List.set_cons_succ, i64_w, i32_w]
        rfl
      refine pure_ (i := 13) (N := some 112) (v := ?_) (a' := ?_) #[true, true, true, true, true, true, true, true, true, true, true, true, true, true, false, false, false, false, false, false, false, false, false, false, false, false, false, false, false, false] rfl rfl (any_of HT_.out (by kernel_rfl)) (fun _ _ _ h => h) (Or.inl ⟨by rfl, ?_⟩) ?_ ?_
      rotate_left
      · intro w'
        go_simp
        with_reducible rfl
      rotate_left
      · simp only [Act.put, List.setIfInBounds_toArray, List.set_cons_zero, List.set_cons_succ, i64_w, i32_w]
        rfl
      refine pure_ (i := 14) (N := some 113) (v := ?_) (a' := ?_) #[true, true, true, true, true, true, true, true, true, true, true, true, true, true, true, false, false, false, false, false, false, false, false, false, false, false, false, false, false, false] rfl rfl (any_of HT_.out (by kernel_rfl)) (fun _ _ _ h => h) (Or.inl ⟨by rfl, ?_⟩) ?_ ?_
      rotate_left
      · intro w'
        go_simp
        with_reducible rfl
      rotate_left
      · simp only [Act.put, List.setIfInBounds_toArray, List.set_cons_zero, List.set_cons_succ, i64_w, i32_w]
        rfl
      refine pure_ (i := 15) (N := some 114) (v := ?_) (a' := ?_) #[true, true, true, true, true, true, true, true, true, true, true, true, true, true, true, true, false, false, false, false, false, false, false, false, false, false, false, false, false, false] rfl rfl (any_of HT_.out (by kernel_rfl)) (fun _ _ _ h => h) (Or.inl ⟨by rfl, ?_⟩) ?_ ?_
      rotate_left
      · intro w'
        go_simp
        with_reducible rfl
      rotate_left
      · simp only [Act.put, List.setIfInBounds_toArray, List.set_cons_zero, List.set_cons_succ, i64_w, i32_w]
        rfl
      refine pure_ (i := 17) (N := some 116) (v := ?_) (a' := ?_) #[true, true, true, true, true, true, true, true, true, true, true, true, true, true, true, true, false, true, false, false, false, false, false, false, false, false, false, false, false, false] rfl rfl (any_of HT_.out (by kernel_rfl)) (fun _ _ _ h => h) (Or.inl ⟨by rfl, ?_⟩) ?_ ?_
      rotate_left
      · intro w'
        go_simp
        with_reducible rfl
      rotate_left
      · simp only [Act.put, List.setIfInBounds_toArray, List.set_cons_zero, List.set_cons_succ, i64_w, i32_w]
        rfl
      refine pure_ (i := 20) (N := some 119) (v := ?_) (a' := ?_) #[true, true, true, true, true, true, true, true, true, true, true, true, true, true, true, true, false, true, false, false, true, false, false, false, false, false, false, false, false, false] rfl rfl (any_of HT_.out (by kernel_rfl)) (fun _ _ _ h => h) (Or.inl ⟨by rfl, ?_⟩) ?_ ?_
      rotate_left
      · intro w'
        go_simp
        with_reducible rfl
      rotate_left
      · simp only [Act.put, List.setIfInBounds_toArray, List.set_cons_zero, List.set_cons_succ, i64_w, i32_w]
        rfl
      refine pure_ (i := 22) (N := some 121) (v := ?_) (a' := ?_) #[true, true, true, true, true, true, true, true, true, true, true, true, true, true, true, true, false, true, false, false, true, false, true, false, false, false, false, false, false, false] rfl rfl (any_of HT_.out (by kernel_rfl)) (fun _ _ _ h => h) (Or.inl ⟨by rfl, ?_⟩) ?_ ?_
      rotate_left
      · intro w'
        go_simp
        with_reducible rfl
      rotate_left
      · simp only [Act.put, List.setIfInBounds_toArray, List.set_cons_zero, List.set_cons_succ, i64_w, i32_w]
        rfl
      refine pure_ (i := 23) (N := some 122) (v := ?_) (a' := ?_) #[true, true, true, true, true, true, true, true, true, true, true, true, true, true, true, true, false, true, false, false, true, false, true, true, false, false, false, false, false, false] rfl rfl (any_of HT_.out (by kernel_rfl)) (fun _ _ _ h => h) (Or.inl ⟨by rfl, ?_⟩) ?_ ?_
      rotate_left
      · intro w'
        go_simp
        with_reducible rfl
      rotate_left
      · simp only [Act.put, List.setIfInBounds_toArray, List.set_cons_zero, List.set_cons_succ, i64_w, i32_w]
        rfl
      refine pure_ (i := 24) (N := some 123) (v := ?_) (a' := ?_) #[true, true, true, true, true, true, true, true, true, true, true, true, true, true, true, true, false, true, false, false, true, false, true, true, true, false, false, false, false, false] rfl rfl (any_of HT_.out (by kernel_rfl)) (fun _ _ _ h => h) (Or.inl ⟨by rfl, ?_⟩) ?_ ?_
      rotate_left
      · intro w'
        go_simp
        with_reducible rfl
      rotate_left
      · simp only [Act.put, List.setIfInBounds_toArray, List.set_cons_zero, List.set_cons_succ, i64_w, i32_w]
        rfl
      refine take_ (i := 16) (N := some 115) (v := ?_) (a' := ?_) #[true, true, true, true, true, true, true, true, true, true, true, true, true, true, true, true, true, true, false, false, true, false, true, true, true, false, false, false, false, false] rfl rfl (take_ofW HT_.out HW_.out (by kernel_rfl)) (fun _ _ _ h => h) (Or.inl ⟨by rfl, ?_⟩) hHeld ?_ ?_
      rotate_left
      · rintro w' ⟨s0, s1, s2, s3, s4, s5, s6, s7, s8⟩
        go_simp
        with_reducible rfl
      rotate_left
      · simp only [Act.put, List.setIfInBounds_toArray, List.set_cons_zero, List.set_cons_succ, i64_w, i32_w]
        rfl
      refine pure_ (i := 18) (N := some 117) (v := ?_) (a' := ?_) #[true, true, true, true, true, true, true, true, true, true, true, true, true, true, true, true, true, true, true, false, true, false, true, true, true, false, false, false, false, false] rfl rfl (any_of HT_.out (by kernel_rfl)) (fun _ _ _ h => h) (Or.inl ⟨by rfl, ?_⟩) ?_ ?_
      rotate_left
      · intro w'
        go_simp
        with_reducible rfl
      rotate_left
      · simp only [Act.put, List.setIfInBounds_toArray, List.set_cons_zero, List.set_cons_succ, i64_w, i32_w]
        rfl
      refine take_ (i := 19) (N := some 118) (v := ?_) (a' := ?_) #[true, true, true, true, true, true, true, true, true, true, true, true, true, true, true, true, true, true, true, true, true, false, true, true, true, false, false, false, false, false] rfl rfl (take_ofW HT_.out HW_.out (by kernel_rfl)) (fun _ _ _ h => h) (Or.inl ⟨by rfl, ?_⟩) hHeld ?_ ?_
      rotate_left
      · rintro w' ⟨s0, s1, s2, s3, s4, s5, s6, s7, s8⟩
        go_simp
        with_reducible rfl
      rotate_left
      · simp only [Act.put, List.setIfInBounds_toArray, List.set_cons_zero, List.set_cons_succ, i64_w, i32_w]
        rfl
      refine take_ (i := 21) (N := some 120) (v := ?_) (a' := ?_) #[true, true, true, true, true, true, true, true, true, true, true, true, true, true, true, true, true, true, true, true, true, true, true, true, true, false, false, false, false, false] rfl rfl (take_ofW HT_.out HW_.out (by kernel_rfl)) (fun _ _ _ h => h) (Or.inl ⟨by rfl, ?_⟩) hHeld ?_ ?_
      rotate_left
      · rintro w' ⟨s0, s1, s2, s3, s4, s5, s6, s7, s8⟩
        go_simp
        with_reducible rfl
      rotate_left
      · simp only [Act.put, List.setIfInBounds_toArray, List.set_cons_zero, List.set_cons_succ, i64_w, i32_w]
        rfl
      refine take_ (i := 25) (N := some 124) (v := ?_) (a' := ?_) #[true, true, true, true, true, true, true, true, true, true, true, true, true, true, true, true, true, true, true, true, true, true, true, true, true, true, false, false, false, false] rfl rfl (take_ofW HT_.out HW_.out (by kernel_rfl)) (fun _ _ _ h => h) (Or.inl ⟨by rfl, ?_⟩) hHeld ?_ ?_
      rotate_left
      · rintro w' ⟨s0, s1, s2, s3, s4, s5, s6, s7, s8⟩
        go_simp
        with_reducible rfl
      rotate_left
      · simp only [Act.put, List.setIfInBounds_toArray, List.set_cons_zero, List.set_cons_succ, i64_w, i32_w]
        rfl
      refine pure_ (i := 26) (N := some 125) (v := ?_) (a' := ?_) #[true, true, true, true, true, true, true, true, true, true, true, true, true, true, true, true, true, true, true, true, true, true, true, true, true, true, true, false, false, false] rfl rfl (any_of HT_.out (by kernel_rfl)) (fun _ _ _ h => h) (Or.inl ⟨by rfl, ?_⟩) ?_ ?_
      rotate_left
      · intro w'
        go_simp
        with_reducible rfl
      rotate_left
      · simp only [Act.put, List.setIfInBounds_toArray, List.set_cons_zero, List.set_cons_succ, i64_w, i32_w]
        rfl
      refine take_ (i := 27) (N := some 126) (v := ?_) (a' := ?_) #[true, true, true, true, true, true, true, true, true, true, true, true, true, true, true, true, true, true, true, true, true, true, true, true, true, true, true, true, false, false] rfl rfl (take_ofW HT_.out HW_.out (by kernel_rfl)) (fun _ _ _ h => h) (Or.inl ⟨by rfl, ?_⟩) hHeld ?_ ?_
      rotate_left
      · rintro w' ⟨s0, s1, s2, s3, s4, s5, s6, s7, s8⟩
        go_simp
        with_reducible rfl
      rotate_left
      · simp only [Act.put, List.setIfInBounds_toArray, List.set_cons_zero, List.set_cons_succ, i64_w, i32_w]
        rfl
      refine pure_ (i := 28) (N := some 127) (v := ?_) (a' := ?_) #[true, true, true, true, true, true, true, true, true, true, true, true, true, true, true, true, true, true, true, true, true, true, true, true, true, true, true, true, true, false] rfl rfl (any_of HT_.out (by kernel_rfl)) (fun _ _ _ h => h) (Or.inl ⟨by rfl, ?_⟩) ?_ ?_
      rotate_left
      · intro w'
        go_simp
        with_reducible rfl
      rotate_left
      · simp only [Act.put, List.setIfInBounds_toArray, List.set_cons_zero, List.set_cons_succ, i64_w, i32_w]
        rfl
      refine pure_ (i := 29) (N := some 128) (v := ?_) (a' := ?_) #[true, true, true, true, true, true, true, true, true, true, true, true, true, true, true, true, true, true, true, true, true, true, true, true, true, true, true, true, true, true] rfl rfl (any_of HT_.out (by kernel_rfl)) (fun _ _ _ h => h) (Or.inl ⟨by rfl, ?_⟩) ?_ ?_
      rotate_left
      · intro w'
        go_simp
        with_reducible rfl
      rotate_left
      · simp only [Act.put, List.setIfInBounds_toArray, List.set_cons_zero, List.set_cons_succ, i64_w, i32_w]
        rfl
      refine done_ (done_of HT_.out (by kernel_rfl)) ?_
      clear hHeld HT_ HW_
      go_wp2_with fail
      go_roundg (C.length - (i + 1))
      case measure => have := HK.out; have := HI.out; omega
      case rel => exact ⟨i + 1, by first | exact congrArg _ t3 | go_num, ⟨by have := HK.out; have := HI.out; omega⟩, ⟨HM2.out.step HBd.out⟩, ⟨HRW.out.below HBd.out⟩⟩
    · have t1 : decide ((i : Int) < (C.length : Int)) = false := by simp; omega
      have t2 : decide (i < C.length) = false := by simp; omega
      have HBP := Aside0.mk (below_step HOC.out HM.out.below)
      go_wp2_with (first
        | (go_at_call 20; refine (thermionlaw01_awake.calls 10 true _ HAW.out).mono ?_; rintro e1 wE ⟨rfl, hb⟩; have HE := Aside0.mk (below_step HLB.out.old (below_step HBP.out hb)); clear hb))
      go_ret
      exact ⟨rfl, HE.out⟩
end Go.Proofs.Ytndkkjpgnmahbaa.Print
end

section
namespace Go.Proofs.YtndkkjpgnmahbaaW.PrintWords
open Go.ChangeShapes Go.WideShapes
end Go.Proofs.YtndkkjpgnmahbaaW.PrintWords
end
