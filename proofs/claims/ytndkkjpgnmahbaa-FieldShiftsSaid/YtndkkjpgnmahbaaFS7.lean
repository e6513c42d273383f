/- Part 7 of the texts of a claim about Ytndkkjpgnmahbaa, put together by a program of this work: what the Go functions do, and that their calls do so. -/
import Derived.Test.YtndkkjpgnmahbaaFS2
import Derived.Deep.CutBlock
import Derived.Test.YtndkkjpgnmahbaaFS4
import Derived.IntWalk
import Derived.Test.YtndkkjpgnmahbaaFS5
import Derived.Test.YtndkkjpgnmahbaaFS6
import Derived.SizedLaws
import Derived.ChangeSlices
set_option linter.unusedVariables false
set_option linter.unusedSimpArgs false
set_option maxRecDepth 100000
set_option maxHeartbeats 64000000
section
namespace Go.Proofs.Ytndkkjpgnmahbaa.Print
open Go.RowKit YtndkkjpgnmahbaaW.PrintWords YtndkkjpgnmahbaaW.PrintLast YtndkkjpgnmahbaaW.PrintMore Ytndkkjpgnmahbaa.H Proofs.Field
attribute [local go_sem] max2_int min2_int max_two min_two max_three min_three max_four min_four
def thermionkit_Tube.l0 : Nat → Int → Int → Int → Int → Int → Int → Bool → List Int → Option (Int × Int × Bool × List Int × Int)
 | 0, _, _, _, _, _, _, _, _ => none
 | k + 1, x8, x9, x10, x1000, x501000, x501001, x501002, x501003 => if x10 < (wrap64 (x501000 * x501001)) then (if x501000 = 0 then (none) else (if (Int.tmod x10 x501000) = 0 then (if x501003.length < 17592186044416 then (thermionkit_Tube.l0 k x8 x9 (wrap64 (x10 + 1)) x1000 x501000 x501001 x501002 (x501003 ++ [1])) else (none)) else (if (Int.tmod x10 x501000) = (wrap64 (x501000 - 1)) then (if x501003.length < 17592186044416 then (thermionkit_Tube.l0 k x8 x9 (wrap64 (x10 + 1)) x1000 x501000 x501001 x501002 (x501003 ++ [3])) else (none)) else (if (Int.tmod x10 x501000) = x8 then (if (wrap64 (Int.tdiv x10 x501000)) = x9 then (if x501001 > 1 then (if x501003.length < 17592186044416 then (thermionkit_Tube.l0 k x8 x9 (wrap64 (x10 + 1)) x1000 x501000 x501001 x501002 (x501003 ++ [2])) else (none)) else (if x501003.length < 17592186044416 then (thermionkit_Tube.l0 k x8 x9 (wrap64 (x10 + 1)) x1000 x501000 x501001 x501002 (x501003 ++ [0])) else (none))) else ((thermionkit_Dice_One.f x1000 3).bind fun bt517 => (if bt517.1 = true then (if x501001 > 1 then (if x501003.length < 17592186044416 then (thermionkit_Tube.l0 k x8 x9 (wrap64 (x10 + 1)) bt517.2 x501000 x501001 x501002 (x501003 ++ [2])) else (none)) else (if x501003.length < 17592186044416 then (thermionkit_Tube.l0 k x8 x9 (wrap64 (x10 + 1)) bt517.2 x501000 x501001 x501002 (x501003 ++ [0])) else (none))) else (if x501003.length < 17592186044416 then (thermionkit_Tube.l0 k x8 x9 (wrap64 (x10 + 1)) bt517.2 x501000 x501001 x501002 (x501003 ++ [0])) else (none))))) else (if x501003.length < 17592186044416 then (thermionkit_Tube.l0 k x8 x9 (wrap64 (x10 + 1)) x1000 x501000 x501001 x501002 (x501003 ++ [0])) else (none)))))) else (some (x501000, x501001, x501002, x501003, x1000))
def thermionkit_Tube.f (k : Nat) (s0_0 : Int) (a1 : Int) (a2 : Int) : Option (Int × Int × Bool × List Int × Int) := (thermionkit_Dice_Between.f s0_0 4 (mx 4 a1)).bind fun bt494 => ((thermionkit_Dice_Between.f bt494.2 1 a2).bind fun bt496 => ((thermionkit_Dice_One.f bt496.2 2).bind fun bt498 => ((thermionkit_Dice_Between.f bt498.2 1 (wrap64 (bt494.1 - 2))).bind fun bt501 => ((thermionkit_Dice_Upto.f bt501.2 bt496.1).bind fun bt503 => (thermionkit_Tube.l0 k bt501.1 bt503.1 0 bt503.2 bt494.1 bt496.1 bt498.1 ([] : List Int))))))
theorem thermionkit_Tube.calls (k : Nat) (g : Nat) (s0_0 : Int) (a1 : Int) (a2 : Int) (r1 : Int) (r2 : Int) (r3 : Bool) (r4 : List Int) (r5 : Int) (w0 w : World) (hI : IsS79 w0 w g s0_0) (hB : Below w0.heap.size w0 w) (h : thermionkit_Tube.f k s0_0 a1 a2 = some (r1, r2, r3, r4, r5)) :
  Calls Try.prog 54 #[.pointer (some ⟨g, 0, none⟩), .int .i64 a1, .int .i64 a2] w fun e w' => ∃ v3_ : Value, e = .returned (.agg #[.int .i64 r1, .int .i64 r2, .bool r3, v3_]) ∧ Kd.R (Kd.int .i64) 3 w' w.heap.size (fun _ => True) v3_ r4 ∧ IsS79 w0 w' g r5 ∧ Below w0.heap.size w0 w' ∧ KeepBut w w' g none := by
 have hu24 := Try.underlying24
 have HI0 := Aside0.mk hI
 have HK := Aside0.mk (KeepBut.refl w g none)
 have HL := Aside0.mk hB.size
 clear hI
 have HW0 := Aside0.mk hB.size
 have HB := Aside0.mk hB
 clear hB
 have H : ((thermionkit_Dice_Between.f s0_0 4 (mx 4 a1)).bind fun bt494 => ((thermionkit_Dice_Between.f bt494.2 1 a2).bind fun bt496 => ((thermionkit_Dice_One.f bt496.2 2).bind fun bt498 => ((thermionkit_Dice_Between.f bt498.2 1 (wrap64 (bt494.1 - 2))).bind fun bt501 => ((thermionkit_Dice_Upto.f bt501.2 bt496.1).bind fun bt503 => (thermionkit_Tube.l0 k bt501.1 bt503.1 0 bt503.2 bt494.1 bt496.1 bt498.1 ([] : List Int))))))) = some (r1, r2, r3, r4, r5) := h
 clear h
 obtain ⟨ji4, hji4⟩ : ∃ j_ : Int, (mx 4 a1) = j_ := ⟨_, rfl⟩
 replace H : ((thermionkit_Dice_Between.f s0_0 4 (ji4)).bind fun bt494 => ((thermionkit_Dice_Between.f bt494.2 1 a2).bind fun bt496 => ((thermionkit_Dice_One.f bt496.2 2).bind fun bt498 => ((thermionkit_Dice_Between.f bt498.2 1 (wrap64 (bt494.1 - 2))).bind fun bt501 => ((thermionkit_Dice_Upto.f bt501.2 bt496.1).bind fun bt503 => (thermionkit_Tube.l0 k bt501.1 bt503.1 0 bt503.2 bt494.1 bt496.1 bt498.1 ([] : List Int))))))) = some (r1, r2, r3, r4, r5) := by first | (rw [hji4] at H; exact H) | (simp only [hji4] at H ⊢; exact H)
 (try (have hji4l : 4 ≤ ji4 := by (rw [← hji4]; unfold mx; (repeat' split) <;> omega)))
 (try (have hji4m : 0 ≤ ji4 := by omega))
 have hji4_ : (if 4 < a1 then a1 else 4) = ji4 := hji4
 replace H := Option.bind_eq_some_iff.mp H
 obtain ⟨⟨t494, t495⟩, A50, H⟩ := H
 replace H : ((thermionkit_Dice_Between.f t495 1 a2).bind fun bt496 => ((thermionkit_Dice_One.f bt496.2 2).bind fun bt498 => ((thermionkit_Dice_Between.f bt498.2 1 (wrap64 (t494 - 2))).bind fun bt501 => ((thermionkit_Dice_Upto.f bt501.2 bt496.1).bind fun bt503 => (thermionkit_Tube.l0 k bt501.1 bt503.1 0 bt503.2 t494 bt496.1 bt498.1 ([] : List Int)))))) = some (r1, r2, r3, r4, r5) := H
 have A5 := Aside0.mk A50
 clear A50
 replace H := Option.bind_eq_some_iff.mp H
 obtain ⟨⟨t496, t497⟩, A60, H⟩ := H
 replace H : ((thermionkit_Dice_One.f t497 2).bind fun bt498 => ((thermionkit_Dice_Between.f bt498.2 1 (wrap64 (t494 - 2))).bind fun bt501 => ((thermionkit_Dice_Upto.f bt501.2 t496).bind fun bt503 => (thermionkit_Tube.l0 k bt501.1 bt503.1 0 bt503.2 t494 t496 bt498.1 ([] : List Int))))) = some (r1, r2, r3, r4, r5) := H
 have A6 := Aside0.mk A60
 clear A60
 replace H := Option.bind_eq_some_iff.mp H
 obtain ⟨⟨t498, t499⟩, A70, H⟩ := H
 replace H : ((thermionkit_Dice_Between.f t499 1 (wrap64 (t494 - 2))).bind fun bt501 => ((thermionkit_Dice_Upto.f bt501.2 t496).bind fun bt503 => (thermionkit_Tube.l0 k bt501.1 bt503.1 0 bt503.2 t494 t496 t498 ([] : List Int)))) = some (r1, r2, r3, r4, r5) := H
 have A7 := Aside0.mk A70
 clear A70
 replace H := Option.bind_eq_some_iff.mp H
 obtain ⟨⟨t501, t502⟩, A80, H⟩ := H
 replace H : ((thermionkit_Dice_Upto.f t502 t496).bind fun bt503 => (thermionkit_Tube.l0 k t501 bt503.1 0 bt503.2 t494 t496 t498 ([] : List Int))) = some (r1, r2, r3, r4, r5) := H
 have A8 := Aside0.mk A80
 clear A80
 replace H := Option.bind_eq_some_iff.mp H
 obtain ⟨⟨t503, t504⟩, A90, H⟩ := H
 replace H : (thermionkit_Tube.l0 k t501 t503 0 t504 t494 t496 t498 ([] : List Int)) = some (r1, r2, r3, r4, r5) := H
 have A9 := Aside0.mk A90
 clear A90
 have H' := Aside0.mk H
 clear H
 go_enter Try.func54, Try.ntmps54
 go_wp2_with (first | ((with_reducible refine gate_dst (N := 6) rfl ?_); refine aBox 6 #[.int .i64 0, .int .i64 0, .bool false, .slice none 0 0] 24 ?_; intro gb493 hg w10 hbox hb; replace HB := aBs HB hb; have BK493 := Aside0.mk (hbox); have GW493 := Aside0.mk ((by rw [hg]; exact (keep_size (w := w) (g := g) (row := none) (HK.out)) : w.heap.size ≤ gb493)); have GE493 := Aside0.mk ((Nat.le_trans HW0.out (by rw [hg]; exact (keep_size (w := w) (g := g) (row := none) (HK.out)) : w.heap.size ≤ gb493) : w0.heap.size ≤ gb493)); replace HK := Aside0.mk (KeepBut.trans (HK.out) (KeepBut.of_below hb g none) (.inl rfl)); have NB0_493 := Aside0.mk ((by rw [hg]; exact Nat.ne_of_lt (IsS79.lt (show IsS79 w0 _ g s0_0 from HI0.out)) : g ≠ gb493)); have NB493_0 := Aside0.mk ((by rw [hg]; exact Nat.ne_of_gt (IsS79.lt (show IsS79 w0 _ g s0_0 from HI0.out)) : gb493 ≠ g)); replace HI0 := Aside0.mk (IsS79.below (HI0.out) hb); clear hb hbox hg) | (go_at_call 32; (with_reducible refine (thermionkit_Dice_Between.calls g s0_0 4 ji4 t494 t495 w0 _ ?side1 ?side2 A5.out).mono ?_); (case side1 => repeat (first | (with_reducible first | exact HI0.out | apply IsS79.alloc | apply IsS79.drewN | apply IsS79.drew | apply IsS79.set_0 | refine IsS79.far ?_ NB0_493.out _) | exact HI0.out)); (case side2 => repeat (first | (with_reducible first | exact HB.out | apply below_alloc | apply pw_below_drewN | apply below_drew1 | refine below_set ?_ (IsS79.ge HI0.out) | refine below_set ?_ GE493.out) | exact HB.out)); rintro e w11 ⟨rfl, hi, hb, hk⟩; replace BK493 := Aside0.mk (KeepBut.blk hk (g' := gb493) (o := .cells #[.int .i64 0, .int .i64 0, .bool false, .slice none 0 0] 24 (0, 0)) (aBk BK493).out NB493_0.out (by simp)); replace HK := Aside0.mk (KeepBut.trans (HK.out) hk (.inl rfl)); replace HB := Aside0.mk (hb); replace HI0 := Aside0.mk (hi); clear hb hk hi) | (go_at_call 32; (with_reducible refine (thermionkit_Dice_Between.calls g t495 1 a2 t496 t497 w0 _ ?side1 ?side2 A6.out).mono ?_); (case side1 => repeat (first | (with_reducible first | exact HI0.out | apply IsS79.alloc | apply IsS79.drewN | apply IsS79.drew | apply IsS79.set_0 | refine IsS79.far ?_ NB0_493.out _) | exact HI0.out)); (case side2 => repeat (first | (with_reducible first | exact HB.out | apply below_alloc | apply pw_below_drewN | apply below_drew1 | refine below_set ?_ (IsS79.ge HI0.out) | refine below_set ?_ GE493.out) | exact HB.out)); rintro e w12 ⟨rfl, hi, hb, hk⟩; replace BK493 := Aside0.mk (KeepBut.blk hk (g' := gb493) (o := .cells #[.int .i64 0, .int .i64 0, .bool false, .slice none 0 0] 24 (0, 0)) (aBk BK493).out NB493_0.out (by simp)); replace HK := Aside0.mk (KeepBut.trans (HK.out) hk (.inl rfl)); replace HB := Aside0.mk (hb); replace HI0 := Aside0.mk (hi); clear hb hk hi) | (go_at_call 66; (with_reducible refine (thermionkit_Dice_One.calls g t497 2 t498 t499 w0 _ ?side1 ?side2 A7.out).mono ?_); (case side1 => repeat (first | (with_reducible first | exact HI0.out | apply IsS79.alloc | apply IsS79.drewN | apply IsS79.drew | apply IsS79.set_0 | refine IsS79.far ?_ NB0_493.out _) | exact HI0.out)); (case side2 => repeat (first | (with_reducible first | exact HB.out | apply below_alloc | apply pw_below_drewN | apply below_drew1 | refine below_set ?_ (IsS79.ge HI0.out) | refine below_set ?_ GE493.out) | exact HB.out)); rintro e w13 ⟨rfl, hi, hb, hk⟩; replace BK493 := Aside0.mk (KeepBut.blk hk (g' := gb493) (o := .cells #[.int .i64 0, .int .i64 0, .bool false, .slice none 0 0] 24 (0, 0)) (aBk BK493).out NB493_0.out (by simp)); replace HK := Aside0.mk (KeepBut.trans (HK.out) hk (.inl rfl)); replace HB := Aside0.mk (hb); replace HI0 := Aside0.mk (hi); clear hb hk hi) | ((with_reducible refine gate_dst (N := 7) rfl ?_); refine aBox 7 #[.int .i64 0, .int .i64 0, .bool false, .slice none 0 0] 24 ?_; intro gb500 hg w14 hbox hb; replace HB := aBs HB hb; have BK500 := Aside0.mk (hbox); have GW500 := Aside0.mk ((by rw [hg]; exact (keep_size (w := w) (g := g) (row := none) (HK.out)) : w.heap.size ≤ gb500)); have GE500 := Aside0.mk ((Nat.le_trans HW0.out (by rw [hg]; exact (keep_size (w := w) (g := g) (row := none) (HK.out)) : w.heap.size ≤ gb500) : w0.heap.size ≤ gb500)); replace HK := Aside0.mk (KeepBut.trans (HK.out) (KeepBut.of_below hb g none) (.inl rfl)); have NB493_500 := aNl hg BK493; have NB500_493 := aNg hg BK493; replace BK493 := aBb BK493 hb; have NB0_500 := Aside0.mk ((by rw [hg]; exact Nat.ne_of_lt (IsS79.lt (show IsS79 w0 _ g t499 from HI0.out)) : g ≠ gb500)); have NB500_0 := Aside0.mk ((by rw [hg]; exact Nat.ne_of_gt (IsS79.lt (show IsS79 w0 _ g t499 from HI0.out)) : gb500 ≠ g)); replace HI0 := Aside0.mk (IsS79.below (HI0.out) hb); clear hb hbox hg; have hnb15 := NB500_493.out; have hnc15 := NB493_500.out; have hnb16 := NB500_0.out; have hnc16 := NB0_500.out; obtain ⟨⟨hcz17_0, hcz17_1, hcz17_2, hcz17_3⟩, hfz17_0, hfz17_1, hfz17_2, hfz17_3⟩ := aC4 BK500) | (go_at_call 32; (with_reducible refine (thermionkit_Dice_Between.calls g t499 1 (wrap64 (t494 - 2)) t501 t502 w0 _ ?side1 ?side2 A8.out).mono ?_); (case side1 => repeat (first | (with_reducible first | exact HI0.out | apply IsS79.alloc | apply IsS79.drewN | apply IsS79.drew | apply IsS79.set_0 | refine IsS79.far ?_ NB0_493.out _ | refine IsS79.far ?_ NB0_500.out _) | exact HI0.out)); (case side2 => repeat (first | (with_reducible first | exact HB.out | apply below_alloc | apply pw_below_drewN | apply below_drew1 | refine below_set ?_ (IsS79.ge HI0.out) | refine below_set ?_ GE493.out | refine below_set ?_ GE500.out) | exact HB.out)); rintro e w18 ⟨rfl, hi, hb, hk⟩; replace BK493 := Aside0.mk (KeepBut.blk hk (g' := gb493) (o := .cells #[.int .i64 0, .int .i64 0, .bool false, .slice none 0 0] 24 (0, 0)) (by (with_reducible repeat (first | refine blk_drewN ?_ _ | refine blk_drew ?_ | refine blk_alloc ?_ _)); refine blk_far ?_ NB493_500.out _; (with_reducible repeat (first | refine blk_drewN ?_ _ | refine blk_drew ?_ | refine blk_alloc ?_ _)); refine blk_far ?_ NB493_500.out _; (with_reducible repeat (first | refine blk_drewN ?_ _ | refine blk_drew ?_ | refine blk_alloc ?_ _)); refine blk_far ?_ NB493_500.out _; (with_reducible repeat (first | refine blk_drewN ?_ _ | refine blk_drew ?_ | refine blk_alloc ?_ _)); refine blk_far ?_ NB493_500.out _; (with_reducible repeat (first | refine blk_drewN ?_ _ | refine blk_drew ?_ | refine blk_alloc ?_ _)); exact BK493.out) NB493_0.out (by simp)); replace BK500 := Aside0.mk (KeepBut.blk hk (g' := gb500) (o := .cells #[.int .i64 t494, .int .i64 t496, .bool t498, .slice none 0 0] 24 (0, 0)) (by (with_reducible repeat (first | refine blk_drewN ?_ _ | refine blk_drew ?_ | refine blk_alloc ?_ _)); refine blk_put (cs := #[.int .i64 t494, .int .i64 t496, .bool t498, .slice none 0 0]) ?_ 3 _ rfl; (with_reducible repeat (first | refine blk_drewN ?_ _ | refine blk_drew ?_ | refine blk_alloc ?_ _)); refine blk_put (cs := #[.int .i64 t494, .int .i64 t496, .bool false, .slice none 0 0]) ?_ 2 _ rfl; (with_reducible repeat (first | refine blk_drewN ?_ _ | refine blk_drew ?_ | refine blk_alloc ?_ _)); refine blk_put (cs := #[.int .i64 t494, .int .i64 0, .bool false, .slice none 0 0]) ?_ 1 _ rfl; (with_reducible repeat (first | refine blk_drewN ?_ _ | refine blk_drew ?_ | refine blk_alloc ?_ _)); refine blk_put (cs := #[.int .i64 0, .int .i64 0, .bool false, .slice none 0 0]) ?_ 0 _ rfl; (with_reducible repeat (first | refine blk_drewN ?_ _ | refine blk_drew ?_ | refine blk_alloc ?_ _)); exact BK500.out) NB500_0.out (by simp)); replace HK := Aside0.mk (KeepBut.trans (by with_reducible repeat (first | exact HK.out | apply keep_drewN | apply keep_alloc | refine keep_far ?_ GW500.out _ | refine keep_far ?_ GW493.out _)) hk (.inl rfl)); replace HB := Aside0.mk (hb); replace HI0 := Aside0.mk (hi); clear hb hk hi; obtain ⟨⟨hcz19_0, hcz19_1, hcz19_2, hcz19_3⟩, hfz19_0, hfz19_1, hfz19_2, hfz19_3⟩ := aC4 BK500) | (go_at_call 49; (with_reducible refine (thermionkit_Dice_Upto.calls g t502 t496 t503 t504 w0 _ ?side1 ?side2 A9.out).mono ?_); (case side1 => repeat (first | (with_reducible first | exact HI0.out | apply IsS79.alloc | apply IsS79.drewN | apply IsS79.drew | apply IsS79.set_0 | refine IsS79.far ?_ NB0_493.out _ | refine IsS79.far ?_ NB0_500.out _) | exact HI0.out)); (case side2 => repeat (first | (with_reducible first | exact HB.out | apply below_alloc | apply pw_below_drewN | apply below_drew1 | refine below_set ?_ (IsS79.ge HI0.out) | refine below_set ?_ GE493.out | refine below_set ?_ GE500.out) | exact HB.out)); rintro e w20 ⟨rfl, hi, hb, hk⟩; replace BK493 := Aside0.mk (KeepBut.blk hk (g' := gb493) (o := .cells #[.int .i64 0, .int .i64 0, .bool false, .slice none 0 0] 24 (0, 0)) (aBk BK493).out NB493_0.out (by simp)); replace BK500 := Aside0.mk (KeepBut.blk hk (g' := gb500) (o := .cells #[.int .i64 t494, .int .i64 t496, .bool t498, .slice none 0 0] 24 (0, 0)) (aBk BK500).out NB500_0.out (by simp)); replace HK := Aside0.mk (KeepBut.trans (by with_reducible repeat (first | exact HK.out | apply keep_drewN | apply keep_alloc | refine keep_far ?_ GW500.out _ | refine keep_far ?_ GW493.out _)) hk (.inl rfl)); replace HB := Aside0.mk (hb); replace HI0 := Aside0.mk (hi); clear hb hk hi))
 go_loopg [10] k (fun kq v10 w' => ∃ (x10_1 : Int) (x1000_1 : Int) (x501003_1 : List Int) (u501003 : Value), v10 = .int .i64 x10_1 ∧ Aside0 (thermionkit_Tube.l0 kq t501 t503 x10_1 x1000_1 t494 t496 t498 x501003_1 = some (r1, r2, r3, r4, r5)) ∧ Aside0 (kq ≤ k) ∧ Aside0 (Kd.R (Kd.int .i64) 3 w' w.heap.size (fun _ => True) u501003 x501003_1) ∧ Aside0 (w'.heap[gb493]? = some (.cells #[.int .i64 0, .int .i64 0, .bool false, (.slice none 0 0)] 24 (0, 0))) ∧ Aside0 (w'.heap[gb500]? = some (.cells #[.int .i64 t494, .int .i64 t496, .bool t498, u501003] 24 (0, 0))) ∧ Aside0 (IsS79 w0 w' g x1000_1) ∧ Aside0 (KeepBut w w' g none) ∧ Aside0 (Below w0.heap.size w0 w'))
 case atStart => exact ⟨(0), (t504), (([] : List Int)), (.slice none 0 0), aR, H', ⟨Nat.le_refl _⟩, ⟨by first | exact Kd.R_nil _ _ _ _ _ | exact Kd.N_nil _ _ _ _ _ | exact Kd.V_nil _ _ _ _ _ | exact Kd.Q_nil _ _ _ _ _ | exact Kd.S_nil _ _ _ _ _⟩, aBk BK493, aBk BK500, ⟨by with_reducible repeat (first | exact HI0.out | apply IsS79.alloc | apply IsS79.drewN | refine IsS79.far ?_ NB0_500.out _ | refine IsS79.far ?_ NB0_493.out _)⟩, ⟨by with_reducible repeat (first | exact HK.out | apply keep_drewN | apply keep_alloc | refine keep_far ?_ GW500.out _ | refine keep_far ?_ GW493.out _)⟩, aBl HB⟩
 case round =>
  clear H'
  obtain ⟨x10_1, x1000_1, x501003_1, u501003, rfl, HA, HK1, HO_501003, BK493, BK500, HI0, HK, HB⟩ := hrel
  cases gk with
  | zero => exact absurd HA.out (by simp [thermionkit_Tube.l0])
  | succ k1 =>
   have H := HA.out
   clear HA
   simp only [thermionkit_Tube.l0] at H
   by_cases c21 : x10_1 < (wrap64 (t494 * t496))
   ·rw [if_pos c21] at H
    have c21b0 := decide_eq_true c21
    clear c21
    by_cases c22 : t494 = 0
    ·rw [if_pos c22] at H
     exact absurd H (by simp)
    rw [if_neg c22] at H
    obtain ⟨c22b0, c22b1⟩ := aNe c22
    have H' := Aside0.mk H
    clear H
    have hnb25 := NB500_493.out
    have hnc25 := NB493_500.out
    have hnb26 := NB500_0.out
    have hnc26 := NB0_500.out
    obtain ⟨⟨hz_0, hz_1, hz_2, hz_3⟩, hf_0, hf_1, hf_2, hf_3⟩ := aC4 BK500
    go_upto_block 2 with fail
    go_quiet (fail)
    go_upto_block 2 with fail
    go_cut [11, 12, 13] (fun v11 v12 v13 wc => ∃ (z sd : Int), v13 = .int .i64 z ∧ Aside0 (x501003_1.length < 17592186044416) ∧ Aside0 (thermionkit_Tube.l0 k1 t501 t503 (wrap64 (x10_1 + 1)) sd t494 t496 t498 (x501003_1 ++ [z]) = some (r1, r2, r3, r4, r5)) ∧ Aside0 (Kd.R (Kd.int .i64) 3 wc w.heap.size (fun _ => True) u501003 x501003_1) ∧ Aside0 (wc.heap[gb493]? = some (.cells #[.int .i64 0, .int .i64 0, .bool false, (.slice none 0 0)] 24 (0, 0))) ∧ Aside0 (wc.heap[gb500]? = some (.cells #[.int .i64 t494, .int .i64 t496, .bool t498, u501003] 24 (0, 0))) ∧ Aside0 (IsS79 w0 wc g sd) ∧ Aside0 (KeepBut w wc g none) ∧ Aside0 (Below w0.heap.size w0 wc))
    case rest =>
     clear H' HO_501003 BK493 BK500 HI0 HK HB hz_0 hz_1 hz_2 hz_3 hf_0 hf_1 hf_2 hf_3
     obtain ⟨z, sd, rfl, LM, H', HO_501003, BK493, BK500, HI0, HK, HB⟩ := hcut
     obtain ⟨y, hy⟩ : ∃ y_ : List Int, y_ = (x501003_1 ++ [z]) := ⟨_, rfl⟩
     have Ny := Aside0.mk hy
     have H := H'.out
     rw [← hy] at H
     clear H' hy
     have H' := Aside0.mk H
     clear H
     obtain ⟨⟨hz_0, hz_1, hz_2, hz_3⟩, hf_0, hf_1, hf_2, hf_3⟩ := aC4 BK500
     go_wp2_with (first | ((with_reducible refine gate_builtin (b := .append) (xs := #[.tmp 78, .tmp 80]) rfl ?_); at_builtin; refine Kd.R_append (Kd.int .i64) w.heap.size rfl (.tmp 78) (.tmp 80) 22 3 (.int .i64 0) 8 rfl Try.underlying22 info3 rfl (by decide) (by omega) u501003 x501003_1 z [.int .i64 z] (fun _ => True) (fun _ => False) rfl rfl ?aP (fun _ hk => hk.elim) ?aF ?aO (Below.refl _ _) ?aS ?aL ?_; (case aP => exact rfl); (case aF => exact (fun _ _ => trivial)); (case aO => exact (aRk HO_501003).out); (case aS => exact (keep_size (w := w) (g := g) (row := none) (by with_reducible repeat (first | exact HK.out | apply keep_drewN | apply keep_alloc | refine keep_far ?_ GW500.out _ | refine keep_far ?_ GW493.out _)))); (case aL => have := LM.out; omega); intro v506 w28 ho hb hg hat; rw [← Ny.out] at ho; replace BK493 := (aBg BK493 hg (Kd.R_ne HO_501003.out BK493.out (by decide))); replace BK500 := (aBg BK500 hg (Kd.R_ne HO_501003.out BK500.out (by decide))); replace HI0 := Aside0.mk (IsS79.grown (by with_reducible repeat (first | exact HI0.out | apply IsS79.alloc | apply IsS79.drewN | refine IsS79.far ?_ NB0_500.out _ | refine IsS79.far ?_ NB0_493.out _)) hg (IsS79.own_ne HI0.out HO_501003.out (by decide))); replace HB := Aside0.mk (below_weaken (aBl HB).out HL.out hb); replace HK := Aside0.mk (KeepBut.trans (by with_reducible repeat (first | exact HK.out | apply keep_drewN | apply keep_alloc | refine keep_far ?_ GW500.out _ | refine keep_far ?_ GW493.out _)) (KeepBut.of_grown hg g) (Kd.R_base2 HO_501003.out)); have HO := Aside0.mk (ho); clear HO_501003; clear ho hb hg hat; obtain ⟨Ao, co, eo⟩ := Kd.R_slice HO.out; subst eo; obtain ⟨⟨hz_0, hz_1, hz_2, hz_3⟩, hf_0, hf_1, hf_2, hf_3⟩ := aC4 BK500))
     repeat (go_quiet (fail); try go_wp2_with (first | ((with_reducible refine gate_builtin (b := .append) (xs := #[.tmp 78, .tmp 80]) rfl ?_); at_builtin; refine Kd.R_append (Kd.int .i64) w.heap.size rfl (.tmp 78) (.tmp 80) 22 3 (.int .i64 0) 8 rfl Try.underlying22 info3 rfl (by decide) (by omega) u501003 x501003_1 z [.int .i64 z] (fun _ => True) (fun _ => False) rfl rfl ?aP (fun _ hk => hk.elim) ?aF ?aO (Below.refl _ _) ?aS ?aL ?_; (case aP => exact rfl); (case aF => exact (fun _ _ => trivial)); (case aO => exact (aRk HO_501003).out); (case aS => exact (keep_size (w := w) (g := g) (row := none) (by with_reducible repeat (first | exact HK.out | apply keep_drewN | apply keep_alloc | refine keep_far ?_ GW500.out _ | refine keep_far ?_ GW493.out _)))); (case aL => have := LM.out; omega); intro v506 w28 ho hb hg hat; rw [← Ny.out] at ho; replace BK493 := (aBg BK493 hg (Kd.R_ne HO_501003.out BK493.out (by decide))); replace BK500 := (aBg BK500 hg (Kd.R_ne HO_501003.out BK500.out (by decide))); replace HI0 := Aside0.mk (IsS79.grown (by with_reducible repeat (first | exact HI0.out | apply IsS79.alloc | apply IsS79.drewN | refine IsS79.far ?_ NB0_500.out _ | refine IsS79.far ?_ NB0_493.out _)) hg (IsS79.own_ne HI0.out HO_501003.out (by decide))); replace HB := Aside0.mk (below_weaken (aBl HB).out HL.out hb); replace HK := Aside0.mk (KeepBut.trans (by with_reducible repeat (first | exact HK.out | apply keep_drewN | apply keep_alloc | refine keep_far ?_ GW500.out _ | refine keep_far ?_ GW493.out _)) (KeepBut.of_grown hg g) (Kd.R_base2 HO_501003.out)); have HO := Aside0.mk (ho); clear HO_501003; clear ho hb hg hat; obtain ⟨Ao, co, eo⟩ := Kd.R_slice HO.out; subst eo; obtain ⟨⟨hz_0, hz_1, hz_2, hz_3⟩, hf_0, hf_1, hf_2, hf_3⟩ := aC4 BK500)))
     go_roundg k1
     case measure => have := HK1.out; omega
     case rel => exact ⟨(wrap64 (x10_1 + 1)), sd, y, (.slice Ao y.length co), aR, H', ⟨by have := HK1.out; omega⟩, ⟨by (with_reducible repeat (first | apply Kd.R_alloc | apply Kd.R_drewN | apply Kd.R_drew)); exact Kd.R_mono (Kd.R_far (p := ⟨gb500, 3, none⟩) (Kd.R_types HO.out BK500.out (by decide)) (fun _ hk => hk.2) (.slice Ao y.length co)) (fun _ hk => trivial)⟩, ⟨by (with_reducible repeat (first | refine blk_drewN ?_ _ | refine blk_drew ?_ | refine blk_alloc ?_ _)); refine blk_far ?_ NB493_500.out _; (with_reducible repeat (first | refine blk_drewN ?_ _ | refine blk_drew ?_ | refine blk_alloc ?_ _)); exact BK493.out⟩, ⟨by (with_reducible repeat (first | refine blk_drewN ?_ _ | refine blk_drew ?_ | refine blk_alloc ?_ _)); refine blk_put (cs := #[.int .i64 t494, .int .i64 t496, .bool t498, u501003]) ?_ 3 _ rfl; (with_reducible repeat (first | refine blk_drewN ?_ _ | refine blk_drew ?_ | refine blk_alloc ?_ _)); exact BK500.out⟩, ⟨by with_reducible repeat (first | exact HI0.out | apply IsS79.alloc | apply IsS79.drewN | refine IsS79.far ?_ NB0_500.out _ | refine IsS79.far ?_ NB0_493.out _)⟩, ⟨by with_reducible repeat (first | exact HK.out | apply keep_drewN | apply keep_alloc | refine keep_far ?_ GW500.out _ | refine keep_far ?_ GW493.out _)⟩, aBl HB⟩
    case first =>
     have H := H'.out
     clear H'
     by_cases c23 : (Int.tmod x10_1 t494) = 0
     case' pos =>
      rw [if_pos c23] at H
      obtain ⟨c23b0, c23b1⟩ := aEq c23
     case' neg =>
      rw [if_neg c23] at H
      obtain ⟨c23b0, c23b1⟩ := aNe c23
      by_cases c31 : (Int.tmod x10_1 t494) = (wrap64 (t494 - 1))
      case' pos =>
       rw [if_pos c31] at H
       obtain ⟨c31b0, c31b1⟩ := aEq c31
      case' neg =>
       rw [if_neg c31] at H
       obtain ⟨c31b0, c31b1⟩ := aNe c31
       by_cases c39 : (Int.tmod x10_1 t494) = t501
       case' neg =>
        rw [if_neg c39] at H
        obtain ⟨c39b0, c39b1⟩ := aNe c39
       case' pos =>
        rw [if_pos c39] at H
        obtain ⟨c39b0, c39b1⟩ := aEq c39
        cases Decidable.em ((wrap64 (Int.tdiv x10_1 t494)) = t503)
        case' inl c40 =>
         rw [if_pos c40] at H
         obtain ⟨c40b0, c40b1⟩ := aEq c40
         by_cases c41 : t496 > 1
         case' pos =>
          rw [if_pos c41] at H
          have c41b0 := decide_eq_true c41
         case' neg =>
          rw [if_neg c41] at H
          have c41b0 := decide_eq_false c41
        case' inr c40 =>
         rw [if_neg c40] at H
         obtain ⟨c40b0, c40b1⟩ := aNe c40
         replace H := Option.bind_eq_some_iff.mp H
         obtain ⟨⟨t517, t518⟩, A560, H⟩ := H
         dsimp only at H
         have A56 := Aside0.mk A560
         clear A560
         cases t517
         case' false => rw [if_neg (show ¬ (false = true) by decide)] at H
         case' true =>
          rw [if_pos rfl] at H
          by_cases c58 : t496 > 1
          case' pos =>
           rw [if_pos c58] at H
           have c58b0 := decide_eq_true c58
          case' neg =>
           rw [if_neg c58] at H
           have c58b0 := decide_eq_false c58
     all_goals
      have H' := Aside0.mk H
      clear H
      go_wp2_with (first | (go_at_call 66; (with_reducible refine (thermionkit_Dice_One.calls g x1000_1 3 _ t518 w0 _ ?side1 ?side2 A56.out).mono ?_); (case side1 => repeat (first | (with_reducible first | exact HI0.out | apply IsS79.alloc | apply IsS79.drewN | apply IsS79.drew | apply IsS79.set_0 | refine IsS79.far ?_ NB0_493.out _ | refine IsS79.far ?_ NB0_500.out _) | exact HI0.out)); (case side2 => repeat (first | (with_reducible first | exact HB.out | apply below_alloc | apply pw_below_drewN | apply below_drew1 | refine below_set ?_ (IsS79.ge HI0.out) | refine below_set ?_ GE493.out | refine below_set ?_ GE500.out) | exact HB.out)); rintro e w63 ⟨rfl, hi, hb, hk⟩; replace HO_501003 := Aside0.mk (Kd.R_mono (Kd.R_keep (IsS79.apart (show IsS79 w0 _ g x1000_1 from by with_reducible repeat (first | exact HI0.out | apply IsS79.alloc | apply IsS79.drewN | refine IsS79.far ?_ NB0_500.out _ | refine IsS79.far ?_ NB0_493.out _)) (aRk HO_501003).out (by decide)) hk (fun _ h => h.2)) (fun _ h => h.1)); replace BK493 := Aside0.mk (KeepBut.blk hk (g' := gb493) (o := .cells #[.int .i64 0, .int .i64 0, .bool false, .slice none 0 0] 24 (0, 0)) (aBk BK493).out NB493_0.out (by simp)); replace BK500 := Aside0.mk (KeepBut.blk hk (g' := gb500) (o := .cells #[.int .i64 t494, .int .i64 t496, .bool t498, u501003] 24 (0, 0)) (aBk BK500).out NB500_0.out (by simp)); replace HK := Aside0.mk (KeepBut.trans (by with_reducible repeat (first | exact HK.out | apply keep_drewN | apply keep_alloc | refine keep_far ?_ GW500.out _ | refine keep_far ?_ GW493.out _)) hk (.inl rfl)); replace HB := Aside0.mk (hb); replace HI0 := Aside0.mk (hi); clear hb hk hi; obtain ⟨⟨hz_0, hz_1, hz_2, hz_3⟩, hf_0, hf_1, hf_2, hf_3⟩ := aC4 BK500))
      repeat (go_quiet (fail); try go_wp2_with (first | (go_at_call 66; (with_reducible refine (thermionkit_Dice_One.calls g x1000_1 3 _ t518 w0 _ ?side1 ?side2 A56.out).mono ?_); (case side1 => repeat (first | (with_reducible first | exact HI0.out | apply IsS79.alloc | apply IsS79.drewN | apply IsS79.drew | apply IsS79.set_0 | refine IsS79.far ?_ NB0_493.out _ | refine IsS79.far ?_ NB0_500.out _) | exact HI0.out)); (case side2 => repeat (first | (with_reducible first | exact HB.out | apply below_alloc | apply pw_below_drewN | apply below_drew1 | refine below_set ?_ (IsS79.ge HI0.out) | refine below_set ?_ GE493.out | refine below_set ?_ GE500.out) | exact HB.out)); rintro e w63 ⟨rfl, hi, hb, hk⟩; replace HO_501003 := Aside0.mk (Kd.R_mono (Kd.R_keep (IsS79.apart (show IsS79 w0 _ g x1000_1 from by with_reducible repeat (first | exact HI0.out | apply IsS79.alloc | apply IsS79.drewN | refine IsS79.far ?_ NB0_500.out _ | refine IsS79.far ?_ NB0_493.out _)) (aRk HO_501003).out (by decide)) hk (fun _ h => h.2)) (fun _ h => h.1)); replace BK493 := Aside0.mk (KeepBut.blk hk (g' := gb493) (o := .cells #[.int .i64 0, .int .i64 0, .bool false, .slice none 0 0] 24 (0, 0)) (aBk BK493).out NB493_0.out (by simp)); replace BK500 := Aside0.mk (KeepBut.blk hk (g' := gb500) (o := .cells #[.int .i64 t494, .int .i64 t496, .bool t498, u501003] 24 (0, 0)) (aBk BK500).out NB500_0.out (by simp)); replace HK := Aside0.mk (KeepBut.trans (by with_reducible repeat (first | exact HK.out | apply keep_drewN | apply keep_alloc | refine keep_far ?_ GW500.out _ | refine keep_far ?_ GW493.out _)) hk (.inl rfl)); replace HB := Aside0.mk (hb); replace HI0 := Aside0.mk (hi); clear hb hk hi; obtain ⟨⟨hz_0, hz_1, hz_2, hz_3⟩, hf_0, hf_1, hf_2, hf_3⟩ := aC4 BK500)))
      go_meet
      case rel =>
       have H := H'.out
       by_cases c24 : x501003_1.length < 17592186044416
       ·rw [if_pos c24] at H
        exact ⟨_, _, rfl, ⟨c24⟩, ⟨H⟩, aRk HO_501003, aBk BK493, aBk BK500, ⟨by with_reducible repeat (first | exact HI0.out | apply IsS79.alloc | apply IsS79.drewN | refine IsS79.far ?_ NB0_500.out _ | refine IsS79.far ?_ NB0_493.out _)⟩, ⟨by with_reducible repeat (first | exact HK.out | apply keep_drewN | apply keep_alloc | refine keep_far ?_ GW500.out _ | refine keep_far ?_ GW493.out _)⟩, aBl HB⟩
       ·rw [if_neg c24] at H
        exact absurd H (by simp)
   ·rw [if_neg c21] at H
    have c21b0 := decide_eq_false c21
    clear c21
    simp only [Option.some.injEq, Prod.mk.injEq] at H
    obtain ⟨rfl, rfl, rfl, rfl, rfl⟩ := H
    have hnb93 := NB500_493.out
    have hnc93 := NB493_500.out
    have hnb94 := NB500_0.out
    have hnc94 := NB0_500.out
    obtain ⟨⟨hcz95_0, hcz95_1, hcz95_2, hcz95_3⟩, hfz95_0, hfz95_1, hfz95_2, hfz95_3⟩ := aC4 BK500
    have hnb96 := NB493_0.out
    have hnc96 := NB0_493.out
    obtain ⟨⟨hcz97_0, hcz97_1, hcz97_2, hcz97_3⟩, hfz97_0, hfz97_1, hfz97_2, hfz97_3⟩ := aC4 BK493
    obtain ⟨Ao98, co98, eo98⟩ := Kd.R_slice HO_501003.out
    subst eo98
    go_wp2
    repeat (go_quiet (fail); try go_wp2)
    refine bodyPost_ret (results_cell_row rfl _ _ gb493 24 #[.int .i64 t494, .int .i64 t496, .bool t498, .slice Ao98 x501003_1.length co98] (0, 0) _ rfl (by (with_reducible repeat (first | refine blk_drewN ?_ _ | refine blk_drew ?_ | refine blk_alloc ?_ _)); refine blk_put (cs := #[.int .i64 t494, .int .i64 t496, .bool t498, .slice none 0 0]) ?_ 3 _ rfl; (with_reducible repeat (first | refine blk_drewN ?_ _ | refine blk_drew ?_ | refine blk_alloc ?_ _)); refine blk_put (cs := #[.int .i64 t494, .int .i64 t496, .bool false, .slice none 0 0]) ?_ 2 _ rfl; (with_reducible repeat (first | refine blk_drewN ?_ _ | refine blk_drew ?_ | refine blk_alloc ?_ _)); refine blk_put (cs := #[.int .i64 t494, .int .i64 0, .bool false, .slice none 0 0]) ?_ 1 _ rfl; (with_reducible repeat (first | refine blk_drewN ?_ _ | refine blk_drew ?_ | refine blk_alloc ?_ _)); refine blk_put (cs := #[.int .i64 0, .int .i64 0, .bool false, .slice none 0 0]) ?_ 0 _ rfl; (with_reducible repeat (first | refine blk_drewN ?_ _ | refine blk_drew ?_ | refine blk_alloc ?_ _)); exact BK493.out) Try.underlying24 rfl (by kernel_rfl)) rfl ?_
    exact ⟨_, by first | rfl | (simp [errW_none, errW_some] <;> rfl) | (simp only [← hji4]; first | rfl | (simp [errW_none, errW_some] <;> rfl)) | (simp [*, errW_none, errW_some] <;> rfl), by (with_reducible repeat (first | apply Kd.R_alloc | apply Kd.R_drewN | apply Kd.R_drew)); exact Kd.R_mono (Kd.R_far (p := ⟨gb493, 3, none⟩) (Kd.R_far (p := ⟨gb493, 2, none⟩) (Kd.R_far (p := ⟨gb493, 1, none⟩) (Kd.R_far (p := ⟨gb493, 0, none⟩) (Kd.R_types HO_501003.out BK493.out (by decide)) (fun _ hk => hk.2) (.int .i64 t494)) (fun _ hk => hk.2) (.int .i64 t496)) (fun _ hk => hk.2) (.bool t498)) (fun _ hk => hk.2) (.slice Ao98 x501003_1.length co98)) (fun _ hk => trivial), by with_reducible repeat (first | exact HI0.out | apply IsS79.alloc | apply IsS79.drewN | refine IsS79.far ?_ NB0_500.out _ | refine IsS79.far ?_ NB0_493.out _), by with_reducible repeat (first | exact HB.out | apply below_alloc | apply pw_below_drewN | refine below_set ?_ GE500.out | refine below_set ?_ GE493.out), by with_reducible repeat (first | exact HK.out | apply keep_drewN | apply keep_alloc | refine keep_far ?_ GW500.out _ | refine keep_far ?_ GW493.out _)⟩
theorem tube_go {W H : Nat} (hW : 1 ≤ W ∧ W ≤ 64) (hH : H ≤ 64) (R : Bool) (x8 x9 : Int) : ∀ (d i : Nat) (s : Int) (C : List Int), i + d = W * H → C.length = i → ∃ C' s', thermionkit_Tube.l0 (d + 1) x8 x9 (i : Int) s W H R C = some ((W : Int), (H : Int), R, C', s') ∧ C'.length = W * H
 | 0, i, s, C, h, hl => by
  have hWH : W * H ≤ 64 * 64 := Nat.mul_le_mul hW.2 hH
  have hw : wrap64 ((W : Int) * H) = ((W * H : Nat) : Int) := by rw [← Int.natCast_mul, IntWalk.wrap64_in _ (by omega)]
  exact ⟨C, s, by rw [thermionkit_Tube.l0, hw, if_neg (by omega)], by omega⟩
 | d + 1, i, s, C, h, hl => by
  have hWH : W * H ≤ 64 * 64 := Nat.mul_le_mul hW.2 hH
  have hw : wrap64 ((W : Int) * H) = ((W * H : Nat) : Int) := by rw [← Int.natCast_mul, IntWalk.wrap64_in _ (by omega)]
  have hi : wrap64 ((i : Int) + 1) = ((i + 1 : Nat) : Int) := by rw [IntWalk.wrap64_in _ (by omega)]; omega
  have ih : ∀ (s : Int) (x : Int), ∃ C' s', thermionkit_Tube.l0 (d + 1) x8 x9 ((i + 1 : Nat) : Int) s W H R (C ++ [x]) = some ((W : Int), (H : Int), R, C', s') ∧ C'.length = W * H := fun s x => tube_go hW hH R x8 x9 d (i + 1) s (C ++ [x]) (by omega) (by rw [List.length_append]; simp; omega)
  have hc : C.length < 17592186044416 := by omega
  obtain ⟨t, ht⟩ := one_eq s 3 (by omega) (by omega)
  rw [thermionkit_Tube.l0, hw, if_pos (by omega), if_neg (by omega), hi, ht]
  simp only [if_pos hc, Option.bind_some]
  split
  ·exact ih _ _
  ·split
   ·exact ih _ _
   ·split
    ·split
     ·split
      ·exact ih _ _
      ·exact ih _ _
     ·split
      ·split
       ·exact ih _ _
       ·exact ih _ _
      ·exact ih _ _
    ·exact ih _ _
theorem tube_total (s a1 a2 : Int) (h1 : 4 ≤ a1 ∧ a1 ≤ 16) (h2 : 1 ≤ a2 ∧ a2 ≤ 16) : ∃ (W H : Int) (R : Bool) (C : List Int) (s1 : Int) (K : Nat), thermionkit_Tube.f K s a1 a2 = some (W, H, R, C, s1) ∧ C.length ≤ 256 ∧ 0 < C.length := by
 have hm : mx 4 a1 = a1 := by unfold mx; split <;> omega
 obtain ⟨W, e1, b1, b2⟩ := between_eq s 4 a1 h1.1 (by omega) (by omega)
 obtain ⟨H, e2, b3, b4⟩ := between_eq (nextWord s) 1 a2 h2.1 (by omega) (by omega)
 obtain ⟨R, e3⟩ := one_eq (nextWord (nextWord s)) 2 (by omega) (by omega)
 have hw : wrap64 (W - 2) = W - 2 := IntWalk.wrap64_in _ (by omega)
 obtain ⟨x8, e4, _, _⟩ := between_eq (nextWord (nextWord (nextWord s))) 1 (W - 2) (by omega) (by omega) (by omega)
 obtain ⟨x9, e5, _, _⟩ := upto_eq (nextWord (nextWord (nextWord (nextWord s)))) H (by omega) (by omega)
 obtain ⟨W', rfl⟩ : ∃ n : Nat, W = n := ⟨W.toNat, by omega⟩
 obtain ⟨H', rfl⟩ : ∃ n : Nat, H = n := ⟨H.toNat, by omega⟩
 obtain ⟨C, s1, h, hl⟩ := tube_go (W := W') (H := H') ⟨by omega, by omega⟩ (by omega) R x8 x9 (W' * H') 0 (nextWord (nextWord (nextWord (nextWord (nextWord s))))) [] (by omega) rfl
 refine ⟨W', H', R, C, s1, W' * H' + 1, ?_, ?_, ?_⟩
 ·unfold thermionkit_Tube.f
  rw [hm, obind e1, obind e2, obind e3, hw, obind e4, obind e5]
  exact h
 ·rw [hl]
  exact Nat.mul_le_mul (show W' ≤ 16 by omega) (show H' ≤ 16 by omega)
 ·rw [hl]
  exact Nat.mul_pos (by omega) (by omega)
theorem plays_calls (A0 : Option Addr) (c0 : Nat) (l0 : List Int) (a1 a2 a3 a4 : Int) (w : World) (hr0 : Kd.C (Kd.int .i64) w A0 l0.length l0) (hc0 : l0.length ≤ c0) :
  Calls Try.prog 60 #[.slice A0 l0.length c0, .int .i64 a1, .int .i64 a2, .int .i64 a3, .int .i64 a4] w fun e w' => e = .returned (.bool true) ∧ Below w.heap.size w w' := by
 obtain ⟨s0, hs0⟩ : ∃ s, thermionkit_NewDice.f l0 = some s := ⟨_, rfl⟩
 obtain ⟨W', H', R', C', s1, hpl, hpos, hsm⟩ := plan_total s0 6 4 (by omega) (by omega)
 obtain ⟨W2, H2, R2, C2, s2, KT, htu, hlen2, hpos2⟩ := tube_total s1 7 5 (by omega) (by omega)
 obtain ⟨n, hn, -⟩ := mod_eq a1 26 (by omega) (by omega)
 have HPL := Aside0.mk hpl
 have HTU := Aside0.mk htu
 have HPOS := Aside0.mk hpos
 have HPOS2 := Aside0.mk hpos2
 have HSMA := Aside0.mk (And.intro hsm hlen2)
 have HND := Aside0.mk hs0
 have HMD := Aside0.mk hn
 have HR0 := Aside0.mk hr0
 have HC0 := Aside0.mk hc0
 have HM := Aside0.mk (Mem.start w)
 have hu24 := Try.underlying24
 have hu56 := Try.underlying56
 clear hr0 hc0 hs0 hpl htu hpos hpos2 hsm hlen2 hn
 go_enter Try.func60, Try.ntmps60
 go_wp2_with (first
  | (go_at_call 21; refine (thermionkit_NewDice.calls A0 c0 l0 s0 w w (Below.refl _ _) HR0.out HC0.out HND.out).mono ?_; rintro e1 w1 ⟨g, rfl, hI, hB, hb⟩; have HMa := Aside0.mk (HM.out.add hb hI.1 hI.2); clear hI hB hb HND HM)
  | (go_at_call 22; (with_reducible refine (thermionkit_PlanOf.calls g s0 6 4 W' H' R' C' s1 w _ (dice_is HMa.out) HMa.out.below HPL.out).mono ?_); rintro e1 w2 ⟨vp, rfl, hR, hI, hB, hK⟩; obtain ⟨gC, cC, cuC, rfl, hcC, hnC, hm1⟩ := dice_row HMa.out hK hB hI hR HPOS.out; have HNC := Aside0.mk (And.intro hnC hcC); have HMb := Aside0.mk hm1; clear hR hI hB hK hcC hnC hm1 HMa HPL)
  | (go_at_call 54; (with_reducible refine (thermionkit_Tube.calls KT g s1 7 5 W2 H2 R2 C2 s2 w _ (dice_is HMb.out.swap) HMb.out.swap.below HTU.out).mono ?_); rintro e1 w3 ⟨vp, rfl, hR, hI, hB, hK⟩; obtain ⟨g2, c2, cu2, rfl, hcC, hnC, hm1⟩ := dice_row HMb.out.swap hK hB hI hR HPOS2.out; have HN2 := Aside0.mk (And.intro hnC hcC); have HMc := Aside0.mk hm1; clear hR hI hB hK hcC hnC hm1 HMb HTU)
  | ((with_reducible refine gate_dst (N := 25) rfl ?_); refine ev_lit HMc.out rfl [.int .i64 W', .int .i64 H', .bool R', .slice (some ⟨gC, 0, none⟩) C'.length cC, .int .i64 W2, .int .i64 H2, .bool R2, .slice (some ⟨g2, 0, none⟩) C2.length c2] 2 24 ?hrl ?_; (case hrl => first | (go_simp; done) | (go_simp; rfl)); intro gl w4 hm1 hq1; have HMd := Aside0.mk hm1; clear hm1 hq1 HMc)
  | (go_at_call 28; refine (thermionkit_Mod.calls a1 26 n _ HMD.out).mono ?_; rintro e1 y1 ⟨rfl, hb⟩; have HQ := Aside0.mk (HMd.out.step hb.below); clear hb HMd HMD))
 have HLS : Aside0 (∀ i : Nat, i < 2 → ∃ (Wx Hx : Int) (Rx : Bool) (Ax : Option Addr) (cx : Nat) (Cx : List Int), Kd.C (Kd.int .i64) y1 Ax Cx.length Cx ∧ Cx.length ≤ cx ∧ Cx.length ≤ 300 ∧ y1.cell? ⟨gl, i * 4, none⟩ = some (.int .i64 Wx) ∧ y1.cell? ⟨gl, i * 4 + 1, none⟩ = some (.int .i64 Hx) ∧ y1.cell? ⟨gl, i * 4 + 2, none⟩ = some (.bool Rx) ∧ y1.cell? ⟨gl, i * 4 + 3, none⟩ = some (.slice Ax Cx.length cx)) := ⟨fun i hi => by
  have hc := blk_cell HQ.out.head
  rcases (show i = 0 ∨ i = 1 by omega) with rfl | rfl
  ·exact ⟨W', H', R', some ⟨gC, 0, none⟩, cC, C', C_mem (HQ.out.blk (gC, cuC, 3) (by simp)) HNC.out.1, HNC.out.2, by have := HSMA.out.1; omega, (hc 0).trans rfl, (hc 1).trans rfl, (hc 2).trans rfl, (hc 3).trans rfl⟩
  ·exact ⟨W2, H2, R2, some ⟨g2, 0, none⟩, c2, C2, C_mem (HQ.out.blk (g2, cu2, 3) (by simp)) HN2.out.1, HN2.out.2, by have := HSMA.out.2; omega, (hc 4).trans rfl, (hc 5).trans rfl, (hc 6).trans rfl, (hc 7).trans rfl⟩⟩
 have HB0 := Aside0.mk HQ.out.below
 clear HQ HNC HN2 HR0 HC0 HSMA HPOS HPOS2
 go_loopg [2, 3, 4, 14] 2 (fun k v2 v3 v4 v14 w' => ∃ (k0 g0 a : Int) (i : Nat), v2 = .int .i64 k0 ∧ v3 = .int .i64 g0 ∧ v4 = .int .i64 a ∧ v14 = .int .i64 (i : Int) ∧ Aside0 (i + k = 2) ∧ Aside0 (Below y1.heap.size y1 w'))
 case atStart => exact ⟨a2, a3, a4, 0, rfl, rfl, rfl, by go_num, ⟨by omega⟩, ⟨Below.refl _ _⟩⟩
 case round =>
  obtain ⟨k0, g0, a, i, rfl, rfl, rfl, rfl, HK, HBW⟩ := hrel
  by_cases hi3 : i < 2
  ·have HI3 := Aside0.mk hi3
   have b1 : decide ((i : Int) < 2) = true := by simp; omega
   have b2 : decide (i < 2) = true := by simp; omega
   have b3 : (0 : Int) ≤ (i : Int) := by omega
   have b4 : (i : Int) < 2 := by omega
   have b5 : wrap64 ((i : Int) + 1) = ((i + 1 : Nat) : Int) := by rw [IntWalk.wrap64_in _ (by omega)]; omega
   obtain ⟨Wx, Hx, Rx, Ax, cx, Cx, hX, hcx, hn3, c0, c1, c2', c3'⟩ := HLS.out i hi3
   have HX := Aside0.mk (Kd.C_below hX HBW.out)
   have HCX := Aside0.mk hcx
   have HNX := Aside0.mk hn3
   have HCL : Aside0 (∀ V, Below y1.heap.size y1 V → V.cell? ⟨gl, i * 4, none⟩ = some (.int .i64 Wx) ∧ V.cell? ⟨gl, i * 4 + 1, none⟩ = some (.int .i64 Hx) ∧ V.cell? ⟨gl, i * 4 + 2, none⟩ = some (.bool Rx) ∧ V.cell? ⟨gl, i * 4 + 3, none⟩ = some (.slice Ax Cx.length cx)) := ⟨fun V hV => ⟨cell_later hV c0, cell_later hV c1, cell_later hV c2', cell_later hV c3'⟩⟩
   have HM0 := Aside0.mk (Mem.start wr)
   clear hX hcx hn3 c0 c1 c2' c3' hi3
   obtain ⟨m2, hm2, -⟩ := mod_eq k0 5 (by omega) (by omega)
   obtain ⟨m3, hm3, -⟩ := mod_eq g0 5 (by omega) (by omega)
   obtain ⟨m4, hm4, -⟩ := mod_eq a 5 (by omega) (by omega)
   have HM2 := Aside0.mk hm2
   have HM3 := Aside0.mk hm3
   have HM4 := Aside0.mk hm4
   clear hm2 hm3 hm4
   go_upto_region 8 with (first
    | (go_at_call 28; refine (thermionkit_Mod.calls k0 5 m2 _ HM2.out).mono ?_; rintro e1 z1 ⟨rfl, hb⟩; clear HM2; have HX2 := Aside0.mk (HM0.out.step hb.below); clear hb HM0; have HM0 := HX2; clear HX2)
    | (go_at_call 28; refine (thermionkit_Mod.calls g0 5 m3 _ HM3.out).mono ?_; rintro e1 z2 ⟨rfl, hb⟩; clear HM3; have HX2 := Aside0.mk (HM0.out.step hb.below); clear hb HM0; have HM0 := HX2; clear HX2)
    | (go_at_call 28; refine (thermionkit_Mod.calls a 5 m4 _ HM4.out).mono ?_; rintro e1 z3 ⟨rfl, hb⟩; clear HM4; have HX2 := Aside0.mk (HM0.out.step hb.below); clear hb HM0; have HM0 := HX2; clear HX2))
   have d5 : decide ((i : Int) > 0) = decide (0 < i) := by
    by_cases z2 : 0 < i
    ·rw [decide_eq_true z2]; simp; omega
    ·rw [decide_eq_false z2]; simp; omega
   obtain ⟨q, d6⟩ : ∃ q : Int, (n : Int) % 4 = q := ⟨_, rfl⟩
   have d7 : IntKind.i64.wrap (Int.tmod (n : Int) 4) = q := by
    rw [Int.tmod_eq_emod_of_nonneg (by omega), d6]
    exact IntWalk.i64_in _ (by omega)
   by_cases z1 : 0 < i
   case' neg =>
    have d8 : decide ((i : Int) > 0) = false := by rw [d5]; simpa using z1
    have d9 : decide (0 < i) = false := by simpa using z1
    clear z1 d5 d6 d7
    go_upto_region 10 with fail
    clear d8 d9
    generalize hp : playE Wx Hx Rx Cx (n : Int) (m2 : Int) (m3 : Int) (m4 : Int) = pp
    obtain ⟨p1, p2⟩ := pp
    have HP := Aside0.mk hp
    clear hp
   case' pos =>
    have d8 : decide ((i : Int) > 0) = true := by rw [d5]; simpa using z1
    have d9 : decide (0 < i) = true := by simpa using z1
    clear z1 d5
    by_cases z2 : 0 < q
    case' neg =>
     have d10 := decide_eq_false z2
     have d11 := decide_eq_false z2
     clear z2
     go_upto_region 10 with fail
     clear d6 d7 d8 d9 d10 d11
     generalize hp : playE Wx Hx Rx Cx (n : Int) (m2 : Int) (m3 : Int) (m4 : Int) = pp
     obtain ⟨p1, p2⟩ := pp
     have HP := Aside0.mk hp
     clear hp
    case' pos =>
     have d10 := decide_eq_true z2
     have d11 := decide_eq_true z2
     clear z2
     go_upto_region 10 with fail
     clear d6 d7 d8 d9 d10 d11
     generalize hp : playE Wx Hx Rx Cx (n : Int) 1 2 3 = pp
     obtain ⟨p1, p2⟩ := pp
     have HP := Aside0.mk hp
     clear hp
   all_goals
    obtain ⟨c0, c1, c2', c3'⟩ := HCL.out _ (below_step HBW.out HM0.out.below)
    have f1 : (p1 != p1) = false := bne_eq_false_iff_eq.mpr rfl
    have f2 : (p2 != p2) = false := bne_eq_false_iff_eq.mpr rfl
    go_wp2_with (first
     | (go_at_call 61; (with_reducible refine (field_Play.calls Wx Hx Rx Ax cx Cx _ _ _ _ p1 p2 _ (Kd.C_below HX.out HM0.out.below) HCX.out (by have := HNX.out; omega) HP.out).mono ?_); rintro e1 v1 ⟨rfl, hb⟩; have HM1 := Aside0.mk (HM0.out.step hb); clear hb HM0 c0 c1 c2' c3'; obtain ⟨c0, c1, c2', c3'⟩ := HCL.out _ (below_step HBW.out HM1.out.below))
     | (go_at_call 96; (with_reducible refine (thermionref01_Play.calls Wx Hx Rx Ax cx Cx _ _ _ _ p1 p2 _ (Kd.C_below HX.out HM1.out.below) HCX.out (by have := HNX.out; omega) HP.out).mono ?_); rintro e1 v2 ⟨rfl, hb⟩; have HM2 := Aside0.mk (HM1.out.step hb); clear hb HM1 c0 c1 c2' c3'))
    go_roundg (2 - (i + 1))
    case measure => have := HK.out; have := HI3.out; omega
    case rel => exact ⟨_, _, _, i + 1, rfl, rfl, rfl, by first | exact congrArg _ b5 | go_num, ⟨by have := HK.out; have := HI3.out; omega⟩, ⟨below_step HBW.out HM2.out.below⟩⟩
  ·obtain rfl : i = 2 := by have := HK.out; omega
   have b1 : decide (((2 : Nat) : Int) < 2) = false := by simp
   go_wp2
   go_ret
   exact ⟨rfl, below_step HB0.out HBW.out⟩
theorem ev_storeK {P : Program} {ops : Array Oper} {o : Oper} {a : Act} {Q : Exit → Act → World → Prop} {rest : List Oper} {w W : World} {l : List (Nat × Array Value × TypeId)} {g : Nat} {old cs : Array Value} {t : TypeId} (hm : Mem w W ((g, old, t) :: l)) (hgd : o.guard = none) (ty : TypeId) (x y : Operand) (ho : o.op = .store ty x y)
  (hx : a.eval x = .pointer (some ⟨g, 0, none⟩)) (hy : a.eval y = .agg cs) {n : Nat} (hi : (P.info? ty).map (·.size) = some n) (hold : old.size = n) (hs : cs.size = n) (h1 : cs.all (·.oneCell') = true) (hg : 3 ≠ t)
  (h : ∀ W1, Mem w W1 ((g, cs, t) :: l) → (∀ v base ok xs, Kd.R (Kd.int .i64) 3 W base ok v xs → Kd.R (Kd.int .i64) 3 W1 base ok v xs) → wpList P ops Q rest (a.put o.dst undef) W1) : wpList P ops Q (o :: rest) a W :=
 wpList_plain hgd fun _ hK => wp_store_row ty x y ho g cs hx hy t old hm.head (by rw [hi, hs]) (by rw [hold, hs]) h1 (hK _ _ (h _ (hm.row cs) (fun _ _ _ _ hr => R_row hr hm.head hg)))
theorem shifts_calls (W H : Int) (R : Bool) (A : Option Addr) (c : Nat) (C : List Int) (e dx0 dy0 sw : Int) (A0 : Option Addr) (c0 : Nat) (l0 : List Int) (w : World) (hr : Kd.C (Kd.int .i64) w A C.length C) (hc : C.length ≤ c) (hx : Word64 dx0) (hy : Word64 dy0) (hr0 : Kd.C (Kd.int .i64) w A0 l0.length l0) (hc0 : l0.length ≤ c0) :
  Calls Try.prog 17 #[.agg (planV W H R A C.length c), .int .i64 e, .int .i64 dx0, .int .i64 dy0, .int .i64 sw, .slice A0 l0.length c0] w fun e w' => e = .returned (.bool true) ∧ Below w.heap.size w w' := by
 obtain ⟨s0, hs0⟩ : ∃ s, thermionkit_NewDice.f l0 = some s := ⟨_, rfl⟩
 obtain ⟨W', H', R', C', s1, hpl, hpos, hsm⟩ := plan_total s0 8 6 (by omega) (by omega)
 obtain ⟨m1, hm1, hm1'⟩ := mod_eq e 4 (by omega) (by omega)
 obtain ⟨m2, hm2, hm2'⟩ := mod_eq dx0 5 (by omega) (by omega)
 obtain ⟨m3, hm3, hm3'⟩ := mod_eq dy0 5 (by omega) (by omega)
 obtain ⟨dx, hdx⟩ : ∃ e : Int, (m2 : Int) - 2 = e := ⟨_, rfl⟩
 obtain ⟨dy, hdy⟩ : ∃ e : Int, (m3 : Int) - 2 = e := ⟨_, rfl⟩
 have v2 : IntKind.i64.wrap ((m2 : Int) - 2) = dx := by rw [hdx]; exact IntWalk.i64_in _ (by omega)
 have v3 : IntKind.i64.wrap ((m3 : Int) - 2) = dy := by rw [hdy]; exact IntWalk.i64_in _ (by omega)
 have v4 : IntKind.i64.wrap (dx + 2) = (m2 : Int) := by rw [show dx + 2 = (m2 : Int) by omega]; exact IntWalk.i64_in _ (by omega)
 have v5 : IntKind.i64.wrap (dy + 2) = (m3 : Int) := by rw [show dy + 2 = (m3 : Int) by omega]; exact IntWalk.i64_in _ (by omega)
 have HBD := Aside0.mk (And.intro hx.range hy.range)
 have HBD2 : Aside0 ((-9223372036854775808 ≤ dx ∧ dx ≤ 9223372036854775807) ∧ (-9223372036854775808 ≤ dy ∧ dy ≤ 9223372036854775807)) := ⟨⟨⟨by omega, by omega⟩, ⟨by omega, by omega⟩⟩⟩
 have HND := Aside0.mk hs0
 have HPL := Aside0.mk hpl
 have HPOS := Aside0.mk hpos
 have HSMA := Aside0.mk hsm
 have HM1 := Aside0.mk hm1
 have HM2' := Aside0.mk hm2
 have HM3 := Aside0.mk hm3
 have HAW := Aside0.mk awake_true
 have HR := Aside0.mk hr
 have HC := Aside0.mk hc
 have HR0 := Aside0.mk hr0
 have HC0 := Aside0.mk hc0
 have HM := Aside0.mk (Mem.start w)
 obtain ⟨b, hb⟩ : ∃ b, decide (300 < C.length) = b := ⟨_, rfl⟩
 have HBG := Aside0.mk hb
 have HNb : Aside0 (b = false → C.length ≤ 300) := ⟨fun z => by subst z; simpa using hb⟩
 have hu24 := Try.underlying24
 have hu22 := Try.underlying22
 clear hr hc hx hy hr0 hc0 hs0 hpl hpos hsm hm1 hm2 hm3 hm1' hm2' hm3' hdx hdy hb
 go_enter Try.func17, Try.ntmps17
 cases b
 case true =>
  go_wp2_with (first
  | ((with_reducible refine gate_dst (N := 6) rfl ?_); refine ev_box HM.out rfl 24 (.tmp 0) rfl (cs := planV W H R A C.length c) rfl ?_; intro gp w1 hm1 hq1; clear hq1; have HM1 := Aside0.mk hm1; clear hm1 HM)
  | ((with_reducible refine gate_dst (N := 19) rfl ?_); refine ev_load HM1.out.head rfl 24 (.tmp 6) rfl rfl _ Try.underlying24 rfl size24 rfl ?_)
  | (go_at_call 19; (with_reducible refine (big_none W H R A c C true _ (Kd.C_below HR.out HM1.out.below) HC.out HBG.out).mono ?_); rintro e1 we ⟨rfl, hb⟩; have HM3 := Aside0.mk (HM1.out.step hb); clear hb HM1; have HEB := Aside0.mk HM3.out.below; have HP := Aside0.mk HM3.out.head; replace HR := Aside0.mk (Kd.C_below HR.out HEB.out); replace HR0 := Aside0.mk (Kd.C_below HR0.out HEB.out); clear HM3 HBG)
  | (go_at_call 20; (with_reducible refine (thermionlaw01_awake.calls 10 true _ HAW.out).mono ?_); rintro e1 wE ⟨rfl, hb⟩; have HE := Aside0.mk (below_step HEB.out hb); clear hb))
  go_ret
  exact ⟨rfl, HE.out⟩
 case false =>
 have HN := Aside0.mk (HNb.out rfl)
 clear HNb
 go_upto_region 5 with (first
  | ((with_reducible refine gate_dst (N := 6) rfl ?_); refine ev_box HM.out rfl 24 (.tmp 0) rfl (cs := planV W H R A C.length c) rfl ?_; intro gp w1 hm1 hq1; clear hq1; have HM1 := Aside0.mk hm1; clear hm1 HM)
  | ((with_reducible refine gate_dst (N := 19) rfl ?_); refine ev_load HM1.out.head rfl 24 (.tmp 6) rfl rfl _ Try.underlying24 rfl size24 rfl ?_)
  | (go_at_call 19; (with_reducible refine (big_none W H R A c C false _ (Kd.C_below HR.out HM1.out.below) HC.out HBG.out).mono ?_); rintro e1 we ⟨rfl, hb⟩; have HM3 := Aside0.mk (HM1.out.step hb); clear hb HM1; have HEB := Aside0.mk HM3.out.below; have HP := Aside0.mk HM3.out.head; replace HR := Aside0.mk (Kd.C_below HR.out HEB.out); replace HR0 := Aside0.mk (Kd.C_below HR0.out HEB.out); clear HM3 HBG)
  | (go_at_call 21; (with_reducible refine (thermionkit_NewDice.calls A0 c0 l0 s0 we we (Below.refl _ _) HR0.out HC0.out HND.out).mono ?_); rintro e1 w1 ⟨g, rfl, hI, hB, hb⟩; have HMa := Aside0.mk ((Mem.start we).add hb hI.1 hI.2); clear hI hB hb HND)
  | (go_at_call 22; (with_reducible refine (thermionkit_PlanOf.calls g s0 8 6 W' H' R' C' s1 we _ (dice_is HMa.out) HMa.out.below HPL.out).mono ?_); rintro e1 w2 ⟨vp, rfl, hR, hI, hB, hK⟩; obtain ⟨gC, cC, cuC, rfl, hcC, hnC, hm1⟩ := dice_row HMa.out hK hB hI hR HPOS.out; have HNC := Aside0.mk (And.intro hnC hcC); have HM := Aside0.mk hm1; clear hR hI hB hK hcC hnC hm1 HMa HPL)
  | ((with_reducible refine gate_dst (N := 13) rfl ?_); refine ev_new HM.out rfl 24 rfl info24 ?_; intro g13 w3 hm1 hq1; have HM2 := Aside0.mk hm1; clear hm1 hq1 HM; have HM := HM2; clear HM2)
  | ((with_reducible refine gate_store (t := 24) (p := 13) rfl ?_); refine ev_storeK HM.out rfl 24 (.tmp 13) (.tmp 24) rfl rfl (cs := #[.int .i64 W', .int .i64 H', .bool R', .slice (some ⟨gC, 0, none⟩) C'.length cC]) rfl size24 rfl rfl (by simp [Value.oneCell']) (by decide) ?_; intro w4 hm1 hq1; have HM2 := Aside0.mk hm1; clear hm1 hq1 HM; have HM := HM2; clear HM2)
  | ((with_reducible refine gate_dst (N := 25) rfl ?_); refine ev_load (HM.out.blk (g13, #[.int .i64 W', .int .i64 H', .bool R', .slice (some ⟨gC, 0, none⟩) C'.length cC], 24) (by simp)) rfl 24 (.tmp 13) rfl rfl _ Try.underlying24 rfl size24 rfl ?_)
  | (go_at_call 24; (with_reducible refine (thermionref01_Copy.calls W' H' R' (some ⟨gC, 0, none⟩) cC C' W' H' R' C' _ (C_mem (HM.out.blk (gC, cuC, 3) (by simp)) HNC.out.1) HNC.out.2 (refcopy_eq W' H' R' C' (by have := HSMA.out; omega))).mono ?_); rintro e1 w5 ⟨vq, rfl, hR, hb⟩; obtain ⟨Ao, co, eq⟩ := Kd.R_slice hR; subst eq; have HO := Aside0.mk hR; have HM2 := Aside0.mk (HM.out.step hb); clear hb hR HM; have HM := HM2; clear HM2)
  | ((with_reducible refine gate_dst (N := 14) rfl ?_); refine ev_new HM.out rfl 24 rfl info24 ?_; intro g14 w6 hm1 hq1; have HM2 := Aside0.mk hm1; replace HO := Aside0.mk (Kd.R_below HO.out hq1); clear hm1 hq1 HM; have HM := HM2; clear HM2)
  | ((with_reducible refine gate_store (t := 24) (p := 14) rfl ?_); refine ev_storeK HM.out rfl 24 (.tmp 14) (.tmp 26) rfl rfl (cs := #[.int .i64 W', .int .i64 H', .bool R', .slice Ao C'.length co]) rfl size24 rfl rfl (by simp [Value.oneCell']) (by decide) ?_; intro w7 hm1 hq1; have HM2 := Aside0.mk hm1; replace HO := Aside0.mk (hq1 _ _ _ _ HO.out); clear hm1 hq1 HM; have HM := HM2; clear HM2))
 generalize hq : shiftE W H R C e dx0 dy0 = q
 obtain ⟨q1, q2, q3, q4, q5⟩ := q
 have hql := shiftE_len hq
 obtain ⟨KQ, hKQ⟩ := refsame_eq q1 q2 q3 q4 q1 q2 q3 q4 (by have := HN.out; omega)
 have hkq := hKQ KQ (Nat.le_refl _)
 rw [show decide (q1 = q1 ∧ q2 = q2 ∧ q3 = q3 ∧ q4 = q4) = true by simp] at hkq
 have HQE := Aside0.mk hq
 have HKQ := Aside0.mk hkq
 clear hq hql hKQ hkq
 have f1 : (q5 != q5) = false := bne_eq_false_iff_eq.mpr rfl
 go_upto_region 7 with (first
  | ((with_reducible refine gate_dst (N := 28) rfl ?_); refine ev_load (blk_below HP.out HM.out.below) rfl 24 (.tmp 6) rfl rfl _ Try.underlying24 rfl size24 rfl ?_)
  | (go_at_call 58; (with_reducible refine (field_Shift.calls W H R A c C e dx0 dy0 q1 q2 q3 q4 q5 _ (Kd.C_below HR.out HM.out.below) HC.out (by have := HN.out; omega) HQE.out).mono ?_); rintro e1 w8 ⟨vq, rfl, hR, hb⟩; obtain ⟨Aq, cq, eq⟩ := Kd.R_slice hR; subst eq; have HQ4 := Aside0.mk hR; have HM2 := Aside0.mk (HM.out.step hb); replace HO := Aside0.mk (Kd.R_below HO.out hb); clear hb hR HM; have HM := HM2; clear HM2)
  | ((with_reducible refine gate_dst (N := 15) rfl ?_); refine ev_new HM.out rfl 24 rfl info24 ?_; intro g15 w9 hm1 hq1; have HM2 := Aside0.mk hm1; replace HO := Aside0.mk (Kd.R_below HO.out hq1); replace HQ4 := Aside0.mk (Kd.R_below HQ4.out hq1); clear hm1 hq1 HM; have HM := HM2; clear HM2)
  | ((with_reducible refine gate_store (t := 24) (p := 15) rfl ?_); refine ev_storeK HM.out rfl 24 (.tmp 15) (.tmp 33) rfl rfl (cs := #[.int .i64 q1, .int .i64 q2, .bool q3, .slice Aq q4.length cq]) rfl size24 rfl rfl (by simp [Value.oneCell']) (by decide) ?_; intro w10 hm1 hq1; have HM2 := Aside0.mk hm1; replace HO := Aside0.mk (hq1 _ _ _ _ HO.out); replace HQ4 := Aside0.mk (hq1 _ _ _ _ HQ4.out); clear hm1 hq1 HM; have HM := HM2; clear HM2)
  | ((with_reducible refine gate_dst (N := 36) rfl ?_); refine ev_load (blk_below HP.out HM.out.below) rfl 24 (.tmp 6) rfl rfl _ Try.underlying24 rfl size24 rfl ?_)
  | (go_at_call 59; (with_reducible refine (thermionref01_Shift.calls W H R A c C e dx0 dy0 q1 q2 q3 q4 q5 _ (Kd.C_below HR.out HM.out.below) HC.out (by have := HN.out; omega) HBD.out.1 HBD.out.2 HQE.out).mono ?_); rintro e1 w11 ⟨vq, rfl, hR, hb⟩; obtain ⟨Ap, cp, eq⟩ := Kd.R_slice hR; subst eq; have HP4 := Aside0.mk hR; have HM2 := Aside0.mk (HM.out.step hb); replace HO := Aside0.mk (Kd.R_below HO.out hb); replace HQ4 := Aside0.mk (Kd.R_below HQ4.out hb); clear hb hR HM; have HM := HM2; clear HM2)
  | ((with_reducible refine gate_dst (N := 17) rfl ?_); refine ev_new HM.out rfl 24 rfl info24 ?_; intro g17 w12 hm1 hq1; have HM2 := Aside0.mk hm1; replace HO := Aside0.mk (Kd.R_below HO.out hq1); replace HQ4 := Aside0.mk (Kd.R_below HQ4.out hq1); replace HP4 := Aside0.mk (Kd.R_below HP4.out hq1); clear hm1 hq1 HM; have HM := HM2; clear HM2)
  | ((with_reducible refine gate_store (t := 24) (p := 17) rfl ?_); refine ev_storeK HM.out rfl 24 (.tmp 17) (.tmp 41) rfl rfl (cs := #[.int .i64 q1, .int .i64 q2, .bool q3, .slice Ap q4.length cp]) rfl size24 rfl rfl (by simp [Value.oneCell']) (by decide) ?_; intro w13 hm1 hq1; have HM2 := Aside0.mk hm1; replace HO := Aside0.mk (hq1 _ _ _ _ HO.out); replace HQ4 := Aside0.mk (hq1 _ _ _ _ HQ4.out); replace HP4 := Aside0.mk (hq1 _ _ _ _ HP4.out); clear hm1 hq1 HM; have HM := HM2; clear HM2))
 go_upto_region 9 with (first
  | ((with_reducible refine gate_dst (N := 47) rfl ?_); (try (refine gate_guard (by rfl) ?_; dsimp only)); refine ev_load (HM.out.blk (g15, #[.int .i64 q1, .int .i64 q2, .bool q3, .slice Aq q4.length cq], 24) (by simp)) rfl 24 (.tmp 15) rfl rfl _ Try.underlying24 rfl size24 rfl ?_)
  | ((with_reducible refine gate_dst (N := 48) rfl ?_); (try (refine gate_guard (by rfl) ?_; dsimp only)); refine ev_load (HM.out.blk (g17, #[.int .i64 q1, .int .i64 q2, .bool q3, .slice Ap q4.length cp], 24) (by simp)) rfl 24 (.tmp 17) rfl rfl _ Try.underlying24 rfl size24 rfl ?_)
  | (go_at_call 29; (with_reducible refine (thermionref01_Same.calls KQ q1 q2 q3 Aq cq q4 q1 q2 q3 Ap cp q4 true _ (Kd.R_reads' HQ4.out).2.2 (Kd.R_reads' HQ4.out).2.1 (Kd.R_reads' HP4.out).2.2 (Kd.R_reads' HP4.out).2.1 HKQ.out).mono ?_); rintro e1 w14 ⟨rfl, hb⟩; have HM2 := Aside0.mk (HM.out.step hb); replace HO := Aside0.mk (Kd.R_below HO.out hb); replace HQ4 := Aside0.mk (Kd.R_below HQ4.out hb); replace HP4 := Aside0.mk (Kd.R_below HP4.out hb); clear hb HM; have HM := HM2; clear HM2))
 clear HQE HKQ f1 HQ4 HP4
 generalize hq : shiftE W' H' R' C' (m1 : Int) dx dy = q
 obtain ⟨b1, b2, b3, b4, b5⟩ := q
 have hql := shiftE_len hq
 obtain ⟨KB, hKB⟩ := refsame_eq b1 b2 b3 b4 b1 b2 b3 b4 (by have := HSMA.out; omega)
 have hkb := hKB KB (Nat.le_refl _)
 rw [show decide (b1 = b1 ∧ b2 = b2 ∧ b3 = b3 ∧ b4 = b4) = true by simp] at hkb
 obtain ⟨KC, hKC⟩ := refsame_eq W' H' R' C' W' H' R' C' (by have := HSMA.out; omega)
 have hkc := hKC KC (Nat.le_refl _)
 rw [show decide (W' = W' ∧ H' = H' ∧ R' = R' ∧ C' = C') = true by simp] at hkc
 have HBE := Aside0.mk hq
 have HKB := Aside0.mk hkb
 have HKC := Aside0.mk hkc
 clear hq hql hKB hkb hKC hkc
 go_upto_region 12 with (first
  | (go_at_call 28; (with_reducible refine (thermionkit_Mod.calls e 4 m1 _ HM1.out).mono ?_); rintro e1 w15 ⟨rfl, hb⟩; have HM2 := Aside0.mk (HM.out.step hb.below); replace HO := Aside0.mk (Kd.R_below HO.out hb.below); clear hb HM HM1; have HM := HM2; clear HM2)
  | (go_at_call 28; (with_reducible refine (thermionkit_Mod.calls dx0 5 m2 _ HM2'.out).mono ?_); rintro e1 w16 ⟨rfl, hb⟩; have HM2 := Aside0.mk (HM.out.step hb.below); replace HO := Aside0.mk (Kd.R_below HO.out hb.below); clear hb HM HM2'; have HM := HM2; clear HM2)
  | (go_at_call 28; (with_reducible refine (thermionkit_Mod.calls dy0 5 m3 _ HM3.out).mono ?_); rintro e1 w17 ⟨rfl, hb⟩; have HM2 := Aside0.mk (HM.out.step hb.below); replace HO := Aside0.mk (Kd.R_below HO.out hb.below); clear hb HM HM3; have HM := HM2; clear HM2)
  | ((with_reducible refine gate_dst (N := 61) rfl ?_); refine ev_load (HM.out.blk (g14, #[.int .i64 W', .int .i64 H', .bool R', .slice Ao C'.length co], 24) (by simp)) rfl 24 (.tmp 14) rfl rfl _ Try.underlying24 rfl size24 rfl ?_)
  | (go_at_call 58; (with_reducible refine (field_Shift.calls W' H' R' Ao co C' m1 dx dy b1 b2 b3 b4 b5 _ (Kd.R_reads' HO.out).2.2 (Kd.R_reads' HO.out).2.1 (by have := HSMA.out; omega) HBE.out).mono ?_); rintro e1 w18 ⟨vq, rfl, hR, hb⟩; obtain ⟨Ab, cb, eq⟩ := Kd.R_slice hR; subst eq; have HB4 := Aside0.mk hR; have HM2 := Aside0.mk (HM.out.step hb); replace HO := Aside0.mk (Kd.R_below HO.out hb); clear hb hR HM; have HM := HM2; clear HM2)
  | ((with_reducible refine gate_store (t := 24) (p := 15) rfl ?_); refine ev_storeK HM.out.swap rfl 24 (.tmp 15) (.tmp 66) rfl rfl (cs := #[.int .i64 b1, .int .i64 b2, .bool b3, .slice Ab b4.length cb]) rfl size24 rfl rfl (by simp [Value.oneCell']) (by decide) ?_; intro w19 hm1 hq1; have HM2 := Aside0.mk hm1; replace HO := Aside0.mk (hq1 _ _ _ _ HO.out); replace HB4 := Aside0.mk (hq1 _ _ _ _ HB4.out); clear hm1 hq1 HM; have HM := HM2; clear HM2)
  | ((with_reducible refine gate_dst (N := 69) rfl ?_); refine ev_load (HM.out.blk (g13, #[.int .i64 W', .int .i64 H', .bool R', .slice (some ⟨gC, 0, none⟩) C'.length cC], 24) (by simp)) rfl 24 (.tmp 13) rfl rfl _ Try.underlying24 rfl size24 rfl ?_)
  | (go_at_call 59; (with_reducible refine (thermionref01_Shift.calls W' H' R' (some ⟨gC, 0, none⟩) cC C' m1 dx dy b1 b2 b3 b4 b5 _ (C_mem (HM.out.blk (gC, cuC, 3) (by simp)) HNC.out.1) HNC.out.2 (by have := HSMA.out; omega) HBD2.out.1 HBD2.out.2 HBE.out).mono ?_); rintro e1 w20 ⟨vq, rfl, hR, hb⟩; obtain ⟨Ad, cd, eq⟩ := Kd.R_slice hR; subst eq; have HD4 := Aside0.mk hR; have HM2 := Aside0.mk (HM.out.step hb); replace HO := Aside0.mk (Kd.R_below HO.out hb); replace HB4 := Aside0.mk (Kd.R_below HB4.out hb); clear hb hR HM; have HM := HM2; clear HM2)
  | ((with_reducible refine gate_store (t := 24) (p := 17) rfl ?_); refine ev_storeK HM.out.swap rfl 24 (.tmp 17) (.tmp 74) rfl rfl (cs := #[.int .i64 b1, .int .i64 b2, .bool b3, .slice Ad b4.length cd]) rfl size24 rfl rfl (by simp [Value.oneCell']) (by decide) ?_; intro w21 hm1 hq1; have HM2 := Aside0.mk hm1; replace HO := Aside0.mk (hq1 _ _ _ _ HO.out); replace HB4 := Aside0.mk (hq1 _ _ _ _ HB4.out); replace HD4 := Aside0.mk (hq1 _ _ _ _ HD4.out); clear hm1 hq1 HM; have HM := HM2; clear HM2))
 have f1 : (b5 == b5) = true := beq_self_eq_true _
 go_wp2_with (first
  | ((with_reducible refine gate_dst (N := 80) rfl ?_); (try (refine gate_guard (by rfl) ?_; dsimp only)); refine ev_load (HM.out.blk (g15, #[.int .i64 b1, .int .i64 b2, .bool b3, .slice Ab b4.length cb], 24) (by simp)) rfl 24 (.tmp 15) rfl rfl _ Try.underlying24 rfl size24 rfl ?_)
  | ((with_reducible refine gate_dst (N := 81) rfl ?_); (try (refine gate_guard (by rfl) ?_; dsimp only)); refine ev_load (HM.out.blk (g17, #[.int .i64 b1, .int .i64 b2, .bool b3, .slice Ad b4.length cd], 24) (by simp)) rfl 24 (.tmp 17) rfl rfl _ Try.underlying24 rfl size24 rfl ?_)
  | (go_at_call 29; (with_reducible refine (thermionref01_Same.calls KB b1 b2 b3 Ab cb b4 b1 b2 b3 Ad cd b4 true _ (Kd.R_reads' HB4.out).2.2 (Kd.R_reads' HB4.out).2.1 (Kd.R_reads' HD4.out).2.2 (Kd.R_reads' HD4.out).2.1 HKB.out).mono ?_); rintro e1 w22 ⟨rfl, hb⟩; have HM2 := Aside0.mk (HM.out.step hb); replace HO := Aside0.mk (Kd.R_below HO.out hb); replace HB4 := Aside0.mk (Kd.R_below HB4.out hb); replace HD4 := Aside0.mk (Kd.R_below HD4.out hb); clear hb HM; have HM := HM2; clear HM2)
  | ((with_reducible refine gate_dst (N := 85) rfl ?_); (try (refine gate_guard (by rfl) ?_; dsimp only)); refine ev_load (HM.out.blk (g14, #[.int .i64 W', .int .i64 H', .bool R', .slice Ao C'.length co], 24) (by simp)) rfl 24 (.tmp 14) rfl rfl _ Try.underlying24 rfl size24 rfl ?_)
  | ((with_reducible refine gate_dst (N := 86) rfl ?_); (try (refine gate_guard (by rfl) ?_; dsimp only)); refine ev_load (HM.out.blk (g13, #[.int .i64 W', .int .i64 H', .bool R', .slice (some ⟨gC, 0, none⟩) C'.length cC], 24) (by simp)) rfl 24 (.tmp 13) rfl rfl _ Try.underlying24 rfl size24 rfl ?_)
  | (go_at_call 29; (with_reducible refine (thermionref01_Same.calls KC W' H' R' Ao co C' W' H' R' (some ⟨gC, 0, none⟩) cC C' true _ (Kd.R_reads' HO.out).2.2 (Kd.R_reads' HO.out).2.1 (C_mem (HM.out.blk (gC, cuC, 3) (by simp)) HNC.out.1) HNC.out.2 HKC.out).mono ?_); rintro e1 w23 ⟨rfl, hb⟩; have HM2 := Aside0.mk (HM.out.step hb); replace HO := Aside0.mk (Kd.R_below HO.out hb); replace HB4 := Aside0.mk (Kd.R_below HB4.out hb); replace HD4 := Aside0.mk (Kd.R_below HD4.out hb); clear hb HM; have HM := HM2; clear HM2)
  | (go_at_call 60; (with_reducible refine (plays_calls A0 c0 l0 sw m1 m2 m3 _ (Kd.C_below HR0.out HM.out.below) HC0.out).mono ?_); rintro e1 w24 ⟨rfl, hb⟩; have HM2 := Aside0.mk (HM.out.step hb); replace HO := Aside0.mk (Kd.R_below HO.out hb); replace HB4 := Aside0.mk (Kd.R_below HB4.out hb); replace HD4 := Aside0.mk (Kd.R_below HD4.out hb); clear hb HM; have HM := HM2; clear HM2)
  | (go_at_call 20; (with_reducible refine (thermionlaw01_awake.calls 10 true _ HAW.out).mono ?_); rintro e1 wE ⟨rfl, hb⟩; have HE := Aside0.mk (below_step HEB.out (below_step HM.out.below hb)); clear hb))
 go_ret
 exact ⟨rfl, HE.out⟩
end Go.Proofs.Ytndkkjpgnmahbaa.Print
end

section
namespace Go.Proofs.YtndkkjpgnmahbaaW.PrintWords
open Go.ChangeShapes Go.WideShapes
end Go.Proofs.YtndkkjpgnmahbaaW.PrintWords
end
