/- Part 7 of the texts of a claim about Ytndkkjpgnmahbaa, put together by a program of this work: what the Go functions do, and that their calls do so. -/
import Derived.Test.YtndkkjpgnmahbaaFB2
import Derived.Test.YtndkkjpgnmahbaaFB5
import Derived.Test.YtndkkjpgnmahbaaFB6
import Derived.Test.YtndkkjpgnmahbaaFB3
import Derived.SizedLaws
import Derived.ChangeSlices
section
namespace Go.Proofs.Ytndkkjpgnmahbaa.Print
open Go.RowKit Go.Proofs.YtndkkjpgnmahbaaW.PrintWords Go.Proofs.YtndkkjpgnmahbaaW.PrintLast Go.Proofs.YtndkkjpgnmahbaaW.PrintMore
attribute [local go_sem] max2_int min2_int max_two min_two max_three min_three max_four min_four
set_option linter.unusedVariables false
set_option linter.unusedSimpArgs false
mutual
def thermionlaw01_FieldBoth.l0 : Nat → Int → Int → Int → Int → Int → Bool → List Int → Option (Bool)
 | 0, _, _, _, _, _, _, _ => none
 | k + 1, x1, x2, x8, x889000, x889001, x889002, x889003 => if x8 ≤ 3 then (thermionlaw01_FieldBoth.l1 k x1 x2 x8 1 x889000 x889001 x889002 x889003) else ((thermionlaw01_awake.f k).bind fun t889 => (some t889))
def thermionlaw01_FieldBoth.l1 : Nat → Int → Int → Int → Int → Int → Int → Bool → List Int → Option (Bool)
 | 0, _, _, _, _, _, _, _, _ => none
 | k + 1, x1, x2, x8, x9, x889000, x889001, x889002, x889003 => if x9 < x8 then ((thermionkit_Mod.f x1 41).bind fun t890 => ((field_Influence.f k x889000 x889001 x889002 x889003 t890 x8 x9).bind fun bt891 => ((thermionkit_Mod.f x2 41).bind fun t895 => ((field_Influence.f k x889000 x889001 x889002 x889003 t895 x9 x8).bind fun bt896 => ((thermionkit_Has.f k x889003 x8).bind fun t900 => (if t900 = true then ((thermionkit_Has.f k x889003 x9).bind fun t901 => (thermionlaw01_FieldBoth.j2 k x1 x2 x8 x9 bt891.2.2 bt896.2.2 (!t901) x889000 x889001 x889002 x889003 bt891.1 bt891.2.1 bt896.1 bt896.2.1)) else (thermionlaw01_FieldBoth.j2 k x1 x2 x8 x9 bt891.2.2 bt896.2.2 true x889000 x889001 x889002 x889003 bt891.1 bt891.2.1 bt896.1 bt896.2.1))))))) else (thermionlaw01_FieldBoth.l0 k x1 x2 (wrap64 (x8 + 1)) x889000 x889001 x889002 x889003)
def thermionlaw01_FieldBoth.j2 : Nat → Int → Int → Int → Int → Int → Int → Bool → Int → Int → Bool → List Int → Int → Int → Int → Int → Option (Bool)
 | 0, _, _, _, _, _, _, _, _, _, _, _, _, _, _, _ => none
 | k + 1, x1, x2, x8, x9, x11, x13, x55, x889000, x889001, x889002, x889003, x895000, x895001, x900000, x900001 => if x55 = true then (if x11 = 7 then (thermionlaw01_FieldBoth.j3 k x1 x2 x8 x9 (x13 != 7) x889000 x889001 x889002 x889003) else (thermionlaw01_FieldBoth.j3 k x1 x2 x8 x9 true x889000 x889001 x889002 x889003)) else (if x11 = 0 then (if x13 = 0 then ((thermionkit_Meet.f x895000 x895001 x900000 x900001).bind fun t902 => (if t902 = true then (if x895000 < 0 then (some false) else (if x900000 < 0 then (some false) else (thermionlaw01_FieldBoth.l1 k x1 x2 x8 (wrap64 (x9 + 1)) x889000 x889001 x889002 x889003))) else (some false))) else (some false)) else (some false))
def thermionlaw01_FieldBoth.j3 : Nat → Int → Int → Int → Int → Bool → Int → Int → Bool → List Int → Option (Bool)
 | 0, _, _, _, _, _, _, _, _, _ => none
 | k + 1, x1, x2, x8, x9, x61, x889000, x889001, x889002, x889003 => if x61 = true then (some false) else (thermionlaw01_FieldBoth.l1 k x1 x2 x8 (wrap64 (x9 + 1)) x889000 x889001 x889002 x889003)
end
def thermionlaw01_FieldBoth.f (k : Nat) (l0 : List Int) (a1 : Int) (a2 : Int) : Option (Bool) := (thermionkit_NewDice.f l0).bind fun t879 => ((thermionkit_PlanOf.f t879 8 6).bind fun bt881 => (thermionlaw01_FieldBoth.l0 k a1 a2 1 bt881.1 bt881.2.1 bt881.2.2.1 bt881.2.2.2.1))
def thermionlaw01_FieldBoth.T8 : Bool × List (List Nat × List Nat) := (true, [([], []), ([], []), ([1], [1]), ([], []), ([], []), ([0, 2, 3, 4, 2], [0, 2, 3, 4]), ([5], [5]), ([6], [6]), ([6], [6]), ([], []), ([9, 7, 5, 0, 1, 2, 3, 4, 5, 6, 7, 9], [7, 9]), ([8, 10, 0, 1, 2, 3, 4, 5, 6, 7, 8, 9, 10], [8])])
def thermionlaw01_FieldBoth.B8 : List Nat := [0, 0, 2, 0, 0, 31, 63, 127, 127, 0, 767, 2047]
theorem thermionlaw01_FieldBoth.tab8 : rtab .any (opsOf Try.f14 8) = thermionlaw01_FieldBoth.T8 := by kernel_rfl
theorem thermionlaw01_FieldBoth.bits8 : waitsOk thermionlaw01_FieldBoth.T8.2 thermionlaw01_FieldBoth.B8 = true := by kernel_rfl
def thermionlaw01_FieldBoth.T9 : Bool × List (List Nat × List Nat) := (true, [([], []), ([], []), ([1], [1]), ([], []), ([], []), ([0, 2, 3, 4, 2], [0, 2, 3, 4]), ([5], [5]), ([6], [6]), ([6], [6]), ([], []), ([9, 7, 5, 0, 1, 2, 3, 4, 5, 6, 7, 9], [7, 9]), ([8, 10, 0, 1, 2, 3, 4, 5, 6, 7, 8, 9, 10], [8])])
def thermionlaw01_FieldBoth.B9 : List Nat := [0, 0, 2, 0, 0, 31, 63, 127, 127, 0, 767, 2047]
theorem thermionlaw01_FieldBoth.tab9 : rtab .any (opsOf Try.f14 9) = thermionlaw01_FieldBoth.T9 := by kernel_rfl
theorem thermionlaw01_FieldBoth.bits9 : waitsOk thermionlaw01_FieldBoth.T9.2 thermionlaw01_FieldBoth.B9 = true := by kernel_rfl
set_option maxHeartbeats 8000000 in
set_option maxRecDepth 100000 in
theorem thermionlaw01_FieldBoth.calls (k : Nat) (A0 : Option Addr) (c0 : Nat) (l0 : List Int) (a1 : Int) (a2 : Int) (r : Bool) (w : World) (hr0 : Kd.C (Kd.int .i64) w A0 l0.length l0) (hc0 : l0.length ≤ c0) (h : thermionlaw01_FieldBoth.f k l0 a1 a2 = some r) :
  Calls Try.prog 14 #[.slice A0 l0.length c0, .int .i64 a1, .int .i64 a2] w fun e w' => e = .returned (.bool r) ∧ Below w.heap.size w w' := by
 have hu24 := Try.underlying24
 have hu42 := Try.underlying42
 have HR0 := Aside0.mk hr0
 have HC0 := Aside0.mk hc0
 clear hr0 hc0
 have HB := Aside0.mk (Below.refl w.heap.size w)
 have H : ((thermionkit_NewDice.f l0).bind fun t879 => ((thermionkit_PlanOf.f t879 8 6).bind fun bt881 => (thermionlaw01_FieldBoth.l0 k a1 a2 1 bt881.1 bt881.2.1 bt881.2.2.1 bt881.2.2.2.1))) = some r := h
 clear h
 replace H := Option.bind_eq_some_iff.mp H
 obtain ⟨t879, A40, H⟩ := H
 replace H : ((thermionkit_PlanOf.f t879 8 6).bind fun bt881 => (thermionlaw01_FieldBoth.l0 k a1 a2 1 bt881.1 bt881.2.1 bt881.2.2.1 bt881.2.2.2.1)) = some r := H
 have A4 := Aside0.mk A40
 clear A40
 replace H := Option.bind_eq_some_iff.mp H
 obtain ⟨⟨t881, t882, t883, t884, t887⟩, A50, H⟩ := H
 replace H : (thermionlaw01_FieldBoth.l0 k a1 a2 1 t881 t882 t883 t884) = some r := H
 have A5 := Aside0.mk A50
 clear A50
 have H' := Aside0.mk H
 clear H
 go_enter Try.func14, Try.ntmps14
 go_wp2_with (first | ((with_reducible refine gate_callee (f := 21) rfl ?_); refine goesL_ (some 15) rfl rfl Try.func21 (by kernel_rfl) rfl #[.slice A0 l0.length c0] rfl (by (try simp only [List.map_toArray, List.map_cons, List.map_nil]); first | done | rfl | (simp only [List.length_drop, List.length_take]; rfl)) ?_; (with_reducible refine (thermionkit_NewDice.calls _ _ l0 t879 w _ ?side1 ?side2 ?side3 A4.out).mono ?_); (case side1 => repeat (first | (with_reducible first | exact HB.out | apply below_alloc | apply pw_below_drewN | apply below_drew1) | exact HB.out)); (case side2 => exact HR0.out); (case side3 => exact HC0.out); rintro e w6 ⟨g880, rfl, hi, hb, hb2⟩; refine ⟨_, rfl, ?_⟩; have n0_ := Aside0.mk (hb); have n1_ := Aside0.mk (hi); clear HB; have HB := n0_; have HI880 := n1_; clear n0_ n1_; (try clear hb); (try clear hb2); (try clear hk); (try clear hi)) | ((with_reducible refine gate_callee (f := 22) rfl ?_); refine goesL_ (some 16) rfl rfl Try.func22 (by kernel_rfl) rfl #[.pointer (some ⟨g880, 0, none⟩), .int .i64 8, .int .i64 6] rfl (by (try simp only [List.map_toArray, List.map_cons, List.map_nil]); first | done | rfl | (simp only [List.length_drop, List.length_take]; rfl)) ?_; (with_reducible refine (thermionkit_PlanOf.calls g880 t879 8 6 t881 t882 t883 t884 t887 w _ ?side1 ?side2 A5.out).mono ?_); (case side1 => repeat (first | (with_reducible first | exact HI880.out | apply IsS79.alloc | apply IsS79.drewN | apply IsS79.drew | apply IsS79.set_0) | exact HI880.out)); (case side2 => repeat (first | (with_reducible first | exact HB.out | apply below_alloc | apply pw_below_drewN | apply below_drew1 | refine below_set ?_ (IsS79.ge HI880.out)) | exact HB.out)); rintro e w7 ⟨v885, rfl, ho0, hi, hb, hk⟩; refine ⟨_, rfl, ?_⟩; have n0_ := Aside0.mk (Kd.R_lower ho0 (below_size (by repeat (first | (with_reducible first | exact HB.out | apply below_alloc | apply pw_below_drewN | apply below_drew1 | refine below_set ?_ (IsS79.ge HI880.out)) | exact HB.out)))); have n1_ := Aside0.mk (hb); have n2_ := Aside0.mk (hi); clear HB; clear HI880; have HO886 := n0_; have HB := n1_; have HI880 := n2_; clear n0_ n1_ n2_; (try clear hb); (try clear hb2); (try clear hk); (try clear hi); (try clear ho0)) | ((with_reducible refine gate_dst (N := 7) rfl ?_); refine box_event ?hg (N := 7) ?hd (cs := #[.int .i64 0, .int .i64 0, .bool false, .slice none 0 0]) (t := 24) ?hr ?_; (case hd => rfl); (case hg => rfl); (case hr => first | (go_simp; done) | (go_simp; rfl)); intro gb888 hg w8 hbox hb; have n0_ := Aside0.mk (Kd.R_below (by (with_reducible repeat (first | apply Kd.R_alloc | apply Kd.R_drewN | apply Kd.R_drew)); exact HO886.out) hb); have n1_ := Aside0.mk (IsS79.below (by repeat (first | (with_reducible first | exact HI880.out | apply IsS79.alloc | apply IsS79.drewN | apply IsS79.drew | apply IsS79.set_0) | exact HI880.out)) hb); have n2_ := Aside0.mk (below_step (by repeat (first | (with_reducible first | exact HB.out | apply below_alloc | apply pw_below_drewN | apply below_drew1 | refine below_set ?_ (IsS79.ge HI880.out)) | exact HB.out)) hb); have n3_ := Aside0.mk (hbox); have n4_ := Aside0.mk ((by rw [hg]; exact (below_size (by repeat (first | (with_reducible first | exact HB.out | apply below_alloc | apply pw_below_drewN | apply below_drew1 | refine below_set ?_ (IsS79.ge HI880.out)) | exact HB.out))) : w.heap.size ≤ gb888)); have n5_ := Aside0.mk ((by rw [hg]; exact (below_size (by repeat (first | (with_reducible first | exact HB.out | apply below_alloc | apply pw_below_drewN | apply below_drew1 | refine below_set ?_ (IsS79.ge HI880.out)) | exact HB.out))) : w.heap.size ≤ gb888)); have n6_ := Aside0.mk ((by rw [hg]; exact Nat.ne_of_lt (IsS79.lt (show IsS79 w _ g880 t887 from by repeat (first | (with_reducible first | exact HI880.out | apply IsS79.alloc | apply IsS79.drewN | apply IsS79.drew | apply IsS79.set_0) | exact HI880.out))) : g880 ≠ gb888)); have n7_ := Aside0.mk ((by rw [hg]; exact Nat.ne_of_gt (IsS79.lt (show IsS79 w _ g880 t887 from by repeat (first | (with_reducible first | exact HI880.out | apply IsS79.alloc | apply IsS79.drewN | apply IsS79.drew | apply IsS79.set_0) | exact HI880.out))) : gb888 ≠ g880)); clear HO886; clear HI880; clear HB; have HO886 := n0_; have HI880 := n1_; have HB := n2_; have BK888 := n3_; have GW888 := n4_; have GE888 := n5_; have NB880_888 := n6_; have NB888_880 := n7_; clear n0_ n1_ n2_ n3_ n4_ n5_ n6_ n7_; clear hb hbox hg; have hnb9 := NB888_880.out; have hnc9 := NB880_888.out; have hcz10_0 : w8.cell? ⟨gb888, 0, none⟩ = some (.int .i64 0) := (blk_cell BK888.out 0).trans rfl; have hcz10_1 : w8.cell? ⟨gb888, 1, none⟩ = some (.int .i64 0) := (blk_cell BK888.out 1).trans rfl; have hcz10_2 : w8.cell? ⟨gb888, 2, none⟩ = some (.bool false) := (blk_cell BK888.out 2).trans rfl; have hcz10_3 : w8.cell? ⟨gb888, 3, none⟩ = some (.slice none 0 0) := (blk_cell BK888.out 3).trans rfl; have hfz10_0 := blk_frozen BK888.out 0; have hfz10_1 := blk_frozen BK888.out 1; have hfz10_2 := blk_frozen BK888.out 2; have hfz10_3 := blk_frozen BK888.out 3; obtain ⟨Ao11, co11, eo11⟩ := Kd.R_slice HO886.out; subst eo11))
 go_loopg [8] k (fun kq v8 w' => ∃ (x8_1 : Int), v8 = .int .i64 x8_1 ∧ Aside0 (thermionlaw01_FieldBoth.l0 kq a1 a2 x8_1 t881 t882 t883 t884 = some r) ∧ Aside0 (kq ≤ k) ∧ Aside0 (Kd.R (Kd.int .i64) 3 w' w.heap.size (fun _ => True) (.slice Ao11 t884.length co11) t884) ∧ Aside0 (w'.heap[gb888]? = some (.cells #[.int .i64 t881, .int .i64 t882, .bool t883, (.slice Ao11 t884.length co11)] 24 (0, 0))) ∧ Aside0 (Below w.heap.size w w'))
 case atStart => exact ⟨(1), (by first | rfl | (simp; done) | (simp [*]; done)), H', ⟨Nat.le_refl _⟩, ⟨by (with_reducible repeat (first | apply Kd.R_alloc | apply Kd.R_drewN | apply Kd.R_drew)); exact Kd.R_mono (Kd.R_far (p := ⟨gb888, 3, none⟩) (Kd.R_far (p := ⟨gb888, 2, none⟩) (Kd.R_far (p := ⟨gb888, 1, none⟩) (Kd.R_far (p := ⟨gb888, 0, none⟩) (Kd.R_types HO886.out BK888.out (by decide)) (fun _ hk => hk.2) (.int .i64 t881)) (fun _ hk => hk.2) (.int .i64 t882)) (fun _ hk => hk.2) (.bool t883)) (fun _ hk => hk.2) (.slice Ao11 t884.length co11)) (fun _ hk => trivial)⟩, ⟨by (with_reducible repeat (first | refine blk_drewN ?_ _ | refine blk_drew ?_ | refine blk_alloc ?_ _)); refine blk_put (cs := #[.int .i64 t881, .int .i64 t882, .bool t883, .slice none 0 0]) ?_ 3 _ rfl; (with_reducible repeat (first | refine blk_drewN ?_ _ | refine blk_drew ?_ | refine blk_alloc ?_ _)); refine blk_put (cs := #[.int .i64 t881, .int .i64 t882, .bool false, .slice none 0 0]) ?_ 2 _ rfl; (with_reducible repeat (first | refine blk_drewN ?_ _ | refine blk_drew ?_ | refine blk_alloc ?_ _)); refine blk_put (cs := #[.int .i64 t881, .int .i64 0, .bool false, .slice none 0 0]) ?_ 1 _ rfl; (with_reducible repeat (first | refine blk_drewN ?_ _ | refine blk_drew ?_ | refine blk_alloc ?_ _)); refine blk_put (cs := #[.int .i64 0, .int .i64 0, .bool false, .slice none 0 0]) ?_ 0 _ rfl; (with_reducible repeat (first | refine blk_drewN ?_ _ | refine blk_drew ?_ | refine blk_alloc ?_ _)); exact BK888.out⟩, ⟨by repeat (first | (with_reducible first | exact HB.out | apply below_alloc | apply pw_below_drewN | apply below_drew1 | refine below_set ?_ (IsS79.ge HI880.out) | refine below_set ?_ GE888.out) | exact HB.out)⟩⟩
 case round =>
  clear H'
  try clear c1
  try clear c2
  try clear p2
  try clear c9
  try clear hcz10_0
  try clear hcz10_1
  try clear hcz10_2
  try clear hcz10_3
  try clear hfz10_0
  try clear hfz10_1
  try clear hfz10_2
  try clear hfz10_3
  obtain ⟨x8_1, rfl, HA, HK1, HO_889003, BK888, HB⟩ := hrel
  cases gk with
  | zero => exact absurd HA.out (by simp [thermionlaw01_FieldBoth.l0])
  | succ k1 =>
   have H := HA.out
   clear HA
   simp only [thermionlaw01_FieldBoth.l0] at H
   by_cases c12 : x8_1 ≤ 3
   ·rw [if_pos c12] at H
    have c12b0 : decide (x8_1 ≤ 3) = true := decide_eq_true c12
    clear c12
    have H' := Aside0.mk H
    clear H
    go_wp2
    go_loopg [9] k1 (fun kq v9 w' => ∃ (x9_2 : Int), v9 = .int .i64 x9_2 ∧ Aside0 (thermionlaw01_FieldBoth.l1 kq a1 a2 x8_1 x9_2 t881 t882 t883 t884 = some r) ∧ Aside0 (kq ≤ k1) ∧ Aside0 (Kd.R (Kd.int .i64) 3 w' w.heap.size (fun _ => True) (.slice Ao11 t884.length co11) t884) ∧ Aside0 (w'.heap[gb888]? = some (.cells #[.int .i64 t881, .int .i64 t882, .bool t883, (.slice Ao11 t884.length co11)] 24 (0, 0))) ∧ Aside0 (Below w.heap.size w w'))
    case atStart => exact ⟨(1), (by first | rfl | (simp; done) | (simp [*]; done)), H', ⟨Nat.le_refl _⟩, ⟨by (with_reducible repeat (first | apply Kd.R_alloc | apply Kd.R_drewN | apply Kd.R_drew)); exact HO_889003.out⟩, ⟨by (with_reducible repeat (first | refine blk_drewN ?_ _ | refine blk_drew ?_ | refine blk_alloc ?_ _)); exact BK888.out⟩, ⟨by repeat (first | (with_reducible first | exact HB.out | apply below_alloc | apply pw_below_drewN | apply below_drew1 | refine below_set ?_ GE888.out) | exact HB.out)⟩⟩
    case round =>
     clear H'
     try clear c1
     try clear c2
     try clear p2
     try clear c9
     try clear c12
     try clear c12b0
     try clear hcz10_0
     try clear hcz10_1
     try clear hcz10_2
     try clear hcz10_3
     try clear hfz10_0
     try clear hfz10_1
     try clear hfz10_2
     try clear hfz10_3
     try clear p2
     obtain ⟨x9_2, rfl, HA, HK2, HO_889003, BK888, HB⟩ := hrel
     cases gk with
     | zero => exact absurd HA.out (by simp [thermionlaw01_FieldBoth.l1])
     | succ k2 =>
      have H := HA.out
      clear HA
      simp only [thermionlaw01_FieldBoth.l1] at H
      by_cases c13 : x9_2 < x8_1
      ·rw [if_pos c13] at H
       have c13b0 : decide (x9_2 < x8_1) = true := decide_eq_true c13
       clear c13
       replace H := Option.bind_eq_some_iff.mp H
       obtain ⟨t890, A140, H⟩ := H
       replace H : ((field_Influence.f k2 t881 t882 t883 t884 t890 x8_1 x9_2).bind fun bt891 => ((thermionkit_Mod.f a2 41).bind fun t895 => ((field_Influence.f k2 t881 t882 t883 t884 t895 x9_2 x8_1).bind fun bt896 => ((thermionkit_Has.f k2 t884 x8_1).bind fun t900 => (if t900 = true then ((thermionkit_Has.f k2 t884 x9_2).bind fun t901 => (thermionlaw01_FieldBoth.j2 k2 a1 a2 x8_1 x9_2 bt891.2.2 bt896.2.2 (!t901) t881 t882 t883 t884 bt891.1 bt891.2.1 bt896.1 bt896.2.1)) else (thermionlaw01_FieldBoth.j2 k2 a1 a2 x8_1 x9_2 bt891.2.2 bt896.2.2 true t881 t882 t883 t884 bt891.1 bt891.2.1 bt896.1 bt896.2.1)))))) = some r := H
       have A14 := Aside0.mk A140
       clear A140
       replace H := Option.bind_eq_some_iff.mp H
       obtain ⟨⟨t891, t892, t893⟩, A150, H⟩ := H
       replace H : ((thermionkit_Mod.f a2 41).bind fun t895 => ((field_Influence.f k2 t881 t882 t883 t884 t895 x9_2 x8_1).bind fun bt896 => ((thermionkit_Has.f k2 t884 x8_1).bind fun t900 => (if t900 = true then ((thermionkit_Has.f k2 t884 x9_2).bind fun t901 => (thermionlaw01_FieldBoth.j2 k2 a1 a2 x8_1 x9_2 t893 bt896.2.2 (!t901) t881 t882 t883 t884 t891 t892 bt896.1 bt896.2.1)) else (thermionlaw01_FieldBoth.j2 k2 a1 a2 x8_1 x9_2 t893 bt896.2.2 true t881 t882 t883 t884 t891 t892 bt896.1 bt896.2.1))))) = some r := H
       have A15 := Aside0.mk A150
       clear A150
       replace H := Option.bind_eq_some_iff.mp H
       obtain ⟨t895, A160, H⟩ := H
       replace H : ((field_Influence.f k2 t881 t882 t883 t884 t895 x9_2 x8_1).bind fun bt896 => ((thermionkit_Has.f k2 t884 x8_1).bind fun t900 => (if t900 = true then ((thermionkit_Has.f k2 t884 x9_2).bind fun t901 => (thermionlaw01_FieldBoth.j2 k2 a1 a2 x8_1 x9_2 t893 bt896.2.2 (!t901) t881 t882 t883 t884 t891 t892 bt896.1 bt896.2.1)) else (thermionlaw01_FieldBoth.j2 k2 a1 a2 x8_1 x9_2 t893 bt896.2.2 true t881 t882 t883 t884 t891 t892 bt896.1 bt896.2.1)))) = some r := H
       have A16 := Aside0.mk A160
       clear A160
       replace H := Option.bind_eq_some_iff.mp H
       obtain ⟨⟨t896, t897, t898⟩, A170, H⟩ := H
       replace H : ((thermionkit_Has.f k2 t884 x8_1).bind fun t900 => (if t900 = true then ((thermionkit_Has.f k2 t884 x9_2).bind fun t901 => (thermionlaw01_FieldBoth.j2 k2 a1 a2 x8_1 x9_2 t893 t898 (!t901) t881 t882 t883 t884 t891 t892 t896 t897)) else (thermionlaw01_FieldBoth.j2 k2 a1 a2 x8_1 x9_2 t893 t898 true t881 t882 t883 t884 t891 t892 t896 t897))) = some r := H
       have A17 := Aside0.mk A170
       clear A170
       have HC18 := Aside0.mk H
       clear H
       try go_wp2
       have n0_ := Aside0.mk (Kd.R_drew HO_889003.out)
       have n1_ := Aside0.mk (blk_drew BK888.out)
       have n2_ := Aside0.mk (below_drew1 HB.out)
       clear HO_889003
       clear BK888
       clear HB
       have HO_889003 := n0_
       have BK888 := n1_
       have HB := n2_
       clear n0_ n1_ n2_
       refine start_ (n := 12) (S := fun w' => w'.cell? ⟨gb888, 0, none⟩ = some (.int .i64 t881) ∧ w'.cell? ⟨gb888, 1, none⟩ = some (.int .i64 t882) ∧ w'.cell? ⟨gb888, 2, none⟩ = some (.bool t883) ∧ w'.cell? ⟨gb888, 3, none⟩ = some (.slice Ao11 t884.length co11)) (ds := []) #[false, false, false, false, false, false, false, false, false, false, false, false] (by kernel_rfl) rfl rfl ⟨(blk_cell BK888.out 0).trans rfl, (blk_cell BK888.out 1).trans rfl, (blk_cell BK888.out 2).trans rfl, (blk_cell BK888.out 3).trans rfl⟩ (fun hHeld => ?_); refine with_tabW thermionlaw01_FieldBoth.tab8 thermionlaw01_FieldBoth.bits8 (fun HT_ HW_ => ?_)
       generalize wr.drew = w19 at HO_889003 BK888 HB hHeld ⊢
       refine pure_ (i := 1) (N := some 28) (v := ?_) (a' := ?_) #[false, true, false, false, false, false, false, false, false, false, false, false] rfl rfl (any_of HT_.out (by kernel_rfl)) (fun _ _ _ h => h) (Or.inl ⟨by rfl, ?_⟩) ?_ ?_
       rotate_left
       ·intro w'
        go_simp
        with_reducible rfl
       rotate_left
       ·simp only [Act.put, List.setIfInBounds_toArray, List.set_cons_zero, List.set_cons_succ, i64_w, i32_w]
        rfl
       refine pure_ (i := 3) (N := some 30) (v := ?_) (a' := ?_) #[false, true, false, true, false, false, false, false, false, false, false, false] rfl rfl (any_of HT_.out (by kernel_rfl)) (fun _ _ _ h => h) (Or.inl ⟨by rfl, ?_⟩) ?_ ?_
       rotate_left
       ·intro w'
        go_simp
        with_reducible rfl
       rotate_left
       ·simp only [Act.put, List.setIfInBounds_toArray, List.set_cons_zero, List.set_cons_succ, i64_w, i32_w]
        rfl
       refine pure_ (i := 4) (N := some 31) (v := ?_) (a' := ?_) #[false, true, false, true, true, false, false, false, false, false, false, false] rfl rfl (any_of HT_.out (by kernel_rfl)) (fun _ _ _ h => h) (Or.inl ⟨by rfl, ?_⟩) ?_ ?_
       rotate_left
       ·intro w'
        go_simp
        with_reducible rfl
       rotate_left
       ·simp only [Act.put, List.setIfInBounds_toArray, List.set_cons_zero, List.set_cons_succ, i64_w, i32_w]
        rfl
       refine take_ (i := 0) (N := some 27) (v := ?_) (a' := ?_) #[true, true, false, true, true, false, false, false, false, false, false, false] rfl rfl (take_ofW HT_.out HW_.out (by kernel_rfl)) (fun _ _ _ h => h) (Or.inl ⟨by rfl, ?_⟩) hHeld ?_ ?_
       rotate_left
       ·rintro w' ⟨s0, s1, s2, s3⟩
        go_simp
        with_reducible rfl
       rotate_left
       ·simp only [Act.put, List.setIfInBounds_toArray, List.set_cons_zero, List.set_cons_succ, i64_w, i32_w]
        rfl
       refine join_ (σ := Nat) 2 #[true, true, true, true, true, true, true, true, true, true, false, false] (fun s_ => [(29, .int .i64 t890), (32, .tuple #[.agg #[.int .i64 t891, .int .i64 t892], .int .i64 t893]), (10, .pointer (some ⟨s_, 0, none⟩)), (26, .tuple #[.agg #[.int .i64 t891, .int .i64 t892], .int .i64 t893]), (33, .agg #[.int .i64 t891, .int .i64 t892]), (34, .int .i64 t893)]) (fun s_ w' => (w'.cell? ⟨gb888, 0, none⟩ = some (.int .i64 t881) ∧ w'.cell? ⟨gb888, 1, none⟩ = some (.int .i64 t882) ∧ w'.cell? ⟨gb888, 2, none⟩ = some (.bool t883) ∧ w'.cell? ⟨gb888, 3, none⟩ = some (.slice Ao11 t884.length co11)) ∧ (Kd.R (Kd.int .i64) 3 w' w.heap.size (fun _ => True) (.slice Ao11 t884.length co11) t884) ∧ (w'.heap[gb888]? = some (.cells #[.int .i64 t881, .int .i64 t882, .bool t883, .slice Ao11 t884.length co11] 24 (0, 0))) ∧ (w'.heap[s_]? = some (.cells #[.int .i64 0, .int .i64 0] 42 (0, 0))) ∧ (w.heap.size ≤ s_) ∧ (w.heap.size ≤ s_) ∧ (gb888 ≠ s_) ∧ (s_ ≠ gb888) ∧ (Below w.heap.size w w')) ?_ ?_
       rotate_left
       ·intro hCont
        refine two_ (i := 2) (j := 9) (Ni := some 29) (Nj := some 10) #[true, true, true, true, true, false, false, false, false, false, false, false] #[true, true, false, true, true, false, false, false, false, true, false, false] rfl rfl rfl rfl (two_of HT_.out (by kernel_rfl)) (by decide) (by decide) (fun K hK => ?_) (fun K hK => ?_)
        ·skip
         refine goes_ Try.func28 (by kernel_rfl) rfl #[.int .i64 a1, .int .i64 41] (by rfl) rfl rfl (by (try simp only [List.map_toArray, List.map_cons, List.map_nil]); first | done | rfl | (simp only [List.length_drop, List.length_take]; rfl)) ?_
         with_reducible refine (thermionkit_Mod.calls a1 41 t890 _ A14.out).mono ?_
         rintro e w' ⟨rfl, ⟨nd, rfl⟩⟩
         refine ⟨_, rfl, ?_⟩
         refine hK.out _ _ ⟨(blk_cell BK888.out 0).trans rfl, (blk_cell BK888.out 1).trans rfl, (blk_cell BK888.out 2).trans rfl, (blk_cell BK888.out 3).trans rfl⟩ (fun hHeld => ?_)
         clear hK K
         refine norm_ (a' := ?_) ?_ ?_
         rotate_left
         ·show Act.put _ (some 29) _ = _
          simp only [Act.put, List.setIfInBounds_toArray, List.set_cons_zero, List.set_cons_succ, i64_w, i32_w]
          rfl
         refine two_ (i := 5) (j := 9) (Ni := some 32) (Nj := some 10) #[true, true, true, true, true, true, false, false, false, false, false, false] #[true, true, true, true, true, false, false, false, false, true, false, false] rfl rfl rfl rfl (two_of HT_.out (by kernel_rfl)) (by decide) (by decide) (fun K hK => ?_) (fun K hK => ?_)
         ·skip
          refine goes_ Try.func52 (by kernel_rfl) rfl #[.agg #[.int .i64 t881, .int .i64 t882, .bool t883, .slice Ao11 t884.length co11], .int .i64 t890, .int .i64 x8_1, .int .i64 x9_2] (by rfl) rfl rfl (by (try simp only [List.map_toArray, List.map_cons, List.map_nil]); first | done | rfl | (simp only [List.length_drop, List.length_take]; rfl)) ?_
          with_reducible refine (field_Influence.calls k2 t881 t882 t883 _ _ t884 t890 x8_1 x9_2 t891 t892 t893 _ ?side1 ?side2 A15.out).mono ?_
          (case side1 => repeat (first | exact (Kd.R_reads' HO_889003.out).2.2 | (with_reducible refine Kd.C_alloc ?_ _) | (with_reducible refine Kd.C_drewN ?_ _) | (with_reducible refine Kd.C_drew ?_)))
          (case side2 => exact (Kd.R_reads' HO_889003.out).2.1)
          rintro e w20 ⟨rfl, hb⟩
          refine ⟨_, rfl, ?_⟩
          have n0_ := Aside0.mk (Kd.R_below (by (with_reducible repeat (first | apply Kd.R_alloc | apply Kd.R_drewN | apply Kd.R_drew)); exact HO_889003.out) hb)
          have n1_ := Aside0.mk (blk_below (g := gb888) (o := .cells #[.int .i64 t881, .int .i64 t882, .bool t883, .slice Ao11 t884.length co11] 24 (0, 0)) (by (with_reducible repeat (first | refine blk_drewN ?_ _ | refine blk_drew ?_ | refine blk_alloc ?_ _)); exact BK888.out) hb)
          have n2_ := Aside0.mk (below_step (by repeat (first | (with_reducible first | exact HB.out | apply below_alloc | apply pw_below_drewN | apply below_drew1 | refine below_set ?_ GE888.out) | exact HB.out)) hb)
          clear HO_889003
          clear BK888
          clear HB
          have HO_889003 := n0_
          have BK888 := n1_
          have HB := n2_
          clear n0_ n1_ n2_
          (try clear hb)
          (try clear hb2)
          (try clear hk)
          (try clear hi)
          refine hK.out _ _ ⟨(blk_cell BK888.out 0).trans rfl, (blk_cell BK888.out 1).trans rfl, (blk_cell BK888.out 2).trans rfl, (blk_cell BK888.out 3).trans rfl⟩ (fun hHeld => ?_)
          clear hK K
          refine norm_ (a' := ?_) ?_ ?_
          rotate_left
          ·show Act.put _ (some 32) _ = _
           simp only [Act.put, List.setIfInBounds_toArray, List.set_cons_zero, List.set_cons_succ, i64_w, i32_w]
           rfl
          refine pure_ (i := 6) (N := some 26) (v := ?_) (a' := ?_) #[true, true, true, true, true, true, true, false, false, false, false, false] rfl rfl (any_of HT_.out (by kernel_rfl)) (fun _ _ _ h => h) (Or.inl ⟨by rfl, ?_⟩) ?_ ?_
          rotate_left
          ·intro w'
           go_simp
           with_reducible rfl
          rotate_left
          ·simp only [Act.put, List.setIfInBounds_toArray, List.set_cons_zero, List.set_cons_succ, i64_w, i32_w]
           rfl
          refine pure_ (i := 7) (N := some 33) (v := ?_) (a' := ?_) #[true, true, true, true, true, true, true, true, false, false, false, false] rfl rfl (any_of HT_.out (by kernel_rfl)) (fun _ _ _ h => h) (Or.inl ⟨by rfl, ?_⟩) ?_ ?_
          rotate_left
          ·intro w'
           go_simp
           with_reducible rfl
          rotate_left
          ·simp only [Act.put, List.setIfInBounds_toArray, List.set_cons_zero, List.set_cons_succ, i64_w, i32_w]
           rfl
          refine pure_ (i := 8) (N := some 34) (v := ?_) (a' := ?_) #[true, true, true, true, true, true, true, true, true, false, false, false] rfl rfl (any_of HT_.out (by kernel_rfl)) (fun _ _ _ h => h) (Or.inl ⟨by rfl, ?_⟩) ?_ ?_
          rotate_left
          ·intro w'
           go_simp
           with_reducible rfl
          rotate_left
          ·simp only [Act.put, List.setIfInBounds_toArray, List.set_cons_zero, List.set_cons_succ, i64_w, i32_w]
           rfl
          refine one_ (i := 9) (N := some 10) #[true, true, true, true, true, true, true, true, true, true, false, false] rfl rfl (one_of HT_.out (by kernel_rfl)) (by decide) (fun K hK => ?_)
          refine box_step ?hg (N := 10) ?hd (cs := #[.int .i64 0, .int .i64 0]) (t := 42) ?hr ?_; (case hd => rfl); (case hg => rfl); (case hr => first | (go_simp; done) | (go_simp; rfl))
          intro gb894 hg w21 hbox hb
          have n0_ := Aside0.mk (Kd.R_below (by (with_reducible repeat (first | apply Kd.R_alloc | apply Kd.R_drewN | apply Kd.R_drew)); exact HO_889003.out) hb)
          have n1_ := Aside0.mk (blk_below (g := gb888) (o := .cells #[.int .i64 t881, .int .i64 t882, .bool t883, .slice Ao11 t884.length co11] 24 (0, 0)) (by (with_reducible repeat (first | refine blk_drewN ?_ _ | refine blk_drew ?_ | refine blk_alloc ?_ _)); exact BK888.out) hb)
          have n2_ := Aside0.mk (below_step (by repeat (first | (with_reducible first | exact HB.out | apply below_alloc | apply pw_below_drewN | apply below_drew1 | refine below_set ?_ GE888.out) | exact HB.out)) hb)
          have n3_ := Aside0.mk (hbox)
          have n4_ := Aside0.mk ((by rw [hg]; exact (below_size (by repeat (first | (with_reducible first | exact HB.out | apply below_alloc | apply pw_below_drewN | apply below_drew1 | refine below_set ?_ GE888.out) | exact HB.out))) : w.heap.size ≤ gb894))
          have n5_ := Aside0.mk ((by rw [hg]; exact (below_size (by repeat (first | (with_reducible first | exact HB.out | apply below_alloc | apply pw_below_drewN | apply below_drew1 | refine below_set ?_ GE888.out) | exact HB.out))) : w.heap.size ≤ gb894))
          have n6_ := Aside0.mk ((by rw [hg]; exact Nat.ne_of_lt (blk_lt (g := gb888) (o := .cells #[.int .i64 t881, .int .i64 t882, .bool t883, .slice Ao11 t884.length co11] 24 (0, 0)) (by (with_reducible repeat (first | refine blk_drewN ?_ _ | refine blk_drew ?_ | refine blk_alloc ?_ _)); exact BK888.out)) : gb888 ≠ gb894))
          have n7_ := Aside0.mk ((by rw [hg]; exact Nat.ne_of_gt (blk_lt (g := gb888) (o := .cells #[.int .i64 t881, .int .i64 t882, .bool t883, .slice Ao11 t884.length co11] 24 (0, 0)) (by (with_reducible repeat (first | refine blk_drewN ?_ _ | refine blk_drew ?_ | refine blk_alloc ?_ _)); exact BK888.out)) : gb894 ≠ gb888))
          clear HO_889003
          clear BK888
          clear HB
          have HO_889003 := n0_
          have BK888 := n1_
          have HB := n2_
          have BK894 := n3_
          have GW894 := n4_
          have GE894 := n5_
          have NB888_894 := n6_
          have NB894_888 := n7_
          clear n0_ n1_ n2_ n3_ n4_ n5_ n6_ n7_
          clear hb hbox hg
          refine hK.out _ _ ⟨(blk_cell BK888.out 0).trans rfl, (blk_cell BK888.out 1).trans rfl, (blk_cell BK888.out 2).trans rfl, (blk_cell BK888.out 3).trans rfl⟩ (fun hHeld => ?_)
          clear hK K
          refine norm_ (a' := ?_) ?_ ?_
          rotate_left
          ·show Act.put _ (some 10) _ = _
           simp only [Act.put, List.setIfInBounds_toArray, List.set_cons_zero, List.set_cons_succ, i64_w, i32_w]
           rfl
          exact norm_ (by simp only [putAll, Act.put, List.setIfInBounds_toArray, List.set_cons_zero, List.set_cons_succ]) (hCont (gb894) _ ⟨hHeld, (by (with_reducible repeat (first | apply Kd.R_alloc | apply Kd.R_drewN | apply Kd.R_drew)); exact HO_889003.out), (by (with_reducible repeat (first | refine blk_drewN ?_ _ | refine blk_drew ?_ | refine blk_alloc ?_ _)); exact BK888.out), (by (with_reducible repeat (first | refine blk_drewN ?_ _ | refine blk_drew ?_ | refine blk_alloc ?_ _)); exact BK894.out), GW894.out, GE894.out, NB888_894.out, NB894_888.out, (by repeat (first | (with_reducible first | exact HB.out | apply below_alloc | apply pw_below_drewN | apply below_drew1 | refine below_set ?_ GE888.out | refine below_set ?_ GE894.out) | exact HB.out))⟩)
         ·skip
          refine box_step ?hg (N := 10) ?hd (cs := #[.int .i64 0, .int .i64 0]) (t := 42) ?hr ?_; (case hd => rfl); (case hg => rfl); (case hr => first | (go_simp; done) | (go_simp; rfl))
          intro gb894 hg w20 hbox hb
          have n0_ := Aside0.mk (Kd.R_below (by (with_reducible repeat (first | apply Kd.R_alloc | apply Kd.R_drewN | apply Kd.R_drew)); exact HO_889003.out) hb)
          have n1_ := Aside0.mk (blk_below (g := gb888) (o := .cells #[.int .i64 t881, .int .i64 t882, .bool t883, .slice Ao11 t884.length co11] 24 (0, 0)) (by (with_reducible repeat (first | refine blk_drewN ?_ _ | refine blk_drew ?_ | refine blk_alloc ?_ _)); exact BK888.out) hb)
          have n2_ := Aside0.mk (below_step (by repeat (first | (with_reducible first | exact HB.out | apply below_alloc | apply pw_below_drewN | apply below_drew1 | refine below_set ?_ GE888.out) | exact HB.out)) hb)
          have n3_ := Aside0.mk (hbox)
          have n4_ := Aside0.mk ((by rw [hg]; exact (below_size (by repeat (first | (with_reducible first | exact HB.out | apply below_alloc | apply pw_below_drewN | apply below_drew1 | refine below_set ?_ GE888.out) | exact HB.out))) : w.heap.size ≤ gb894))
          have n5_ := Aside0.mk ((by rw [hg]; exact (below_size (by repeat (first | (with_reducible first | exact HB.out | apply below_alloc | apply pw_below_drewN | apply below_drew1 | refine below_set ?_ GE888.out) | exact HB.out))) : w.heap.size ≤ gb894))
          have n6_ := Aside0.mk ((by rw [hg]; exact Nat.ne_of_lt (blk_lt (g := gb888) (o := .cells #[.int .i64 t881, .int .i64 t882, .bool t883, .slice Ao11 t884.length co11] 24 (0, 0)) (by (with_reducible repeat (first | refine blk_drewN ?_ _ | refine blk_drew ?_ | refine blk_alloc ?_ _)); exact BK888.out)) : gb888 ≠ gb894))
          have n7_ := Aside0.mk ((by rw [hg]; exact Nat.ne_of_gt (blk_lt (g := gb888) (o := .cells #[.int .i64 t881, .int .i64 t882, .bool t883, .slice Ao11 t884.length co11] 24 (0, 0)) (by (with_reducible repeat (first | refine blk_drewN ?_ _ | refine blk_drew ?_ | refine blk_alloc ?_ _)); exact BK888.out)) : gb894 ≠ gb888))
          clear HO_889003
          clear BK888
          clear HB
          have HO_889003 := n0_
          have BK888 := n1_
          have HB := n2_
          have BK894 := n3_
          have GW894 := n4_
          have GE894 := n5_
          have NB888_894 := n6_
          have NB894_888 := n7_
          clear n0_ n1_ n2_ n3_ n4_ n5_ n6_ n7_
          clear hb hbox hg
          refine hK.out _ _ ⟨(blk_cell BK888.out 0).trans rfl, (blk_cell BK888.out 1).trans rfl, (blk_cell BK888.out 2).trans rfl, (blk_cell BK888.out 3).trans rfl⟩ (fun hHeld => ?_)
          clear hK K
          refine norm_ (a' := ?_) ?_ ?_
          rotate_left
          ·show Act.put _ (some 10) _ = _
           simp only [Act.put, List.setIfInBounds_toArray, List.set_cons_zero, List.set_cons_succ, i64_w, i32_w]
           rfl
          refine one_ (i := 5) (N := some 32) #[true, true, true, true, true, true, false, false, false, true, false, false] rfl rfl (one_of HT_.out (by kernel_rfl)) (by decide) (fun K hK => ?_)
          refine goes_ Try.func52 (by kernel_rfl) rfl #[.agg #[.int .i64 t881, .int .i64 t882, .bool t883, .slice Ao11 t884.length co11], .int .i64 t890, .int .i64 x8_1, .int .i64 x9_2] (by rfl) rfl rfl (by (try simp only [List.map_toArray, List.map_cons, List.map_nil]); first | done | rfl | (simp only [List.length_drop, List.length_take]; rfl)) ?_
          with_reducible refine (field_Influence.calls k2 t881 t882 t883 _ _ t884 t890 x8_1 x9_2 t891 t892 t893 _ ?side1 ?side2 A15.out).mono ?_
          (case side1 => repeat (first | exact (Kd.R_reads' HO_889003.out).2.2 | (with_reducible refine Kd.C_alloc ?_ _) | (with_reducible refine Kd.C_drewN ?_ _) | (with_reducible refine Kd.C_drew ?_)))
          (case side2 => exact (Kd.R_reads' HO_889003.out).2.1)
          rintro e w21 ⟨rfl, hb⟩
          refine ⟨_, rfl, ?_⟩
          have n0_ := Aside0.mk (Kd.R_below (by (with_reducible repeat (first | apply Kd.R_alloc | apply Kd.R_drewN | apply Kd.R_drew)); exact HO_889003.out) hb)
          have n1_ := Aside0.mk (blk_below (g := gb888) (o := .cells #[.int .i64 t881, .int .i64 t882, .bool t883, .slice Ao11 t884.length co11] 24 (0, 0)) (by (with_reducible repeat (first | refine blk_drewN ?_ _ | refine blk_drew ?_ | refine blk_alloc ?_ _)); exact BK888.out) hb)
          have n2_ := Aside0.mk (blk_below (g := gb894) (o := .cells #[.int .i64 0, .int .i64 0] 42 (0, 0)) (by (with_reducible repeat (first | refine blk_drewN ?_ _ | refine blk_drew ?_ | refine blk_alloc ?_ _)); exact BK894.out) hb)
          have n3_ := Aside0.mk (below_step (by repeat (first | (with_reducible first | exact HB.out | apply below_alloc | apply pw_below_drewN | apply below_drew1 | refine below_set ?_ GE888.out | refine below_set ?_ GE894.out) | exact HB.out)) hb)
          clear HO_889003
          clear BK888
          clear BK894
          clear HB
          have HO_889003 := n0_
          have BK888 := n1_
          have BK894 := n2_
          have HB := n3_
          clear n0_ n1_ n2_ n3_
          (try clear hb)
          (try clear hb2)
          (try clear hk)
          (try clear hi)
          refine hK.out _ _ ⟨(blk_cell BK888.out 0).trans rfl, (blk_cell BK888.out 1).trans rfl, (blk_cell BK888.out 2).trans rfl, (blk_cell BK888.out 3).trans rfl⟩ (fun hHeld => ?_)
          clear hK K
          refine norm_ (a' := ?_) ?_ ?_
          rotate_left
          ·show Act.put _ (some 32) _ = _
           simp only [Act.put, List.setIfInBounds_toArray, List.set_cons_zero, List.set_cons_succ, i64_w, i32_w]
           rfl
          refine pure_ (i := 6) (N := some 26) (v := ?_) (a' := ?_) #[true, true, true, true, true, true, true, false, false, true, false, false] rfl rfl (any_of HT_.out (by kernel_rfl)) (fun _ _ _ h => h) (Or.inl ⟨by rfl, ?_⟩) ?_ ?_
          rotate_left
          ·intro w'
           go_simp
           with_reducible rfl
          rotate_left
          ·simp only [Act.put, List.setIfInBounds_toArray, List.set_cons_zero, List.set_cons_succ, i64_w, i32_w]
           rfl
          refine pure_ (i := 7) (N := some 33) (v := ?_) (a' := ?_) #[true, true, true, true, true, true, true, true, false, true, false, false] rfl rfl (any_of HT_.out (by kernel_rfl)) (fun _ _ _ h => h) (Or.inl ⟨by rfl, ?_⟩) ?_ ?_
          rotate_left
          ·intro w'
           go_simp
           with_reducible rfl
          rotate_left
          ·simp only [Act.put, List.setIfInBounds_toArray, List.set_cons_zero, List.set_cons_succ, i64_w, i32_w]
           rfl
          refine pure_ (i := 8) (N := some 34) (v := ?_) (a' := ?_) #[true, true, true, true, true, true, true, true, true, true, false, false] rfl rfl (any_of HT_.out (by kernel_rfl)) (fun _ _ _ h => h) (Or.inl ⟨by rfl, ?_⟩) ?_ ?_
          rotate_left
          ·intro w'
           go_simp
           with_reducible rfl
          rotate_left
          ·simp only [Act.put, List.setIfInBounds_toArray, List.set_cons_zero, List.set_cons_succ, i64_w, i32_w]
           rfl
          exact norm_ (by simp only [putAll, Act.put, List.setIfInBounds_toArray, List.set_cons_zero, List.set_cons_succ]) (hCont (gb894) _ ⟨hHeld, (by (with_reducible repeat (first | apply Kd.R_alloc | apply Kd.R_drewN | apply Kd.R_drew)); exact HO_889003.out), (by (with_reducible repeat (first | refine blk_drewN ?_ _ | refine blk_drew ?_ | refine blk_alloc ?_ _)); exact BK888.out), (by (with_reducible repeat (first | refine blk_drewN ?_ _ | refine blk_drew ?_ | refine blk_alloc ?_ _)); exact BK894.out), GW894.out, GE894.out, NB888_894.out, NB894_888.out, (by repeat (first | (with_reducible first | exact HB.out | apply below_alloc | apply pw_below_drewN | apply below_drew1 | refine below_set ?_ GE888.out | refine below_set ?_ GE894.out) | exact HB.out))⟩)
        ·skip
         refine box_step ?hg (N := 10) ?hd (cs := #[.int .i64 0, .int .i64 0]) (t := 42) ?hr ?_; (case hd => rfl); (case hg => rfl); (case hr => first | (go_simp; done) | (go_simp; rfl))
         intro gb894 hg w20 hbox hb
         have n0_ := Aside0.mk (Kd.R_below (by (with_reducible repeat (first | apply Kd.R_alloc | apply Kd.R_drewN | apply Kd.R_drew)); exact HO_889003.out) hb)
         have n1_ := Aside0.mk (blk_below (g := gb888) (o := .cells #[.int .i64 t881, .int .i64 t882, .bool t883, .slice Ao11 t884.length co11] 24 (0, 0)) (by (with_reducible repeat (first | refine blk_drewN ?_ _ | refine blk_drew ?_ | refine blk_alloc ?_ _)); exact BK888.out) hb)
         have n2_ := Aside0.mk (below_step (by repeat (first | (with_reducible first | exact HB.out | apply below_alloc | apply pw_below_drewN | apply below_drew1 | refine below_set ?_ GE888.out) | exact HB.out)) hb)
         have n3_ := Aside0.mk (hbox)
         have n4_ := Aside0.mk ((by rw [hg]; exact (below_size (by repeat (first | (with_reducible first | exact HB.out | apply below_alloc | apply pw_below_drewN | apply below_drew1 | refine below_set ?_ GE888.out) | exact HB.out))) : w.heap.size ≤ gb894))
         have n5_ := Aside0.mk ((by rw [hg]; exact (below_size (by repeat (first | (with_reducible first | exact HB.out | apply below_alloc | apply pw_below_drewN | apply below_drew1 | refine below_set ?_ GE888.out) | exact HB.out))) : w.heap.size ≤ gb894))
         have n6_ := Aside0.mk ((by rw [hg]; exact Nat.ne_of_lt (blk_lt (g := gb888) (o := .cells #[.int .i64 t881, .int .i64 t882, .bool t883, .slice Ao11 t884.length co11] 24 (0, 0)) (by (with_reducible repeat (first | refine blk_drewN ?_ _ | refine blk_drew ?_ | refine blk_alloc ?_ _)); exact BK888.out)) : gb888 ≠ gb894))
         have n7_ := Aside0.mk ((by rw [hg]; exact Nat.ne_of_gt (blk_lt (g := gb888) (o := .cells #[.int .i64 t881, .int .i64 t882, .bool t883, .slice Ao11 t884.length co11] 24 (0, 0)) (by (with_reducible repeat (first | refine blk_drewN ?_ _ | refine blk_drew ?_ | refine blk_alloc ?_ _)); exact BK888.out)) : gb894 ≠ gb888))
         clear HO_889003
         clear BK888
         clear HB
         have HO_889003 := n0_
         have BK888 := n1_
         have HB := n2_
         have BK894 := n3_
         have GW894 := n4_
         have GE894 := n5_
         have NB888_894 := n6_
         have NB894_888 := n7_
         clear n0_ n1_ n2_ n3_ n4_ n5_ n6_ n7_
         clear hb hbox hg
         refine hK.out _ _ ⟨(blk_cell BK888.out 0).trans rfl, (blk_cell BK888.out 1).trans rfl, (blk_cell BK888.out 2).trans rfl, (blk_cell BK888.out 3).trans rfl⟩ (fun hHeld => ?_)
         clear hK K
         refine norm_ (a' := ?_) ?_ ?_
         rotate_left
         ·show Act.put _ (some 10) _ = _
          simp only [Act.put, List.setIfInBounds_toArray, List.set_cons_zero, List.set_cons_succ, i64_w, i32_w]
          rfl
         refine one_ (i := 2) (N := some 29) #[true, true, true, true, true, false, false, false, false, true, false, false] rfl rfl (one_of HT_.out (by kernel_rfl)) (by decide) (fun K hK => ?_)
         refine goes_ Try.func28 (by kernel_rfl) rfl #[.int .i64 a1, .int .i64 41] (by rfl) rfl rfl (by (try simp only [List.map_toArray, List.map_cons, List.map_nil]); first | done | rfl | (simp only [List.length_drop, List.length_take]; rfl)) ?_
         with_reducible refine (thermionkit_Mod.calls a1 41 t890 _ A14.out).mono ?_
         rintro e w' ⟨rfl, ⟨nd, rfl⟩⟩
         refine ⟨_, rfl, ?_⟩
         refine hK.out _ _ ⟨(blk_cell BK888.out 0).trans rfl, (blk_cell BK888.out 1).trans rfl, (blk_cell BK888.out 2).trans rfl, (blk_cell BK888.out 3).trans rfl⟩ (fun hHeld => ?_)
         clear hK K
         refine norm_ (a' := ?_) ?_ ?_
         rotate_left
         ·show Act.put _ (some 29) _ = _
          simp only [Act.put, List.setIfInBounds_toArray, List.set_cons_zero, List.set_cons_succ, i64_w, i32_w]
          rfl
         refine one_ (i := 5) (N := some 32) #[true, true, true, true, true, true, false, false, false, true, false, false] rfl rfl (one_of HT_.out (by kernel_rfl)) (by decide) (fun K hK => ?_)
         refine goes_ Try.func52 (by kernel_rfl) rfl #[.agg #[.int .i64 t881, .int .i64 t882, .bool t883, .slice Ao11 t884.length co11], .int .i64 t890, .int .i64 x8_1, .int .i64 x9_2] (by rfl) rfl rfl (by (try simp only [List.map_toArray, List.map_cons, List.map_nil]); first | done | rfl | (simp only [List.length_drop, List.length_take]; rfl)) ?_
         with_reducible refine (field_Influence.calls k2 t881 t882 t883 _ _ t884 t890 x8_1 x9_2 t891 t892 t893 _ ?side1 ?side2 A15.out).mono ?_
         (case side1 => repeat (first | exact (Kd.R_reads' HO_889003.out).2.2 | (with_reducible refine Kd.C_alloc ?_ _) | (with_reducible refine Kd.C_drewN ?_ _) | (with_reducible refine Kd.C_drew ?_)))
         (case side2 => exact (Kd.R_reads' HO_889003.out).2.1)
         rintro e w21 ⟨rfl, hb⟩
         refine ⟨_, rfl, ?_⟩
         have n0_ := Aside0.mk (Kd.R_below (by (with_reducible repeat (first | apply Kd.R_alloc | apply Kd.R_drewN | apply Kd.R_drew)); exact HO_889003.out) hb)
         have n1_ := Aside0.mk (blk_below (g := gb888) (o := .cells #[.int .i64 t881, .int .i64 t882, .bool t883, .slice Ao11 t884.length co11] 24 (0, 0)) (by (with_reducible repeat (first | refine blk_drewN ?_ _ | refine blk_drew ?_ | refine blk_alloc ?_ _)); exact BK888.out) hb)
         have n2_ := Aside0.mk (blk_below (g := gb894) (o := .cells #[.int .i64 0, .int .i64 0] 42 (0, 0)) (by (with_reducible repeat (first | refine blk_drewN ?_ _ | refine blk_drew ?_ | refine blk_alloc ?_ _)); exact BK894.out) hb)
         have n3_ := Aside0.mk (below_step (by repeat (first | (with_reducible first | exact HB.out | apply below_alloc | apply pw_below_drewN | apply below_drew1 | refine below_set ?_ GE888.out | refine below_set ?_ GE894.out) | exact HB.out)) hb)
         clear HO_889003
         clear BK888
         clear BK894
         clear HB
         have HO_889003 := n0_
         have BK888 := n1_
         have BK894 := n2_
         have HB := n3_
         clear n0_ n1_ n2_ n3_
         (try clear hb)
         (try clear hb2)
         (try clear hk)
         (try clear hi)
         refine hK.out _ _ ⟨(blk_cell BK888.out 0).trans rfl, (blk_cell BK888.out 1).trans rfl, (blk_cell BK888.out 2).trans rfl, (blk_cell BK888.out 3).trans rfl⟩ (fun hHeld => ?_)
         clear hK K
         refine norm_ (a' := ?_) ?_ ?_
         rotate_left
         ·show Act.put _ (some 32) _ = _
          simp only [Act.put, List.setIfInBounds_toArray, List.set_cons_zero, List.set_cons_succ, i64_w, i32_w]
          rfl
         refine pure_ (i := 6) (N := some 26) (v := ?_) (a' := ?_) #[true, true, true, true, true, true, true, false, false, true, false, false] rfl rfl (any_of HT_.out (by kernel_rfl)) (fun _ _ _ h => h) (Or.inl ⟨by rfl, ?_⟩) ?_ ?_
         rotate_left
         ·intro w'
          go_simp
          with_reducible rfl
         rotate_left
         ·simp only [Act.put, List.setIfInBounds_toArray, List.set_cons_zero, List.set_cons_succ, i64_w, i32_w]
          rfl
         refine pure_ (i := 7) (N := some 33) (v := ?_) (a' := ?_) #[true, true, true, true, true, true, true, true, false, true, false, false] rfl rfl (any_of HT_.out (by kernel_rfl)) (fun _ _ _ h => h) (Or.inl ⟨by rfl, ?_⟩) ?_ ?_
         rotate_left
         ·intro w'
          go_simp
          with_reducible rfl
         rotate_left
         ·simp only [Act.put, List.setIfInBounds_toArray, List.set_cons_zero, List.set_cons_succ, i64_w, i32_w]
          rfl
         refine pure_ (i := 8) (N := some 34) (v := ?_) (a' := ?_) #[true, true, true, true, true, true, true, true, true, true, false, false] rfl rfl (any_of HT_.out (by kernel_rfl)) (fun _ _ _ h => h) (Or.inl ⟨by rfl, ?_⟩) ?_ ?_
         rotate_left
         ·intro w'
          go_simp
          with_reducible rfl
         rotate_left
         ·simp only [Act.put, List.setIfInBounds_toArray, List.set_cons_zero, List.set_cons_succ, i64_w, i32_w]
          rfl
         exact norm_ (by simp only [putAll, Act.put, List.setIfInBounds_toArray, List.set_cons_zero, List.set_cons_succ]) (hCont (gb894) _ ⟨hHeld, (by (with_reducible repeat (first | apply Kd.R_alloc | apply Kd.R_drewN | apply Kd.R_drew)); exact HO_889003.out), (by (with_reducible repeat (first | refine blk_drewN ?_ _ | refine blk_drew ?_ | refine blk_alloc ?_ _)); exact BK888.out), (by (with_reducible repeat (first | refine blk_drewN ?_ _ | refine blk_drew ?_ | refine blk_alloc ?_ _)); exact BK894.out), GW894.out, GE894.out, NB888_894.out, NB894_888.out, (by repeat (first | (with_reducible first | exact HB.out | apply below_alloc | apply pw_below_drewN | apply below_drew1 | refine below_set ?_ GE888.out | refine below_set ?_ GE894.out) | exact HB.out))⟩)
       rintro gb894 w22 ⟨hS_, h0_, h1_, h2_, h3_, h4_, h5_, h6_, h7_⟩
       have n0_ : Aside0 (Kd.R (Kd.int .i64) 3 w22 w.heap.size (fun _ => True) (.slice Ao11 t884.length co11) t884) := ⟨h0_⟩
       have n1_ : Aside0 (w22.heap[gb888]? = some (.cells #[.int .i64 t881, .int .i64 t882, .bool t883, .slice Ao11 t884.length co11] 24 (0, 0))) := ⟨h1_⟩
       have n2_ : Aside0 (w22.heap[gb894]? = some (.cells #[.int .i64 0, .int .i64 0] 42 (0, 0))) := ⟨h2_⟩
       have n3_ : Aside0 (w.heap.size ≤ gb894) := ⟨h3_⟩
       have n4_ : Aside0 (w.heap.size ≤ gb894) := ⟨h4_⟩
       have n5_ : Aside0 (gb888 ≠ gb894) := ⟨h5_⟩
       have n6_ : Aside0 (gb894 ≠ gb888) := ⟨h6_⟩
       have n7_ : Aside0 (Below w.heap.size w w22) := ⟨h7_⟩
       clear HO_889003
       clear BK888
       clear HB
       clear h0_ h1_ h2_ h3_ h4_ h5_ h6_ h7_
       have HO_889003 := n0_
       have BK888 := n1_
       have BK894 := n2_
       have GW894 := n3_
       have GE894 := n4_
       have NB888_894 := n5_
       have NB894_888 := n6_
       have HB := n7_
       clear n0_ n1_ n2_ n3_ n4_ n5_ n6_ n7_
       have hHeld : w22.cell? ⟨gb888, 0, none⟩ = some (.int .i64 t881) ∧ w22.cell? ⟨gb888, 1, none⟩ = some (.int .i64 t882) ∧ w22.cell? ⟨gb888, 2, none⟩ = some (.bool t883) ∧ w22.cell? ⟨gb888, 3, none⟩ = some (.slice Ao11 t884.length co11) := hS_
       refine norm_ (a' := ?_) ?_ ?_
       rotate_left
       ·simp only [putAll, Act.put, List.setIfInBounds_toArray, List.set_cons_zero, List.set_cons_succ]
        rfl
       refine one_ (i := 10) (N := none) #[true, true, true, true, true, true, true, true, true, true, true, false] rfl rfl (one_of HT_.out (by kernel_rfl)) (by decide) (fun K hK => ?_)
       have hs23 : w22.cell? ⟨gb894, 0, none⟩ = some (.int .i64 0) := (blk_cell BK894.out 0).trans rfl
       have hfs23 := blk_frozen BK894.out 0
       have hns23_0 := NB888_894.out
       have hms23_0 := NB894_888.out
       have hs24 : w22.cell? ⟨gb894, 1, none⟩ = some (.int .i64 0) := (blk_cell BK894.out 1).trans rfl
       have hfs24 := blk_frozen BK894.out 1
       have hns24_0 := NB888_894.out
       have hms24_0 := NB894_888.out
       refine skip_ (w1 := ?_) (by rfl) rfl ?_ ?_
       rotate_left
       ·go_simp
        rfl
       refine hK.out _ _ ⟨((cell_far (p := ⟨gb894, _, none⟩) NB888_894.out _).trans (((cell_far (p := ⟨gb894, _, none⟩) NB888_894.out _).trans (hHeld.1)))), ((cell_far (p := ⟨gb894, _, none⟩) NB888_894.out _).trans (((cell_far (p := ⟨gb894, _, none⟩) NB888_894.out _).trans (hHeld.2.1)))), ((cell_far (p := ⟨gb894, _, none⟩) NB888_894.out _).trans (((cell_far (p := ⟨gb894, _, none⟩) NB888_894.out _).trans (hHeld.2.2.1)))), ((cell_far (p := ⟨gb894, _, none⟩) NB888_894.out _).trans (((cell_far (p := ⟨gb894, _, none⟩) NB888_894.out _).trans (hHeld.2.2.2))))⟩ (fun hHeld => ?_)
       clear hK K
       refine pure_ (i := 11) (N := some 11) (v := ?_) (a' := ?_) #[true, true, true, true, true, true, true, true, true, true, true, true] rfl rfl (any_of HT_.out (by kernel_rfl)) (fun _ _ _ h => h) (Or.inl ⟨by rfl, ?_⟩) ?_ ?_
       rotate_left
       ·intro w'
        go_simp
        with_reducible rfl
       rotate_left
       ·simp only [Act.put, List.setIfInBounds_toArray, List.set_cons_zero, List.set_cons_succ, i64_w, i32_w]
        rfl
       refine done_ (done_of HT_.out (by kernel_rfl)) ?_
       try go_wp2
       have n0_ : Aside0 (Kd.R (Kd.int .i64) 3 ((w22.setCell ⟨gb894, 0, none⟩ (.int .i64 t891)).setCell ⟨gb894, 1, none⟩ (.int .i64 t892)) w.heap.size (fun _ => True) (.slice Ao11 t884.length co11) t884) := ⟨by (with_reducible repeat (first | apply Kd.R_alloc | apply Kd.R_drewN | apply Kd.R_drew)); exact Kd.R_mono (Kd.R_far (p := ⟨gb894, 1, none⟩) (Kd.R_far (p := ⟨gb894, 0, none⟩) (Kd.R_types HO_889003.out BK894.out (by decide)) (fun _ hk => hk.2) (.int .i64 t891)) (fun _ hk => hk.2) (.int .i64 t892)) (fun _ hk => trivial)⟩
       have n1_ : Aside0 (((w22.setCell ⟨gb894, 0, none⟩ (.int .i64 t891)).setCell ⟨gb894, 1, none⟩ (.int .i64 t892)).heap[gb888]? = some (.cells #[.int .i64 t881, .int .i64 t882, .bool t883, .slice Ao11 t884.length co11] 24 (0, 0))) := ⟨by (with_reducible repeat (first | refine blk_drewN ?_ _ | refine blk_drew ?_ | refine blk_alloc ?_ _)); refine blk_far ?_ NB888_894.out _; (with_reducible repeat (first | refine blk_drewN ?_ _ | refine blk_drew ?_ | refine blk_alloc ?_ _)); refine blk_far ?_ NB888_894.out _; (with_reducible repeat (first | refine blk_drewN ?_ _ | refine blk_drew ?_ | refine blk_alloc ?_ _)); exact BK888.out⟩
       have n2_ : Aside0 (((w22.setCell ⟨gb894, 0, none⟩ (.int .i64 t891)).setCell ⟨gb894, 1, none⟩ (.int .i64 t892)).heap[gb894]? = some (.cells #[.int .i64 t891, .int .i64 t892] 42 (0, 0))) := ⟨by (with_reducible repeat (first | refine blk_drewN ?_ _ | refine blk_drew ?_ | refine blk_alloc ?_ _)); refine blk_put (cs := #[.int .i64 t891, .int .i64 0]) ?_ 1 _ rfl; (with_reducible repeat (first | refine blk_drewN ?_ _ | refine blk_drew ?_ | refine blk_alloc ?_ _)); refine blk_put (cs := #[.int .i64 0, .int .i64 0]) ?_ 0 _ rfl; (with_reducible repeat (first | refine blk_drewN ?_ _ | refine blk_drew ?_ | refine blk_alloc ?_ _)); exact BK894.out⟩
       have n3_ : Aside0 (Below w.heap.size w ((w22.setCell ⟨gb894, 0, none⟩ (.int .i64 t891)).setCell ⟨gb894, 1, none⟩ (.int .i64 t892))) := ⟨by repeat (first | (with_reducible first | exact HB.out | apply below_alloc | apply pw_below_drewN | apply below_drew1 | refine below_set ?_ GE888.out | refine below_set ?_ GE894.out) | exact HB.out)⟩
       (try clear HO_889003)
       (try clear BK888)
       (try clear BK894)
       (try clear HB)
       generalize ((w22.setCell ⟨gb894, 0, none⟩ (.int .i64 t891)).setCell ⟨gb894, 1, none⟩ (.int .i64 t892)) = w25 at n0_ n1_ n2_ n3_ ⊢
       have HO_889003 := n0_
       have BK888 := n1_
       have BK894 := n2_
       have HB := n3_
       clear n0_ n1_ n2_ n3_
       have n0_ := Aside0.mk (Kd.R_drew HO_889003.out)
       have n1_ := Aside0.mk (blk_drew BK888.out)
       have n2_ := Aside0.mk (blk_drew BK894.out)
       have n3_ := Aside0.mk (below_drew1 HB.out)
       clear HO_889003
       clear BK888
       clear BK894
       clear HB
       have HO_889003 := n0_
       have BK888 := n1_
       have BK894 := n2_
       have HB := n3_
       clear n0_ n1_ n2_ n3_
       refine start_ (n := 12) (S := fun w' => w'.cell? ⟨gb888, 0, none⟩ = some (.int .i64 t881) ∧ w'.cell? ⟨gb888, 1, none⟩ = some (.int .i64 t882) ∧ w'.cell? ⟨gb888, 2, none⟩ = some (.bool t883) ∧ w'.cell? ⟨gb888, 3, none⟩ = some (.slice Ao11 t884.length co11)) (ds := []) #[false, false, false, false, false, false, false, false, false, false, false, false] (by kernel_rfl) rfl rfl ⟨(blk_cell BK888.out 0).trans rfl, (blk_cell BK888.out 1).trans rfl, (blk_cell BK888.out 2).trans rfl, (blk_cell BK888.out 3).trans rfl⟩ (fun hHeld => ?_); refine with_tabW thermionlaw01_FieldBoth.tab9 thermionlaw01_FieldBoth.bits9 (fun HT_ HW_ => ?_)
       generalize w25.drew = w26 at HO_889003 BK888 BK894 HB hHeld ⊢
       refine pure_ (i := 1) (N := some 37) (v := ?_) (a' := ?_) #[false, true, false, false, false, false, false, false, false, false, false, false] rfl rfl (any_of HT_.out (by kernel_rfl)) (fun _ _ _ h => h) (Or.inl ⟨by rfl, ?_⟩) ?_ ?_
       rotate_left
       ·intro w'
        go_simp
        with_reducible rfl
       rotate_left
       ·simp only [Act.put, List.setIfInBounds_toArray, List.set_cons_zero, List.set_cons_succ, i64_w, i32_w]
        rfl
       refine pure_ (i := 3) (N := some 39) (v := ?_) (a' := ?_) #[false, true, false, true, false, false, false, false, false, false, false, false] rfl rfl (any_of HT_.out (by kernel_rfl)) (fun _ _ _ h => h) (Or.inl ⟨by rfl, ?_⟩) ?_ ?_
       rotate_left
       ·intro w'
        go_simp
        with_reducible rfl
       rotate_left
       ·simp only [Act.put, List.setIfInBounds_toArray, List.set_cons_zero, List.set_cons_succ, i64_w, i32_w]
        rfl
       refine pure_ (i := 4) (N := some 40) (v := ?_) (a' := ?_) #[false, true, false, true, true, false, false, false, false, false, false, false] rfl rfl (any_of HT_.out (by kernel_rfl)) (fun _ _ _ h => h) (Or.inl ⟨by rfl, ?_⟩) ?_ ?_
       rotate_left
       ·intro w'
        go_simp
        with_reducible rfl
       rotate_left
       ·simp only [Act.put, List.setIfInBounds_toArray, List.set_cons_zero, List.set_cons_succ, i64_w, i32_w]
        rfl
       refine take_ (i := 0) (N := some 36) (v := ?_) (a' := ?_) #[true, true, false, true, true, false, false, false, false, false, false, false] rfl rfl (take_ofW HT_.out HW_.out (by kernel_rfl)) (fun _ _ _ h => h) (Or.inl ⟨by rfl, ?_⟩) hHeld ?_ ?_
       rotate_left
       ·rintro w' ⟨s0, s1, s2, s3⟩
        go_simp
        with_reducible rfl
       rotate_left
       ·simp only [Act.put, List.setIfInBounds_toArray, List.set_cons_zero, List.set_cons_succ, i64_w, i32_w]
        rfl
       refine join_ (σ := Nat) 2 #[true, true, true, true, true, true, true, true, true, true, false, false] (fun s_ => [(38, .int .i64 t895), (41, .tuple #[.agg #[.int .i64 t896, .int .i64 t897], .int .i64 t898]), (12, .pointer (some ⟨s_, 0, none⟩)), (35, .tuple #[.agg #[.int .i64 t896, .int .i64 t897], .int .i64 t898]), (42, .agg #[.int .i64 t896, .int .i64 t897]), (43, .int .i64 t898)]) (fun s_ w' => (w'.cell? ⟨gb888, 0, none⟩ = some (.int .i64 t881) ∧ w'.cell? ⟨gb888, 1, none⟩ = some (.int .i64 t882) ∧ w'.cell? ⟨gb888, 2, none⟩ = some (.bool t883) ∧ w'.cell? ⟨gb888, 3, none⟩ = some (.slice Ao11 t884.length co11)) ∧ (Kd.R (Kd.int .i64) 3 w' w.heap.size (fun _ => True) (.slice Ao11 t884.length co11) t884) ∧ (w'.heap[gb888]? = some (.cells #[.int .i64 t881, .int .i64 t882, .bool t883, .slice Ao11 t884.length co11] 24 (0, 0))) ∧ (w'.heap[gb894]? = some (.cells #[.int .i64 t891, .int .i64 t892] 42 (0, 0))) ∧ (w'.heap[s_]? = some (.cells #[.int .i64 0, .int .i64 0] 42 (0, 0))) ∧ (w.heap.size ≤ s_) ∧ (w.heap.size ≤ s_) ∧ (gb888 ≠ s_) ∧ (s_ ≠ gb888) ∧ (gb894 ≠ s_) ∧ (s_ ≠ gb894) ∧ (Below w.heap.size w w')) ?_ ?_
       rotate_left
       ·intro hCont
        refine two_ (i := 2) (j := 9) (Ni := some 38) (Nj := some 12) #[true, true, true, true, true, false, false, false, false, false, false, false] #[true, true, false, true, true, false, false, false, false, true, false, false] rfl rfl rfl rfl (two_of HT_.out (by kernel_rfl)) (by decide) (by decide) (fun K hK => ?_) (fun K hK => ?_)
        ·skip
         refine goes_ Try.func28 (by kernel_rfl) rfl #[.int .i64 a2, .int .i64 41] (by rfl) rfl rfl (by (try simp only [List.map_toArray, List.map_cons, List.map_nil]); first | done | rfl | (simp only [List.length_drop, List.length_take]; rfl)) ?_
         with_reducible refine (thermionkit_Mod.calls a2 41 t895 _ A16.out).mono ?_
         rintro e w' ⟨rfl, ⟨nd, rfl⟩⟩
         refine ⟨_, rfl, ?_⟩
         refine hK.out _ _ ⟨(blk_cell BK888.out 0).trans rfl, (blk_cell BK888.out 1).trans rfl, (blk_cell BK888.out 2).trans rfl, (blk_cell BK888.out 3).trans rfl⟩ (fun hHeld => ?_)
         clear hK K
         refine norm_ (a' := ?_) ?_ ?_
         rotate_left
         ·show Act.put _ (some 38) _ = _
          simp only [Act.put, List.setIfInBounds_toArray, List.set_cons_zero, List.set_cons_succ, i64_w, i32_w]
          rfl
         refine two_ (i := 5) (j := 9) (Ni := some 41) (Nj := some 12) #[true, true, true, true, true, true, false, false, false, false, false, false] #[true, true, true, true, true, false, false, false, false, true, false, false] rfl rfl rfl rfl (two_of HT_.out (by kernel_rfl)) (by decide) (by decide) (fun K hK => ?_) (fun K hK => ?_)
         ·skip
          refine goes_ Try.func52 (by kernel_rfl) rfl #[.agg #[.int .i64 t881, .int .i64 t882, .bool t883, .slice Ao11 t884.length co11], .int .i64 t895, .int .i64 x9_2, .int .i64 x8_1] (by rfl) rfl rfl (by (try simp only [List.map_toArray, List.map_cons, List.map_nil]); first | done | rfl | (simp only [List.length_drop, List.length_take]; rfl)) ?_
          with_reducible refine (field_Influence.calls k2 t881 t882 t883 _ _ t884 t895 x9_2 x8_1 t896 t897 t898 _ ?side1 ?side2 A17.out).mono ?_
          (case side1 => repeat (first | exact (Kd.R_reads' HO_889003.out).2.2 | (with_reducible refine Kd.C_alloc ?_ _) | (with_reducible refine Kd.C_drewN ?_ _) | (with_reducible refine Kd.C_drew ?_)))
          (case side2 => exact (Kd.R_reads' HO_889003.out).2.1)
          rintro e w27 ⟨rfl, hb⟩
          refine ⟨_, rfl, ?_⟩
          have n0_ := Aside0.mk (Kd.R_below (by (with_reducible repeat (first | apply Kd.R_alloc | apply Kd.R_drewN | apply Kd.R_drew)); exact HO_889003.out) hb)
          have n1_ := Aside0.mk (blk_below (g := gb888) (o := .cells #[.int .i64 t881, .int .i64 t882, .bool t883, .slice Ao11 t884.length co11] 24 (0, 0)) (by (with_reducible repeat (first | refine blk_drewN ?_ _ | refine blk_drew ?_ | refine blk_alloc ?_ _)); exact BK888.out) hb)
          have n2_ := Aside0.mk (blk_below (g := gb894) (o := .cells #[.int .i64 t891, .int .i64 t892] 42 (0, 0)) (by (with_reducible repeat (first | refine blk_drewN ?_ _ | refine blk_drew ?_ | refine blk_alloc ?_ _)); exact BK894.out) hb)
          have n3_ := Aside0.mk (below_step (by repeat (first | (with_reducible first | exact HB.out | apply below_alloc | apply pw_below_drewN | apply below_drew1 | refine below_set ?_ GE888.out | refine below_set ?_ GE894.out) | exact HB.out)) hb)
          clear HO_889003
          clear BK888
          clear BK894
          clear HB
          have HO_889003 := n0_
          have BK888 := n1_
          have BK894 := n2_
          have HB := n3_
          clear n0_ n1_ n2_ n3_
          (try clear hb)
          (try clear hb2)
          (try clear hk)
          (try clear hi)
          refine hK.out _ _ ⟨(blk_cell BK888.out 0).trans rfl, (blk_cell BK888.out 1).trans rfl, (blk_cell BK888.out 2).trans rfl, (blk_cell BK888.out 3).trans rfl⟩ (fun hHeld => ?_)
          clear hK K
          refine norm_ (a' := ?_) ?_ ?_
          rotate_left
          ·show Act.put _ (some 41) _ = _
           simp only [Act.put, List.setIfInBounds_toArray, List.set_cons_zero, List.set_cons_succ, i64_w, i32_w]
           rfl
          refine pure_ (i := 6) (N := some 35) (v := ?_) (a' := ?_) #[true, true, true, true, true, true, true, false, false, false, false, false] rfl rfl (any_of HT_.out (by kernel_rfl)) (fun _ _ _ h => h) (Or.inl ⟨by rfl, ?_⟩) ?_ ?_
          rotate_left
          ·intro w'
           go_simp
           with_reducible rfl
          rotate_left
          ·simp only [Act.put, List.setIfInBounds_toArray, List.set_cons_zero, List.set_cons_succ, i64_w, i32_w]
           rfl
          refine pure_ (i := 7) (N := some 42) (v := ?_) (a' := ?_) #[true, true, true, true, true, true, true, true, false, false, false, false] rfl rfl (any_of HT_.out (by kernel_rfl)) (fun _ _ _ h => h) (Or.inl ⟨by rfl, ?_⟩) ?_ ?_
          rotate_left
          ·intro w'
           go_simp
           with_reducible rfl
          rotate_left
          ·simp only [Act.put, List.setIfInBounds_toArray, List.set_cons_zero, List.set_cons_succ, i64_w, i32_w]
           rfl
          refine pure_ (i := 8) (N := some 43) (v := ?_) (a' := ?_) #[true, true, true, true, true, true, true, true, true, false, false, false] rfl rfl (any_of HT_.out (by kernel_rfl)) (fun _ _ _ h => h) (Or.inl ⟨by rfl, ?_⟩) ?_ ?_
          rotate_left
          ·intro w'
           go_simp
           with_reducible rfl
          rotate_left
          ·simp only [Act.put, List.setIfInBounds_toArray, List.set_cons_zero, List.set_cons_succ, i64_w, i32_w]
           rfl
          refine one_ (i := 9) (N := some 12) #[true, true, true, true, true, true, true, true, true, true, false, false] rfl rfl (one_of HT_.out (by kernel_rfl)) (by decide) (fun K hK => ?_)
          refine box_step ?hg (N := 12) ?hd (cs := #[.int .i64 0, .int .i64 0]) (t := 42) ?hr ?_; (case hd => rfl); (case hg => rfl); (case hr => first | (go_simp; done) | (go_simp; rfl))
          intro gb899 hg w28 hbox hb
          have n0_ := Aside0.mk (Kd.R_below (by (with_reducible repeat (first | apply Kd.R_alloc | apply Kd.R_drewN | apply Kd.R_drew)); exact HO_889003.out) hb)
          have n1_ := Aside0.mk (blk_below (g := gb888) (o := .cells #[.int .i64 t881, .int .i64 t882, .bool t883, .slice Ao11 t884.length co11] 24 (0, 0)) (by (with_reducible repeat (first | refine blk_drewN ?_ _ | refine blk_drew ?_ | refine blk_alloc ?_ _)); exact BK888.out) hb)
          have n2_ := Aside0.mk (blk_below (g := gb894) (o := .cells #[.int .i64 t891, .int .i64 t892] 42 (0, 0)) (by (with_reducible repeat (first | refine blk_drewN ?_ _ | refine blk_drew ?_ | refine blk_alloc ?_ _)); exact BK894.out) hb)
          have n3_ := Aside0.mk (below_step (by repeat (first | (with_reducible first | exact HB.out | apply below_alloc | apply pw_below_drewN | apply below_drew1 | refine below_set ?_ GE888.out | refine below_set ?_ GE894.out) | exact HB.out)) hb)
          have n4_ := Aside0.mk (hbox)
          have n5_ := Aside0.mk ((by rw [hg]; exact (below_size (by repeat (first | (with_reducible first | exact HB.out | apply below_alloc | apply pw_below_drewN | apply below_drew1 | refine below_set ?_ GE888.out | refine below_set ?_ GE894.out) | exact HB.out))) : w.heap.size ≤ gb899))
          have n6_ := Aside0.mk ((by rw [hg]; exact (below_size (by repeat (first | (with_reducible first | exact HB.out | apply below_alloc | apply pw_below_drewN | apply below_drew1 | refine below_set ?_ GE888.out | refine below_set ?_ GE894.out) | exact HB.out))) : w.heap.size ≤ gb899))
          have n7_ := Aside0.mk ((by rw [hg]; exact Nat.ne_of_lt (blk_lt (g := gb888) (o := .cells #[.int .i64 t881, .int .i64 t882, .bool t883, .slice Ao11 t884.length co11] 24 (0, 0)) (by (with_reducible repeat (first | refine blk_drewN ?_ _ | refine blk_drew ?_ | refine blk_alloc ?_ _)); exact BK888.out)) : gb888 ≠ gb899))
          have n8_ := Aside0.mk ((by rw [hg]; exact Nat.ne_of_gt (blk_lt (g := gb888) (o := .cells #[.int .i64 t881, .int .i64 t882, .bool t883, .slice Ao11 t884.length co11] 24 (0, 0)) (by (with_reducible repeat (first | refine blk_drewN ?_ _ | refine blk_drew ?_ | refine blk_alloc ?_ _)); exact BK888.out)) : gb899 ≠ gb888))
          have n9_ := Aside0.mk ((by rw [hg]; exact Nat.ne_of_lt (blk_lt (g := gb894) (o := .cells #[.int .i64 t891, .int .i64 t892] 42 (0, 0)) (by (with_reducible repeat (first | refine blk_drewN ?_ _ | refine blk_drew ?_ | refine blk_alloc ?_ _)); exact BK894.out)) : gb894 ≠ gb899))
          have n10_ := Aside0.mk ((by rw [hg]; exact Nat.ne_of_gt (blk_lt (g := gb894) (o := .cells #[.int .i64 t891, .int .i64 t892] 42 (0, 0)) (by (with_reducible repeat (first | refine blk_drewN ?_ _ | refine blk_drew ?_ | refine blk_alloc ?_ _)); exact BK894.out)) : gb899 ≠ gb894))
          clear HO_889003
          clear BK888
          clear BK894
          clear HB
          have HO_889003 := n0_
          have BK888 := n1_
          have BK894 := n2_
          have HB := n3_
          have BK899 := n4_
          have GW899 := n5_
          have GE899 := n6_
          have NB888_899 := n7_
          have NB899_888 := n8_
          have NB894_899 := n9_
          have NB899_894 := n10_
          clear n0_ n1_ n2_ n3_ n4_ n5_ n6_ n7_ n8_ n9_ n10_
          clear hb hbox hg
          refine hK.out _ _ ⟨(blk_cell BK888.out 0).trans rfl, (blk_cell BK888.out 1).trans rfl, (blk_cell BK888.out 2).trans rfl, (blk_cell BK888.out 3).trans rfl⟩ (fun hHeld => ?_)
          clear hK K
          refine norm_ (a' := ?_) ?_ ?_
          rotate_left
          ·show Act.put _ (some 12) _ = _
           simp only [Act.put, List.setIfInBounds_toArray, List.set_cons_zero, List.set_cons_succ, i64_w, i32_w]
           rfl
          exact norm_ (by simp only [putAll, Act.put, List.setIfInBounds_toArray, List.set_cons_zero, List.set_cons_succ]) (hCont (gb899) _ ⟨hHeld, (by (with_reducible repeat (first | apply Kd.R_alloc | apply Kd.R_drewN | apply Kd.R_drew)); exact HO_889003.out), (by (with_reducible repeat (first | refine blk_drewN ?_ _ | refine blk_drew ?_ | refine blk_alloc ?_ _)); exact BK888.out), (by (with_reducible repeat (first | refine blk_drewN ?_ _ | refine blk_drew ?_ | refine blk_alloc ?_ _)); exact BK894.out), (by (with_reducible repeat (first | refine blk_drewN ?_ _ | refine blk_drew ?_ | refine blk_alloc ?_ _)); exact BK899.out), GW899.out, GE899.out, NB888_899.out, NB899_888.out, NB894_899.out, NB899_894.out, (by repeat (first | (with_reducible first | exact HB.out | apply below_alloc | apply pw_below_drewN | apply below_drew1 | refine below_set ?_ GE888.out | refine below_set ?_ GE894.out | refine below_set ?_ GE899.out) | exact HB.out))⟩)
         ·skip
          refine box_step ?hg (N := 12) ?hd (cs := #[.int .i64 0, .int .i64 0]) (t := 42) ?hr ?_; (case hd => rfl); (case hg => rfl); (case hr => first | (go_simp; done) | (go_simp; rfl))
          intro gb899 hg w27 hbox hb
          have n0_ := Aside0.mk (Kd.R_below (by (with_reducible repeat (first | apply Kd.R_alloc | apply Kd.R_drewN | apply Kd.R_drew)); exact HO_889003.out) hb)
          have n1_ := Aside0.mk (blk_below (g := gb888) (o := .cells #[.int .i64 t881, .int .i64 t882, .bool t883, .slice Ao11 t884.length co11] 24 (0, 0)) (by (with_reducible repeat (first | refine blk_drewN ?_ _ | refine blk_drew ?_ | refine blk_alloc ?_ _)); exact BK888.out) hb)
          have n2_ := Aside0.mk (blk_below (g := gb894) (o := .cells #[.int .i64 t891, .int .i64 t892] 42 (0, 0)) (by (with_reducible repeat (first | refine blk_drewN ?_ _ | refine blk_drew ?_ | refine blk_alloc ?_ _)); exact BK894.out) hb)
          have n3_ := Aside0.mk (below_step (by repeat (first | (with_reducible first | exact HB.out | apply below_alloc | apply pw_below_drewN | apply below_drew1 | refine below_set ?_ GE888.out | refine below_set ?_ GE894.out) | exact HB.out)) hb)
          have n4_ := Aside0.mk (hbox)
          have n5_ := Aside0.mk ((by rw [hg]; exact (below_size (by repeat (first | (with_reducible first | exact HB.out | apply below_alloc | apply pw_below_drewN | apply below_drew1 | refine below_set ?_ GE888.out | refine below_set ?_ GE894.out) | exact HB.out))) : w.heap.size ≤ gb899))
          have n6_ := Aside0.mk ((by rw [hg]; exact (below_size (by repeat (first | (with_reducible first | exact HB.out | apply below_alloc | apply pw_below_drewN | apply below_drew1 | refine below_set ?_ GE888.out | refine below_set ?_ GE894.out) | exact HB.out))) : w.heap.size ≤ gb899))
          have n7_ := Aside0.mk ((by rw [hg]; exact Nat.ne_of_lt (blk_lt (g := gb888) (o := .cells #[.int .i64 t881, .int .i64 t882, .bool t883, .slice Ao11 t884.length co11] 24 (0, 0)) (by (with_reducible repeat (first | refine blk_drewN ?_ _ | refine blk_drew ?_ | refine blk_alloc ?_ _)); exact BK888.out)) : gb888 ≠ gb899))
          have n8_ := Aside0.mk ((by rw [hg]; exact Nat.ne_of_gt (blk_lt (g := gb888) (o := .cells #[.int .i64 t881, .int .i64 t882, .bool t883, .slice Ao11 t884.length co11] 24 (0, 0)) (by (with_reducible repeat (first | refine blk_drewN ?_ _ | refine blk_drew ?_ | refine blk_alloc ?_ _)); exact BK888.out)) : gb899 ≠ gb888))
          have n9_ := Aside0.mk ((by rw [hg]; exact Nat.ne_of_lt (blk_lt (g := gb894) (o := .cells #[.int .i64 t891, .int .i64 t892] 42 (0, 0)) (by (with_reducible repeat (first | refine blk_drewN ?_ _ | refine blk_drew ?_ | refine blk_alloc ?_ _)); exact BK894.out)) : gb894 ≠ gb899))
          have n10_ := Aside0.mk ((by rw [hg]; exact Nat.ne_of_gt (blk_lt (g := gb894) (o := .cells #[.int .i64 t891, .int .i64 t892] 42 (0, 0)) (by (with_reducible repeat (first | refine blk_drewN ?_ _ | refine blk_drew ?_ | refine blk_alloc ?_ _)); exact BK894.out)) : gb899 ≠ gb894))
          clear HO_889003
          clear BK888
          clear BK894
          clear HB
          have HO_889003 := n0_
          have BK888 := n1_
          have BK894 := n2_
          have HB := n3_
          have BK899 := n4_
          have GW899 := n5_
          have GE899 := n6_
          have NB888_899 := n7_
          have NB899_888 := n8_
          have NB894_899 := n9_
          have NB899_894 := n10_
          clear n0_ n1_ n2_ n3_ n4_ n5_ n6_ n7_ n8_ n9_ n10_
          clear hb hbox hg
          refine hK.out _ _ ⟨(blk_cell BK888.out 0).trans rfl, (blk_cell BK888.out 1).trans rfl, (blk_cell BK888.out 2).trans rfl, (blk_cell BK888.out 3).trans rfl⟩ (fun hHeld => ?_)
          clear hK K
          refine norm_ (a' := ?_) ?_ ?_
          rotate_left
          ·show Act.put _ (some 12) _ = _
           simp only [Act.put, List.setIfInBounds_toArray, List.set_cons_zero, List.set_cons_succ, i64_w, i32_w]
           rfl
          refine one_ (i := 5) (N := some 41) #[true, true, true, true, true, true, false, false, false, true, false, false] rfl rfl (one_of HT_.out (by kernel_rfl)) (by decide) (fun K hK => ?_)
          refine goes_ Try.func52 (by kernel_rfl) rfl #[.agg #[.int .i64 t881, .int .i64 t882, .bool t883, .slice Ao11 t884.length co11], .int .i64 t895, .int .i64 x9_2, .int .i64 x8_1] (by rfl) rfl rfl (by (try simp only [List.map_toArray, List.map_cons, List.map_nil]); first | done | rfl | (simp only [List.length_drop, List.length_take]; rfl)) ?_
          with_reducible refine (field_Influence.calls k2 t881 t882 t883 _ _ t884 t895 x9_2 x8_1 t896 t897 t898 _ ?side1 ?side2 A17.out).mono ?_
          (case side1 => repeat (first | exact (Kd.R_reads' HO_889003.out).2.2 | (with_reducible refine Kd.C_alloc ?_ _) | (with_reducible refine Kd.C_drewN ?_ _) | (with_reducible refine Kd.C_drew ?_)))
          (case side2 => exact (Kd.R_reads' HO_889003.out).2.1)
          rintro e w28 ⟨rfl, hb⟩
          refine ⟨_, rfl, ?_⟩
          have n0_ := Aside0.mk (Kd.R_below (by (with_reducible repeat (first | apply Kd.R_alloc | apply Kd.R_drewN | apply Kd.R_drew)); exact HO_889003.out) hb)
          have n1_ := Aside0.mk (blk_below (g := gb888) (o := .cells #[.int .i64 t881, .int .i64 t882, .bool t883, .slice Ao11 t884.length co11] 24 (0, 0)) (by (with_reducible repeat (first | refine blk_drewN ?_ _ | refine blk_drew ?_ | refine blk_alloc ?_ _)); exact BK888.out) hb)
          have n2_ := Aside0.mk (blk_below (g := gb894) (o := .cells #[.int .i64 t891, .int .i64 t892] 42 (0, 0)) (by (with_reducible repeat (first | refine blk_drewN ?_ _ | refine blk_drew ?_ | refine blk_alloc ?_ _)); exact BK894.out) hb)
          have n3_ := Aside0.mk (blk_below (g := gb899) (o := .cells #[.int .i64 0, .int .i64 0] 42 (0, 0)) (by (with_reducible repeat (first | refine blk_drewN ?_ _ | refine blk_drew ?_ | refine blk_alloc ?_ _)); exact BK899.out) hb)
          have n4_ := Aside0.mk (below_step (by repeat (first | (with_reducible first | exact HB.out | apply below_alloc | apply pw_below_drewN | apply below_drew1 | refine below_set ?_ GE888.out | refine below_set ?_ GE894.out | refine below_set ?_ GE899.out) | exact HB.out)) hb)
          clear HO_889003
          clear BK888
          clear BK894
          clear BK899
          clear HB
          have HO_889003 := n0_
          have BK888 := n1_
          have BK894 := n2_
          have BK899 := n3_
          have HB := n4_
          clear n0_ n1_ n2_ n3_ n4_
          (try clear hb)
          (try clear hb2)
          (try clear hk)
          (try clear hi)
          refine hK.out _ _ ⟨(blk_cell BK888.out 0).trans rfl, (blk_cell BK888.out 1).trans rfl, (blk_cell BK888.out 2).trans rfl, (blk_cell BK888.out 3).trans rfl⟩ (fun hHeld => ?_)
          clear hK K
          refine norm_ (a' := ?_) ?_ ?_
          rotate_left
          ·show Act.put _ (some 41) _ = _
           simp only [Act.put, List.setIfInBounds_toArray, List.set_cons_zero, List.set_cons_succ, i64_w, i32_w]
           rfl
          refine pure_ (i := 6) (N := some 35) (v := ?_) (a' := ?_) #[true, true, true, true, true, true, true, false, false, true, false, false] rfl rfl (any_of HT_.out (by kernel_rfl)) (fun _ _ _ h => h) (Or.inl ⟨by rfl, ?_⟩) ?_ ?_
          rotate_left
          ·intro w'
           go_simp
           with_reducible rfl
          rotate_left
          ·simp only [Act.put, List.setIfInBounds_toArray, List.set_cons_zero, List.set_cons_succ, i64_w, i32_w]
           rfl
          refine pure_ (i := 7) (N := some 42) (v := ?_) (a' := ?_) #[true, true, true, true, true, true, true, true, false, true, false, false] rfl rfl (any_of HT_.out (by kernel_rfl)) (fun _ _ _ h => h) (Or.inl ⟨by rfl, ?_⟩) ?_ ?_
          rotate_left
          ·intro w'
           go_simp
           with_reducible rfl
          rotate_left
          ·simp only [Act.put, List.setIfInBounds_toArray, List.set_cons_zero, List.set_cons_succ, i64_w, i32_w]
           rfl
          refine pure_ (i := 8) (N := some 43) (v := ?_) (a' := ?_) #[true, true, true, true, true, true, true, true, true, true, false, false] rfl rfl (any_of HT_.out (by kernel_rfl)) (fun _ _ _ h => h) (Or.inl ⟨by rfl, ?_⟩) ?_ ?_
          rotate_left
          ·intro w'
           go_simp
           with_reducible rfl
          rotate_left
          ·simp only [Act.put, List.setIfInBounds_toArray, List.set_cons_zero, List.set_cons_succ, i64_w, i32_w]
           rfl
          exact norm_ (by simp only [putAll, Act.put, List.setIfInBounds_toArray, List.set_cons_zero, List.set_cons_succ]) (hCont (gb899) _ ⟨hHeld, (by (with_reducible repeat (first | apply Kd.R_alloc | apply Kd.R_drewN | apply Kd.R_drew)); exact HO_889003.out), (by (with_reducible repeat (first | refine blk_drewN ?_ _ | refine blk_drew ?_ | refine blk_alloc ?_ _)); exact BK888.out), (by (with_reducible repeat (first | refine blk_drewN ?_ _ | refine blk_drew ?_ | refine blk_alloc ?_ _)); exact BK894.out), (by (with_reducible repeat (first | refine blk_drewN ?_ _ | refine blk_drew ?_ | refine blk_alloc ?_ _)); exact BK899.out), GW899.out, GE899.out, NB888_899.out, NB899_888.out, NB894_899.out, NB899_894.out, (by repeat (first | (with_reducible first | exact HB.out | apply below_alloc | apply pw_below_drewN | apply below_drew1 | refine below_set ?_ GE888.out | refine below_set ?_ GE894.out | refine below_set ?_ GE899.out) | exact HB.out))⟩)
        ·skip
         refine box_step ?hg (N := 12) ?hd (cs := #[.int .i64 0, .int .i64 0]) (t := 42) ?hr ?_; (case hd => rfl); (case hg => rfl); (case hr => first | (go_simp; done) | (go_simp; rfl))
         intro gb899 hg w27 hbox hb
         have n0_ := Aside0.mk (Kd.R_below (by (with_reducible repeat (first | apply Kd.R_alloc | apply Kd.R_drewN | apply Kd.R_drew)); exact HO_889003.out) hb)
         have n1_ := Aside0.mk (blk_below (g := gb888) (o := .cells #[.int .i64 t881, .int .i64 t882, .bool t883, .slice Ao11 t884.length co11] 24 (0, 0)) (by (with_reducible repeat (first | refine blk_drewN ?_ _ | refine blk_drew ?_ | refine blk_alloc ?_ _)); exact BK888.out) hb)
         have n2_ := Aside0.mk (blk_below (g := gb894) (o := .cells #[.int .i64 t891, .int .i64 t892] 42 (0, 0)) (by (with_reducible repeat (first | refine blk_drewN ?_ _ | refine blk_drew ?_ | refine blk_alloc ?_ _)); exact BK894.out) hb)
         have n3_ := Aside0.mk (below_step (by repeat (first | (with_reducible first | exact HB.out | apply below_alloc | apply pw_below_drewN | apply below_drew1 | refine below_set ?_ GE888.out | refine below_set ?_ GE894.out) | exact HB.out)) hb)
         have n4_ := Aside0.mk (hbox)
         have n5_ := Aside0.mk ((by rw [hg]; exact (below_size (by repeat (first | (with_reducible first | exact HB.out | apply below_alloc | apply pw_below_drewN | apply below_drew1 | refine below_set ?_ GE888.out | refine below_set ?_ GE894.out) | exact HB.out))) : w.heap.size ≤ gb899))
         have n6_ := Aside0.mk ((by rw [hg]; exact (below_size (by repeat (first | (with_reducible first | exact HB.out | apply below_alloc | apply pw_below_drewN | apply below_drew1 | refine below_set ?_ GE888.out | refine below_set ?_ GE894.out) | exact HB.out))) : w.heap.size ≤ gb899))
         have n7_ := Aside0.mk ((by rw [hg]; exact Nat.ne_of_lt (blk_lt (g := gb888) (o := .cells #[.int .i64 t881, .int .i64 t882, .bool t883, .slice Ao11 t884.length co11] 24 (0, 0)) (by (with_reducible repeat (first | refine blk_drewN ?_ _ | refine blk_drew ?_ | refine blk_alloc ?_ _)); exact BK888.out)) : gb888 ≠ gb899))
         have n8_ := Aside0.mk ((by rw [hg]; exact Nat.ne_of_gt (blk_lt (g := gb888) (o := .cells #[.int .i64 t881, .int .i64 t882, .bool t883, .slice Ao11 t884.length co11] 24 (0, 0)) (by (with_reducible repeat (first | refine blk_drewN ?_ _ | refine blk_drew ?_ | refine blk_alloc ?_ _)); exact BK888.out)) : gb899 ≠ gb888))
         have n9_ := Aside0.mk ((by rw [hg]; exact Nat.ne_of_lt (blk_lt (g := gb894) (o := .cells #[.int .i64 t891, .int .i64 t892] 42 (0, 0)) (by (with_reducible repeat (first | refine blk_drewN ?_ _ | refine blk_drew ?_ | refine blk_alloc ?_ _)); exact BK894.out)) : gb894 ≠ gb899))
         have n10_ := Aside0.mk ((by rw [hg]; exact Nat.ne_of_gt (blk_lt (g := gb894) (o := .cells #[.int .i64 t891, .int .i64 t892] 42 (0, 0)) (by (with_reducible repeat (first | refine blk_drewN ?_ _ | refine blk_drew ?_ | refine blk_alloc ?_ _)); exact BK894.out)) : gb899 ≠ gb894))
         clear HO_889003
         clear BK888
         clear BK894
         clear HB
         have HO_889003 := n0_
         have BK888 := n1_
         have BK894 := n2_
         have HB := n3_
         have BK899 := n4_
         have GW899 := n5_
         have GE899 := n6_
         have NB888_899 := n7_
         have NB899_888 := n8_
         have NB894_899 := n9_
         have NB899_894 := n10_
         clear n0_ n1_ n2_ n3_ n4_ n5_ n6_ n7_ n8_ n9_ n10_
         clear hb hbox hg
         refine hK.out _ _ ⟨(blk_cell BK888.out 0).trans rfl, (blk_cell BK888.out 1).trans rfl, (blk_cell BK888.out 2).trans rfl, (blk_cell BK888.out 3).trans rfl⟩ (fun hHeld => ?_)
         clear hK K
         refine norm_ (a' := ?_) ?_ ?_
         rotate_left
         ·show Act.put _ (some 12) _ = _
          simp only [Act.put, List.setIfInBounds_toArray, List.set_cons_zero, List.set_cons_succ, i64_w, i32_w]
          rfl
         refine one_ (i := 2) (N := some 38) #[true, true, true, true, true, false, false, false, false, true, false, false] rfl rfl (one_of HT_.out (by kernel_rfl)) (by decide) (fun K hK => ?_)
         refine goes_ Try.func28 (by kernel_rfl) rfl #[.int .i64 a2, .int .i64 41] (by rfl) rfl rfl (by (try simp only [List.map_toArray, List.map_cons, List.map_nil]); first | done | rfl | (simp only [List.length_drop, List.length_take]; rfl)) ?_
         with_reducible refine (thermionkit_Mod.calls a2 41 t895 _ A16.out).mono ?_
         rintro e w' ⟨rfl, ⟨nd, rfl⟩⟩
         refine ⟨_, rfl, ?_⟩
         refine hK.out _ _ ⟨(blk_cell BK888.out 0).trans rfl, (blk_cell BK888.out 1).trans rfl, (blk_cell BK888.out 2).trans rfl, (blk_cell BK888.out 3).trans rfl⟩ (fun hHeld => ?_)
         clear hK K
         refine norm_ (a' := ?_) ?_ ?_
         rotate_left
         ·show Act.put _ (some 38) _ = _
          simp only [Act.put, List.setIfInBounds_toArray, List.set_cons_zero, List.set_cons_succ, i64_w, i32_w]
          rfl
         refine one_ (i := 5) (N := some 41) #[true, true, true, true, true, true, false, false, false, true, false, false] rfl rfl (one_of HT_.out (by kernel_rfl)) (by decide) (fun K hK => ?_)
         refine goes_ Try.func52 (by kernel_rfl) rfl #[.agg #[.int .i64 t881, .int .i64 t882, .bool t883, .slice Ao11 t884.length co11], .int .i64 t895, .int .i64 x9_2, .int .i64 x8_1] (by rfl) rfl rfl (by (try simp only [List.map_toArray, List.map_cons, List.map_nil]); first | done | rfl | (simp only [List.length_drop, List.length_take]; rfl)) ?_
         with_reducible refine (field_Influence.calls k2 t881 t882 t883 _ _ t884 t895 x9_2 x8_1 t896 t897 t898 _ ?side1 ?side2 A17.out).mono ?_
         (case side1 => repeat (first | exact (Kd.R_reads' HO_889003.out).2.2 | (with_reducible refine Kd.C_alloc ?_ _) | (with_reducible refine Kd.C_drewN ?_ _) | (with_reducible refine Kd.C_drew ?_)))
         (case side2 => exact (Kd.R_reads' HO_889003.out).2.1)
         rintro e w28 ⟨rfl, hb⟩
         refine ⟨_, rfl, ?_⟩
         have n0_ := Aside0.mk (Kd.R_below (by (with_reducible repeat (first | apply Kd.R_alloc | apply Kd.R_drewN | apply Kd.R_drew)); exact HO_889003.out) hb)
         have n1_ := Aside0.mk (blk_below (g := gb888) (o := .cells #[.int .i64 t881, .int .i64 t882, .bool t883, .slice Ao11 t884.length co11] 24 (0, 0)) (by (with_reducible repeat (first | refine blk_drewN ?_ _ | refine blk_drew ?_ | refine blk_alloc ?_ _)); exact BK888.out) hb)
         have n2_ := Aside0.mk (blk_below (g := gb894) (o := .cells #[.int .i64 t891, .int .i64 t892] 42 (0, 0)) (by (with_reducible repeat (first | refine blk_drewN ?_ _ | refine blk_drew ?_ | refine blk_alloc ?_ _)); exact BK894.out) hb)
         have n3_ := Aside0.mk (blk_below (g := gb899) (o := .cells #[.int .i64 0, .int .i64 0] 42 (0, 0)) (by (with_reducible repeat (first | refine blk_drewN ?_ _ | refine blk_drew ?_ | refine blk_alloc ?_ _)); exact BK899.out) hb)
         have n4_ := Aside0.mk (below_step (by repeat (first | (with_reducible first | exact HB.out | apply below_alloc | apply pw_below_drewN | apply below_drew1 | refine below_set ?_ GE888.out | refine below_set ?_ GE894.out | refine below_set ?_ GE899.out) | exact HB.out)) hb)
         clear HO_889003
         clear BK888
         clear BK894
         clear BK899
         clear HB
         have HO_889003 := n0_
         have BK888 := n1_
         have BK894 := n2_
         have BK899 := n3_
         have HB := n4_
         clear n0_ n1_ n2_ n3_ n4_
         (try clear hb)
         (try clear hb2)
         (try clear hk)
         (try clear hi)
         refine hK.out _ _ ⟨(blk_cell BK888.out 0).trans rfl, (blk_cell BK888.out 1).trans rfl, (blk_cell BK888.out 2).trans rfl, (blk_cell BK888.out 3).trans rfl⟩ (fun hHeld => ?_)
         clear hK K
         refine norm_ (a' := ?_) ?_ ?_
         rotate_left
         ·show Act.put _ (some 41) _ = _
          simp only [Act.put, List.setIfInBounds_toArray, List.set_cons_zero, List.set_cons_succ, i64_w, i32_w]
          rfl
         refine pure_ (i := 6) (N := some 35) (v := ?_) (a' := ?_) #[true, true, true, true, true, true, true, false, false, true, false, false] rfl rfl (any_of HT_.out (by kernel_rfl)) (fun _ _ _ h => h) (Or.inl ⟨by rfl, ?_⟩) ?_ ?_
         rotate_left
         ·intro w'
          go_simp
          with_reducible rfl
         rotate_left
         ·simp only [Act.put, List.setIfInBounds_toArray, List.set_cons_zero, List.set_cons_succ, i64_w, i32_w]
          rfl
         refine pure_ (i := 7) (N := some 42) (v := ?_) (a' := ?_) #[true, true, true, true, true, true, true, true, false, true, false, false] rfl rfl (any_of HT_.out (by kernel_rfl)) (fun _ _ _ h => h) (Or.inl ⟨by rfl, ?_⟩) ?_ ?_
         rotate_left
         ·intro w'
          go_simp
          with_reducible rfl
         rotate_left
         ·simp only [Act.put, List.setIfInBounds_toArray, List.set_cons_zero, List.set_cons_succ, i64_w, i32_w]
          rfl
         refine pure_ (i := 8) (N := some 43) (v := ?_) (a' := ?_) #[true, true, true, true, true, true, true, true, true, true, false, false] rfl rfl (any_of HT_.out (by kernel_rfl)) (fun _ _ _ h => h) (Or.inl ⟨by rfl, ?_⟩) ?_ ?_
         rotate_left
         ·intro w'
          go_simp
          with_reducible rfl
         rotate_left
         ·simp only [Act.put, List.setIfInBounds_toArray, List.set_cons_zero, List.set_cons_succ, i64_w, i32_w]
          rfl
         exact norm_ (by simp only [putAll, Act.put, List.setIfInBounds_toArray, List.set_cons_zero, List.set_cons_succ]) (hCont (gb899) _ ⟨hHeld, (by (with_reducible repeat (first | apply Kd.R_alloc | apply Kd.R_drewN | apply Kd.R_drew)); exact HO_889003.out), (by (with_reducible repeat (first | refine blk_drewN ?_ _ | refine blk_drew ?_ | refine blk_alloc ?_ _)); exact BK888.out), (by (with_reducible repeat (first | refine blk_drewN ?_ _ | refine blk_drew ?_ | refine blk_alloc ?_ _)); exact BK894.out), (by (with_reducible repeat (first | refine blk_drewN ?_ _ | refine blk_drew ?_ | refine blk_alloc ?_ _)); exact BK899.out), GW899.out, GE899.out, NB888_899.out, NB899_888.out, NB894_899.out, NB899_894.out, (by repeat (first | (with_reducible first | exact HB.out | apply below_alloc | apply pw_below_drewN | apply below_drew1 | refine below_set ?_ GE888.out | refine below_set ?_ GE894.out | refine below_set ?_ GE899.out) | exact HB.out))⟩)
       rintro gb899 w29 ⟨hS_, h0_, h1_, h2_, h3_, h4_, h5_, h6_, h7_, h8_, h9_, h10_⟩
       have n0_ : Aside0 (Kd.R (Kd.int .i64) 3 w29 w.heap.size (fun _ => True) (.slice Ao11 t884.length co11) t884) := ⟨h0_⟩
       have n1_ : Aside0 (w29.heap[gb888]? = some (.cells #[.int .i64 t881, .int .i64 t882, .bool t883, .slice Ao11 t884.length co11] 24 (0, 0))) := ⟨h1_⟩
       have n2_ : Aside0 (w29.heap[gb894]? = some (.cells #[.int .i64 t891, .int .i64 t892] 42 (0, 0))) := ⟨h2_⟩
       have n3_ : Aside0 (w29.heap[gb899]? = some (.cells #[.int .i64 0, .int .i64 0] 42 (0, 0))) := ⟨h3_⟩
       have n4_ : Aside0 (w.heap.size ≤ gb899) := ⟨h4_⟩
       have n5_ : Aside0 (w.heap.size ≤ gb899) := ⟨h5_⟩
       have n6_ : Aside0 (gb888 ≠ gb899) := ⟨h6_⟩
       have n7_ : Aside0 (gb899 ≠ gb888) := ⟨h7_⟩
       have n8_ : Aside0 (gb894 ≠ gb899) := ⟨h8_⟩
       have n9_ : Aside0 (gb899 ≠ gb894) := ⟨h9_⟩
       have n10_ : Aside0 (Below w.heap.size w w29) := ⟨h10_⟩
       clear HO_889003
       clear BK888
       clear BK894
       clear HB
       clear h0_ h1_ h2_ h3_ h4_ h5_ h6_ h7_ h8_ h9_ h10_
       have HO_889003 := n0_
       have BK888 := n1_
       have BK894 := n2_
       have BK899 := n3_
       have GW899 := n4_
       have GE899 := n5_
       have NB888_899 := n6_
       have NB899_888 := n7_
       have NB894_899 := n8_
       have NB899_894 := n9_
       have HB := n10_
       clear n0_ n1_ n2_ n3_ n4_ n5_ n6_ n7_ n8_ n9_ n10_
       have hHeld : w29.cell? ⟨gb888, 0, none⟩ = some (.int .i64 t881) ∧ w29.cell? ⟨gb888, 1, none⟩ = some (.int .i64 t882) ∧ w29.cell? ⟨gb888, 2, none⟩ = some (.bool t883) ∧ w29.cell? ⟨gb888, 3, none⟩ = some (.slice Ao11 t884.length co11) := hS_
       refine norm_ (a' := ?_) ?_ ?_
       rotate_left
       ·simp only [putAll, Act.put, List.setIfInBounds_toArray, List.set_cons_zero, List.set_cons_succ]
        rfl
       refine one_ (i := 10) (N := none) #[true, true, true, true, true, true, true, true, true, true, true, false] rfl rfl (one_of HT_.out (by kernel_rfl)) (by decide) (fun K hK => ?_)
       have hs30 : w29.cell? ⟨gb899, 0, none⟩ = some (.int .i64 0) := (blk_cell BK899.out 0).trans rfl
       have hfs30 := blk_frozen BK899.out 0
       have hns30_0 := NB888_899.out
       have hns30_1 := NB894_899.out
       have hms30_0 := NB899_888.out
       have hms30_1 := NB899_894.out
       have hs31 : w29.cell? ⟨gb899, 1, none⟩ = some (.int .i64 0) := (blk_cell BK899.out 1).trans rfl
       have hfs31 := blk_frozen BK899.out 1
       have hns31_0 := NB888_899.out
       have hns31_1 := NB894_899.out
       have hms31_0 := NB899_888.out
       have hms31_1 := NB899_894.out
       refine skip_ (w1 := ?_) (by rfl) rfl ?_ ?_
       rotate_left
       ·go_simp
        rfl
       refine hK.out _ _ ⟨((cell_far (p := ⟨gb899, _, none⟩) NB888_899.out _).trans (((cell_far (p := ⟨gb899, _, none⟩) NB888_899.out _).trans (hHeld.1)))), ((cell_far (p := ⟨gb899, _, none⟩) NB888_899.out _).trans (((cell_far (p := ⟨gb899, _, none⟩) NB888_899.out _).trans (hHeld.2.1)))), ((cell_far (p := ⟨gb899, _, none⟩) NB888_899.out _).trans (((cell_far (p := ⟨gb899, _, none⟩) NB888_899.out _).trans (hHeld.2.2.1)))), ((cell_far (p := ⟨gb899, _, none⟩) NB888_899.out _).trans (((cell_far (p := ⟨gb899, _, none⟩) NB888_899.out _).trans (hHeld.2.2.2))))⟩ (fun hHeld => ?_)
       clear hK K
       refine pure_ (i := 11) (N := some 13) (v := ?_) (a' := ?_) #[true, true, true, true, true, true, true, true, true, true, true, true] rfl rfl (any_of HT_.out (by kernel_rfl)) (fun _ _ _ h => h) (Or.inl ⟨by rfl, ?_⟩) ?_ ?_
       rotate_left
       ·intro w'
        go_simp
        with_reducible rfl
       rotate_left
       ·simp only [Act.put, List.setIfInBounds_toArray, List.set_cons_zero, List.set_cons_succ, i64_w, i32_w]
        rfl
       refine done_ (done_of HT_.out (by kernel_rfl)) ?_
       go_upto_region 10 with (fail)
       go_cut [55] (fun v55 wc => ∃ (kq : Nat) (x55_17 : Bool), v55 = .bool x55_17 ∧ Aside0 (thermionlaw01_FieldBoth.j2 kq a1 a2 x8_1 x9_2 t893 t898 x55_17 t881 t882 t883 t884 t891 t892 t896 t897 = some r) ∧ Aside0 (kq ≤ k2) ∧ Aside0 (Kd.R (Kd.int .i64) 3 wc w.heap.size (fun _ => True) (.slice Ao11 t884.length co11) t884) ∧ Aside0 (wc.heap[gb888]? = some (.cells #[.int .i64 t881, .int .i64 t882, .bool t883, (.slice Ao11 t884.length co11)] 24 (0, 0))) ∧ Aside0 (wc.heap[gb894]? = some (.cells #[.int .i64 t891, .int .i64 t892] 42 (0, 0))) ∧ Aside0 (wc.heap[gb899]? = some (.cells #[.int .i64 t896, .int .i64 t897] 42 (0, 0))) ∧ Aside0 (Below w.heap.size w wc))
       case first =>
        have H := HC18.out
        clear HC18
        replace H := Option.bind_eq_some_iff.mp H
        obtain ⟨t900, A320, H⟩ := H
        replace H : (if t900 = true then ((thermionkit_Has.f k2 t884 x9_2).bind fun t901 => (thermionlaw01_FieldBoth.j2 k2 a1 a2 x8_1 x9_2 t893 t898 (!t901) t881 t882 t883 t884 t891 t892 t896 t897)) else (thermionlaw01_FieldBoth.j2 k2 a1 a2 x8_1 x9_2 t893 t898 true t881 t882 t883 t884 t891 t892 t896 t897)) = some r := H
        have A32 := Aside0.mk A320
        clear A320
        by_cases c33 : t900 = true
        ·subst c33
         have H1 : ((thermionkit_Has.f k2 t884 x9_2).bind fun t901 => (thermionlaw01_FieldBoth.j2 k2 a1 a2 x8_1 x9_2 t893 t898 (!t901) t881 t882 t883 t884 t891 t892 t896 t897)) = some r := by rw [if_pos rfl] at H; exact H
         clear H
         have H := H1
         clear H1
         replace H := Option.bind_eq_some_iff.mp H
         obtain ⟨t901, A340, H⟩ := H
         replace H : (thermionlaw01_FieldBoth.j2 k2 a1 a2 x8_1 x9_2 t893 t898 (!t901) t881 t882 t883 t884 t891 t892 t896 t897) = some r := H
         have A34 := Aside0.mk A340
         clear A340
         have H' := Aside0.mk H
         clear H
         have hnb35 := NB888_894.out
         have hnc35 := NB894_888.out
         have hnb36 := NB888_899.out
         have hnc36 := NB899_888.out
         have hcz37_0 : w29.cell? ⟨gb888, 0, none⟩ = some (.int .i64 t881) := (blk_cell BK888.out 0).trans rfl
         have hcz37_1 : w29.cell? ⟨gb888, 1, none⟩ = some (.int .i64 t882) := (blk_cell BK888.out 1).trans rfl
         have hcz37_2 : w29.cell? ⟨gb888, 2, none⟩ = some (.bool t883) := (blk_cell BK888.out 2).trans rfl
         have hcz37_3 : w29.cell? ⟨gb888, 3, none⟩ = some (.slice Ao11 t884.length co11) := (blk_cell BK888.out 3).trans rfl
         have hfz37_0 := blk_frozen BK888.out 0
         have hfz37_1 := blk_frozen BK888.out 1
         have hfz37_2 := blk_frozen BK888.out 2
         have hfz37_3 := blk_frozen BK888.out 3
         go_wp2_with (first | ((with_reducible refine gate_callee (f := 37) rfl ?_); refine goesL_ (some 47) rfl rfl Try.func37 (by kernel_rfl) rfl #[.slice Ao11 t884.length co11, .int .i64 x8_1] rfl (by (try simp only [List.map_toArray, List.map_cons, List.map_nil]); first | done | rfl | (simp only [List.length_drop, List.length_take]; rfl)) ?_; (with_reducible refine (thermionkit_Has.calls k2 _ _ t884 x8_1 true _ ?side1 ?side2 A32.out).mono ?_); (case side1 => refine (Kd.R_reads' (e := 3) (base := w.heap.size) (ok := fun k_ => True) (n := t884.length) (c := co11) ?_).2.2; exact (by (with_reducible repeat (first | apply Kd.R_alloc | apply Kd.R_drewN | apply Kd.R_drew)); exact (Kd.R_mono (Kd.R_far (p := ⟨gb899, 1, none⟩) (Kd.R_far (p := ⟨gb899, 0, none⟩) (Kd.R_types HO_889003.out BK899.out (by decide)) (fun _ hk => hk.2) (.int .i64 t896)) (fun _ hk => hk.2) (.int .i64 t897)) (fun _ h_ => h_.1)))); (case side2 => exact (Kd.R_reads' HO_889003.out).2.1); rintro e w' ⟨rfl, ⟨nd, rfl⟩⟩; refine ⟨_, rfl, ?_⟩) | (go_at_call 37; (with_reducible refine (thermionkit_Has.calls k2 _ _ t884 x9_2 t901 _ ?side1 ?side2 A34.out).mono ?_); (case side1 => refine (Kd.R_reads' (e := 3) (base := w.heap.size) (ok := fun k_ => True) (n := t884.length) (c := co11) ?_).2.2; exact (by (with_reducible repeat (first | apply Kd.R_alloc | apply Kd.R_drewN | apply Kd.R_drew)); exact (Kd.R_mono (Kd.R_far (p := ⟨gb899, 1, none⟩) (Kd.R_far (p := ⟨gb899, 0, none⟩) (Kd.R_types HO_889003.out BK899.out (by decide)) (fun _ hk => hk.2) (.int .i64 t896)) (fun _ hk => hk.2) (.int .i64 t897)) (fun _ h_ => h_.1)))); (case side2 => exact (Kd.R_reads' HO_889003.out).2.1); rintro e w' ⟨rfl, ⟨nd, rfl⟩⟩))
         go_meet
         case rel => exact ⟨_, (!t901), (by first | rfl | (simp; done) | (simp [*]; done)), H', ⟨by have := HK1.out; have := HK2.out; first | omega | exact Nat.le_refl _⟩, ⟨by (with_reducible repeat (first | apply Kd.R_alloc | apply Kd.R_drewN | apply Kd.R_drew)); exact Kd.R_mono (Kd.R_far (p := ⟨gb899, 1, none⟩) (Kd.R_far (p := ⟨gb899, 0, none⟩) (Kd.R_types HO_889003.out BK899.out (by decide)) (fun _ hk => hk.2) (.int .i64 t896)) (fun _ hk => hk.2) (.int .i64 t897)) (fun _ hk => trivial)⟩, ⟨by (with_reducible repeat (first | refine blk_drewN ?_ _ | refine blk_drew ?_ | refine blk_alloc ?_ _)); refine blk_far ?_ NB888_899.out _; (with_reducible repeat (first | refine blk_drewN ?_ _ | refine blk_drew ?_ | refine blk_alloc ?_ _)); refine blk_far ?_ NB888_899.out _; (with_reducible repeat (first | refine blk_drewN ?_ _ | refine blk_drew ?_ | refine blk_alloc ?_ _)); exact BK888.out⟩, ⟨by (with_reducible repeat (first | refine blk_drewN ?_ _ | refine blk_drew ?_ | refine blk_alloc ?_ _)); refine blk_far ?_ NB894_899.out _; (with_reducible repeat (first | refine blk_drewN ?_ _ | refine blk_drew ?_ | refine blk_alloc ?_ _)); refine blk_far ?_ NB894_899.out _; (with_reducible repeat (first | refine blk_drewN ?_ _ | refine blk_drew ?_ | refine blk_alloc ?_ _)); exact BK894.out⟩, ⟨by (with_reducible repeat (first | refine blk_drewN ?_ _ | refine blk_drew ?_ | refine blk_alloc ?_ _)); refine blk_put (cs := #[.int .i64 t896, .int .i64 0]) ?_ 1 _ rfl; (with_reducible repeat (first | refine blk_drewN ?_ _ | refine blk_drew ?_ | refine blk_alloc ?_ _)); refine blk_put (cs := #[.int .i64 0, .int .i64 0]) ?_ 0 _ rfl; (with_reducible repeat (first | refine blk_drewN ?_ _ | refine blk_drew ?_ | refine blk_alloc ?_ _)); exact BK899.out⟩, ⟨by repeat (first | (with_reducible first | exact HB.out | apply below_alloc | apply pw_below_drewN | apply below_drew1 | refine below_set ?_ GE888.out | refine below_set ?_ GE894.out | refine below_set ?_ GE899.out) | exact HB.out)⟩⟩
        ·replace c33 := Bool.eq_false_iff.mpr c33
         subst c33
         have H1 : (thermionlaw01_FieldBoth.j2 k2 a1 a2 x8_1 x9_2 t893 t898 true t881 t882 t883 t884 t891 t892 t896 t897) = some r := by rw [if_neg (show ¬ (false = true) by decide)] at H; exact H
         clear H
         have H := H1
         clear H1
         have H' := Aside0.mk H
         clear H
         have hnb38 := NB888_894.out
         have hnc38 := NB894_888.out
         have hnb39 := NB888_899.out
         have hnc39 := NB899_888.out
         have hcz40_0 : w29.cell? ⟨gb888, 0, none⟩ = some (.int .i64 t881) := (blk_cell BK888.out 0).trans rfl
         have hcz40_1 : w29.cell? ⟨gb888, 1, none⟩ = some (.int .i64 t882) := (blk_cell BK888.out 1).trans rfl
         have hcz40_2 : w29.cell? ⟨gb888, 2, none⟩ = some (.bool t883) := (blk_cell BK888.out 2).trans rfl
         have hcz40_3 : w29.cell? ⟨gb888, 3, none⟩ = some (.slice Ao11 t884.length co11) := (blk_cell BK888.out 3).trans rfl
         have hfz40_0 := blk_frozen BK888.out 0
         have hfz40_1 := blk_frozen BK888.out 1
         have hfz40_2 := blk_frozen BK888.out 2
         have hfz40_3 := blk_frozen BK888.out 3
         go_wp2_with (first | ((with_reducible refine gate_callee (f := 37) rfl ?_); refine goesL_ (some 47) rfl rfl Try.func37 (by kernel_rfl) rfl #[.slice Ao11 t884.length co11, .int .i64 x8_1] rfl (by (try simp only [List.map_toArray, List.map_cons, List.map_nil]); first | done | rfl | (simp only [List.length_drop, List.length_take]; rfl)) ?_; (with_reducible refine (thermionkit_Has.calls k2 _ _ t884 x8_1 false _ ?side1 ?side2 A32.out).mono ?_); (case side1 => refine (Kd.R_reads' (e := 3) (base := w.heap.size) (ok := fun k_ => True) (n := t884.length) (c := co11) ?_).2.2; exact (by (with_reducible repeat (first | apply Kd.R_alloc | apply Kd.R_drewN | apply Kd.R_drew)); exact (Kd.R_mono (Kd.R_far (p := ⟨gb899, 1, none⟩) (Kd.R_far (p := ⟨gb899, 0, none⟩) (Kd.R_types HO_889003.out BK899.out (by decide)) (fun _ hk => hk.2) (.int .i64 t896)) (fun _ hk => hk.2) (.int .i64 t897)) (fun _ h_ => h_.1)))); (case side2 => exact (Kd.R_reads' HO_889003.out).2.1); rintro e w' ⟨rfl, ⟨nd, rfl⟩⟩; refine ⟨_, rfl, ?_⟩))
         go_meet
         case rel => exact ⟨_, (true), (by first | rfl | (simp; done) | (simp [*]; done)), H', ⟨by have := HK1.out; have := HK2.out; first | omega | exact Nat.le_refl _⟩, ⟨by (with_reducible repeat (first | apply Kd.R_alloc | apply Kd.R_drewN | apply Kd.R_drew)); exact Kd.R_mono (Kd.R_far (p := ⟨gb899, 1, none⟩) (Kd.R_far (p := ⟨gb899, 0, none⟩) (Kd.R_types HO_889003.out BK899.out (by decide)) (fun _ hk => hk.2) (.int .i64 t896)) (fun _ hk => hk.2) (.int .i64 t897)) (fun _ hk => trivial)⟩, ⟨by (with_reducible repeat (first | refine blk_drewN ?_ _ | refine blk_drew ?_ | refine blk_alloc ?_ _)); refine blk_far ?_ NB888_899.out _; (with_reducible repeat (first | refine blk_drewN ?_ _ | refine blk_drew ?_ | refine blk_alloc ?_ _)); refine blk_far ?_ NB888_899.out _; (with_reducible repeat (first | refine blk_drewN ?_ _ | refine blk_drew ?_ | refine blk_alloc ?_ _)); exact BK888.out⟩, ⟨by (with_reducible repeat (first | refine blk_drewN ?_ _ | refine blk_drew ?_ | refine blk_alloc ?_ _)); refine blk_far ?_ NB894_899.out _; (with_reducible repeat (first | refine blk_drewN ?_ _ | refine blk_drew ?_ | refine blk_alloc ?_ _)); refine blk_far ?_ NB894_899.out _; (with_reducible repeat (first | refine blk_drewN ?_ _ | refine blk_drew ?_ | refine blk_alloc ?_ _)); exact BK894.out⟩, ⟨by (with_reducible repeat (first | refine blk_drewN ?_ _ | refine blk_drew ?_ | refine blk_alloc ?_ _)); refine blk_put (cs := #[.int .i64 t896, .int .i64 0]) ?_ 1 _ rfl; (with_reducible repeat (first | refine blk_drewN ?_ _ | refine blk_drew ?_ | refine blk_alloc ?_ _)); refine blk_put (cs := #[.int .i64 0, .int .i64 0]) ?_ 0 _ rfl; (with_reducible repeat (first | refine blk_drewN ?_ _ | refine blk_drew ?_ | refine blk_alloc ?_ _)); exact BK899.out⟩, ⟨by repeat (first | (with_reducible first | exact HB.out | apply below_alloc | apply pw_below_drewN | apply below_drew1 | refine below_set ?_ GE888.out | refine below_set ?_ GE894.out | refine below_set ?_ GE899.out) | exact HB.out)⟩⟩
       case rest =>
        clear HC18
        try clear c2
        try clear p2
        try clear c3
        try clear c5
        try clear c28
        try clear c33
        try clear c35
        try clear c36
        try clear c37
        try clear c38
        try clear c39
        try clear hcz37_0
        try clear hcz37_1
        try clear hcz37_2
        try clear hcz37_3
        try clear hcz40_0
        try clear hcz40_1
        try clear hcz40_2
        try clear hcz40_3
        try clear hfz37_0
        try clear hfz37_1
        try clear hfz37_2
        try clear hfz37_3
        try clear hfz40_0
        try clear hfz40_1
        try clear hfz40_2
        try clear hfz40_3
        obtain ⟨kq, x55_17, rfl, HA, HJ17, HO_889003, BK888, BK894, BK899, HB⟩ := hcut
        cases kq with
        | zero => exact absurd HA.out (by simp [thermionlaw01_FieldBoth.j2])
        | succ kj17 =>
         have H := HA.out
         clear HA
         simp only [thermionlaw01_FieldBoth.j2] at H
         by_cases c41 : x55_17 = true
         ·subst c41
          have H1 : (if t893 = 7 then (thermionlaw01_FieldBoth.j3 kj17 a1 a2 x8_1 x9_2 (t898 != 7) t881 t882 t883 t884) else (thermionlaw01_FieldBoth.j3 kj17 a1 a2 x8_1 x9_2 true t881 t882 t883 t884)) = some r := by rw [if_pos rfl] at H; exact H
          clear H
          have H := H1
          clear H1
          have HC42 := Aside0.mk H
          clear H
          go_upto_region 11 with (fail)
          go_cut [61] (fun v61 wc => ∃ (kq : Nat) (x61_41 : Bool), v61 = .bool x61_41 ∧ Aside0 (thermionlaw01_FieldBoth.j3 kq a1 a2 x8_1 x9_2 x61_41 t881 t882 t883 t884 = some r) ∧ Aside0 (kq ≤ kj17) ∧ Aside0 (Kd.R (Kd.int .i64) 3 wc w.heap.size (fun _ => True) (.slice Ao11 t884.length co11) t884) ∧ Aside0 (wc.heap[gb888]? = some (.cells #[.int .i64 t881, .int .i64 t882, .bool t883, (.slice Ao11 t884.length co11)] 24 (0, 0))) ∧ Aside0 (wc.heap[gb894]? = some (.cells #[.int .i64 t891, .int .i64 t892] 42 (0, 0))) ∧ Aside0 (wc.heap[gb899]? = some (.cells #[.int .i64 t896, .int .i64 t897] 42 (0, 0))) ∧ Aside0 (Below w.heap.size w wc))
          case first =>
           have H := HC42.out
           clear HC42
           by_cases c43 : t893 = 7
           ·rw [if_pos c43] at H
            have c43b0 : (t893 == 7) = true := beq_iff_eq.mpr c43
            have c43b1 : (t893 != 7) = false := bne_eq_false_iff_eq.mpr c43
            clear c43
            (first | rw [c43b0] | (simp only [i64_w, i32_w]; rw [c43b0]) | skip)
            have H' := Aside0.mk H
            clear H
            go_wp2
            go_meet
            case rel => exact ⟨_, ((t898 != 7)), (by first | rfl | (simp; done) | (simp [*]; done)), H', ⟨by have := HK1.out; have := HK2.out; have := HJ17.out; first | omega | exact Nat.le_refl _⟩, ⟨by (with_reducible repeat (first | apply Kd.R_alloc | apply Kd.R_drewN | apply Kd.R_drew)); exact HO_889003.out⟩, ⟨by (with_reducible repeat (first | refine blk_drewN ?_ _ | refine blk_drew ?_ | refine blk_alloc ?_ _)); exact BK888.out⟩, ⟨by (with_reducible repeat (first | refine blk_drewN ?_ _ | refine blk_drew ?_ | refine blk_alloc ?_ _)); exact BK894.out⟩, ⟨by (with_reducible repeat (first | refine blk_drewN ?_ _ | refine blk_drew ?_ | refine blk_alloc ?_ _)); exact BK899.out⟩, ⟨by repeat (first | (with_reducible first | exact HB.out | apply below_alloc | apply pw_below_drewN | apply below_drew1 | refine below_set ?_ GE888.out | refine below_set ?_ GE894.out | refine below_set ?_ GE899.out) | exact HB.out)⟩⟩
           ·rw [if_neg c43] at H
            have c43b0 : (t893 == 7) = false := beq_eq_false_iff_ne.mpr c43
            have c43b1 : (t893 != 7) = true := bne_iff_ne.mpr c43
            (first | rw [c43b0] | (simp only [i64_w, i32_w]; rw [c43b0]) | skip)
            have H' := Aside0.mk H
            clear H
            go_wp2
            go_meet
            case rel => exact ⟨_, (true), (by first | rfl | (simp; done) | (simp [*]; done)), H', ⟨by have := HK1.out; have := HK2.out; have := HJ17.out; first | omega | exact Nat.le_refl _⟩, ⟨by (with_reducible repeat (first | apply Kd.R_alloc | apply Kd.R_drewN | apply Kd.R_drew)); exact HO_889003.out⟩, ⟨by (with_reducible repeat (first | refine blk_drewN ?_ _ | refine blk_drew ?_ | refine blk_alloc ?_ _)); exact BK888.out⟩, ⟨by (with_reducible repeat (first | refine blk_drewN ?_ _ | refine blk_drew ?_ | refine blk_alloc ?_ _)); exact BK894.out⟩, ⟨by (with_reducible repeat (first | refine blk_drewN ?_ _ | refine blk_drew ?_ | refine blk_alloc ?_ _)); exact BK899.out⟩, ⟨by repeat (first | (with_reducible first | exact HB.out | apply below_alloc | apply pw_below_drewN | apply below_drew1 | refine below_set ?_ GE888.out | refine below_set ?_ GE894.out | refine below_set ?_ GE899.out) | exact HB.out)⟩⟩
          case rest =>
           clear HC42
           try clear c2
           try clear p2
           try clear c3
           try clear c4
           try clear c5
           try clear c28
           try clear c33
           try clear c35
           try clear c36
           try clear c37
           try clear c38
           try clear c39
           try clear c41
           try clear c43
           try clear c43b0
           try clear c43b1
           try clear hcz37_0
           try clear hcz37_1
           try clear hcz37_2
           try clear hcz37_3
           try clear hcz40_0
           try clear hcz40_1
           try clear hcz40_2
           try clear hcz40_3
           try clear hfz37_0
           try clear hfz37_1
           try clear hfz37_2
           try clear hfz37_3
           try clear hfz40_0
           try clear hfz40_1
           try clear hfz40_2
           try clear hfz40_3
           try clear p2
           obtain ⟨kq, x61_41, rfl, HA, HJ41, HO_889003, BK888, BK894, BK899, HB⟩ := hcut
           cases kq with
           | zero => exact absurd HA.out (by simp [thermionlaw01_FieldBoth.j3])
           | succ kj41 =>
            have H := HA.out
            clear HA
            simp only [thermionlaw01_FieldBoth.j3] at H
            by_cases c44 : x61_41 = true
            ·subst c44
             have H1 : (some false) = some r := by rw [if_pos rfl] at H; exact H
             clear H
             have H := H1
             clear H1
             obtain rfl := Option.some.inj H
             go_wp2
             go_ret
             exact ⟨by first | rfl | (simp [errW_none, errW_some] <;> rfl) | (simp [*, errW_none, errW_some] <;> rfl), by repeat (first | (with_reducible first | exact HB.out | apply below_alloc | apply pw_below_drewN | apply below_drew1 | refine below_set ?_ GE888.out | refine below_set ?_ GE894.out | refine below_set ?_ GE899.out) | exact HB.out)⟩
            ·replace c44 := Bool.eq_false_iff.mpr c44
             subst c44
             have H1 : (thermionlaw01_FieldBoth.l1 kj41 a1 a2 x8_1 (wrap64 (x9_2 + 1)) t881 t882 t883 t884) = some r := by rw [if_neg (show ¬ (false = true) by decide)] at H; exact H
             clear H
             have H := H1
             clear H1
             have H' := Aside0.mk H
             clear H
             go_wp2
             go_roundg kj41
             case measure => have := HK1.out; have := HK2.out; have := HJ17.out; have := HJ41.out; omega
             case rel => exact ⟨(wrap64 (x9_2 + 1)), (by first | rfl | (simp; done) | (simp [*]; done)), H', ⟨by have := HK1.out; have := HK2.out; have := HJ17.out; have := HJ41.out; omega⟩, ⟨by (with_reducible repeat (first | apply Kd.R_alloc | apply Kd.R_drewN | apply Kd.R_drew)); exact HO_889003.out⟩, ⟨by (with_reducible repeat (first | refine blk_drewN ?_ _ | refine blk_drew ?_ | refine blk_alloc ?_ _)); exact BK888.out⟩, ⟨by repeat (first | (with_reducible first | exact HB.out | apply below_alloc | apply pw_below_drewN | apply below_drew1 | refine below_set ?_ GE888.out | refine below_set ?_ GE894.out | refine below_set ?_ GE899.out) | exact HB.out)⟩⟩
         ·replace c41 := Bool.eq_false_iff.mpr c41
          subst c41
          have H1 : (if t893 = 0 then (if t898 = 0 then ((thermionkit_Meet.f t891 t892 t896 t897).bind fun t902 => (if t902 = true then (if t891 < 0 then (some false) else (if t896 < 0 then (some false) else (thermionlaw01_FieldBoth.l1 kj17 a1 a2 x8_1 (wrap64 (x9_2 + 1)) t881 t882 t883 t884))) else (some false))) else (some false)) else (some false)) = some r := by rw [if_neg (show ¬ (false = true) by decide)] at H; exact H
          clear H
          have H := H1
          clear H1
          by_cases c45 : t893 = 0
          ·rw [if_pos c45] at H
           have c45b0 : (t893 == 0) = true := beq_iff_eq.mpr c45
           have c45b1 : (t893 != 0) = false := bne_eq_false_iff_eq.mpr c45
           clear c45
           by_cases c46 : t898 = 0
           ·rw [if_pos c46] at H
            have c46b0 : (t898 == 0) = true := beq_iff_eq.mpr c46
            have c46b1 : (t898 != 0) = false := bne_eq_false_iff_eq.mpr c46
            clear c46
            replace H := Option.bind_eq_some_iff.mp H
            obtain ⟨t902, A470, H⟩ := H
            replace H : (if t902 = true then (if t891 < 0 then (some false) else (if t896 < 0 then (some false) else (thermionlaw01_FieldBoth.l1 kj17 a1 a2 x8_1 (wrap64 (x9_2 + 1)) t881 t882 t883 t884))) else (some false)) = some r := H
            have A47 := Aside0.mk A470
            clear A470
            by_cases c48 : t902 = true
            ·subst c48
             have H1 : (if t891 < 0 then (some false) else (if t896 < 0 then (some false) else (thermionlaw01_FieldBoth.l1 kj17 a1 a2 x8_1 (wrap64 (x9_2 + 1)) t881 t882 t883 t884))) = some r := by rw [if_pos rfl] at H; exact H
             clear H
             have H := H1
             clear H1
             by_cases c49 : t891 < 0
             ·rw [if_pos c49] at H
              have c49b0 : decide (t891 < 0) = true := decide_eq_true c49
              clear c49
              obtain rfl := Option.some.inj H
              have hnb50 := NB894_888.out
              have hnc50 := NB888_894.out
              have hnb51 := NB894_899.out
              have hnc51 := NB899_894.out
              have hcz52_0 : wc.cell? ⟨gb894, 0, none⟩ = some (.int .i64 t891) := (blk_cell BK894.out 0).trans rfl
              have hcz52_1 : wc.cell? ⟨gb894, 1, none⟩ = some (.int .i64 t892) := (blk_cell BK894.out 1).trans rfl
              have hfz52_0 := blk_frozen BK894.out 0
              have hfz52_1 := blk_frozen BK894.out 1
              have hnb53 := NB899_888.out
              have hnc53 := NB888_899.out
              have hcz54_0 : wc.cell? ⟨gb899, 0, none⟩ = some (.int .i64 t896) := (blk_cell BK899.out 0).trans rfl
              have hcz54_1 : wc.cell? ⟨gb899, 1, none⟩ = some (.int .i64 t897) := (blk_cell BK899.out 1).trans rfl
              have hfz54_0 := blk_frozen BK899.out 0
              have hfz54_1 := blk_frozen BK899.out 1
              go_wp2_with (first | (go_at_call 53; (with_reducible refine (thermionkit_Meet.calls t891 t892 t896 t897 true _ A47.out).mono ?_); rintro e w55 ⟨rfl, hb⟩; have n0_ := Aside0.mk (Kd.R_below (by (with_reducible repeat (first | apply Kd.R_alloc | apply Kd.R_drewN | apply Kd.R_drew)); exact HO_889003.out) hb); have n1_ := Aside0.mk (blk_below (g := gb888) (o := .cells #[.int .i64 t881, .int .i64 t882, .bool t883, .slice Ao11 t884.length co11] 24 (0, 0)) (by (with_reducible repeat (first | refine blk_drewN ?_ _ | refine blk_drew ?_ | refine blk_alloc ?_ _)); exact BK888.out) hb); have n2_ := Aside0.mk (blk_below (g := gb894) (o := .cells #[.int .i64 t891, .int .i64 t892] 42 (0, 0)) (by (with_reducible repeat (first | refine blk_drewN ?_ _ | refine blk_drew ?_ | refine blk_alloc ?_ _)); exact BK894.out) hb); have n3_ := Aside0.mk (blk_below (g := gb899) (o := .cells #[.int .i64 t896, .int .i64 t897] 42 (0, 0)) (by (with_reducible repeat (first | refine blk_drewN ?_ _ | refine blk_drew ?_ | refine blk_alloc ?_ _)); exact BK899.out) hb); have n4_ := Aside0.mk (below_step (by repeat (first | (with_reducible first | exact HB.out | apply below_alloc | apply pw_below_drewN | apply below_drew1 | refine below_set ?_ GE888.out | refine below_set ?_ GE894.out | refine below_set ?_ GE899.out) | exact HB.out)) hb); clear HO_889003; clear BK888; clear BK894; clear BK899; clear HB; have HO_889003 := n0_; have BK888 := n1_; have BK894 := n2_; have BK899 := n3_; have HB := n4_; clear n0_ n1_ n2_ n3_ n4_; (try clear hb); (try clear hb2); (try clear hk); (try clear hi); have hcz56_0 : w55.cell? ⟨gb894, 0, none⟩ = some (.int .i64 t891) := (blk_cell BK894.out 0).trans rfl; have hcz56_1 : w55.cell? ⟨gb894, 1, none⟩ = some (.int .i64 t892) := (blk_cell BK894.out 1).trans rfl; have hfz56_0 := blk_frozen BK894.out 0; have hfz56_1 := blk_frozen BK894.out 1))
              go_ret
              exact ⟨by first | rfl | (simp [errW_none, errW_some] <;> rfl) | (simp [*, errW_none, errW_some] <;> rfl), by repeat (first | (with_reducible first | exact HB.out | apply below_alloc | apply pw_below_drewN | apply below_drew1 | refine below_set ?_ GE888.out | refine below_set ?_ GE894.out | refine below_set ?_ GE899.out) | exact HB.out)⟩
             ·rw [if_neg c49] at H
              have c49b0 : decide (t891 < 0) = false := decide_eq_false c49
              clear c49
              by_cases c57 : t896 < 0
              ·rw [if_pos c57] at H
               have c57b0 : decide (t896 < 0) = true := decide_eq_true c57
               clear c57
               obtain rfl := Option.some.inj H
               have hnb58 := NB894_888.out
               have hnc58 := NB888_894.out
               have hnb59 := NB894_899.out
               have hnc59 := NB899_894.out
               have hcz60_0 : wc.cell? ⟨gb894, 0, none⟩ = some (.int .i64 t891) := (blk_cell BK894.out 0).trans rfl
               have hcz60_1 : wc.cell? ⟨gb894, 1, none⟩ = some (.int .i64 t892) := (blk_cell BK894.out 1).trans rfl
               have hfz60_0 := blk_frozen BK894.out 0
               have hfz60_1 := blk_frozen BK894.out 1
               have hnb61 := NB899_888.out
               have hnc61 := NB888_899.out
               have hcz62_0 : wc.cell? ⟨gb899, 0, none⟩ = some (.int .i64 t896) := (blk_cell BK899.out 0).trans rfl
               have hcz62_1 : wc.cell? ⟨gb899, 1, none⟩ = some (.int .i64 t897) := (blk_cell BK899.out 1).trans rfl
               have hfz62_0 := blk_frozen BK899.out 0
               have hfz62_1 := blk_frozen BK899.out 1
               go_wp2_with (first | (go_at_call 53; (with_reducible refine (thermionkit_Meet.calls t891 t892 t896 t897 true _ A47.out).mono ?_); rintro e w63 ⟨rfl, hb⟩; have n0_ := Aside0.mk (Kd.R_below (by (with_reducible repeat (first | apply Kd.R_alloc | apply Kd.R_drewN | apply Kd.R_drew)); exact HO_889003.out) hb); have n1_ := Aside0.mk (blk_below (g := gb888) (o := .cells #[.int .i64 t881, .int .i64 t882, .bool t883, .slice Ao11 t884.length co11] 24 (0, 0)) (by (with_reducible repeat (first | refine blk_drewN ?_ _ | refine blk_drew ?_ | refine blk_alloc ?_ _)); exact BK888.out) hb); have n2_ := Aside0.mk (blk_below (g := gb894) (o := .cells #[.int .i64 t891, .int .i64 t892] 42 (0, 0)) (by (with_reducible repeat (first | refine blk_drewN ?_ _ | refine blk_drew ?_ | refine blk_alloc ?_ _)); exact BK894.out) hb); have n3_ := Aside0.mk (blk_below (g := gb899) (o := .cells #[.int .i64 t896, .int .i64 t897] 42 (0, 0)) (by (with_reducible repeat (first | refine blk_drewN ?_ _ | refine blk_drew ?_ | refine blk_alloc ?_ _)); exact BK899.out) hb); have n4_ := Aside0.mk (below_step (by repeat (first | (with_reducible first | exact HB.out | apply below_alloc | apply pw_below_drewN | apply below_drew1 | refine below_set ?_ GE888.out | refine below_set ?_ GE894.out | refine below_set ?_ GE899.out) | exact HB.out)) hb); clear HO_889003; clear BK888; clear BK894; clear BK899; clear HB; have HO_889003 := n0_; have BK888 := n1_; have BK894 := n2_; have BK899 := n3_; have HB := n4_; clear n0_ n1_ n2_ n3_ n4_; (try clear hb); (try clear hb2); (try clear hk); (try clear hi); have hcz64_0 : w63.cell? ⟨gb894, 0, none⟩ = some (.int .i64 t891) := (blk_cell BK894.out 0).trans rfl; have hcz64_1 : w63.cell? ⟨gb894, 1, none⟩ = some (.int .i64 t892) := (blk_cell BK894.out 1).trans rfl; have hfz64_0 := blk_frozen BK894.out 0; have hfz64_1 := blk_frozen BK894.out 1; have hcz65_0 : w63.cell? ⟨gb899, 0, none⟩ = some (.int .i64 t896) := (blk_cell BK899.out 0).trans rfl; have hcz65_1 : w63.cell? ⟨gb899, 1, none⟩ = some (.int .i64 t897) := (blk_cell BK899.out 1).trans rfl; have hfz65_0 := blk_frozen BK899.out 0; have hfz65_1 := blk_frozen BK899.out 1))
               go_ret
               exact ⟨by first | rfl | (simp [errW_none, errW_some] <;> rfl) | (simp [*, errW_none, errW_some] <;> rfl), by repeat (first | (with_reducible first | exact HB.out | apply below_alloc | apply pw_below_drewN | apply below_drew1 | refine below_set ?_ GE888.out | refine below_set ?_ GE894.out | refine below_set ?_ GE899.out) | exact HB.out)⟩
              ·rw [if_neg c57] at H
               have c57b0 : decide (t896 < 0) = false := decide_eq_false c57
               clear c57
               have H' := Aside0.mk H
               clear H
               have hnb66 := NB894_888.out
               have hnc66 := NB888_894.out
               have hnb67 := NB894_899.out
               have hnc67 := NB899_894.out
               have hcz68_0 : wc.cell? ⟨gb894, 0, none⟩ = some (.int .i64 t891) := (blk_cell BK894.out 0).trans rfl
               have hcz68_1 : wc.cell? ⟨gb894, 1, none⟩ = some (.int .i64 t892) := (blk_cell BK894.out 1).trans rfl
               have hfz68_0 := blk_frozen BK894.out 0
               have hfz68_1 := blk_frozen BK894.out 1
               have hnb69 := NB899_888.out
               have hnc69 := NB888_899.out
               have hcz70_0 : wc.cell? ⟨gb899, 0, none⟩ = some (.int .i64 t896) := (blk_cell BK899.out 0).trans rfl
               have hcz70_1 : wc.cell? ⟨gb899, 1, none⟩ = some (.int .i64 t897) := (blk_cell BK899.out 1).trans rfl
               have hfz70_0 := blk_frozen BK899.out 0
               have hfz70_1 := blk_frozen BK899.out 1
               go_wp2_with (first | (go_at_call 53; (with_reducible refine (thermionkit_Meet.calls t891 t892 t896 t897 true _ A47.out).mono ?_); rintro e w71 ⟨rfl, hb⟩; have n0_ := Aside0.mk (Kd.R_below (by (with_reducible repeat (first | apply Kd.R_alloc | apply Kd.R_drewN | apply Kd.R_drew)); exact HO_889003.out) hb); have n1_ := Aside0.mk (blk_below (g := gb888) (o := .cells #[.int .i64 t881, .int .i64 t882, .bool t883, .slice Ao11 t884.length co11] 24 (0, 0)) (by (with_reducible repeat (first | refine blk_drewN ?_ _ | refine blk_drew ?_ | refine blk_alloc ?_ _)); exact BK888.out) hb); have n2_ := Aside0.mk (blk_below (g := gb894) (o := .cells #[.int .i64 t891, .int .i64 t892] 42 (0, 0)) (by (with_reducible repeat (first | refine blk_drewN ?_ _ | refine blk_drew ?_ | refine blk_alloc ?_ _)); exact BK894.out) hb); have n3_ := Aside0.mk (blk_below (g := gb899) (o := .cells #[.int .i64 t896, .int .i64 t897] 42 (0, 0)) (by (with_reducible repeat (first | refine blk_drewN ?_ _ | refine blk_drew ?_ | refine blk_alloc ?_ _)); exact BK899.out) hb); have n4_ := Aside0.mk (below_step (by repeat (first | (with_reducible first | exact HB.out | apply below_alloc | apply pw_below_drewN | apply below_drew1 | refine below_set ?_ GE888.out | refine below_set ?_ GE894.out | refine below_set ?_ GE899.out) | exact HB.out)) hb); clear HO_889003; clear BK888; clear BK894; clear BK899; clear HB; have HO_889003 := n0_; have BK888 := n1_; have BK894 := n2_; have BK899 := n3_; have HB := n4_; clear n0_ n1_ n2_ n3_ n4_; (try clear hb); (try clear hb2); (try clear hk); (try clear hi); have hcz72_0 : w71.cell? ⟨gb894, 0, none⟩ = some (.int .i64 t891) := (blk_cell BK894.out 0).trans rfl; have hcz72_1 : w71.cell? ⟨gb894, 1, none⟩ = some (.int .i64 t892) := (blk_cell BK894.out 1).trans rfl; have hfz72_0 := blk_frozen BK894.out 0; have hfz72_1 := blk_frozen BK894.out 1; have hcz73_0 : w71.cell? ⟨gb899, 0, none⟩ = some (.int .i64 t896) := (blk_cell BK899.out 0).trans rfl; have hcz73_1 : w71.cell? ⟨gb899, 1, none⟩ = some (.int .i64 t897) := (blk_cell BK899.out 1).trans rfl; have hfz73_0 := blk_frozen BK899.out 0; have hfz73_1 := blk_frozen BK899.out 1))
               go_roundg kj17
               case measure => have := HK1.out; have := HK2.out; have := HJ17.out; omega
               case rel => exact ⟨(wrap64 (x9_2 + 1)), (by first | rfl | (simp; done) | (simp [*]; done)), H', ⟨by have := HK1.out; have := HK2.out; have := HJ17.out; omega⟩, ⟨by (with_reducible repeat (first | apply Kd.R_alloc | apply Kd.R_drewN | apply Kd.R_drew)); exact HO_889003.out⟩, ⟨by (with_reducible repeat (first | refine blk_drewN ?_ _ | refine blk_drew ?_ | refine blk_alloc ?_ _)); exact BK888.out⟩, ⟨by repeat (first | (with_reducible first | exact HB.out | apply below_alloc | apply pw_below_drewN | apply below_drew1 | refine below_set ?_ GE888.out | refine below_set ?_ GE894.out | refine below_set ?_ GE899.out) | exact HB.out)⟩⟩
            ·replace c48 := Bool.eq_false_iff.mpr c48
             subst c48
             have H1 : (some false) = some r := by rw [if_neg (show ¬ (false = true) by decide)] at H; exact H
             clear H
             have H := H1
             clear H1
             obtain rfl := Option.some.inj H
             have hnb74 := NB894_888.out
             have hnc74 := NB888_894.out
             have hnb75 := NB894_899.out
             have hnc75 := NB899_894.out
             have hcz76_0 : wc.cell? ⟨gb894, 0, none⟩ = some (.int .i64 t891) := (blk_cell BK894.out 0).trans rfl
             have hcz76_1 : wc.cell? ⟨gb894, 1, none⟩ = some (.int .i64 t892) := (blk_cell BK894.out 1).trans rfl
             have hfz76_0 := blk_frozen BK894.out 0
             have hfz76_1 := blk_frozen BK894.out 1
             have hnb77 := NB899_888.out
             have hnc77 := NB888_899.out
             have hcz78_0 : wc.cell? ⟨gb899, 0, none⟩ = some (.int .i64 t896) := (blk_cell BK899.out 0).trans rfl
             have hcz78_1 : wc.cell? ⟨gb899, 1, none⟩ = some (.int .i64 t897) := (blk_cell BK899.out 1).trans rfl
             have hfz78_0 := blk_frozen BK899.out 0
             have hfz78_1 := blk_frozen BK899.out 1
             go_wp2_with (first | (go_at_call 53; (with_reducible refine (thermionkit_Meet.calls t891 t892 t896 t897 false _ A47.out).mono ?_); rintro e w79 ⟨rfl, hb⟩; have n0_ := Aside0.mk (Kd.R_below (by (with_reducible repeat (first | apply Kd.R_alloc | apply Kd.R_drewN | apply Kd.R_drew)); exact HO_889003.out) hb); have n1_ := Aside0.mk (blk_below (g := gb888) (o := .cells #[.int .i64 t881, .int .i64 t882, .bool t883, .slice Ao11 t884.length co11] 24 (0, 0)) (by (with_reducible repeat (first | refine blk_drewN ?_ _ | refine blk_drew ?_ | refine blk_alloc ?_ _)); exact BK888.out) hb); have n2_ := Aside0.mk (blk_below (g := gb894) (o := .cells #[.int .i64 t891, .int .i64 t892] 42 (0, 0)) (by (with_reducible repeat (first | refine blk_drewN ?_ _ | refine blk_drew ?_ | refine blk_alloc ?_ _)); exact BK894.out) hb); have n3_ := Aside0.mk (blk_below (g := gb899) (o := .cells #[.int .i64 t896, .int .i64 t897] 42 (0, 0)) (by (with_reducible repeat (first | refine blk_drewN ?_ _ | refine blk_drew ?_ | refine blk_alloc ?_ _)); exact BK899.out) hb); have n4_ := Aside0.mk (below_step (by repeat (first | (with_reducible first | exact HB.out | apply below_alloc | apply pw_below_drewN | apply below_drew1 | refine below_set ?_ GE888.out | refine below_set ?_ GE894.out | refine below_set ?_ GE899.out) | exact HB.out)) hb); clear HO_889003; clear BK888; clear BK894; clear BK899; clear HB; have HO_889003 := n0_; have BK888 := n1_; have BK894 := n2_; have BK899 := n3_; have HB := n4_; clear n0_ n1_ n2_ n3_ n4_; (try clear hb); (try clear hb2); (try clear hk); (try clear hi)))
             go_ret
             exact ⟨by first | rfl | (simp [errW_none, errW_some] <;> rfl) | (simp [*, errW_none, errW_some] <;> rfl), by repeat (first | (with_reducible first | exact HB.out | apply below_alloc | apply pw_below_drewN | apply below_drew1 | refine below_set ?_ GE888.out | refine below_set ?_ GE894.out | refine below_set ?_ GE899.out) | exact HB.out)⟩
           ·rw [if_neg c46] at H
            have c46b0 : (t898 == 0) = false := beq_eq_false_iff_ne.mpr c46
            have c46b1 : (t898 != 0) = true := bne_iff_ne.mpr c46
            obtain rfl := Option.some.inj H
            go_wp2
            go_ret
            exact ⟨by first | rfl | (simp [errW_none, errW_some] <;> rfl) | (simp [*, errW_none, errW_some] <;> rfl), by repeat (first | (with_reducible first | exact HB.out | apply below_alloc | apply pw_below_drewN | apply below_drew1 | refine below_set ?_ GE888.out | refine below_set ?_ GE894.out | refine below_set ?_ GE899.out) | exact HB.out)⟩
          ·rw [if_neg c45] at H
           have c45b0 : (t893 == 0) = false := beq_eq_false_iff_ne.mpr c45
           have c45b1 : (t893 != 0) = true := bne_iff_ne.mpr c45
           obtain rfl := Option.some.inj H
           go_wp2
           go_ret
           exact ⟨by first | rfl | (simp [errW_none, errW_some] <;> rfl) | (simp [*, errW_none, errW_some] <;> rfl), by repeat (first | (with_reducible first | exact HB.out | apply below_alloc | apply pw_below_drewN | apply below_drew1 | refine below_set ?_ GE888.out | refine below_set ?_ GE894.out | refine below_set ?_ GE899.out) | exact HB.out)⟩
      ·rw [if_neg c13] at H
       have c13b0 : decide (x9_2 < x8_1) = false := decide_eq_false c13
       clear c13
       have H' := Aside0.mk H
       clear H
       go_wp2
       go_roundg k2
       case measure => have := HK1.out; have := HK2.out; omega
       case rel => exact ⟨(wrap64 (x8_1 + 1)), (by first | rfl | (simp; done) | (simp [*]; done)), H', ⟨by have := HK1.out; have := HK2.out; omega⟩, ⟨by (with_reducible repeat (first | apply Kd.R_alloc | apply Kd.R_drewN | apply Kd.R_drew)); exact HO_889003.out⟩, ⟨by (with_reducible repeat (first | refine blk_drewN ?_ _ | refine blk_drew ?_ | refine blk_alloc ?_ _)); exact BK888.out⟩, ⟨by repeat (first | (with_reducible first | exact HB.out | apply below_alloc | apply pw_below_drewN | apply below_drew1 | refine below_set ?_ GE888.out) | exact HB.out)⟩⟩
   ·rw [if_neg c12] at H
    have c12b0 : decide (x8_1 ≤ 3) = false := decide_eq_false c12
    clear c12
    replace H := Option.bind_eq_some_iff.mp H
    obtain ⟨t889, A800, H⟩ := H
    replace H : (some t889) = some r := H
    have A80 := Aside0.mk A800
    clear A800
    obtain rfl := Option.some.inj H
    go_wp2_with (first | ((with_reducible refine gate_callee (f := 20) rfl ?_); refine goesL_ (some 84) rfl rfl Try.func20 (by kernel_rfl) rfl #[] rfl (by (try simp only [List.map_toArray, List.map_cons, List.map_nil]); first | done | rfl | (simp only [List.length_drop, List.length_take]; rfl)) ?_; (with_reducible refine (thermionlaw01_awake.calls k1  t889 _ A80.out).mono ?_); rintro e w81 ⟨rfl, hb⟩; refine ⟨_, rfl, ?_⟩; have n0_ := Aside0.mk (Kd.R_below (by (with_reducible repeat (first | apply Kd.R_alloc | apply Kd.R_drewN | apply Kd.R_drew)); exact HO_889003.out) hb); have n1_ := Aside0.mk (blk_below (g := gb888) (o := .cells #[.int .i64 t881, .int .i64 t882, .bool t883, .slice Ao11 t884.length co11] 24 (0, 0)) (by (with_reducible repeat (first | refine blk_drewN ?_ _ | refine blk_drew ?_ | refine blk_alloc ?_ _)); exact BK888.out) hb); have n2_ := Aside0.mk (below_step (by repeat (first | (with_reducible first | exact HB.out | apply below_alloc | apply pw_below_drewN | apply below_drew1 | refine below_set ?_ GE888.out) | exact HB.out)) hb); clear HO_889003; clear BK888; clear HB; have HO_889003 := n0_; have BK888 := n1_; have HB := n2_; clear n0_ n1_ n2_; (try clear hb); (try clear hb2); (try clear hk); (try clear hi)))
    go_ret
    exact ⟨by first | rfl | (simp [errW_none, errW_some] <;> rfl) | (simp [*, errW_none, errW_some] <;> rfl), by repeat (first | (with_reducible first | exact HB.out | apply below_alloc | apply pw_below_drewN | apply below_drew1 | refine below_set ?_ GE888.out) | exact HB.out)⟩
def thermionlaw01_FieldBoth.Pure : Prop := ∀ (l0 : List Int) (a1 : Int) (a2 : Int), l0.length ≤ maxLen → l0.length * 8 ≤ 140737488351232 → (∀ x ∈ l0, (Lit.int .i64 x).wf = true) → (Lit.int .i64 a1).wf = true → (Lit.int .i64 a2).wf = true → ∃ k, thermionlaw01_FieldBoth.f k l0 a1 a2 = some true
theorem thermionlaw01_FieldBoth.walk (P : thermionlaw01_FieldBoth.Pure) (a0 : Option Addr) (len0 cap0 : Nat) (z0 : List Int) (a1 : Int) (a2 : Int) (w : World) (w0 : (a0 = none ∧ len0 = 0 ∧ cap0 = 0 ∧ z0 = []) ∨ ∃ x, a0 = some x ∧ len0 ≤ cap0 ∧ cap0 ≤ maxLen ∧ z0.length = cap0 ∧ (∀ i, i < z0.length → w.cell? (x.add i) = some (.int .i64 (z0.getD i 0))) ∧ ∀ n ∈ z0, (Lit.int .i64 n).wf = true) (y0 : len0 * 8 ≤ 140737488351232) (w1 : (Lit.int .i64 a1).wf = true) (w2 : (Lit.int .i64 a2).wf = true) :
  Calls Try.prog 14 #[.slice a0 len0 cap0, .int .i64 a1, .int .i64 a2] w fun e w' => e = .returned (.bool true) ∧ Below w.heap.size w w' := by
 obtain ⟨l0, rfl, hr0, hm0, hw0, hc0⟩ := ReadsInt.ofRowC w0
 obtain ⟨k, h⟩ := P l0 a1 a2 hm0 y0 hw0 w1 w2
 refine (thermionlaw01_FieldBoth.calls k _ _ l0 a1 a2 true w (Kd.C_of_reads (d := (0 : Int)) (h1 := fun _ => rfl) hr0) hc0 h).mono ?_
 rintro e w' ⟨rfl, hd⟩
 exact ⟨rfl, hd⟩
end Go.Proofs.Ytndkkjpgnmahbaa.Print
end

section
namespace Go.Proofs.Field
section
variable {W H : Nat} {R : Bool} {C v : List Int}
theorem chSum_under (e u : Int) (b : List Int) (l : List (Nat × Int)) : chSum C e u b l = under (fun k => if fn C k = e then 0 else u - fn b k) l := by
  unfold chSum under
  congr 1
  refine List.map_congr_left (fun p _ => ?_)
  show chOne C e u b p = p.2 * (if fn C p.1 = e then 0 else u - fn b p.1)
  unfold chOne
  split
  · rw [Int.mul_zero]
  · rfl
theorem chTo_sum (e u : Int) (b : List Int) : ∀ n, chTo W H R C e u b n = sumTo (fun i => if fn C i = e then chSum C e u b (nbs W H R i) else 0) n
  | 0 => rfl
  | n + 1 => by rw [chTo, sumTo, chTo_sum e u b n]
def flow (W H : Nat) (R : Bool) (C : List Int) (b : List Int) (i : Nat) : Int := (net W H R C).T i * fn b i - (net W H R C).S (fn b) i
theorem chTo_flow {e u : Int} {b : List Int} (hu : ∀ i, i < W * H → fn C i = e → fn b i = u) : chTo W H R C e u b (W * H) = sumTo (fun i => if fn C i = e then flow W H R C b i else 0) (W * H) := by
  rw [chTo_sum]
  refine sumTo_congr (fun i hi => ?_)
  by_cases q : fn C i = e
  · rw [if_pos q, if_pos q, chSum_under, ← net_Sf (C := C) _ hi]
    unfold flow
    rw [hu i hi q, ← Net.S_const, ← Net.S_sub]
    refine Net.S_congr i (fun j hj => ?_)
    by_cases r : fn C j = e
    · rw [if_pos r, hu j hj r]; omega
    · rw [if_neg r]
  · rw [if_neg q, if_neg q]
def inflow (W H : Nat) (R : Bool) (C : List Int) (k : Int) (b : List Int) : Int := sumTo (fun i => if fn C i = k then (net W H R C).S (fn b) i else 0) (W * H)
theorem chTo_inflow {k : Int} {b : List Int} (hu : ∀ i, i < W * H → fn C i = k → fn b i = 0) : chTo W H R C k 0 b (W * H) = - inflow W H R C k b := by
  rw [chTo_flow hu]
  unfold inflow
  rw [← Int.neg_one_mul, ← sumTo_mul]
  refine sumTo_congr (fun i hi => ?_)
  by_cases q : fn C i = k
  · rw [if_pos q, if_pos q]
    unfold flow
    rw [hu i hi q]; omega
  · rw [if_neg q, if_neg q]; omega
theorem inflow_nonneg {k : Int} {b : List Int} (h : ∀ i, i < W * H → 0 ≤ fn b i) : 0 ≤ inflow W H R C k b := by
  unfold inflow
  refine sumTo_nonneg (fun i hi => ?_)
  split
  · have := Net.S_le (N := net W H R C) (fun a b => netM_nonneg W H R a b) (a := fun _ => 0) (b := fn b) i (fun j hj => h j hj)
    rw [Net.S_const, Int.mul_zero] at this
    exact this
  · exact Int.le_refl _
def unitV (m : Nat) (a : Int) (x : Int) : List Int := (List.replicate m 0).set (a.toNat - 1) x
theorem fn_unitV {m : Nat} {a x : Int} (ha : 1 ≤ a ∧ a ≤ (m : Int)) (i : Nat) : fn (unitV m a x) i = if i = a.toNat - 1 then x else 0 := by
  unfold unitV
  rw [fn_set (by rw [List.length_replicate]; omega)]
  split
  · rfl
  · unfold fn
    rw [List.getD_eq_getElem?_getD, List.getElem?_replicate]
    split <;> rfl
theorem volt_unitV {m : Nat} {a x : Int} (ha : 1 ≤ a ∧ a ≤ (m : Int)) {i : Nat} (hp : 0 < fn C i) : volt C (unitV m a x) i = if fn C i = a then x else 0 := by
  unfold volt
  rw [fn_unitV ha]
  by_cases q : fn C i = a
  · rw [if_pos q, if_pos (by rw [q])]
  · rw [if_neg q, if_neg (by omega)]
theorem there_back {m : Nat} {a k x : Int} (hx : 0 < x) (ha : 1 ≤ a ∧ a ≤ (m : Int)) (hk : 1 ≤ k ∧ k ≤ (m : Int)) (hV : Volted W H R C (unitV m a x)) {N : Nat} {lo hi : List Int}
    (hl : Low W H R C (volt C (unitV m a x)) N lo) (hh : High W H R C (volt C (unitV m k x)) N hi) (l0 : ∀ i, i < W * H → 0 ≤ fn lo i) (h0 : ∀ i, i < W * H → 0 ≤ fn hi i) :
    inflow W H R C k lo ≤ inflow W H R C a hi := by
  have g := Net.green (N := net W H R C) hV.fine.symm hl.2 hh.2 l0 h0
  have e1 : sumTo (fun i => if (net W H R C).el i = true then fn hi i * (net W H R C).S (fn lo) i else 0) (net W H R C).n = x * inflow W H R C k lo := by
    unfold inflow
    rw [← sumTo_mul]
    refine sumTo_congr (fun i hi => ?_)
    have hi' : i < C.length := by rw [hV.len]; exact hi
    by_cases q : 0 < fn C i
    · rw [if_pos (by simpa [net] using q), hh.1.el i hi' q, volt_unitV hk q]
      by_cases r : fn C i = k
      · rw [if_pos r, if_pos r]
      · rw [if_neg r, if_neg r, Int.zero_mul, Int.mul_zero]
    · rw [if_neg (by simpa [net] using q), if_neg (by omega), Int.mul_zero]
  have e2 : sumTo (fun i => if (net W H R C).el i = true then fn lo i * (net W H R C).S (fn hi) i else 0) (net W H R C).n = x * inflow W H R C a hi := by
    unfold inflow
    rw [← sumTo_mul]
    refine sumTo_congr (fun i hi => ?_)
    have hi' : i < C.length := by rw [hV.len]; exact hi
    by_cases q : 0 < fn C i
    · rw [if_pos (by simpa [net] using q), hl.1.el i hi' q, volt_unitV ha q]
      by_cases r : fn C i = a
      · rw [if_pos r, if_pos r]
      · rw [if_neg r, if_neg r, Int.zero_mul, Int.mul_zero]
    · rw [if_neg (by simpa [net] using q), if_neg (by omega), Int.mul_zero]
  rw [e1, e2] at g
  exact Int.le_of_mul_le_mul_left g hx
theorem solve_nonneg (hV : Volted W H R C v) (hv : ∀ i, i < C.length → 0 < fn C i → 0 ≤ volt C v i) {N : Nat} (hN : C.length ≤ N) (n : Nat) {i : Nat} (hi : i < W * H) : 0 ≤ fn (solveN W H R C v N n).1 i ∧ 0 ≤ fn (solveN W H R C v N n).2.1 i := by
  have hi' : i < C.length := by rw [hV.len]; exact hi
  obtain ⟨hp, h1, _, _, _⟩ := sweeps_pair hV.fine hV.len n 0 _ _ false ⟨laid_low hV hN, laid_high hV hN⟩
  have h3 := h1 i hi'
  have h4 := pair_between hV hp hi'
  have h5 : 0 ≤ fn (laid C v N (minOf (onOf C v))) i := by
    rw [fn_laid hN hi']
    split
    · rename_i q; exact hv i hi' q
    · obtain ⟨j, hj, hq, e⟩ := on_volt (minOf_mem (on_ne hV))
      rw [← e]; exact hv j hj hq
  exact ⟨Int.le_trans h5 h3, Int.le_trans (Int.le_trans h5 h3) h4⟩
end
end Go.Proofs.Field
end

section
namespace Go.Proofs.Ytndkkjpgnmahbaa.Print
open Go.RowKit Go.Proofs.YtndkkjpgnmahbaaW.PrintWords Go.Proofs.YtndkkjpgnmahbaaW.PrintLast Go.Proofs.YtndkkjpgnmahbaaW.PrintMore
attribute [local go_sem] max2_int min2_int max_two min_two max_three min_three max_four min_four
set_option linter.unusedVariables false
set_option linter.unusedSimpArgs false
end Go.Proofs.Ytndkkjpgnmahbaa.Print
end

section
namespace Go.Proofs.Ytndkkjpgnmahbaa.Print
open Go.RowKit Go.Proofs.YtndkkjpgnmahbaaW.PrintWords Go.Proofs.YtndkkjpgnmahbaaW.PrintLast Go.Proofs.YtndkkjpgnmahbaaW.PrintMore
attribute [local go_sem] max2_int min2_int max_two min_two max_three min_three max_four min_four
set_option linter.unusedVariables false
set_option linter.unusedSimpArgs false
def thermionkit_Greatest.l0 : Nat → Int → Int → Int → Int → Bool → List Int → Option (Int)
 | 0, _, _, _, _, _, _ => none
 | k + 1, x3, x4, x226000, x226001, x226002, x226003 => if x4 < (x226003.length : Int) then (if 0 ≤ x4 then (thermionkit_Greatest.l0 k (mx x3 (rd x226003 x4)) (wrap64 (x4 + 1)) x226000 x226001 x226002 x226003) else (none)) else (some x3)
def thermionkit_Greatest.f (k : Nat) (a0_0 : Int) (a0_1 : Int) (a0_2 : Bool) (l0_3 : List Int) : Option (Int) := thermionkit_Greatest.l0 k 0 0 a0_0 a0_1 a0_2 l0_3
end Go.Proofs.Ytndkkjpgnmahbaa.Print
end

section
namespace Go.Proofs.Ytndkkjpgnmahbaa.Print
open Go.RowKit Go.Proofs.YtndkkjpgnmahbaaW.PrintWords Go.Proofs.YtndkkjpgnmahbaaW.PrintLast Go.Proofs.YtndkkjpgnmahbaaW.PrintMore
attribute [local go_sem] max2_int min2_int max_two min_two max_three min_three max_four min_four
set_option linter.unusedVariables false
set_option linter.unusedSimpArgs false
def thermionkit_VoltsOf.l0 : Nat → List Int → Int → Int → Option (List Int × Int)
 | 0, _, _, _ => none
 | k + 1, x5, x6, x1000 => if x6 < (x5.length : Int) then ((thermionkit_Dice_Between.f x1000 (-100) 100).bind fun bt232 => ((thermionkit_Dice_Between.f bt232.2 (-1000000) 1000000).bind fun bt234 => ((some (([0, bt232.1, bt234.1, 1000000] : List Int) : List Int)).bind fun y236 => ((thermionkit_Dice_Upto.f bt234.2 4).bind fun bt239 => (if 0 ≤ bt239.1 then (if bt239.1 < (y236.length : Int) then (if 0 ≤ x6 then (thermionkit_VoltsOf.l0 k (x5.set (x6 : Int).toNat (rd y236 bt239.1)) (wrap64 (x6 + 1)) bt239.2) else (none)) else (none)) else (none)))))) else (some (x5, x1000))
def thermionkit_VoltsOf.f (k : Nat) (s0_0 : Int) (a1_0 : Int) (a1_1 : Int) (a1_2 : Bool) (l1_3 : List Int) : Option (List Int × Int) := (thermionkit_Greatest.f k a1_0 a1_1 a1_2 l1_3).bind fun t228 => (if 0 ≤ (mn 8 t228) then (if (mn 8 t228 : Int).toNat ≤ 35184372088832 then (thermionkit_VoltsOf.l0 k (List.replicate (mn 8 t228 : Int).toNat 0) 0 s0_0) else (none)) else (none))
end Go.Proofs.Ytndkkjpgnmahbaa.Print
end

section
namespace Go.Proofs.Ytndkkjpgnmahbaa.Print
open Go.RowKit Go.Proofs.YtndkkjpgnmahbaaW.PrintWords Go.Proofs.YtndkkjpgnmahbaaW.PrintLast Go.Proofs.YtndkkjpgnmahbaaW.PrintMore Go.Proofs.Field
set_option linter.unusedVariables false
theorem obind {α β : Type} {o : Option α} {a : α} {f : α → Option β} (h : o = some a) : o.bind f = f a := by rw [h]; rfl
end Go.Proofs.Ytndkkjpgnmahbaa.Print
end

section
namespace Go.Proofs.Ytndkkjpgnmahbaa.Print
open Go.RowKit Go.Proofs.YtndkkjpgnmahbaaW.PrintWords Go.Proofs.YtndkkjpgnmahbaaW.PrintLast Go.Proofs.YtndkkjpgnmahbaaW.PrintMore Go.Proofs.Field
set_option maxRecDepth 100000 in
theorem awake_true : thermionlaw01_awake.f 10 = some true := by kernel_rfl
end Go.Proofs.Ytndkkjpgnmahbaa.Print
end

section
namespace Go.Proofs.Ytndkkjpgnmahbaa.Print
open Go.RowKit Go.Proofs.YtndkkjpgnmahbaaW.PrintWords Go.Proofs.YtndkkjpgnmahbaaW.PrintLast Go.Proofs.YtndkkjpgnmahbaaW.PrintMore Go.Proofs.Field
set_option linter.unusedVariables false
theorem mod_eq (a m : Int) (h1 : 1 ≤ m) (h2 : m ≤ 4611686018427387904) : ∃ r : Nat, thermionkit_Mod.f a m = some (r : Int) ∧ (r : Int) < m := by
  have hb : Int.tmod a m < m := Int.tmod_lt_of_pos a (by omega)
  have hl : -m < Int.tmod a m := by
    rcases Int.le_total 0 a with q | q
    · have := Int.tmod_nonneg m q; omega
    · have e : Int.tmod a m = - Int.tmod (-a) m := by rw [Int.neg_tmod]; omega
      have := Int.tmod_lt_of_pos (-a) (show 0 < m by omega)
      omega
  unfold thermionkit_Mod.f
  rw [if_neg (by omega), if_neg (by omega)]
  obtain ⟨t, ht⟩ : ∃ t, Int.tmod a m = t := ⟨_, rfl⟩
  rw [ht] at hb hl ⊢
  by_cases q : t < 0
  · rw [if_pos q, IntWalk.wrap64_in _ (by omega)]
    exact ⟨(t + m).toNat, by rw [show ((t + m).toNat : Int) = t + m by omega], by omega⟩
  · rw [if_neg q]
    exact ⟨t.toNat, by rw [show (t.toNat : Int) = t by omega], by omega⟩
theorem dealt_plan (s a1 a2 : Int) (h1 : 1 ≤ a1 ∧ a1 ≤ 16) (h2 : 1 ≤ a2 ∧ a2 ≤ 16) : ∃ (W H : Nat) (R : Bool) (C : List Int) (s1 : Int), thermionkit_PlanOf.f s a1 a2 = some ((W : Int), (H : Int), R, C, s1) ∧ 1 ≤ W ∧ (W : Int) ≤ a1 ∧ 1 ≤ H ∧ (H : Int) ≤ a2 ∧ C.length = W * H ∧ C.length ≤ 256 ∧ (∀ e, e ∈ C → 0 ≤ e ∧ e ≤ 3) ∧ checkErr W H R C = 0 := by
  have h : ∃ W H R C r, thermionkit_PlanOf.f s a1 a2 = some (W, H, R, C, r) := by
    unfold thermionkit_PlanOf.f
    rw [if_pos ⟨h1.1, h1.2, h2.1, h2.2⟩]
    exact ⟨_, _, _, _, _, rfl⟩
  obtain ⟨W, H, R, C, r, h⟩ := h
  obtain ⟨a, b, c, d, e, f, g, i, j⟩ := planOf_fine h
  obtain ⟨W', rfl⟩ : ∃ W' : Nat, W = W' := ⟨W.toNat, by omega⟩
  obtain ⟨H', rfl⟩ : ∃ H' : Nat, H = H' := ⟨H.toNat, by omega⟩
  have hl : C.length = W' * H' := by rw [← Int.natCast_mul] at g; omega
  have h256 : C.length ≤ 256 := by have := Nat.mul_le_mul (show W' ≤ 16 by omega) (show H' ≤ 16 by omega); omega
  exact ⟨W', H', R, C, r, h, by omega, by omega, by omega, by omega, hl, h256, i, j⟩
structure Dealt (s a1 a2 : Int) (W H : Nat) (R : Bool) (C v : List Int) (s1 s2 : Int) : Prop where
  plan : thermionkit_PlanOf.f s a1 a2 = some ((W : Int), (H : Int), R, C, s1)
  volts : ∃ K, ∀ k, K ≤ k → thermionkit_VoltsOf.f k s1 (W : Int) (H : Int) R C = some (v, s2)
  W1 : 1 ≤ W
  W2 : (W : Int) ≤ a1
  H1 : 1 ≤ H
  H2 : (H : Int) ≤ a2
  W16 : W ≤ 16
  H16 : H ≤ 16
  len : C.length = W * H
  small : C.length ≤ 256
  cells : ∀ e, e ∈ C → 0 ≤ e ∧ e ≤ 3
  check : checkErr W H R C = 0
  verr : voltErr W H R C v = 0
  volted : Volted W H R C v
  vlen : v.length ≤ 3
theorem solve_eq {W H : Nat} {R : Bool} {C v : List Int} {n : Nat} (hv : voltErr W H R C v = 0) (hn : n ≤ 200) :
    field_Solve.f W H R C v n = some ((solveN W H R C v 256 n).1.take C.length, (solveN W H R C v 256 n).2.1.take C.length, ((solveN W H R C v 256 n).2.2.1 : Int), (solveN W H R C v 256 n).2.2.2, 0) := by
  unfold field_Solve.f
  rw [if_neg (by rw [hv]; simp), if_neg (by omega), Int.toNat_natCast, Int.toNat_natCast, Int.toNat_natCast]
theorem bounds_len {W H : Nat} {R : Bool} {C v : List Int} (hV : Volted W H R C v) (h : C.length ≤ 256) (n : Nat) : ((solveN W H R C v 256 n).1.take C.length).length = C.length ∧ ((solveN W H R C v 256 n).2.1.take C.length).length = C.length := by
  have hp := solve_pair hV h n
  have h1 := hp.low.1.len
  have h2 := hp.high.1.len
  rw [List.length_take, List.length_take]
  omega
theorem rd_fn (b : List Int) (i : Nat) (h : i < b.length) : rd b (i : Int) = fn b i := by
  rw [rd_natc b i h]
  unfold fn
  rw [List.getD_eq_getElem?_getD, List.getElem?_eq_getElem h]
  rfl
theorem awake_ev : ∃ K, ∀ k, K ≤ k → thermionlaw01_awake.f k = some true := Ev.of (g := fun k => thermionlaw01_awake.f k) thermionlaw01_awake.mono awake_true
end Go.Proofs.Ytndkkjpgnmahbaa.Print
end

section
namespace Go.Proofs.Ytndkkjpgnmahbaa.Print
open Go.RowKit Go.Proofs.YtndkkjpgnmahbaaW.PrintWords Go.Proofs.YtndkkjpgnmahbaaW.PrintLast Go.Proofs.YtndkkjpgnmahbaaW.PrintMore Go.Proofs.Field
set_option linter.unusedVariables false
theorem contains_ev (l : List Int) (b : Int) (hl : l.length ≤ 1000000) {k : Nat} (hk : l.length + 1 ≤ k) : slices_Contains_int_int.f k l b = some (l.contains b) :=
  at_rounds (g := fun k => slices_Contains_int_int.f k l b) (fun k => slices_Contains_int_int.mono l b k) hk (contains_int l b hl rfl)
theorem has_ev (W H : Int) (R : Bool) (C : List Int) (e : Int) (hl : C.length ≤ 1000000) {k : Nat} (hk : C.length + 1 ≤ k) : field_has.f k W H R C e = some (hasB C e) := by
  obtain ⟨d, rfl⟩ : ∃ d, k = C.length + 1 + d := ⟨k - (C.length + 1), by omega⟩
  exact has_eq W H R C e hl d
def dupFrom (l : List Int) (i : Nat) : Nat → Bool
  | 0 => false
  | d + 1 => (l.take i).contains (fn l i) || dupFrom l (i + 1) d
def apartErr (W H : Int) (R : Bool) (C : List Int) (n : Int) (l : List Int) : Int :=
  if checkErr W H R C ≠ 0 then checkErr W H R C else if n < 0 ∨ 200 < n then 2 else if l.all (hasB C) = false then 7 else if dupFrom l 0 l.length = true then 9 else 0
theorem apart_l1 (l : List Int) (hl : l.length ≤ 1000) : ∀ (d i k : Nat), i + d = l.length → d + l.length + 2 ≤ k → field_apart.l1 k l l (l.length : Int) (i : Int) = some (if dupFrom l i d = true then 9 else 0)
  | 0, i, k, h, hk => by
    obtain ⟨k, rfl⟩ : ∃ k', k = k' + 1 := ⟨k - 1, by omega⟩
    rw [field_apart.l1, if_neg (by omega), dupFrom, if_neg (by simp)]
  | d + 1, i, k, h, hk => by
    obtain ⟨k, rfl⟩ : ∃ k', k = k' + 1 := ⟨k - 1, by omega⟩
    have hw : wrap64 ((i : Int) + 1) = ((i + 1 : Nat) : Int) := by rw [IntWalk.wrap64_in _ (by omega)]; omega
    rw [field_apart.l1, if_pos (by omega), if_pos (by omega), if_pos (by omega), if_pos (by omega), Int.toNat_natCast, rd_fn l i (by omega), obind (contains_ev _ _ (by rw [List.length_take]; omega) (by rw [List.length_take]; omega)), dupFrom]
    cases q : (l.take i).contains (fn l i) with
    | true => rw [if_pos rfl, if_pos (by simp)]
    | false =>
      rw [if_neg (by simp), hw, apart_l1 l hl d (i + 1) k (by omega) (by omega), Bool.false_or]
theorem apart_l0 (W H : Int) (R : Bool) (C l : List Int) (hC : C.length ≤ 1000) (hl : l.length ≤ 1000) : ∀ (d i k : Nat), i + d = l.length → d + 2 * l.length + C.length + 5 ≤ k →
    field_apart.l0 k l l (l.length : Int) (i : Int) W H R C = some (if (l.drop i).all (hasB C) = false then 7 else if dupFrom l 0 l.length = true then 9 else 0)
  | 0, i, k, h, hk => by
    obtain ⟨k, rfl⟩ : ∃ k', k = k' + 1 := ⟨k - 1, by omega⟩
    have h1 := apart_l1 l hl l.length 0 k (by omega) (by omega)
    rw [field_apart.l0, if_neg (by omega), List.drop_eq_nil_of_le (by omega)]
    exact h1
  | d + 1, i, k, h, hk => by
    obtain ⟨k, rfl⟩ : ∃ k', k = k' + 1 := ⟨k - 1, by omega⟩
    have hw : wrap64 ((i : Int) + 1) = ((i + 1 : Nat) : Int) := by rw [IntWalk.wrap64_in _ (by omega)]; omega
    have hil : i < l.length := by omega
    have e : fn l i = l[i] := by unfold fn; rw [List.getD_eq_getElem?_getD, List.getElem?_eq_getElem hil]; rfl
    rw [field_apart.l0, if_pos (by omega), if_pos (by omega), if_pos (by omega), rd_fn l i hil, obind (has_ev W H R C _ (by omega) (by omega)), List.drop_eq_getElem_cons hil, List.all_cons, ← e]
    cases q : hasB C (fn l i) with
    | true => rw [if_pos rfl, hw, apart_l0 W H R C l hC hl d (i + 1) k (by omega) (by omega), Bool.true_and]
    | false => rw [if_neg (by simp), if_pos (by simp)]
theorem apart_eq (W H : Int) (R : Bool) (C l : List Int) (n : Int) (hC : C.length ≤ 1000) (hl : l.length ≤ 1000) {k : Nat} (hk : 3 * l.length + C.length + 6 ≤ k) : field_apart.f k W H R C n l = some (apartErr W H R C n l) := by
  obtain ⟨k, rfl⟩ : ∃ k', k = k' + 1 := ⟨k - 1, by omega⟩
  unfold field_apart.f apartErr
  rw [obind (show field_Check.f W H R C = some (checkErr W H R C) from rfl)]
  by_cases q : checkErr W H R C = 0
  · rw [if_pos q, if_neg (show ¬ checkErr W H R C ≠ 0 from fun f => f q)]
    by_cases r : n < 0
    · rw [if_pos r, field_apart.j0, if_pos rfl, if_pos (.inl r)]
    · rw [if_neg r, field_apart.j0]
      by_cases t : n > 200
      · rw [if_pos (by simpa using t), if_pos (.inr t)]
      · have h0 := apart_l0 W H R C l hC hl l.length 0 k (by omega) (by omega)
        rw [List.drop_zero] at h0
        rw [if_neg (by simpa using t), if_neg (by omega)]
        exact h0
  · rw [if_neg q, if_pos q]
theorem hasB_mem {C : List Int} {e : Int} : hasB C e = true ↔ 0 < e ∧ e ∈ C := by
  unfold hasB
  rw [Bool.and_eq_true, decide_eq_true_eq, List.contains_iff_mem]
theorem apart_two {W H : Int} {R : Bool} {C : List Int} {n a b : Int} (hck : checkErr W H R C = 0) (hn : 0 ≤ n ∧ n ≤ 200) (hab : a ≠ b) : apartErr W H R C n [a, b] = if hasB C a = true ∧ hasB C b = true then 0 else 7 := by
  unfold apartErr
  rw [if_neg (by simpa using hck), if_neg (by omega)]
  by_cases q : hasB C a = true ∧ hasB C b = true
  · rw [if_pos q, if_neg (by simp [q.1, q.2]), if_neg]
    simp [dupFrom, fn, Ne.symm hab]
  · rw [if_neg q, if_pos]
    simp only [List.all_cons, List.all_nil, Bool.and_true]
    cases h1 : hasB C a <;> cases h2 : hasB C b <;> simp_all
theorem unit_right {W H : Int} {R : Bool} {C : List Int} {m : Nat} {a : Int} (hck : checkErr W H R C = 0) (hm : maxOf C = m) (ha : 1 ≤ a ∧ a ≤ m) : voltErr W H R C (unitV m a 1000000) = 0 := by
  unfold voltErr
  rw [if_neg (by simpa using hck), if_neg (by unfold unitV; rw [List.length_set, List.length_replicate, hm]; simp), if_neg]
  rintro ⟨v, hv, hb⟩
  obtain ⟨i, hi, rfl⟩ := mem_fn hv
  rw [fn_unitV ha] at hb
  split at hb <;> omega
theorem has_max {C : List Int} {m : Nat} {a : Int} (hm : maxOf C = m) (h : hasB C a = true) : 1 ≤ a ∧ a ≤ m := by
  obtain ⟨h1, h2⟩ := hasB_mem.1 h
  have := le_maxOf h2
  omega
theorem influence_eq {W H : Nat} {R : Bool} {C : List Int} {n m : Nat} {a b : Int} (hck : checkErr W H R C = 0) (hn : n ≤ 200) (hab : a ≠ b) (hm : maxOf C = m) (ha : hasB C a = true) (hb : hasB C b = true) {k : Nat} (hk : C.length + 12 ≤ k) :
    ∃ (hV : Volted W H R C (unitV m a 1000000)), C.length ≤ 256 ∧ field_Influence.f k W H R C n a b = some (inflow W H R C b (solveN W H R C (unitV m a 1000000) 256 n).1, inflow W H R C b (solveN W H R C (unitV m a 1000000) 256 n).2.1, 0) := by
  have ha' := has_max hm ha
  have hb' := has_max hm hb
  have hv := unit_right hck hm ha'
  obtain ⟨W', H', eW, eH, hW16, hH16, h256, _, hV⟩ := volted_of hv
  obtain rfl : W = W' := by omega
  obtain rfl : H = H' := by omega
  refine ⟨hV, h256, ?_⟩
  have hne := check_ne hck
  have hm6 : m ≤ 6 := by
    obtain ⟨i, hi, e⟩ := mem_fn (maxOf_mem hne)
    have := (hV.elr i hi).2
    omega
  have hp := solve_pair hV h256 n
  have hr := fun j (hj : j < C.length) => solve_range hV h256 n hj
  obtain ⟨t1, t2⟩ := bounds_len hV h256 n
  have hs := solve_eq (n := n) hv hn
  have hz : ∀ i, i < W * H → fn C i = b → volt C (unitV m a 1000000) i = 0 := fun i hi e => by
    rw [volt_unitV ha' (by rw [e]; omega), if_neg (by rw [e]; exact Ne.symm hab)]
  have hub : fn (unitV m a 1000000) (b.toNat - 1) = 0 := by rw [fn_unitV ha', if_neg (by omega)]
  have hlo : ∀ i, i < W * H → fn C i = b → fn (solveN W H R C (unitV m a 1000000) 256 n).1 i = 0 := fun i hi e => by
    rw [hp.low.1.el i (by rw [hV.len]; exact hi) (by omega)]; exact hz i hi e
  have hhi : ∀ i, i < W * H → fn C i = b → fn (solveN W H R C (unitV m a 1000000) 256 n).2.1 i = 0 := fun i hi e => by
    rw [hp.high.1.el i (by rw [hV.len]; exact hi) (by omega)]; exact hz i hi e
  have hlen := hV.len
  obtain ⟨A, hA⟩ : ∃ A, solveN W H R C (unitV m a 1000000) 256 n = A := ⟨_, rfl⟩
  rw [hA] at hr t1 t2 hs hlo hhi ⊢
  have c1 : chTo W H R C b 0 (A.1.take C.length) C.length = - inflow W H R C b A.1 := by
    have e := chTo_inflow (W := W) (H := H) (R := R) (C := C) (k := b) (b := A.1.take C.length) (fun i hi e => by rw [fn_take (by omega)]; exact hlo i hi e)
    rw [← hlen] at e
    rw [e]
    unfold inflow
    congr 1
    refine sumTo_congr (fun i hi => ?_)
    by_cases q : fn C i = b
    · rw [if_pos q, if_pos q]; exact Net.S_congr i (fun j hj => fn_take (by rw [hlen]; exact hj))
    · rw [if_neg q, if_neg q]
  have c2 : chTo W H R C b 0 (A.2.1.take C.length) C.length = - inflow W H R C b A.2.1 := by
    have e := chTo_inflow (W := W) (H := H) (R := R) (C := C) (k := b) (b := A.2.1.take C.length) (fun i hi e => by rw [fn_take (by omega)]; exact hhi i hi e)
    rw [← hlen] at e
    rw [e]
    unfold inflow
    congr 1
    refine sumTo_congr (fun i hi => ?_)
    by_cases q : fn C i = b
    · rw [if_pos q, if_pos q]; exact Net.S_congr i (fun j hj => fn_take (by rw [hlen]; exact hj))
    · rw [if_neg q, if_neg q]
  have d1 := chTo_bound (W := W) (H := H) (R := R) (C := C) (e := b) (u := 0) (b := A.1.take C.length) (by omega) hW16 (fun j hj => by rw [fn_take (by omega)]; exact (hr j (by omega)).1) C.length (by omega)
  have d2 := chTo_bound (W := W) (H := H) (R := R) (C := C) (e := b) (u := 0) (b := A.2.1.take C.length) (by omega) hW16 (fun j hj => by rw [fn_take (by omega)]; exact (hr j (by omega)).2) C.length (by omega)
  have hch : field_Charge.f W H R C (unitV m a 1000000) n b = some (chTo W H R C b 0 (A.2.1.take C.length) C.length, chTo W H R C b 0 (A.1.take C.length) C.length, 0) := by
    unfold field_Charge.f
    rw [obind hs]
    show (if (0 : Int) ≠ 0 then _ else if hasB C b = false then _ else _) = _
    rw [if_neg (by simp), if_neg (by rw [hb]; simp), hub, Int.toNat_natCast, Int.toNat_natCast]
  rw [c1, c2] at hch
  rw [c1] at d1
  rw [c2] at d2
  have hap : apartErr W H R C n [a, b] = 0 := by rw [apart_two hck (by omega) hab]; exact if_pos ⟨ha, hb⟩
  unfold field_Influence.f
  rw [obind (apart_eq W H R C [a, b] n (by omega) (by simp) (by simp; omega)), hap, if_pos rfl]
  have hmx : slices_Max_int_int.f C = some (m : Int) := by unfold slices_Max_int_int.f; rw [if_neg hne, hm]
  have hwa : wrap64 (a - 1) = a - 1 := IntWalk.wrap64_in _ (by omega)
  rw [obind hmx, if_pos (by omega), Int.toNat_natCast, if_pos (by omega), obind rfl, hwa, if_pos (by omega), if_pos (by rw [List.length_replicate]; omega)]
  have hu : (List.replicate m (0 : Int)).set (a - 1).toNat 1000000 = unitV m a 1000000 := by
    unfold unitV
    rw [show (a - 1).toNat = a.toNat - 1 by omega]
  rw [hu, obind hch]
  show some (wrap64 (- - inflow W H R C b A.1), wrap64 (- - inflow W H R C b A.2.1), (0 : Int)) = _
  rw [IntWalk.wrap64_in _ (by omega), IntWalk.wrap64_in _ (by omega), Int.neg_neg, Int.neg_neg]
theorem influence_both {W H : Nat} {R : Bool} {C : List Int} {n n' m : Nat} {a b : Int} (hm : maxOf C = m) (ha : hasB C a = true) (hb : hasB C b = true) (h256 : C.length ≤ 256)
    (hV : Volted W H R C (unitV m a 1000000)) (hV' : Volted W H R C (unitV m b 1000000)) :
    inflow W H R C b (solveN W H R C (unitV m a 1000000) 256 n).1 ≤ inflow W H R C a (solveN W H R C (unitV m b 1000000) 256 n').2.1 ∧ 0 ≤ inflow W H R C b (solveN W H R C (unitV m a 1000000) 256 n).1 := by
  have ha' := has_max hm ha
  have hb' := has_max hm hb
  have z : ∀ c, 1 ≤ c ∧ c ≤ (m : Int) → ∀ i, i < C.length → 0 < fn C i → 0 ≤ volt C (unitV m c 1000000) i := fun c hc i _ hp => by
    rw [volt_unitV hc hp]; split <;> omega
  have l0 := fun i (hi : i < W * H) => (solve_nonneg hV (z a ha') h256 n hi).1
  have h0 := fun i (hi : i < W * H) => (solve_nonneg hV' (z b hb') h256 n' hi).2
  exact ⟨there_back (by omega) ha' hb' hV (solve_pair hV h256 n).low (solve_pair hV' h256 n').high l0 h0, inflow_nonneg l0⟩
end Go.Proofs.Ytndkkjpgnmahbaa.Print
end

section
namespace Go.Proofs.Ytndkkjpgnmahbaa.Print
open Go.RowKit Go.Proofs.YtndkkjpgnmahbaaW.PrintWords Go.Proofs.YtndkkjpgnmahbaaW.PrintLast Go.Proofs.YtndkkjpgnmahbaaW.PrintMore Go.Proofs.Field
set_option linter.unusedVariables false
theorem haskit_go (C : List Int) (e : Int) (hl : C.length ≤ 1000000) : ∀ (d i k : Nat), i + d = C.length → d + 1 ≤ k → thermionkit_Has.l0 k C e (i : Int) = some ((C.drop i).contains e)
  | 0, i, k, h, hk => by
    obtain ⟨k, rfl⟩ : ∃ k', k = k' + 1 := ⟨k - 1, by omega⟩
    rw [thermionkit_Has.l0, if_neg (by omega), List.drop_eq_nil_of_le (by omega)]
    rfl
  | d + 1, i, k, h, hk => by
    obtain ⟨k, rfl⟩ : ∃ k', k = k' + 1 := ⟨k - 1, by omega⟩
    have hw : wrap64 ((i : Int) + 1) = ((i + 1 : Nat) : Int) := by rw [IntWalk.wrap64_in _ (by omega)]; omega
    have hil : i < C.length := by omega
    rw [thermionkit_Has.l0, if_pos (by omega), if_pos (by omega), rd_natc C i hil, List.drop_eq_getElem_cons hil, List.contains_cons]
    by_cases q : C[i] = e
    · rw [if_pos q, show (e == C[i]) = true by simp [q], Bool.true_or]
    · rw [if_neg q, show (e == C[i]) = false by simp [Ne.symm q], Bool.false_or, hw]
      exact haskit_go C e hl d (i + 1) k (by omega) (by omega)
theorem haskit_eq (C : List Int) (e : Int) (he : 0 < e) (hl : C.length ≤ 1000000) {k : Nat} (hk : C.length + 1 ≤ k) : thermionkit_Has.f k C e = some (hasB C e) := by
  have h := haskit_go C e hl C.length 0 k (by omega) (by omega)
  rw [List.drop_zero] at h
  unfold hasB
  rw [decide_eq_true he, Bool.true_and]
  exact h
theorem influence_none {W H : Nat} {R : Bool} {C : List Int} {n : Nat} {a b : Int} (hck : checkErr W H R C = 0) (h256 : C.length ≤ 256) (hn : n ≤ 200) (hab : a ≠ b) (h : ¬ (hasB C a = true ∧ hasB C b = true)) {k : Nat} (hk : C.length + 12 ≤ k) :
    field_Influence.f k W H R C n a b = some (0, 0, 7) := by
  have hap : apartErr W H R C n [a, b] = 7 := by rw [apart_two hck (by omega) hab]; exact if_neg h
  unfold field_Influence.f
  rw [obind (apart_eq W H R C [a, b] n (by omega) (by simp) (by simp; omega)), hap, if_neg (by omega)]
end Go.Proofs.Ytndkkjpgnmahbaa.Print
end

section
namespace Go.Proofs.Ytndkkjpgnmahbaa.Pure
open Go.RowKit Go.Proofs.Ytndkkjpgnmahbaa.Print Go.Proofs.YtndkkjpgnmahbaaW.PrintWords Go.Proofs.YtndkkjpgnmahbaaW.PrintLast Go.Proofs.YtndkkjpgnmahbaaW.PrintMore Go.Proofs.Field
set_option linter.unusedVariables false
theorem both_step {W H : Nat} {R : Bool} {C : List Int} (hck : checkErr W H R C = 0) (h256 : C.length ≤ 256) (x1 x2 : Int) {a b : Nat} (hb1 : 1 ≤ b) (hba : b < a) (ha3 : a ≤ 3)
    (h : ∃ K, ∀ t, K ≤ t → thermionlaw01_FieldBoth.l1 t x1 x2 (a : Int) ((b + 1 : Nat) : Int) W H R C = some true) : ∃ K, ∀ t, K ≤ t → thermionlaw01_FieldBoth.l1 t x1 x2 (a : Int) (b : Int) W H R C = some true := by
  obtain ⟨K, h⟩ := h
  obtain ⟨n, hn, hn1⟩ := mod_eq x1 41 (by omega) (by omega)
  obtain ⟨n', hn', hn1'⟩ := mod_eq x2 41 (by omega) (by omega)
  have hw : wrap64 ((b : Int) + 1) = ((b + 1 : Nat) : Int) := by rw [IntWalk.wrap64_in _ (by omega)]; omega
  refine ⟨K + C.length + 20, fun t ht => ?_⟩
  obtain ⟨t, rfl⟩ : ∃ t', t = t' + 3 := ⟨t - 3, by omega⟩
  have hha := haskit_eq C (a : Int) (by omega) (by omega) (k := t + 2) (by omega)
  have hhb := haskit_eq C (b : Int) (by omega) (by omega) (k := t + 2) (by omega)
  rw [thermionlaw01_FieldBoth.l1, if_pos (by omega), obind hn]
  by_cases q : hasB C (a : Int) = true ∧ hasB C (b : Int) = true
  · obtain ⟨m, hm⟩ : ∃ m : Nat, maxOf C = m := by
      have := le_maxOf (hasB_mem.1 q.1).2
      exact ⟨(maxOf C).toNat, by omega⟩
    obtain ⟨hV, _, f1⟩ := influence_eq (n := n) hck (by omega) (show (a : Int) ≠ b by omega) hm q.1 q.2 (k := t + 2) (by omega)
    obtain ⟨hV', _, f2⟩ := influence_eq (n := n') hck (by omega) (show (b : Int) ≠ a by omega) hm q.2 q.1 (k := t + 2) (by omega)
    obtain ⟨m1, z1⟩ := influence_both (n := n) (n' := n') hm q.1 q.2 h256 hV hV'
    obtain ⟨m2, z2⟩ := influence_both (n := n') (n' := n) hm q.2 q.1 h256 hV' hV
    rw [q.1] at hha
    rw [q.2] at hhb
    rw [obind f1, obind hn', obind f2, obind hha, if_pos rfl, obind hhb, thermionlaw01_FieldBoth.j2, if_neg (by simp), if_pos rfl, if_pos rfl]
    have hmeet : thermionkit_Meet.f (inflow W H R C (b : Int) (solveN W H R C (unitV m a 1000000) 256 n).1) (inflow W H R C (b : Int) (solveN W H R C (unitV m a 1000000) 256 n).2.1) (inflow W H R C (a : Int) (solveN W H R C (unitV m b 1000000) 256 n').1) (inflow W H R C (a : Int) (solveN W H R C (unitV m b 1000000) 256 n').2.1) = some true := by
      unfold thermionkit_Meet.f
      rw [if_pos m1, decide_eq_true m2]
    rw [obind hmeet, if_pos rfl, if_neg (by omega), if_neg (by omega), hw]
    exact h _ (by omega)
  · have f1 := influence_none (n := n) hck h256 (by omega) (show (a : Int) ≠ b by omega) q (k := t + 2) (by omega)
    have f2 := influence_none (n := n') hck h256 (by omega) (show (b : Int) ≠ a by omega) (fun r => q ⟨r.2, r.1⟩) (k := t + 2) (by omega)
    rw [obind f1, obind hn', obind f2, obind hha]
    have hj : thermionlaw01_FieldBoth.j2 (t + 2) x1 x2 (a : Int) (b : Int) 7 7 true W H R C 0 0 0 0 = some true := by
      rw [thermionlaw01_FieldBoth.j2, if_pos rfl, if_pos rfl, thermionlaw01_FieldBoth.j3, if_neg (by simp), hw]
      exact h _ (by omega)
    cases p : hasB C (a : Int) with
    | false => rw [if_neg (by simp)]; exact hj
    | true =>
      have r : hasB C (b : Int) = false := by
        cases r : hasB C (b : Int) with
        | false => rfl
        | true => exact absurd ⟨p, r⟩ q
      rw [r] at hhb
      rw [if_pos rfl, obind hhb]
      exact hj
theorem both_row {W H : Nat} {R : Bool} {C : List Int} (hck : checkErr W H R C = 0) (h256 : C.length ≤ 256) (x1 x2 : Int) {a : Nat} (ha1 : 1 ≤ a) (ha3 : a ≤ 3)
    (h : ∃ K, ∀ t, K ≤ t → thermionlaw01_FieldBoth.l0 t x1 x2 ((a + 1 : Nat) : Int) W H R C = some true) : ∃ K, ∀ t, K ≤ t → thermionlaw01_FieldBoth.l0 t x1 x2 (a : Int) W H R C = some true := by
  have hw : wrap64 ((a : Int) + 1) = ((a + 1 : Nat) : Int) := by rw [IntWalk.wrap64_in _ (by omega)]; omega
  have key : ∀ d b : Nat, 1 ≤ b → b + d = a → ∃ K, ∀ t, K ≤ t → thermionlaw01_FieldBoth.l1 t x1 x2 (a : Int) (b : Int) W H R C = some true := by
    intro d
    induction d with
    | zero =>
      intro b hb hd
      obtain ⟨K, h⟩ := h
      refine ⟨K + 1, fun t ht => ?_⟩
      obtain ⟨t, rfl⟩ : ∃ t', t = t' + 1 := ⟨t - 1, by omega⟩
      rw [thermionlaw01_FieldBoth.l1, if_neg (by omega), hw]
      exact h t (by omega)
    | succ d ih =>
      intro b hb hd
      exact both_step hck h256 x1 x2 hb (by omega) ha3 (ih (b + 1) (by omega) (by omega))
  obtain ⟨K, hk⟩ := key (a - 1) 1 (by omega) (by omega)
  refine ⟨K + 1, fun t ht => ?_⟩
  obtain ⟨t, rfl⟩ : ∃ t', t = t' + 1 := ⟨t - 1, by omega⟩
  rw [thermionlaw01_FieldBoth.l0, if_pos (by omega)]
  exact hk t (by omega)
theorem FieldBoth : thermionlaw01_FieldBoth.Pure := by
  intro l0 a1 a2 _ _ _ _ _
  obtain ⟨s, hs⟩ : ∃ s, thermionkit_NewDice.f l0 = some s := ⟨_, rfl⟩
  obtain ⟨W, H, R, C, s1, hP, b1, b2, b3, b4, hl, h256, hc, hck⟩ := dealt_plan s 8 6 (by omega) (by omega)
  have h4 : ∃ K, ∀ t, K ≤ t → thermionlaw01_FieldBoth.l0 t a1 a2 ((3 + 1 : Nat) : Int) W H R C = some true := by
    obtain ⟨K, hw⟩ := awake_ev
    refine ⟨K + 1, fun t ht => ?_⟩
    obtain ⟨t, rfl⟩ : ∃ t', t = t' + 1 := ⟨t - 1, by omega⟩
    rw [thermionlaw01_FieldBoth.l0, if_neg (by omega), obind (hw t (by omega))]
  obtain ⟨K, h⟩ := both_row hck h256 a1 a2 (a := 1) (by omega) (by omega) (both_row hck h256 a1 a2 (a := 2) (by omega) (by omega) (both_row hck h256 a1 a2 (a := 3) (by omega) (by omega) h4))
  refine ⟨K, ?_⟩
  unfold thermionlaw01_FieldBoth.f
  rw [obind hs, obind hP]
  exact h K (Nat.le_refl _)
end Go.Proofs.Ytndkkjpgnmahbaa.Pure
end

section
namespace Go.Proofs.YtndkkjpgnmahbaaW.PrintWords
open Go.ChangeShapes Go.WideShapes
theorem sized_ints {H : Type} {enc : TypeId × Value → H} {P : Program} {W : World} {base : Nat} {spare : Nat → Bool} {held : Bool} {t e : TypeId} {k : IntKind} {a : Option Addr} {len cap : Nat} {d : DataW H} {ps : List MemPlace} {ts : List TypeId} {ds : List (DataW H)} {j : Nat}
    (hsz : (DataW.weightsEach P ts ds).all (· ≤ reachBytes) = true) (ht : ts[j]? = some t) (hd : ds[j]? = some d) (hu : P.underlying t = some (.slice e)) (he : P.underlying e = some (.int k)) (hc : P.cellsOf e = 1) {B : Nat} (hB : P.bytesOf e = B)
    (h : DataW.Trod enc P W base spare held t (.slice a len cap) d ps) : len * B ≤ 140737488351232 := by
  obtain ⟨fuel, hf⟩ := h
  rcases open_ints hu he hc hf with ⟨hcs, _⟩ | ⟨x, l, c, zs, hcs, _, hl, _, hz, hx, _, _⟩
  · simp [Value.cells] at hcs
    obtain ⟨rfl, rfl, rfl⟩ := hcs
    simp
  · simp [Value.cells] at hcs
    obtain ⟨rfl, rfl, rfl⟩ := hcs
    obtain ⟨hx, _⟩ := Prod.mk.inj hx
    subst hx
    have z := sized_slice hsz ht hd hu
    rw [hB] at z
    have hl2 : len ≤ zs.length := by
      rw [hz]
      split
      · exact hl
      · exact Nat.le_refl _
    have h1 : (lits (H := H) k (zs.take len)).length + (lits (H := H) k (zs.drop len)).length = zs.length := by
      simp [lits]
      omega
    rw [h1] at z
    exact Nat.le_trans (Nat.mul_le_mul_right _ hl2) z
end Go.Proofs.YtndkkjpgnmahbaaW.PrintWords
end
