/- Part 4 of the texts of a claim about Ytndkkjpgnmahbaa, put together by a program of this work: what the Go functions do, and that their calls do so. -/
import Derived.Test.YtndkkjpgnmahbaaFX3
import Derived.Test.YtndkkjpgnmahbaaFX2
import Derived.IntWalk
set_option linter.unusedVariables false
set_option linter.unusedSimpArgs false
set_option maxRecDepth 100000
set_option maxHeartbeats 64000000
attribute [local go_sem] Go.Proofs.YtndkkjpgnmahbaaW.PrintMore.max2_int Go.Proofs.YtndkkjpgnmahbaaW.PrintMore.min2_int Go.Proofs.YtndkkjpgnmahbaaW.PrintMore.max_two Go.Proofs.YtndkkjpgnmahbaaW.PrintMore.min_two Go.Proofs.YtndkkjpgnmahbaaW.PrintMore.max_three Go.Proofs.YtndkkjpgnmahbaaW.PrintMore.min_three Go.Proofs.YtndkkjpgnmahbaaW.PrintMore.max_four Go.Proofs.YtndkkjpgnmahbaaW.PrintMore.min_four
section
namespace Go.Proofs.Ytndkkjpgnmahbaa.Print
open Go.RowKit YtndkkjpgnmahbaaW.PrintWords YtndkkjpgnmahbaaW.PrintLast YtndkkjpgnmahbaaW.PrintMore Ytndkkjpgnmahbaa.H Proofs.Field
structure OS (w W : World) (gp g2 gh ch g0 c base : Nat) (ok : Nat → Prop) (pv : Array Value) (h : List Bool) (D : List Int) : Prop where
 g : w.grownBy W (some g0)
 p : W.heap[gp]? = some (.cells pv 24 (0, 0))
 z : W.heap[g2]? = some (.cells #[.int .i64 0, .int .i64 0, .bool false, .slice none 0 0] 24 (0, 0))
 hh : Kd.R Kd.bool 4 W w.heap.size (fun _ => True) (.slice (some ⟨gh, 0, none⟩) h.length ch) h
 rc : Kd.R (Kd.int .i64) 3 W base ok (.slice (some ⟨g0, 0, none⟩) D.length c) D
 gp0 : w.heap.size ≤ gp
 g20 : w.heap.size ≤ g2
 gh0 : w.heap.size ≤ gh
 g00 : g0 < w.heap.size
namespace OS
variable {w W W1 : World} {gp g2 gh ch g0 c base : Nat} {ok : Nat → Prop} {pv : Array Value} {h : List Bool} {D : List Int}
theorem cell (s : OS w W gp g2 gh ch g0 c base ok pv h D) {i : Nat} (hi : i < D.length) : W.cell? ⟨g0, i, none⟩ = some (.int .i64 (fn D i)) := by
 have h1 := (Kd.R_cell (0 : Int) s.rc (i : Int) (by omega) (by omega)).1
 rw [Int.toNat_natCast] at h1
 rw [h1]
 unfold rdOf fn
 rw [Int.toNat_natCast]
theorem frozen (s : OS w W gp g2 gh ch g0 c base ok pv h D) {i : Nat} (hi : i < D.length) : W.frozen? ⟨g0, i, none⟩ = false := by
 have h1 := (Kd.R_cell (0 : Int) s.rc (i : Int) (by omega) (by omega)).2
 rwa [Int.toNat_natCast] at h1
theorem held (s : OS w W gp g2 gh ch g0 c base ok pv h D) {i : Nat} (hi : i < h.length) : W.cell? ⟨gh, i, none⟩ = some (.bool (h.getD i false)) ∧ W.frozen? ⟨gh, i, none⟩ = false := by
 have h1 := Kd.R_cell false s.hh (i : Int) (by omega) (by omega)
 rw [Int.toNat_natCast] at h1
 refine ⟨h1.1.trans ?_, h1.2⟩
 unfold rdOf
 rw [Int.toNat_natCast]
theorem grow {x : Nat} {j : Nat} {v : Value} (hg : w.grownBy W (some g0)) (hx : w.heap.size ≤ x ∨ x = g0) : w.grownBy (W.setCell ⟨x, j, none⟩ v) (some g0) :=
 ⟨hg.os, hg.tape, hg.output, Nat.le_trans hg.size (KeepsOthers.setCell W _ _).size, fun k hk hne => by
  rw [Below.heap_setCell W _ _ k (show k ≠ x by
   rcases hx with q | q
   ·omega
   ·exact fun e => hne (by rw [e, q]))]
  exact hg.block k hk hne⟩
theorem seth (s : OS w W gp g2 gh ch g0 c base ok pv h D) {i : Nat} (hi : i < h.length) (v : Bool) : OS w (W.setCell ⟨gh, i, none⟩ (.bool v)) gp g2 gh ch g0 c base ok pv (h.set i v) D := by
 obtain ⟨cs, hb⟩ := Kd.R_typed s.hh gh rfl
 have h1 := (Kd.R_put s.hh (i : Int) v).1
 rw [Int.toNat_natCast] at h1
 refine ⟨grow s.g (.inl s.gh0), blk_far (p := ⟨gh, i, none⟩) s.p (blk_ne s.p hb (by decide)) _, blk_far (p := ⟨gh, i, none⟩) s.z (blk_ne s.z hb (by decide)) _, ?_, Kd.R_set s.rc hb (by decide) i _, s.gp0, s.g20, s.gh0, s.g00⟩
 rw [List.length_set]
 exact h1
theorem setc (s : OS w W gp g2 gh ch g0 c base ok pv h D) {i : Nat} (hi : i < D.length) (v : Int) : OS w (W.setCell ⟨g0, i, none⟩ (.int .i64 v)) gp g2 gh ch g0 c base ok pv h (D.set i v) := by
 obtain ⟨cs, hb⟩ := Kd.R_typed s.rc g0 rfl
 have h1 := (Kd.R_put s.rc (i : Int) v).1
 rw [Int.toNat_natCast] at h1
 refine ⟨grow s.g (.inr rfl), blk_far (p := ⟨g0, i, none⟩) s.p (blk_ne s.p hb (by decide)) _, blk_far (p := ⟨g0, i, none⟩) s.z (blk_ne s.z hb (by decide)) _, Kd.R_set s.hh hb (by decide) i _, ?_, s.gp0, s.g20, s.gh0, s.g00⟩
 rw [List.length_set]
 exact h1
end OS
theorem opened_calls (W H : Nat) (R : Bool) (g0 c base : Nat) (ok : Nat → Prop) (C : List Int) (w : World) (hr : Kd.R (Kd.int .i64) 3 w base ok (.slice (some ⟨g0, 0, none⟩) C.length c) C) (hc : C.length = W * H) (hN : C.length ≤ 256) (hp : 0 < C.length) (hW : 0 < W) :
  Calls Try.prog 67 #[.agg (planV W H R (some ⟨g0, 0, none⟩) C.length c)] w fun e w' => e = .returned (.agg (planV W H R (some ⟨g0, 0, none⟩) C.length c)) ∧ Kd.R (Kd.int .i64) 3 w' base ok (.slice (some ⟨g0, 0, none⟩) (opened W C).length c) (opened W C) ∧ w.grownBy w' (some g0) := by
 have HR := Aside0.mk hr
 have HM := Aside0.mk (Mem.start w)
 have HX : Aside0 (C.length = W * H ∧ C.length ≤ 256 ∧ 0 < C.length ∧ 0 < W ∧ W ≤ 256) := ⟨⟨hc, hN, hp, hW, by
  have hH : 0 < H := by
   rcases Nat.eq_zero_or_pos H with q | q
   ·rw [q, Nat.mul_zero] at hc; omega
   ·exact q
  have := Nat.le_mul_of_pos_right W hH
  omega⟩⟩
 have hG0 := Kd.R_lt hr g0 rfl
 have b1 : (C.length : Int) ≤ 256 := by omega
 have b2 : (0 : Int) ≤ (C.length : Int) := by omega
 have b3 : (W : Int) ≠ 0 := by omega
 have hu24 := Try.underlying24
 have hu22 := Try.underlying22
 have hu100 := Try.underlying100
 have HG0 := Aside0.mk hG0
 clear hr hc hN hp hW hG0
 go_enter Try.func67, Try.ntmps67
 go_wp2_with (first
  | ((with_reducible refine gate_dst (N := 1) rfl ?_); refine ev_box HM.out rfl 24 (.tmp 0) rfl (cs := planV W H R (some ⟨g0, 0, none⟩) C.length c) rfl ?_; intro gp w1 hm1 hq1; clear hq1; have HM1 := Aside0.mk hm1; clear hm1 HM)
  | ((with_reducible refine gate_dst (N := 2) rfl ?_); refine ev_new HM1.out rfl 24 rfl info24 ?_; intro g2 w2 hm2 hq2; clear hq2; have HM2 := Aside0.mk hm2; clear hm2 HM1; have q3 : w2.cell? ⟨gp, 3, none⟩ = some (.slice (some ⟨g0, 0, none⟩) C.length c) := (blk_cell HM2.out.second 3).trans rfl)
  | ((with_reducible refine gate_dst (N := 11) rfl ?_); refine Kd.R_make Kd.bool w.heap.size 4 rfl (N := 11) rfl 100 _ _ rfl (C.length : Int) rfl rfl Try.underlying100 (.bool false) 1 info4 rfl (by decide) (by omega) false (ok := fun _ => True) (okp := fun _ => True) rfl (fun _ hk => hk) trivial b2 (by omega) HM2.out.below HM2.out.below.size ?_; intro v3 w3 ho3 hb3 hg3 hat3; rw [Int.toNat_natCast] at ho3; obtain ⟨gh, ch, e3, hgh, _⟩ := Kd.R_form ho3 (by rw [List.length_replicate]; exact HX.out.2.2.1); rw [List.length_replicate] at e3; subst e3; have HS0 : Aside0 (OS w w3 gp g2 gh ch g0 c base ok (planV W H R (some ⟨g0, 0, none⟩) C.length c) (heldR W C 0) C) := ⟨⟨(grown_below hb3).but _, blk_grown HM2.out.second hg3 (by simp), blk_grown HM2.out.head hg3 (by simp), by rw [heldR, List.length_replicate]; exact ho3, Kd.R_below HR.out hb3, HM2.out.drop.geh, HM2.out.geh, hgh, HG0.out⟩⟩; clear ho3 hb3 hg3 hat3 hgh HM2 q3))
 go_loopg [4] C.length (fun k v4 w' => ∃ (r : Nat), v4 = .int .i64 (r : Int) ∧ Aside0 (r + k = C.length) ∧ Aside0 (OS w w' gp g2 gh ch g0 c base ok (planV W H R (some ⟨g0, 0, none⟩) C.length c) (heldR W C r) C))
 case atStart => exact ⟨0, rfl, ⟨by omega⟩, HS0⟩
 case round =>
  clear HS0
  obtain ⟨r, rfl, HK, HS⟩ := hrel
  have q3 : wr.cell? ⟨gp, 3, none⟩ = some (.slice (some ⟨g0, 0, none⟩) C.length c) := (blk_cell HS.out.p 3).trans rfl
  by_cases hr : r < C.length
  ·have hlt : decide (r < C.length) = true := decide_eq_true hr
   have HI := Aside0.mk hr
   clear hr
   go_wp2_with fail
   go_loopg [5] C.length (fun k v5 w' => ∃ (i : Nat), v5 = .int .i64 (i : Int) ∧ Aside0 (i + k = C.length) ∧ Aside0 (OS w w' gp g2 gh ch g0 c base ok (planV W H R (some ⟨g0, 0, none⟩) C.length c) (heldTo W C (heldR W C r) i) C))
   case atStart => exact ⟨0, rfl, ⟨by omega⟩, HS⟩
   case round =>
    clear HS q3
    obtain ⟨i, rfl, HK2, HS⟩ := hrel
    have q3 : wr.cell? ⟨gp, 3, none⟩ = some (.slice (some ⟨g0, 0, none⟩) C.length c) := (blk_cell HS.out.p 3).trans rfl
    have q0 : wr.cell? ⟨gp, 0, none⟩ = some (.int .i64 (W : Int)) := (blk_cell HS.out.p 0).trans rfl
    by_cases hi : i < C.length
    ·have hlt2 : decide (i < C.length) = true := decide_eq_true hi
     have HI2 := Aside0.mk hi
     clear hi
     obtain ⟨h, hh⟩ : ∃ h, heldTo W C (heldR W C r) i = h := ⟨_, rfl⟩
     have HL : Aside0 (h.length = C.length) := ⟨by rw [← hh, heldTo_length, heldR_length]⟩
     have HNX : Aside0 (heldTo W C (heldR W C r) (i + 1) = h.set i (heldAt W C h i)) := ⟨by rw [heldTo, hh]⟩
     rw [hh] at HS
     clear hh
     have i1 : (0 : Int) ≤ (i : Int) := by omega
     have i2 : i < C.length := HI2.out
     have br : r < C.length := HI.out
     obtain ⟨xx, hxx⟩ : ∃ xx, i % W = xx := ⟨_, rfl⟩
     have HXX := Aside0.mk hxx
     have ex : (i : Int) % (W : Int) = (xx : Int) := by rw [← hxx]; rfl
     have hxi : xx ≤ i := by rw [← hxx]; exact Nat.mod_le _ _
     have hxw : xx < W := by rw [← hxx]; exact Nat.mod_lt _ HX.out.2.2.2.1
     have HXI := Aside0.mk (And.intro hxi hxw)
     clear hxx hxi hxw
     have cC := HS.out.cell HI2.out
     obtain ⟨X, hX⟩ : ∃ X, fn C i = X := ⟨_, rfl⟩
     rw [hX] at cC
     have HXV := Aside0.mk hX
     clear hX
     have cH := (HS.out.held (i := i) (by rw [HL.out]; exact HI2.out)).1
     have fH := (HS.out.held (i := i) (by rw [HL.out]; exact HI2.out)).2
     obtain ⟨v0, e0⟩ : ∃ b, h.getD i false = b := ⟨_, rfl⟩
     have HIN : Aside0 (∀ j, j < C.length → wr.cell? ⟨gh, j, none⟩ = some (.bool (h.getD j false))) := ⟨fun j hj => (HS.out.held (by rw [HL.out]; exact hj)).1⟩
     rw [e0] at cH
     have E0 := Aside0.mk e0
     clear e0
     go_upto_region 9 with (fail)
     simp only [List.append_eq, List.cons_append, List.nil_append]
     rw [ex]
     clear ex
     cases v0
     case' true =>
      have HV : Aside0 (heldTo W C (heldR W C r) (i + 1) = h.set i true) := ⟨by rw [HNX.out]; congr 1; simp only [heldAt, E0.out, Bool.false_or, Bool.true_or, Bool.and_true, Bool.true_and, Bool.and_false, Bool.false_and, Bool.or_true, Bool.or_false]⟩
      have HS2 : Aside0 (OS w (wr.setCell ⟨gh, i, none⟩ (.bool true)) gp g2 gh ch g0 c base ok (planV W H R (some ⟨g0, 0, none⟩) C.length c) (heldTo W C (heldR W C r) (i + 1)) C) := ⟨by rw [HV.out]; exact HS.out.seth (by rw [HL.out]; exact HI2.out) true⟩
      go_wp2_with fail
      go_roundg (C.length - (i + 1))
      case measure => have := HK2.out; have := HI2.out; omega
      case rel => exact ⟨i + 1, (by first | go_num | (rw [HJ3.out])), ⟨by have := HI2.out; omega⟩, HS2⟩
     by_cases q1 : 0 < X
     case' pos =>
      have d1 := decide_eq_true q1
      have E1 : Aside0 (decide (0 < fn C i) = true) := ⟨by rw [HXV.out]; exact decide_eq_true q1⟩
      clear q1
      have HV : Aside0 (heldTo W C (heldR W C r) (i + 1) = h.set i true) := ⟨by rw [HNX.out]; congr 1; simp only [heldAt, E0.out, E1.out, Bool.false_or, Bool.true_or, Bool.and_true, Bool.true_and, Bool.and_false, Bool.false_and, Bool.or_true, Bool.or_false]⟩
      have HS2 : Aside0 (OS w (wr.setCell ⟨gh, i, none⟩ (.bool true)) gp g2 gh ch g0 c base ok (planV W H R (some ⟨g0, 0, none⟩) C.length c) (heldTo W C (heldR W C r) (i + 1)) C) := ⟨by rw [HV.out]; exact HS.out.seth (by rw [HL.out]; exact HI2.out) true⟩
      go_wp2_with fail
      go_roundg (C.length - (i + 1))
      case measure => have := HK2.out; have := HI2.out; omega
      case rel => exact ⟨i + 1, (by first | go_num | (rw [HJ3.out])), ⟨by have := HI2.out; omega⟩, HS2⟩
     have d1 := decide_eq_false q1
     have E1 : Aside0 (decide (0 < fn C i) = false) := ⟨by rw [HXV.out]; exact decide_eq_false q1⟩
     clear q1
     all_goals
      by_cases q2 : 0 < xx
      case' neg =>
       have E2 : Aside0 (decide (0 < i % W) = false) := ⟨decide_eq_false (by rw [HXX.out]; exact q2)⟩
       have d2 := decide_eq_false q2
       have dd2 : decide ((xx : Int) > 0) = false := decide_eq_false (by omega)
       clear q2
       have F2 := E2
      case' pos =>
       have E2 : Aside0 (decide (0 < i % W) = true) := ⟨decide_eq_true (by rw [HXX.out]; exact q2)⟩
       have d2 := decide_eq_true q2
       have dd2 : decide ((xx : Int) > 0) = true := decide_eq_true (by omega)
       have := HXI.out
       obtain ⟨j2, hj2⟩ : ∃ j, i - 1 = j := ⟨_, rfl⟩
       have n2 : IntKind.i64.wrap ((i : Int) - 1) = (j2 : Int) := by rw [show ((i : Int) - 1 : Int) = (j2 : Int) by omega]; exact IntWalk.i64_in _ (by have := HX.out; have := HI2.out; omega)
       have a2 : (0 : Int) ≤ (j2 : Int) := by omega
       have l2 : j2 < C.length := by have := HI2.out; omega
       have c2 := HIN.out j2 l2
       obtain ⟨v2, e2⟩ : ∃ b, h.getD j2 false = b := ⟨_, rfl⟩
       rw [e2] at c2
       have F2 : Aside0 (h.getD (i - 1) false = v2) := ⟨by rw [hj2]; exact e2⟩
       have HJ2 := Aside0.mk hj2
       clear e2 hj2 q2
       cases v2
       case' true =>
        have HV : Aside0 (heldTo W C (heldR W C r) (i + 1) = h.set i true) := ⟨by rw [HNX.out]; congr 1; simp only [heldAt, E0.out, E1.out, E2.out, F2.out, Bool.false_or, Bool.true_or, Bool.and_true, Bool.true_and, Bool.and_false, Bool.false_and, Bool.or_true, Bool.or_false]⟩
        have HS2 : Aside0 (OS w (wr.setCell ⟨gh, i, none⟩ (.bool true)) gp g2 gh ch g0 c base ok (planV W H R (some ⟨g0, 0, none⟩) C.length c) (heldTo W C (heldR W C r) (i + 1)) C) := ⟨by rw [HV.out]; exact HS.out.seth (by rw [HL.out]; exact HI2.out) true⟩
        go_wp2_with fail
        go_roundg (C.length - (i + 1))
        case measure => have := HK2.out; have := HI2.out; omega
        case rel => exact ⟨i + 1, (by first | go_num | (rw [HJ3.out])), ⟨by have := HI2.out; omega⟩, HS2⟩
     all_goals
      have w1 : IntKind.i64.wrap ((W : Int) - 1) = ((W - 1 : Nat) : Int) := by rw [show (W : Int) - 1 = ((W - 1 : Nat) : Int) by have := HX.out; omega]; exact IntWalk.i64_in _ (by have := HX.out; omega)
      by_cases q3 : xx + 1 < W
      case' neg =>
       have E3 : Aside0 (decide (i % W + 1 < W) = false) := ⟨decide_eq_false (by rw [HXX.out]; exact q3)⟩
       have d3 : decide (xx < W - 1) = false := decide_eq_false (by omega)
       have dd3 : decide ((xx : Int) < ((W - 1 : Nat) : Int)) = false := decide_eq_false (by omega)
       clear q3
       have F3 := E3
      case' pos =>
       have E3 : Aside0 (decide (i % W + 1 < W) = true) := ⟨decide_eq_true (by rw [HXX.out]; exact q3)⟩
       have d3 : decide (xx < W - 1) = true := decide_eq_true (by omega)
       have dd3 : decide ((xx : Int) < ((W - 1 : Nat) : Int)) = true := decide_eq_true (by omega)
       have hrl : i + 1 < C.length := by rw [HX.out.1]; exact right_lt (H := H) (by rw [← HX.out.1]; exact HI2.out) (by rw [HXX.out]; exact q3)
       obtain ⟨j3, hj3⟩ : ∃ j, i + 1 = j := ⟨_, rfl⟩
       have n3 : IntKind.i64.wrap ((i : Int) + 1) = (j3 : Int) := by rw [show ((i : Int) + 1 : Int) = (j3 : Int) by omega]; exact IntWalk.i64_in _ (by have := HX.out; have := HI2.out; omega)
       have a3 : (0 : Int) ≤ (j3 : Int) := by omega
       have l3 : j3 < C.length := by have := HI2.out; omega
       have c3 := HIN.out j3 l3
       obtain ⟨v3, e3⟩ : ∃ b, h.getD j3 false = b := ⟨_, rfl⟩
       rw [e3] at c3
       have F3 : Aside0 (h.getD (i + 1) false = v3) := ⟨by rw [hj3]; exact e3⟩
       have HJ3 := Aside0.mk hj3
       clear e3 hj3 q3
       cases v3
       case' true =>
        have HV : Aside0 (heldTo W C (heldR W C r) (i + 1) = h.set i true) := ⟨by rw [HNX.out]; congr 1; simp only [heldAt, E0.out, E1.out, E2.out, F2.out, E3.out, F3.out, Bool.false_or, Bool.true_or, Bool.and_true, Bool.true_and, Bool.and_false, Bool.false_and, Bool.or_true, Bool.or_false]⟩
        have HS2 : Aside0 (OS w (wr.setCell ⟨gh, i, none⟩ (.bool true)) gp g2 gh ch g0 c base ok (planV W H R (some ⟨g0, 0, none⟩) C.length c) (heldTo W C (heldR W C r) (i + 1)) C) := ⟨by rw [HV.out]; exact HS.out.seth (by rw [HL.out]; exact HI2.out) true⟩
        go_wp2_with fail
        go_roundg (C.length - (i + 1))
        case measure => have := HK2.out; have := HI2.out; omega
        case rel => exact ⟨i + 1, (by first | go_num | (rw [HJ3.out])), ⟨by have := HI2.out; omega⟩, HS2⟩
     all_goals
      by_cases q4 : W ≤ i
      case' neg =>
       have E4 : Aside0 (decide (W ≤ i) = false) := ⟨decide_eq_false q4⟩
       have d4 := decide_eq_false q4
       have dd4 : decide ((i : Int) ≥ (W : Int)) = false := decide_eq_false (by omega)
       clear q4
       have F4 := E4
      case' pos =>
       have E4 : Aside0 (decide (W ≤ i) = true) := ⟨decide_eq_true q4⟩
       have d4 := decide_eq_true q4
       have dd4 : decide ((i : Int) ≥ (W : Int)) = true := decide_eq_true (by omega)
       obtain ⟨j4, hj4⟩ : ∃ j, i - W = j := ⟨_, rfl⟩
       have n4 : IntKind.i64.wrap ((i : Int) - (W : Int)) = (j4 : Int) := by rw [show ((i : Int) - (W : Int) : Int) = (j4 : Int) by omega]; exact IntWalk.i64_in _ (by have := HX.out; have := HI2.out; omega)
       have a4 : (0 : Int) ≤ (j4 : Int) := by omega
       have l4 : j4 < C.length := by have := HI2.out; omega
       have c4 := HIN.out j4 l4
       obtain ⟨v4, e4⟩ : ∃ b, h.getD j4 false = b := ⟨_, rfl⟩
       rw [e4] at c4
       have F4 : Aside0 (h.getD (i - W) false = v4) := ⟨by rw [hj4]; exact e4⟩
       have HJ4 := Aside0.mk hj4
       clear e4 hj4 q4
       cases v4
       case' true =>
        have HV : Aside0 (heldTo W C (heldR W C r) (i + 1) = h.set i true) := ⟨by rw [HNX.out]; congr 1; simp only [heldAt, E0.out, E1.out, E2.out, F2.out, E3.out, F3.out, E4.out, F4.out, Bool.false_or, Bool.true_or, Bool.and_true, Bool.true_and, Bool.and_false, Bool.false_and, Bool.or_true, Bool.or_false]⟩
        have HS2 : Aside0 (OS w (wr.setCell ⟨gh, i, none⟩ (.bool true)) gp g2 gh ch g0 c base ok (planV W H R (some ⟨g0, 0, none⟩) C.length c) (heldTo W C (heldR W C r) (i + 1)) C) := ⟨by rw [HV.out]; exact HS.out.seth (by rw [HL.out]; exact HI2.out) true⟩
        go_wp2_with fail
        go_roundg (C.length - (i + 1))
        case measure => have := HK2.out; have := HI2.out; omega
        case rel => exact ⟨i + 1, (by first | go_num | (rw [HJ3.out])), ⟨by have := HI2.out; omega⟩, HS2⟩
     all_goals
      obtain ⟨j5, hj5⟩ : ∃ j, i + W = j := ⟨_, rfl⟩
      have n5 : IntKind.i64.wrap ((i : Int) + (W : Int)) = (j5 : Int) := by rw [show (i : Int) + (W : Int) = (j5 : Int) by omega]; exact IntWalk.i64_in _ (by have := HX.out; have := HI2.out; omega)
      have a5 : (0 : Int) ≤ (j5 : Int) := by omega
      have HJ5 := Aside0.mk hj5
      clear hj5
      by_cases q5 : j5 < C.length
      case' neg =>
       have E5 : Aside0 (decide (i + W < C.length) = false) := ⟨by rw [HJ5.out]; exact decide_eq_false q5⟩
       have d5 := decide_eq_false q5
       clear q5
       have F5 := E5
      case' pos =>
       have E5 : Aside0 (decide (i + W < C.length) = true) := ⟨by rw [HJ5.out]; exact decide_eq_true q5⟩
       have d5 := decide_eq_true q5
       have c5 := HIN.out j5 q5
       obtain ⟨v5, e5⟩ : ∃ b, h.getD j5 false = b := ⟨_, rfl⟩
       rw [e5] at c5
       have F5 : Aside0 (h.getD (i + W) false = v5) := ⟨by rw [HJ5.out]; exact e5⟩
       clear e5
       cases v5
       case' true =>
        have HV : Aside0 (heldTo W C (heldR W C r) (i + 1) = h.set i true) := ⟨by rw [HNX.out]; congr 1; simp only [heldAt, E0.out, E1.out, E2.out, F2.out, E3.out, F3.out, E4.out, F4.out, E5.out, F5.out, Bool.false_or, Bool.true_or, Bool.and_true, Bool.true_and, Bool.and_false, Bool.false_and, Bool.or_true, Bool.or_false]⟩
        have HS2 : Aside0 (OS w (wr.setCell ⟨gh, i, none⟩ (.bool true)) gp g2 gh ch g0 c base ok (planV W H R (some ⟨g0, 0, none⟩) C.length c) (heldTo W C (heldR W C r) (i + 1)) C) := ⟨by rw [HV.out]; exact HS.out.seth (by rw [HL.out]; exact HI2.out) true⟩
        go_wp2_with fail
        go_roundg (C.length - (i + 1))
        case measure => have := HK2.out; have := HI2.out; omega
        case rel => exact ⟨i + 1, (by first | go_num | (rw [HJ3.out])), ⟨by have := HI2.out; omega⟩, HS2⟩
     all_goals
      have HV : Aside0 (heldTo W C (heldR W C r) (i + 1) = h.set i false) := ⟨by rw [HNX.out]; congr 1; simp only [heldAt, E0.out, E1.out, E2.out, F2.out, E3.out, F3.out, E4.out, F4.out, E5.out, F5.out, Bool.false_or, Bool.true_or, Bool.and_true, Bool.true_and, Bool.and_false, Bool.false_and, Bool.or_true, Bool.or_false]⟩
      have HS2 : Aside0 (OS w (wr.setCell ⟨gh, i, none⟩ (.bool false)) gp g2 gh ch g0 c base ok (planV W H R (some ⟨g0, 0, none⟩) C.length c) (heldTo W C (heldR W C r) (i + 1)) C) := ⟨by rw [HV.out]; exact HS.out.seth (by rw [HL.out]; exact HI2.out) false⟩
      go_wp2_with fail
      go_roundg (C.length - (i + 1))
      case measure => have := HK2.out; have := HI2.out; omega
      case rel => exact ⟨i + 1, (by first | go_num | (rw [HJ3.out])), ⟨by have := HI2.out; omega⟩, HS2⟩
    ·obtain rfl : i = C.length := by have := HK2.out; omega
     have br : r < C.length := HI.out
     have hlt2 : decide (C.length < C.length) = false := decide_eq_false (Nat.lt_irrefl _)
     clear hi
     have HS3 : Aside0 (OS w wr gp g2 gh ch g0 c base ok (planV W H R (some ⟨g0, 0, none⟩) C.length c) (heldR W C (r + 1)) C) := HS
     go_wp2_with fail
     go_roundg (C.length - (r + 1))
     case measure => have := HK.out; have := HI.out; omega
     case rel => exact ⟨r + 1, by go_num, ⟨by have := HI.out; omega⟩, HS3⟩
  ·obtain rfl : r = C.length := by have := HK.out; omega
   have hlt : decide (C.length < C.length) = false := decide_eq_false (Nat.lt_irrefl _)
   clear hr
   have HS3 : Aside0 (OS w wr gp g2 gh ch g0 c base ok (planV W H R (some ⟨g0, 0, none⟩) C.length c) (heldR W C C.length) (openTo C (heldR W C C.length) 0)) := HS
   have HHL := Aside0.mk (heldR_length W C C.length)
   have HOP : Aside0 (opened W C = openTo C (heldR W C C.length) C.length) := ⟨rfl⟩
   generalize heldR W C C.length = h at HS3 HHL HOP
   clear HS
   go_wp2_with fail
   go_loopg [7] C.length (fun k v7 w' => ∃ (i : Nat), v7 = .int .i64 (i : Int) ∧ Aside0 (i + k = C.length) ∧ Aside0 (OS w w' gp g2 gh ch g0 c base ok (planV W H R (some ⟨g0, 0, none⟩) C.length c) h (openTo C h i)))
   case atStart => exact ⟨0, rfl, ⟨by omega⟩, HS3⟩
   case round =>
    clear HS3 q3
    obtain ⟨i, rfl, HK2, HS⟩ := hrel
    have q3 : wr.cell? ⟨gp, 3, none⟩ = some (.slice (some ⟨g0, 0, none⟩) C.length c) := (blk_cell HS.out.p 3).trans rfl
    by_cases hi : i < C.length
    ·have hlt2 : decide (i < C.length) = true := decide_eq_true hi
     have HI2 := Aside0.mk hi
     have i1 : (0 : Int) ≤ (i : Int) := by omega
     have cH := (HS.out.held (i := i) (by rw [HHL.out]; exact hi)).1
     have cC := HS.out.cell (i := i) (by rw [openTo_length]; exact hi)
     have fC := HS.out.frozen (i := i) (by rw [openTo_length]; exact hi)
     generalize fn (openTo C h i) i = X at cC
     obtain ⟨v0, e0⟩ : ∃ b, h.getD i false = b := ⟨_, rfl⟩
     rw [e0] at cH
     cases v0
     ·have HS2 : Aside0 (OS w (wr.setCell ⟨g0, i, none⟩ (.int .i64 1)) gp g2 gh ch g0 c base ok (planV W H R (some ⟨g0, 0, none⟩) C.length c) h (openTo C h (i + 1))) := ⟨by
       rw [openTo, if_neg (by rw [e0]; simp)]
       exact HS.out.setc (by rw [openTo_length]; exact HI2.out) 1⟩
      clear e0
      go_wp2_with fail
      go_roundg (C.length - (i + 1))
      case measure => have := HK2.out; have := HI2.out; omega
      case rel => exact ⟨i + 1, by go_num, ⟨by have := HI2.out; omega⟩, HS2⟩
     ·have HS2 : Aside0 (OS w wr gp g2 gh ch g0 c base ok (planV W H R (some ⟨g0, 0, none⟩) C.length c) h (openTo C h (i + 1))) := ⟨by
       rw [openTo, if_pos e0]
       exact HS.out⟩
      clear e0
      go_wp2_with fail
      go_roundg (C.length - (i + 1))
      case measure => have := HK2.out; have := HI2.out; omega
      case rel => exact ⟨i + 1, by go_num, ⟨by have := HI2.out; omega⟩, HS2⟩
    ·obtain rfl : i = C.length := by have := HK2.out; omega
     have hlt2 : decide (C.length < C.length) = false := decide_eq_false (Nat.lt_irrefl _)
     clear hi
     go_wp2_with (first
      | ((with_reducible refine gate_dst (N := 120) rfl ?_); refine ev_load HS.out.p rfl 24 (.tmp 1) rfl rfl _ Try.underlying24 rfl size24 rfl ?_)
      | ((with_reducible refine gate_store (t := 24) (p := 2) rfl ?_); refine ev_storeB HS.out.z rfl 24 (.tmp 2) (.tmp 120) rfl rfl rfl size24 rfl rfl (by simp [Value.oneCell']) ?_))
     (try simp only [Exit.inBlock, Exit.then])
     refine bodyPost_ret (results_cell_row rfl _ _ g2 24 _ (0, 0) _ rfl (setRow_heap _ _ _ _ _ _ HS.out.z) hu24 rfl (by rw [size24]; rfl)) rfl ⟨rfl, ?_, ?_⟩
     ·rw [HOP.out]
      exact Kd.R_mono (Kd.R_step (Kd.R_types HS.out.rc HS.out.z (by decide)) (fun k hk _ => setRow_other _ _ _ _ hk.2)) (fun k hk => hk.1)
     ·have hg := HS.out.g
      exact ⟨hg.os, hg.tape, hg.output, by rw [size_setRow]; exact hg.size, fun k hk hne => by rw [setRow_other _ _ _ _ (show k ≠ g2 by have := HS.out.g20; omega)]; exact hg.block k hk hne⟩
end Go.Proofs.Ytndkkjpgnmahbaa.Print
end

section
namespace Go.Proofs.Ytndkkjpgnmahbaa.Print
open Go.RowKit YtndkkjpgnmahbaaW.PrintWords YtndkkjpgnmahbaaW.PrintLast YtndkkjpgnmahbaaW.PrintMore Ytndkkjpgnmahbaa.H Proofs.Field
def planF.T9 : Bool × List (List Nat × List Nat) := (true, [([], []), ([0], [0]), ([], []), ([2], [2]), ([3], [3]), ([4], [4]), ([5], [5]), ([1, 0, 1, 2, 3, 4, 5, 6], [1]), ([7, 6, 0, 1, 2, 3, 4, 5, 6], [6, 7])])
def planF.B9 : List Nat := [0, 1, 0, 4, 12, 28, 60, 127, 255]
theorem planF.tab9 : rtab .any (opsOf Try.f22 9) = planF.T9 := by kernel_rfl
theorem planF.bits9 : waitsOk planF.T9.2 planF.B9 = true := by kernel_rfl
structure PS (w0 w W : World) (g : Nat) (s : Int) (g6 : Nat) : Prop where
 dice : IsS79 w0 W g s
 old : Below w0.heap.size w0 W
 kb : KeepBut w W g none
 z : W.heap[g6]? = some (.cells #[.int .i64 0, .int .i64 0, .bool false, .slice none 0 0] 24 (0, 0))
 g60 : w.heap.size ≤ g6
 gw : g < w.heap.size
 ww : w0.heap.size ≤ w.heap.size
theorem PS.call {w0 w W W1 : World} {g : Nat} {s s1 : Int} {g6 : Nat} (h : PS w0 w W g s g6) (h1 : IsS79 w0 W1 g s1) (h2 : Below w0.heap.size w0 W1) (h3 : KeepBut W W1 g none) : PS w0 w W1 g s1 g6 :=
 ⟨h1, h2, h.kb.trans h3 (.inl rfl), h3.blk h.z (by have := h.gw; have := h.g60; omega) (by simp), h.g60, h.gw, h.ww⟩
theorem PS.below {w0 w W W1 : World} {g : Nat} {s : Int} {g6 : Nat} (h : PS w0 w W g s g6) (hb : Below W.heap.size W W1) : PS w0 w W1 g s g6 :=
 ⟨h.dice.below hb, below_step h.old hb, h.kb.trans (KeepBut.of_below hb g none) (.inl rfl), blk_below h.z hb, h.g60, h.gw, h.ww⟩
structure PT (w0 w W : World) (g : Nat) (s : Int) (g6 g7 : Nat) (a b : Value) (r : Bool) (v : Value) (D : List Int) : Prop where
 ps : PS w0 w W g s g6
 pl : W.heap[g7]? = some (.cells #[a, b, .bool r, v] 24 (0, 0))
 r : Kd.R (Kd.int .i64) 3 W w.heap.size (fun _ => True) v D
 g70 : w.heap.size ≤ g7
 ne : g6 ≠ g7
namespace PT
variable {w0 w W W1 : World} {g : Nat} {s s1 : Int} {g6 g7 : Nat} {a b : Value} {r : Bool} {v : Value} {D : List Int}
theorem call (h : PT w0 w W g s g6 g7 a b r v D) (h1 : IsS79 w0 W1 g s1) (h2 : Below w0.heap.size w0 W1) (h3 : KeepBut W W1 g none) : PT w0 w W1 g s1 g6 g7 a b r v D := by
 have hgw := h.ps.gw
 refine ⟨h.ps.call h1 h2 h3, h3.blk h.pl (by have := h.g70; omega) (by simp), ?_, h.g70, h.ne⟩
 have hb := Kd.R_base h.r
 have h4 : Kd.R (Kd.int .i64) 3 W w.heap.size (fun k => True ∧ k ≠ g) v D := Kd.R_types h.r h.ps.dice.1 (by decide)
 exact Kd.R_mono (Kd.R_keep h4 h3 (fun k hk => hk.2)) (fun _ _ => trivial)
theorem below (h : PT w0 w W g s g6 g7 a b r v D) (hb : Below W.heap.size W W1) : PT w0 w W1 g s g6 g7 a b r v D :=
 ⟨h.ps.below hb, blk_below h.pl hb, Kd.R_below h.r hb, h.g70, h.ne⟩
theorem set0 {gv c : Nat} (h : PT w0 w W g s g6 g7 a b r (.slice (some ⟨gv, 0, none⟩) D.length c) D) (m : Int) : PT w0 w (W.setCell ⟨gv, 0, none⟩ (.int .i64 m)) g s g6 g7 a b r (.slice (some ⟨gv, 0, none⟩) D.length c) (D.set 0 m) := by
 obtain ⟨h1, h2⟩ := Kd.R_put h.r (0 : Int) m
 rw [show (0 : Int).toNat = 0 from rfl] at h1 h2
 have n1 := Kd.R_ne h.r h.ps.dice.1 (by decide)
 have n2 := Kd.R_ne h.r h.ps.z (by decide)
 have n3 := Kd.R_ne h.r h.pl (by decide)
 have hb := Kd.R_base h.r gv rfl
 have hww := h.ps.ww
 exact ⟨⟨h.ps.dice.grown h2 n1, h.ps.old.grown h2 h.ps.old.size (fun k e => by cases e; omega), h.ps.kb.trans (KeepBut.of_grown h2 g) (.inr ⟨gv, rfl, hb⟩), blk_grown h.ps.z h2 n2, h.ps.g60, h.ps.gw, hww⟩, blk_grown h.pl h2 n3, h1, h.g70, h.ne⟩
theorem put (h : PT w0 w W g s g6 g7 a b r v D) {v1 : Value} {D1 : List Int} (hg : W.grownBy W1 v.ownBlock) (hR : Kd.R (Kd.int .i64) 3 W1 w.heap.size (fun _ => True) v1 D1) : PT w0 w (W1.setCell ⟨g7, 3, none⟩ v1) g s g6 g7 a b r v1 D1 := by
 have n1 := Kd.R_ne h.r h.ps.dice.1 (by decide)
 have n2 := Kd.R_ne h.r h.ps.z (by decide)
 have n3 := Kd.R_ne h.r h.pl (by decide)
 have d1 := h.ps.dice.grown hg n1
 have z1 := blk_grown h.ps.z hg n2
 have p1 := blk_grown h.pl hg n3
 have hb := Kd.R_base h.r
 have o1 : Below w0.heap.size w0 W1 := h.ps.old.grown hg h.ps.old.size (fun k e => by have := hb k e; have := h.ps.ww; omega)
 have k1 : KeepBut w W1 g none := h.ps.kb.trans (KeepBut.of_grown hg g) (by
  cases e : v.ownBlock with
  | none => exact .inl rfl
  | some k => exact .inr ⟨k, rfl, hb k e⟩)
 have hgw := h.ps.gw
 have h7 := h.g70
 have hww := h.ps.ww
 exact ⟨⟨⟨blk_far (p := ⟨g7, 3, none⟩) d1.1 (show g ≠ g7 by omega) _, d1.2⟩, below_set o1 (by omega), keep_far k1 h7 _, blk_far (p := ⟨g7, 3, none⟩) z1 h.ne _, h.ps.g60, hgw, hww⟩, by rw [blk_set p1 3]; rfl, Kd.R_set hR p1 (by decide) 3 v1, h7, h.ne⟩
end PT
theorem thermionkit_PlanOf.calls (g : Nat) (s0_0 : Int) (a1 : Int) (a2 : Int) (r1 : Int) (r2 : Int) (r3 : Bool) (r4 : List Int) (r5 : Int) (w0 w : World) (hI : IsS79 w0 w g s0_0) (hB : Below w0.heap.size w0 w) (h : thermionkit_PlanOf.f s0_0 a1 a2 = some (r1, r2, r3, r4, r5)) :
  Calls Try.prog 22 #[.pointer (some ⟨g, 0, none⟩), .int .i64 a1, .int .i64 a2] w fun e w' => ∃ v3_ : Value, e = .returned (.agg #[.int .i64 r1, .int .i64 r2, .bool r3, v3_]) ∧ Kd.R (Kd.int .i64) 3 w' w.heap.size (fun _ => True) v3_ r4 ∧ IsS79 w0 w' g r5 ∧ Below w0.heap.size w0 w' ∧ KeepBut w w' g none := by
 unfold thermionkit_PlanOf.f at h
 by_cases q : 1 ≤ a1 ∧ a1 ≤ 16 ∧ 1 ≤ a2 ∧ a2 ≤ 16
 rotate_left
 ·rw [if_neg q] at h; exact absurd h (by simp)
 rw [if_pos q] at h
 simp only [Option.some.injEq, Prod.mk.injEq] at h
 obtain ⟨e1, e2, e3, e4, e5⟩ := h
 have hW := dBtw_eq s0_0 1 a1 q.1 (by omega) (by omega)
 have hH := dBtw_eq (dBtw s0_0 1 a1).2 1 a2 q.2.2.1 (by omega) (by omega)
 have hR := dOne_eq (dBtw (dBtw s0_0 1 a1).2 1 a2).2 2 (by omega) (by omega)
 rw [e1] at hW e4 e5
 rw [e2] at hH e4 e5
 rw [e3] at hR
 generalize (dBtw s0_0 1 a1).2 = s1 at *
 generalize (dBtw s1 1 a2).2 = s2 at *
 generalize (dOne s2 2).2 = s3 at *
 have HW := Aside0.mk hW
 have HH := Aside0.mk hH
 have HR := Aside0.mk hR
 obtain ⟨W', rfl⟩ : ∃ W' : Nat, r1 = W' := ⟨r1.toNat, by omega⟩
 obtain ⟨H', rfl⟩ : ∃ H' : Nat, r2 = H' := ⟨r2.toNat, by omega⟩
 rw [Int.toNat_natCast, Int.toNat_natCast] at e4 e5
 obtain ⟨N, hN⟩ : ∃ N, W' * H' = N := ⟨_, rfl⟩
 rw [hN] at e4 e5
 have HX : Aside0 (W' * H' = N ∧ 0 < W' ∧ 0 < N ∧ N ≤ 256) := ⟨hN, by omega, by rw [← hN]; exact Nat.mul_pos (by omega) (by omega), by have := Nat.mul_le_mul (show W' ≤ 16 by omega) (show H' ≤ 16 by omega); omega⟩
 have nm : IntKind.i64.wrap ((W' : Int) * (H' : Int)) = (N : Int) := by rw [← Int.natCast_mul, hN]; exact IntWalk.i64_in _ (by have := HX.out; omega)
 have HE := Aside0.mk (And.intro e4 e5)
 have HI := Aside0.mk hI
 have HB := Aside0.mk hB
 have HM := Aside0.mk (Mem.start w)
 have HGW := Aside0.mk (blk_lt hI.1)
 have hu24 := Try.underlying24
 have hu22 := Try.underlying22
 clear e1 e2 e3 e4 e5 hW hH hR hN hI hB q
 go_enter Try.func22, Try.ntmps22
 go_wp2_with (first
  | ((with_reducible refine gate_dst (N := 6) rfl ?_); refine ev_new HM.out rfl 24 rfl info24 ?_; intro g6 wa hm1 hq1; have HP := Aside0.mk (PS.mk (HI.out.below hq1) (below_step HB.out hq1) (KeepBut.of_below hq1 g none) hm1.head hm1.geh HGW.out HB.out.size); clear hm1 hq1 HM)
  | (go_at_call 32; refine (thermionkit_Dice_Between.calls g s0_0 1 a1 _ _ w0 _ HP.out.dice HP.out.old HW.out.1).mono ?_; rintro e wb ⟨rfl, hd, ho, hk⟩; have HP2 := Aside0.mk (HP.out.call hd ho hk); clear hd ho hk HP)
  | (go_at_call 32; refine (thermionkit_Dice_Between.calls g s1 1 a2 _ _ w0 _ HP2.out.dice HP2.out.old HH.out.1).mono ?_; rintro e wb2 ⟨rfl, hd, ho, hk⟩; have HP3 := Aside0.mk (HP2.out.call hd ho hk); clear hd ho hk HP2)
  | (go_at_call 66; refine (thermionkit_Dice_One.calls g s2 2 _ _ w0 _ HP3.out.dice HP3.out.old HR.out).mono ?_; rintro e wc ⟨rfl, hd, ho, hk⟩; have HP4 := Aside0.mk (HP3.out.call hd ho hk); have HM4 := Aside0.mk (Mem.start wc); clear hd ho hk HP3)
  | ((with_reducible refine gate_dst (N := 7) rfl ?_); refine ev_new HM4.out rfl 24 rfl info24 ?_; intro g7 wd hm1 hq1; have HM5 := Aside0.mk hm1; have HNE : Aside0 (g6 ≠ g7 ∧ w.heap.size ≤ g7) := ⟨by have h1 := blk_lt HP4.out.z; have h2 := hm1.geh; omega, Nat.le_trans HP4.out.kb.1 hm1.geh⟩; clear hm1 hq1 HM4)
  | ((with_reducible refine gate_store (t := 24) (p := 7) rfl ?_); refine ev_store HM5.out rfl 24 (.tmp 7) (.tmp 18) rfl rfl (cs := #[.int .i64 (W' : Int), .int .i64 (H' : Int), .bool r3, .slice none 0 0]) rfl size24 rfl rfl (by simp [Value.oneCell']) ?_; intro we hm2 hq2; clear hq2; have HT0 : Aside0 (PT w0 w we g s3 g6 g7 (.int .i64 (W' : Int)) (.int .i64 (H' : Int)) r3 (.slice none 0 0) []) := ⟨⟨HP4.out.below hm2.below, hm2.head, Kd.R_nil _ _ _ _ _, HNE.out.2, HNE.out.1⟩⟩; clear hm2 HM5 HP4))
 go_loopg [8] N (fun k v8 w' => ∃ (i : Nat) (v : Value), v8 = .int .i64 (i : Int) ∧ Aside0 (i + k = N) ∧ Aside0 (PT w0 w w' g (cellsTo s3 i).2 g6 g7 (.int .i64 (W' : Int)) (.int .i64 (H' : Int)) r3 v (cellsTo s3 i).1))
 case atStart => exact ⟨0, _, rfl, ⟨by omega⟩, HT0⟩
 case round =>
  clear HT0
  obtain ⟨i, v, rfl, HK, HT⟩ := hrel
  have c0 : wr.cell? ⟨g7, 0, none⟩ = some (.int .i64 (W' : Int)) := (blk_cell HT.out.pl 0).trans rfl
  have c1 : wr.cell? ⟨g7, 1, none⟩ = some (.int .i64 (H' : Int)) := (blk_cell HT.out.pl 1).trans rfl
  by_cases hi : i < N
  ·have hlt : decide (i < N) = true := decide_eq_true hi
   have HI2 := Aside0.mk hi
   have i2 : i < 256 := by have := HX.out; omega
   have HLD : Aside0 ((cellsTo s3 i).1.length = i) := ⟨cellsTo_length s3 i⟩
   have HST : Aside0 (cellsTo s3 (i + 1) = ((cellsTo s3 i).1 ++ [(cellStep (cellsTo s3 i).2).1], (cellStep (cellsTo s3 i).2).2)) := ⟨rfl⟩
   generalize (cellsTo s3 i).2 = s at HT HST
   generalize (cellsTo s3 i).1 = D at HT HST HLD
   have HO := Aside0.mk (dOne_eq s 3 (by omega) (by omega))
   have HCS : Aside0 (cellStep s = if (dOne s 3).1 = true then dBtw (dOne s 3).2 1 3 else (0, (dOne s 3).2)) := ⟨rfl⟩
   have HBW := Aside0.mk (dBtw_eq (dOne s 3).2 1 3 (by omega) (by omega) (by omega)).1
   generalize dOne s 3 = o at HO HCS HBW
   obtain ⟨ob, os⟩ := o
   generalize dBtw os 1 3 = p at HCS HBW
   obtain ⟨pn, ps⟩ := p
   clear hi
   cases ob
   ·have HST2 : Aside0 (cellsTo s3 (i + 1) = (D ++ [0], os)) := ⟨by rw [HST.out, HCS.out]; rfl⟩
    clear HST HCS HBW
    go_wp2_with (first
     | (go_at_call 66; refine (thermionkit_Dice_One.calls g s 3 _ _ w0 _ HT.out.ps.dice HT.out.ps.old HO.out).mono ?_; rintro e wb ⟨rfl, hd, ho, hk⟩; have HT2 := Aside0.mk (HT.out.call hd ho hk); clear hd ho hk HT c0 c1; have c3 : wb.cell? ⟨g7, 3, none⟩ = some v := (blk_cell HT2.out.pl 3).trans rfl; have f3 := blk_frozen HT2.out.pl 3)
     | ((with_reducible refine gate_dst (N := 36) rfl ?_); refine Kd.R_append (Kd.int .i64) (w0 := wb) w.heap.size rfl (.tmp 33) (.tmp 35) 22 3 (.int .i64 0) 8 rfl Try.underlying22 info3 rfl (by decide) (by omega) v D 0 [.int .i64 0] (fun _ => True) (fun _ => False) rfl rfl rfl (fun _ hk => hk.elim) (fun _ _ => trivial) HT2.out.r (Below.refl _ _) HT2.out.ps.kb.1 (by have := HLD.out; omega) ?_; intro v1 w5 hR5 hB5 hg5 hat5; have HT3 := Aside0.mk (HT2.out.put hg5 hR5); have c4 : w5.cell? ⟨g7, 3, none⟩ = some v := (blk_cell (blk_grown HT2.out.pl hg5 (Kd.R_ne HT2.out.r HT2.out.pl (by decide))) 3).trans rfl; have f4 : w5.frozen? ⟨g7, 3, none⟩ = false := blk_frozen (blk_grown HT2.out.pl hg5 (Kd.R_ne HT2.out.r HT2.out.pl (by decide))) 3; obtain ⟨A5, c5, e5⟩ := Kd.R_slice hR5; rw [List.length_append, List.length_singleton] at e5; subst e5; clear hR5 hB5 hg5 hat5 c3 f3 HT2))
    go_roundg (N - (i + 1))
    case measure => have := HK.out; have := HI2.out; omega
    case rel => exact ⟨i + 1, _, by go_num, ⟨by have := HI2.out; omega⟩, ⟨by rw [HST2.out]; exact HT3.out⟩⟩
   ·have HST2 : Aside0 (cellsTo s3 (i + 1) = (D ++ [pn], ps)) := ⟨by rw [HST.out, HCS.out]; rfl⟩
    clear HST HCS
    go_wp2_with (first
     | (go_at_call 66; refine (thermionkit_Dice_One.calls g s 3 _ _ w0 _ HT.out.ps.dice HT.out.ps.old HO.out).mono ?_; rintro e wb1 ⟨rfl, hd, ho, hk⟩; have HT1 := Aside0.mk (HT.out.call hd ho hk); clear hd ho hk HT c0 c1)
     | (go_at_call 32; refine (thermionkit_Dice_Between.calls g os 1 3 _ _ w0 _ HT1.out.ps.dice HT1.out.ps.old HBW.out).mono ?_; rintro e wb ⟨rfl, hd, ho, hk⟩; have HT2 := Aside0.mk (HT1.out.call hd ho hk); clear hd ho hk HT1; have c3 : wb.cell? ⟨g7, 3, none⟩ = some v := (blk_cell HT2.out.pl 3).trans rfl; have f3 := blk_frozen HT2.out.pl 3)
     | ((with_reducible refine gate_dst (N := 36) rfl ?_); refine Kd.R_append (Kd.int .i64) (w0 := wb) w.heap.size rfl (.tmp 33) (.tmp 35) 22 3 (.int .i64 0) 8 rfl Try.underlying22 info3 rfl (by decide) (by omega) v D pn [.int .i64 pn] (fun _ => True) (fun _ => False) rfl rfl rfl (fun _ hk => hk.elim) (fun _ _ => trivial) HT2.out.r (Below.refl _ _) HT2.out.ps.kb.1 (by have := HLD.out; omega) ?_; intro v1 w5 hR5 hB5 hg5 hat5; have HT3 := Aside0.mk (HT2.out.put hg5 hR5); have c4 : w5.cell? ⟨g7, 3, none⟩ = some v := (blk_cell (blk_grown HT2.out.pl hg5 (Kd.R_ne HT2.out.r HT2.out.pl (by decide))) 3).trans rfl; have f4 : w5.frozen? ⟨g7, 3, none⟩ = false := blk_frozen (blk_grown HT2.out.pl hg5 (Kd.R_ne HT2.out.r HT2.out.pl (by decide))) 3; obtain ⟨A5, c5, e5⟩ := Kd.R_slice hR5; rw [List.length_append, List.length_singleton] at e5; subst e5; clear hR5 hB5 hg5 hat5 c3 f3 HT2))
    go_roundg (N - (i + 1))
    case measure => have := HK.out; have := HI2.out; omega
    case rel => exact ⟨i + 1, _, by go_num, ⟨by have := HI2.out; omega⟩, ⟨by rw [HST2.out]; exact HT3.out⟩⟩
  ·obtain rfl : i = N := by have := HK.out; omega
   have hlt : decide (i < i) = false := decide_eq_false (Nat.lt_irrefl _)
   clear hi
   have hlD := cellsTo_length s3 i
   obtain ⟨gv, cv, ev, hgv, _, _⟩ := Kd.R_form HT.out.r (by rw [hlD]; exact HX.out.2.2.1)
   subst ev
   have HHE : Aside0 (opened W' (firstOne (cellsTo s3 i).1) = r4 ∧ (cellsTo s3 i).2 = r5) := HE
   generalize (cellsTo s3 i).1 = D at HT HHE hlD hgv
   generalize (cellsTo s3 i).2 = sz at HT HHE
   have HLD := Aside0.mk hlD
   have l1 : (0 : Int) < (D.length : Int) := by have := HX.out; omega
   have l2 : 0 < D.length := by have := HX.out; omega
   clear hlD HE
   have cX : wr.cell? ⟨gv, 0, none⟩ = some (.int .i64 (D.getD 0 0)) := by
    have h1 := (Kd.R_cell (0 : Int) HT.out.r 0 (by omega) l1).1
    rw [show (0 : Int).toNat = 0 from rfl] at h1
    rw [h1]
    rfl
   have HFO : Aside0 (firstOne D = D.set 0 (if 1 < D.getD 0 0 then D.getD 0 0 else 1)) := ⟨by
    unfold firstOne
    rw [show max 1 (D.getD 0 0) = if 1 < D.getD 0 0 then D.getD 0 0 else 1 by split <;> omega]⟩
   generalize D.getD 0 0 = X at cX HFO
   have c3 : wr.cell? ⟨g7, 3, none⟩ = some (.slice (some ⟨gv, 0, none⟩) D.length cv) := (blk_cell HT.out.pl 3).trans rfl
   go_upto_region 9 with (fail)
   clear c0 c1 nm hlt
   have HBd := Aside0.mk (below_drew1 (Below.refl wr.heap.size wr))
   refine start_ (n := 9) (S := fun w' => w'.cell? ⟨g7, 3, none⟩ = some (.slice (some ⟨gv, 0, none⟩) D.length cv) ∧ w'.cell? ⟨gv, 0, none⟩ = some (.int .i64 X)) (ds := [8]) #[false, false, false, false, false, false, false, false, false] (by kernel_rfl) rfl rfl ⟨c3, cX⟩ (fun hHeld => ?_); refine with_tabW planF.tab9 planF.bits9 (fun HT_ HW_ => ?_)
   generalize wr.drew = wd at HBd hHeld  ⊢
   refine pu_ 0 38 (bS 9 1) HT_ ?_
   refine pu_ 2 40 (bS 9 5) HT_ ?_
   refine ta_ 1 39 (bS 9 7) HT_ HW_ hHeld ?_
   refine ta_ 3 41 (bS 9 15) HT_ HW_ hHeld ?_
   refine pu_ 4 42 (bS 9 31) HT_ ?_
   refine ta_ 5 43 (bS 9 63) HT_ HW_ hHeld ?_
   refine pu_ 6 44 (bS 9 127) HT_ ?_
   refine pu_ 7 45 (bS 9 255) HT_ ?_
   obtain ⟨m, hm⟩ : ∃ m, (if 1 < X then X else (1 : Int)) = m := ⟨_, rfl⟩
   rw [hm] at HFO ⊢
   clear hm
   have HT2 := Aside0.mk (HT.out.below HBd.out)
   have cX2 : wd.cell? ⟨gv, 0, none⟩ = some (.int .i64 X) := hHeld.2
   have fX2 : wd.frozen? ⟨gv, 0, none⟩ = false := (Kd.R_cell (0 : Int) HT2.out.r 0 (by omega) l1).2
   clear HT HBd cX c3 hHeld
   refine la_ 8 (bS 9 511) (fun K hK => ?_)
   go_simp
   refine hK.out _ _ ?_
   refine done_ (by kernel_rfl) ?_
   clear hK K HT_ HW_ cX2 fX2
   have HT3 := Aside0.mk (HT2.out.set0 m)
   rw [← HFO.out] at HT3
   clear HT2
   generalize wd.setCell ⟨gv, 0, none⟩ (.int .i64 m) = w8 at HT3 ⊢
   have HLF : Aside0 ((firstOne D).length = D.length) := ⟨by unfold firstOne; rw [List.length_set]⟩
   have HCALL : Aside0 (Calls Try.prog 67 #[.agg (planV (W' : Int) (H' : Int) r3 (some ⟨gv, 0, none⟩) D.length cv)] w8 fun e w' => e = .returned (.agg (planV (W' : Int) (H' : Int) r3 (some ⟨gv, 0, none⟩) D.length cv)) ∧ Kd.R (Kd.int .i64) 3 w' w.heap.size (fun _ => True) (.slice (some ⟨gv, 0, none⟩) D.length cv) r4 ∧ w8.grownBy w' (some gv)) := ⟨by
    have h1 := opened_calls W' H' r3 gv cv w.heap.size (fun _ => True) (firstOne D) w8 (by rw [HLF.out]; exact HT3.out.r) (by rw [HLF.out, HLD.out, HX.out.1]) (by have := HX.out; have := HLF.out; have := HLD.out; omega) (by rw [HLF.out]; exact l2) HX.out.2.1
    rw [HHE.out.1, show r4.length = (firstOne D).length by rw [← HHE.out.1]; exact openTo_length _ _ _, HLF.out] at h1
    exact h1⟩
   go_wp2_with (first
    | ((with_reducible refine gate_dst (N := 46) rfl ?_); refine ev_load HT3.out.pl rfl 24 (.tmp 7) rfl rfl _ Try.underlying24 rfl size24 rfl ?_)
    | (go_at_call 67; refine HCALL.out.mono ?_; rintro e w9 ⟨rfl, hR9, hg9⟩; have HR9 := Aside0.mk hR9; have HG9 := Aside0.mk hg9; have hz9 := blk_grown HT3.out.ps.z hg9 (fun e => by have h2 := Kd.R_ne HT3.out.r HT3.out.ps.z (by decide); exact h2 e); have HZ9 := Aside0.mk hz9; clear hR9 hg9 hz9 HCALL)
    | ((with_reducible refine gate_store (t := 24) (p := 6) rfl ?_); refine ev_storeB HZ9.out rfl 24 (.tmp 6) (.tmp 47) rfl rfl rfl size24 rfl rfl (by simp [Value.oneCell']) ?_))
   (try simp only [Exit.inBlock, Exit.then])
   have n1 := Kd.R_ne HT3.out.r HT3.out.ps.dice.1 (by decide)
   have d9 := HT3.out.ps.dice.grown HG9.out n1
   have o9 : Below w0.heap.size w0 w9 := HT3.out.ps.old.grown HG9.out HT3.out.ps.old.size (fun k e => by cases e; have := HT3.out.ps.ww; omega)
   have k9 : KeepBut w w9 g none := HT3.out.ps.kb.trans (KeepBut.of_grown HG9.out g) (.inr ⟨gv, rfl, hgv⟩)
   have h6 := HT3.out.ps.g60
   have hgw := HT3.out.ps.gw
   have hww := HT3.out.ps.ww
   refine bodyPost_ret (results_cell_row rfl _ _ g6 24 _ (0, 0) _ rfl (setRow_heap _ _ _ _ _ _ HZ9.out) hu24 rfl (by rw [size24]; rfl)) rfl ⟨_, rfl, Kd.R_mono (Kd.R_step (Kd.R_types HR9.out HZ9.out (by decide)) (fun k hk _ => setRow_other _ _ _ _ hk.2)) (fun _ _ => trivial), ?_, below_row o9 (by omega), ?_⟩
   ·rw [← HHE.out.2]
    exact ⟨(setRow_other _ _ _ _ (show g ≠ g6 by omega)).trans d9.1, d9.2⟩
   ·exact ⟨by rw [size_setRow]; exact k9.1, fun k hk hne hr => by rw [setRow_other _ _ _ _ (show k ≠ g6 by omega)]; exact k9.2 k hk hne hr⟩
end Go.Proofs.Ytndkkjpgnmahbaa.Print
end

section
namespace Go.Proofs.Ytndkkjpgnmahbaa.Print
open Go.RowKit YtndkkjpgnmahbaaW.PrintWords YtndkkjpgnmahbaaW.PrintLast YtndkkjpgnmahbaaW.PrintMore Ytndkkjpgnmahbaa.H Proofs.Field
def thermionkit_Greatest.l0 : Nat → Int → Int → Int → Int → Bool → List Int → Option (Int)
 | 0, _, _, _, _, _, _ => none
 | k + 1, x3, x4, x336000, x336001, x336002, x336003 => if x4 < (x336003.length : Int) then (if 0 ≤ x4 then (thermionkit_Greatest.l0 k (mx x3 (rd x336003 x4)) (wrap64 (x4 + 1)) x336000 x336001 x336002 x336003) else (none)) else (some x3)
def thermionkit_Greatest.f (k : Nat) (a0_0 : Int) (a0_1 : Int) (a0_2 : Bool) (l0_3 : List Int) : Option (Int) := thermionkit_Greatest.l0 k 0 0 a0_0 a0_1 a0_2 l0_3
theorem thermionkit_Greatest.mono_l : ∀ k, (∀ y0 y1 y2 y3 y4 y5, LeO (thermionkit_Greatest.l0 k y0 y1 y2 y3 y4 y5) (thermionkit_Greatest.l0 (k + 1) y0 y1 y2 y3 y4 y5))
 | 0 => fun _ _ _ _ _ _ r h => by simp [thermionkit_Greatest.l0] at h
 | k + 1 => by
  have ih0 := thermionkit_Greatest.mono_l k
  ·intro y0 y1 y2 y3 y4 y5
   unfold thermionkit_Greatest.l0
   repeat' first
   | (with_reducible exact ih0 _ _ _ _ _ _)
   | (with_reducible exact LeO.refl _)
   | (with_reducible exact LeO.none _)
   | (with_reducible refine LeO.ite ?_ ?_)
   | (with_reducible refine LeO.bind ?_ (fun _ => ?_))
   | exact ih0 _ _ _ _ _ _
   | exact LeO.none _
   | refine LeO.ite ?_ ?_
   | refine LeO.bind ?_ (fun _ => ?_)
theorem thermionkit_Greatest.mono : ∀ a0 a1 a2 a3 k, LeO (thermionkit_Greatest.f k a0 a1 a2 a3) (thermionkit_Greatest.f (k + 1) a0 a1 a2 a3) := by
 intro a0 a1 a2 a3 k
 have ih0 := thermionkit_Greatest.mono_l k
 unfold thermionkit_Greatest.f
 repeat' first
   | (with_reducible exact ih0 _ _ _ _ _ _)
   | (with_reducible exact LeO.refl _)
   | (with_reducible exact LeO.none _)
   | (with_reducible refine LeO.ite ?_ ?_)
   | (with_reducible refine LeO.bind ?_ (fun _ => ?_))
   | exact ih0 _ _ _ _ _ _
   | exact LeO.none _
   | refine LeO.ite ?_ ?_
   | refine LeO.bind ?_ (fun _ => ?_)
theorem thermionkit_Greatest.calls (k : Nat) (a0_0 : Int) (a0_1 : Int) (a0_2 : Bool) (A0_3 : Option Addr) (c0_3 : Nat) (l0_3 : List Int) (r : Int) (w : World) (hr0_3 : Kd.C (Kd.int .i64) w A0_3 l0_3.length l0_3) (hc0_3 : l0_3.length ≤ c0_3) (h : thermionkit_Greatest.f k a0_0 a0_1 a0_2 l0_3 = some r) :
  Calls Try.prog 36 #[.agg #[.int .i64 a0_0, .int .i64 a0_1, .bool a0_2, .slice A0_3 l0_3.length c0_3]] w fun e w' => e = .returned (.int .i64 r) ∧ Below w.heap.size w w' := by
 have hu24 := Try.underlying24
 have HR0_3 := Aside0.mk hr0_3
 have HC0_3 := Aside0.mk hc0_3
 clear hr0_3 hc0_3
 have HB := Aside0.mk (Below.refl w.heap.size w)
 have H : (thermionkit_Greatest.l0 k 0 0 a0_0 a0_1 a0_2 l0_3) = some r := h
 clear h
 have H' := Aside0.mk H
 clear H
 go_enter Try.func36, Try.ntmps36
 go_wp2_with (first | ((with_reducible refine gate_dst (N := 1) rfl ?_); refine box_event ?hg (N := 1) ?hd (cs := #[.int .i64 a0_0, .int .i64 a0_1, .bool a0_2, .slice A0_3 l0_3.length c0_3]) (t := 24) ?hr ?_; (case hd => rfl); (case hg => rfl); (case hr => first | (go_simp; done) | (go_simp; rfl)); intro gb335 hg w2 hbox hb; have n0_ := Aside0.mk (below_step (by repeat (first | (with_reducible first | exact HB.out | apply below_alloc | apply pw_below_drewN | apply below_drew1) | exact HB.out)) hb); have n1_ := Aside0.mk (hbox); have n2_ := Aside0.mk ((by rw [hg]; exact (below_size (by repeat (first | (with_reducible first | exact HB.out | apply below_alloc | apply pw_below_drewN | apply below_drew1) | exact HB.out))) : w.heap.size ≤ gb335)); have n3_ := Aside0.mk ((by rw [hg]; exact (below_size (by repeat (first | (with_reducible first | exact HB.out | apply below_alloc | apply pw_below_drewN | apply below_drew1) | exact HB.out))) : w.heap.size ≤ gb335)); clear HB; have HB := n0_; have BK335 := n1_; have GW335 := n2_; have GE335 := n3_; clear n0_ n1_ n2_ n3_; clear hb hbox hg))
 go_loopg [3, 4] k (fun kq v3 v4 w' => ∃ (x3_1 : Int) (x4_1 : Int), v3 = .int .i64 x3_1 ∧ v4 = .int .i64 x4_1 ∧ Aside0 (thermionkit_Greatest.l0 kq x3_1 x4_1 a0_0 a0_1 a0_2 l0_3 = some r) ∧ Aside0 (kq ≤ k) ∧ Aside0 (w'.heap[gb335]? = some (.cells #[.int .i64 a0_0, .int .i64 a0_1, .bool a0_2, (.slice A0_3 l0_3.length c0_3)] 24 (0, 0))) ∧ Aside0 (Below w.heap.size w w'))
 case atStart => exact ⟨(0), (0), (by first | rfl | (simp; done) | (simp [*]; done)), (by first | rfl | (simp; done) | (simp [*]; done)), H', ⟨Nat.le_refl _⟩, ⟨by (with_reducible repeat (first | refine blk_drewN ?_ _ | refine blk_drew ?_ | refine blk_alloc ?_ _)); exact BK335.out⟩, ⟨by repeat (first | (with_reducible first | exact HB.out | apply below_alloc | apply pw_below_drewN | apply below_drew1 | refine below_set ?_ GE335.out) | exact HB.out)⟩⟩
 case round =>
  clear H'
  obtain ⟨x3_1, x4_1, rfl, rfl, HA, HK1, BK335, HB⟩ := hrel
  cases gk with
  | zero => exact absurd HA.out (by simp [thermionkit_Greatest.l0])
  | succ k1 =>
   have H := HA.out
   clear HA
   simp only [thermionkit_Greatest.l0] at H
   by_cases c3 : x4_1 < (l0_3.length : Int)
   ·rw [if_pos c3] at H
    have c3b0 := decide_eq_true c3
    clear c3
    by_cases c4 : 0 ≤ x4_1
    ·rw [if_pos c4] at H
     have c4b0 := decide_eq_true c4
     clear c4
     obtain ⟨ji5, hji5⟩ : ∃ j_ : Int, (mx x3_1 (rd l0_3 x4_1)) = j_ := ⟨_, rfl⟩
     replace H : (thermionkit_Greatest.l0 k1 ji5 (wrap64 (x4_1 + 1)) a0_0 a0_1 a0_2 l0_3) = some r := by first | (rw [hji5] at H; exact H) | (simp only [hji5] at H ⊢; exact H)
     have hji5_ : (if x3_1 < (rd l0_3 x4_1) then (rd l0_3 x4_1) else x3_1) = ji5 := hji5
     have H' := Aside0.mk H
     clear H
     have hcz6_0 : wr.cell? ⟨gb335, 0, none⟩ = some (.int .i64 a0_0) := (blk_cell BK335.out 0).trans rfl
     have hcz6_1 : wr.cell? ⟨gb335, 1, none⟩ = some (.int .i64 a0_1) := (blk_cell BK335.out 1).trans rfl
     have hcz6_2 : wr.cell? ⟨gb335, 2, none⟩ = some (.bool a0_2) := (blk_cell BK335.out 2).trans rfl
     have hcz6_3 : wr.cell? ⟨gb335, 3, none⟩ = some (.slice A0_3 l0_3.length c0_3) := (blk_cell BK335.out 3).trans rfl
     have hfz6_0 := blk_frozen BK335.out 0
     have hfz6_1 := blk_frozen BK335.out 1
     have hfz6_2 := blk_frozen BK335.out 2
     have hfz6_3 := blk_frozen BK335.out 3
     have p336 : 0 ≤ (x4_1 : Int) := of_decide_eq_true (by first | (with_reducible assumption) | assumption)
     have q336 : x4_1 < (l0_3.length : Int) := of_decide_eq_true (by first | (with_reducible assumption) | assumption)
     obtain ⟨ad336, e336, hx336_0⟩ := Kd.at_int HR0_3.out x4_1 p336 q336
     cases e336
     replace hx336_0 := (HB.out.cell (World.block_lt_of_cell? w _ hx336_0)).trans hx336_0
     replace p336 := eq_true p336
     replace q336 := eq_true q336
     go_wp2
     go_roundg k1
     case measure => have := HK1.out; omega
     case rel => exact ⟨(ji5), (wrap64 (x4_1 + 1)), (by first | rfl | (simp; done) | (simp only [← hji5] <;> (first | rfl | simp)) | (simp [*]; done)), (by first | rfl | (simp; done) | (simp [*]; done)), H', ⟨by have := HK1.out; omega⟩, ⟨by (with_reducible repeat (first | refine blk_drewN ?_ _ | refine blk_drew ?_ | refine blk_alloc ?_ _)); exact BK335.out⟩, ⟨by repeat (first | (with_reducible first | exact HB.out | apply below_alloc | apply pw_below_drewN | apply below_drew1 | refine below_set ?_ GE335.out) | exact HB.out)⟩⟩
    ·rw [if_neg c4] at H
     exact absurd H (by simp)
   ·rw [if_neg c3] at H
    have c3b0 := decide_eq_false c3
    clear c3
    obtain rfl := Option.some.inj H
    have hcz7_0 : wr.cell? ⟨gb335, 0, none⟩ = some (.int .i64 a0_0) := (blk_cell BK335.out 0).trans rfl
    have hcz7_1 : wr.cell? ⟨gb335, 1, none⟩ = some (.int .i64 a0_1) := (blk_cell BK335.out 1).trans rfl
    have hcz7_2 : wr.cell? ⟨gb335, 2, none⟩ = some (.bool a0_2) := (blk_cell BK335.out 2).trans rfl
    have hcz7_3 : wr.cell? ⟨gb335, 3, none⟩ = some (.slice A0_3 l0_3.length c0_3) := (blk_cell BK335.out 3).trans rfl
    have hfz7_0 := blk_frozen BK335.out 0
    have hfz7_1 := blk_frozen BK335.out 1
    have hfz7_2 := blk_frozen BK335.out 2
    have hfz7_3 := blk_frozen BK335.out 3
    go_wp2
    go_ret
    exact ⟨by first | rfl | (simp [errW_none, errW_some] <;> rfl) | (simp [*, errW_none, errW_some] <;> rfl), by repeat (first | (with_reducible first | exact HB.out | apply below_alloc | apply pw_below_drewN | apply below_drew1 | refine below_set ?_ GE335.out) | exact HB.out)⟩
def thermionkit_VoltsOf.l0 : Nat → List Int → Int → Int → Option (List Int × Int)
 | 0, _, _, _ => none
 | k + 1, x5, x6, x1000 => if x6 < (x5.length : Int) then ((thermionkit_Dice_Between.f x1000 (-100) 100).bind fun bt342 => ((thermionkit_Dice_Between.f bt342.2 (-1000000) 1000000).bind fun bt344 => ((some (([0, bt342.1, bt344.1, 1000000] : List Int) : List Int)).bind fun y346 => ((thermionkit_Dice_Upto.f bt344.2 4).bind fun bt349 => (if 0 ≤ bt349.1 then (if bt349.1 < (y346.length : Int) then (if 0 ≤ x6 then (thermionkit_VoltsOf.l0 k (x5.set (x6 : Int).toNat (rd y346 bt349.1)) (wrap64 (x6 + 1)) bt349.2) else (none)) else (none)) else (none)))))) else (some (x5, x1000))
def thermionkit_VoltsOf.f (k : Nat) (s0_0 : Int) (a1_0 : Int) (a1_1 : Int) (a1_2 : Bool) (l1_3 : List Int) : Option (List Int × Int) := (thermionkit_Greatest.f k a1_0 a1_1 a1_2 l1_3).bind fun t338 => (if 0 ≤ (mn 8 t338) then (if (mn 8 t338 : Int).toNat ≤ 35184372088832 then (thermionkit_VoltsOf.l0 k (List.replicate (mn 8 t338 : Int).toNat 0) 0 s0_0) else (none)) else (none))
theorem thermionkit_VoltsOf.mono_l : ∀ k, (∀ y0 y1 y2, LeO (thermionkit_VoltsOf.l0 k y0 y1 y2) (thermionkit_VoltsOf.l0 (k + 1) y0 y1 y2))
 | 0 => fun _ _ _ r h => by simp [thermionkit_VoltsOf.l0] at h
 | k + 1 => by
  have ih0 := thermionkit_VoltsOf.mono_l k
  ·intro y0 y1 y2
   unfold thermionkit_VoltsOf.l0
   repeat' first
   | (with_reducible exact ih0 _ _ _)
   | (with_reducible exact thermionkit_Greatest.mono _ _ _ _ _)
   | (with_reducible exact LeO.refl _)
   | (with_reducible exact LeO.none _)
   | (with_reducible refine LeO.ite ?_ ?_)
   | (with_reducible refine LeO.bind ?_ (fun _ => ?_))
   | exact ih0 _ _ _
   | exact thermionkit_Greatest.mono _ _ _ _ _
   | exact LeO.none _
   | refine LeO.ite ?_ ?_
   | refine LeO.bind ?_ (fun _ => ?_)
theorem thermionkit_VoltsOf.mono : ∀ a0 a1 a2 a3 a4 k, LeO (thermionkit_VoltsOf.f k a0 a1 a2 a3 a4) (thermionkit_VoltsOf.f (k + 1) a0 a1 a2 a3 a4) := by
 intro a0 a1 a2 a3 a4 k
 have ih0 := thermionkit_VoltsOf.mono_l k
 unfold thermionkit_VoltsOf.f
 repeat' first
   | (with_reducible exact ih0 _ _ _)
   | (with_reducible exact thermionkit_Greatest.mono _ _ _ _ _)
   | (with_reducible exact LeO.refl _)
   | (with_reducible exact LeO.none _)
   | (with_reducible refine LeO.ite ?_ ?_)
   | (with_reducible refine LeO.bind ?_ (fun _ => ?_))
   | exact ih0 _ _ _
   | exact thermionkit_Greatest.mono _ _ _ _ _
   | exact LeO.none _
   | refine LeO.ite ?_ ?_
   | refine LeO.bind ?_ (fun _ => ?_)
theorem thermionkit_VoltsOf.calls (k : Nat) (g : Nat) (s0_0 : Int) (a1_0 : Int) (a1_1 : Int) (a1_2 : Bool) (A1_3 : Option Addr) (c1_3 : Nat) (l1_3 : List Int) (r1 : List Int) (r2 : Int) (w0 w : World) (hI : IsS79 w0 w g s0_0) (hB : Below w0.heap.size w0 w) (hr1_3 : Kd.C (Kd.int .i64) w A1_3 l1_3.length l1_3) (hc1_3 : l1_3.length ≤ c1_3) (hf1_3 : ∀ ad, A1_3 = some ad → 0 < l1_3.length → ad.block ≠ g) (h : thermionkit_VoltsOf.f k s0_0 a1_0 a1_1 a1_2 l1_3 = some (r1, r2)) :
  Calls Try.prog 23 #[.pointer (some ⟨g, 0, none⟩), .agg #[.int .i64 a1_0, .int .i64 a1_1, .bool a1_2, .slice A1_3 l1_3.length c1_3]] w fun e w' => ∃ v0_ : Value, e = .returned (v0_) ∧ Kd.R (Kd.int .i64) 3 w' w.heap.size (fun _ => True) v0_ r1 ∧ IsS79 w0 w' g r2 ∧ Below w0.heap.size w0 w' ∧ KeepBut w w' g none := by
 have hu24 := Try.underlying24
 have HR1_3 := Aside0.mk hr1_3
 have HC1_3 := Aside0.mk hc1_3
 clear hr1_3 hc1_3
 have HI0 := Aside0.mk hI
 have HK := Aside0.mk (KeepBut.refl w g none)
 have HL := Aside0.mk hB.size
 clear hI
 have HW0 := Aside0.mk hB.size
 have HB := Aside0.mk hB
 clear hB
 have H : ((thermionkit_Greatest.f k a1_0 a1_1 a1_2 l1_3).bind fun t338 => (if 0 ≤ (mn 8 t338) then (if (mn 8 t338 : Int).toNat ≤ 35184372088832 then (thermionkit_VoltsOf.l0 k (List.replicate (mn 8 t338 : Int).toNat 0) 0 s0_0) else (none)) else (none))) = some (r1, r2) := h
 clear h
 replace H := Option.bind_eq_some_iff.mp H
 obtain ⟨t338, A30, H⟩ := H
 replace H : (if 0 ≤ (mn 8 t338) then (if (mn 8 t338 : Int).toNat ≤ 35184372088832 then (thermionkit_VoltsOf.l0 k (List.replicate (mn 8 t338 : Int).toNat 0) 0 s0_0) else (none)) else (none)) = some (r1, r2) := H
 have A3 := Aside0.mk A30
 clear A30
 obtain ⟨ji4, hji4⟩ : ∃ j_ : Int, (mn 8 t338) = j_ := ⟨_, rfl⟩
 replace H : (if 0 ≤ (ji4) then (if (ji4 : Int).toNat ≤ 35184372088832 then (thermionkit_VoltsOf.l0 k (List.replicate (ji4 : Int).toNat 0) 0 s0_0) else (none)) else (none)) = some (r1, r2) := by first | (rw [hji4] at H; exact H) | (simp only [hji4] at H ⊢; exact H)
 (try rw [hji4] at A3)
 (try (have hji4h : ji4 ≤ 8 := by (rw [← hji4]; unfold mn; (repeat' split) <;> omega)))
 (try (have hji4g : ji4 ≤ 64 := by omega))
 have hji4_ : (if t338 < 8 then t338 else 8) = ji4 := hji4
 by_cases c5 : 0 ≤ (ji4)
 ·rw [if_pos c5] at H
  have c5b0 := eq_true c5
  have c5b1 := decide_eq_true c5
  clear c5
  by_cases c6 : (ji4 : Int).toNat ≤ 35184372088832
  ·rw [if_pos c6] at H
   have c6b0 := eq_true c6
   have c6b1 := decide_eq_true c6
   clear c6
   obtain ⟨y339, hy339⟩ : ∃ y_ : List Int, y_ = (List.replicate (ji4 : Int).toNat 0) := ⟨_, rfl⟩
   replace H : (thermionkit_VoltsOf.l0 k y339 0 s0_0) = some (r1, r2) := by first | (rw [hy339]; with_reducible exact H) | (have H2_ := (Option.bind_some _ _).symm.trans H; rw [hy339]; with_reducible exact H2_) | (have H2_ := (Option.bind_some _ _).symm.trans H; with_reducible exact H2_) | with_reducible exact H | (rw [hy339]; exact H) | exact H
   have Ny339 := Aside0.mk hy339
   clear hy339
   have H' := Aside0.mk H
   clear H
   go_enter Try.func23, Try.ntmps23
   go_wp2_with (first | ((with_reducible refine gate_dst (N := 3) rfl ?_); refine box_event ?hg (N := 3) ?hd (cs := #[.int .i64 a1_0, .int .i64 a1_1, .bool a1_2, .slice A1_3 l1_3.length c1_3]) (t := 24) ?hr ?_; (case hd => rfl); (case hg => rfl); (case hr => first | (go_simp; done) | (go_simp; rfl)); intro gb337 hg w7 hbox hb; have n0_ := Aside0.mk (IsS79.below (by repeat (first | (with_reducible first | exact HI0.out | apply IsS79.alloc | apply IsS79.drewN | apply IsS79.drew | apply IsS79.set_0) | exact HI0.out)) hb); have n1_ := Aside0.mk (KeepBut.trans (by repeat (first | (with_reducible first | exact HK.out | apply KeepBut.set_ | apply keep_drewN | apply keep_drew | apply keep_alloc) | exact HK.out)) (KeepBut.of_below hb g none) (.inl rfl)); have n2_ := Aside0.mk (below_step (by repeat (first | (with_reducible first | exact HB.out | apply below_alloc | apply pw_below_drewN | apply below_drew1 | refine below_set ?_ (IsS79.ge HI0.out)) | exact HB.out)) hb); have n3_ := Aside0.mk (hbox); have n4_ := Aside0.mk ((by rw [hg]; exact (keep_size (w := w) (g := g) (row := none) (by repeat (first | (with_reducible first | exact HK.out | apply KeepBut.set_ | apply keep_drewN | apply keep_drew | apply keep_alloc) | exact HK.out))) : w.heap.size ≤ gb337)); have n5_ := Aside0.mk ((Nat.le_trans HW0.out (by rw [hg]; exact (keep_size (w := w) (g := g) (row := none) (by repeat (first | (with_reducible first | exact HK.out | apply KeepBut.set_ | apply keep_drewN | apply keep_drew | apply keep_alloc) | exact HK.out))) : w.heap.size ≤ gb337) : w0.heap.size ≤ gb337)); have n6_ := Aside0.mk ((by rw [hg]; exact Nat.ne_of_lt (IsS79.lt (show IsS79 w0 _ g s0_0 from by repeat (first | (with_reducible first | exact HI0.out | apply IsS79.alloc | apply IsS79.drewN | apply IsS79.drew | apply IsS79.set_0) | exact HI0.out))) : g ≠ gb337)); have n7_ := Aside0.mk ((by rw [hg]; exact Nat.ne_of_gt (IsS79.lt (show IsS79 w0 _ g s0_0 from by repeat (first | (with_reducible first | exact HI0.out | apply IsS79.alloc | apply IsS79.drewN | apply IsS79.drew | apply IsS79.set_0) | exact HI0.out))) : gb337 ≠ g)); clear HI0; clear HK; clear HB; have HI0 := n0_; have HK := n1_; have HB := n2_; have BK337 := n3_; have GW337 := n4_; have GE337 := n5_; have NB0_337 := n6_; have NB337_0 := n7_; clear n0_ n1_ n2_ n3_ n4_ n5_ n6_ n7_; clear hb hbox hg; have hnb8 := NB337_0.out; have hnc8 := NB0_337.out; have hcz9_0 : w7.cell? ⟨gb337, 0, none⟩ = some (.int .i64 a1_0) := (blk_cell BK337.out 0).trans rfl; have hcz9_1 : w7.cell? ⟨gb337, 1, none⟩ = some (.int .i64 a1_1) := (blk_cell BK337.out 1).trans rfl; have hcz9_2 : w7.cell? ⟨gb337, 2, none⟩ = some (.bool a1_2) := (blk_cell BK337.out 2).trans rfl; have hcz9_3 : w7.cell? ⟨gb337, 3, none⟩ = some (.slice A1_3 l1_3.length c1_3) := (blk_cell BK337.out 3).trans rfl; have hfz9_0 := blk_frozen BK337.out 0; have hfz9_1 := blk_frozen BK337.out 1; have hfz9_2 := blk_frozen BK337.out 2; have hfz9_3 := blk_frozen BK337.out 3) | ((with_reducible refine gate_callee (f := 36) rfl ?_); refine goesL_ (some 8) rfl rfl Try.func36 (by kernel_rfl) rfl #[.agg #[.int .i64 a1_0, .int .i64 a1_1, .bool a1_2, .slice A1_3 l1_3.length c1_3]] rfl (by (try simp only [List.map_toArray, List.map_cons, List.map_nil]); first | done | rfl | (simp only [List.length_drop, List.length_take]; rfl)) ?_; (with_reducible refine (thermionkit_Greatest.calls k a1_0 a1_1 a1_2 _ _ l1_3 t338 _ ?side1 ?side2 A3.out).mono ?_); (case side1 => exact Kd.C_keep 0 HR1_3.out (by repeat (first | (with_reducible first | exact HK.out | apply KeepBut.set_ | apply keep_drewN | apply keep_drew | apply keep_alloc | refine keep_far ?_ GW337.out _) | exact HK.out)) hf1_3); (case side2 => exact HC1_3.out); rintro e w10 ⟨rfl, hb⟩; refine ⟨_, rfl, ?_⟩; have n0_ := Aside0.mk (IsS79.below (by repeat (first | (with_reducible first | exact HI0.out | apply IsS79.alloc | apply IsS79.drewN | apply IsS79.drew | apply IsS79.set_0 | refine IsS79.far ?_ NB0_337.out _) | exact HI0.out)) hb); have n1_ := Aside0.mk (blk_below (g := gb337) (o := .cells #[.int .i64 a1_0, .int .i64 a1_1, .bool a1_2, .slice A1_3 l1_3.length c1_3] 24 (0, 0)) (by (with_reducible repeat (first | refine blk_drewN ?_ _ | refine blk_drew ?_ | refine blk_alloc ?_ _)); exact BK337.out) hb); have n2_ := Aside0.mk (KeepBut.trans (by repeat (first | (with_reducible first | exact HK.out | apply KeepBut.set_ | apply keep_drewN | apply keep_drew | apply keep_alloc | refine keep_far ?_ GW337.out _) | exact HK.out)) (KeepBut.of_below hb g none) (.inl rfl)); have n3_ := Aside0.mk (below_step (by repeat (first | (with_reducible first | exact HB.out | apply below_alloc | apply pw_below_drewN | apply below_drew1 | refine below_set ?_ (IsS79.ge HI0.out) | refine below_set ?_ GE337.out) | exact HB.out)) hb); clear HI0; clear BK337; clear HK; clear HB; have HI0 := n0_; have BK337 := n1_; have HK := n2_; have HB := n3_; clear n0_ n1_ n2_ n3_; (try clear hb hk hi)) | ((with_reducible refine gate_dst (N := 10) rfl ?_); refine Kd.R_make (Kd.int .i64) _ 3 rfl (N := 10) rfl 22 _ _ rfl ji4 rfl rfl Try.underlying22 (.int .i64 0) 8 info3 rfl (by decide) (by omega) 0 (ok := fun _ => True) (okp := fun _ => True) rfl (fun _ hk => hk) trivial (of_decide_eq_true (by first | (with_reducible assumption) | assumption)) (Nat.le_trans (Nat.mul_le_mul_right _ (of_decide_eq_true (by first | (with_reducible assumption) | assumption) : ji4.toNat ≤ 35184372088832)) (by omega)) (Below.refl _ _) (Nat.le_refl _) ?_; intro v340 w11 ho12 hb hg_ hnew_; clear hg_ hnew_; (first | rw [← Ny339.out] at ho12 | (simp only [Int.reduceToNat] at ho12; rw [← Ny339.out] at ho12)); have n0_ := Aside0.mk (Kd.R_lower ho12 (keep_size (w := w) (g := g) (row := none) (by repeat (first | (with_reducible first | exact HK.out | apply KeepBut.set_ | apply keep_drewN | apply keep_drew | apply keep_alloc | refine keep_far ?_ GW337.out _) | exact HK.out)))); have n1_ := Aside0.mk (IsS79.below (by repeat (first | (with_reducible first | exact HI0.out | apply IsS79.alloc | apply IsS79.drewN | apply IsS79.drew | apply IsS79.set_0 | refine IsS79.far ?_ NB0_337.out _) | exact HI0.out)) hb); have n2_ := Aside0.mk (blk_below (g := gb337) (o := .cells #[.int .i64 a1_0, .int .i64 a1_1, .bool a1_2, .slice A1_3 l1_3.length c1_3] 24 (0, 0)) (by (with_reducible repeat (first | refine blk_drewN ?_ _ | refine blk_drew ?_ | refine blk_alloc ?_ _)); exact BK337.out) hb); have n3_ := Aside0.mk (KeepBut.trans (by repeat (first | (with_reducible first | exact HK.out | apply KeepBut.set_ | apply keep_drewN | apply keep_drew | apply keep_alloc | refine keep_far ?_ GW337.out _) | exact HK.out)) (KeepBut.of_below hb g none) (.inl rfl)); have n4_ := Aside0.mk (below_step (by repeat (first | (with_reducible first | exact HB.out | apply below_alloc | apply pw_below_drewN | apply below_drew1 | refine below_set ?_ (IsS79.ge HI0.out) | refine below_set ?_ GE337.out) | exact HB.out)) hb); clear HI0; clear BK337; clear HK; clear HB; have HO341 := n0_; have HI0 := n1_; have BK337 := n2_; have HK := n3_; have HB := n4_; clear n0_ n1_ n2_ n3_ n4_; clear hb ho12))
   go_loopg [6] k (fun kq v6 w' => ∃ (x5_1 : List Int) (x6_1 : Int) (x1000_1 : Int), v6 = .int .i64 x6_1 ∧ Aside0 (thermionkit_VoltsOf.l0 kq x5_1 x6_1 x1000_1 = some (r1, r2)) ∧ Aside0 (kq ≤ k) ∧ Aside0 (Kd.R (Kd.int .i64) 3 w' w.heap.size (fun _ => True) v340 x5_1) ∧ Aside0 (w'.heap[gb337]? = some (.cells #[.int .i64 a1_0, .int .i64 a1_1, .bool a1_2, (.slice A1_3 l1_3.length c1_3)] 24 (0, 0))) ∧ Aside0 (IsS79 w0 w' g x1000_1) ∧ Aside0 (KeepBut w w' g none) ∧ Aside0 (Below w0.heap.size w0 w'))
   case atStart => exact ⟨(y339), (0), (s0_0), (by first | rfl | (simp; done) | (simp [*]; done)), H', ⟨Nat.le_refl _⟩, ⟨by (with_reducible repeat (first | apply Kd.R_alloc | apply Kd.R_drewN | apply Kd.R_drew)); exact HO341.out⟩, ⟨by (with_reducible repeat (first | refine blk_drewN ?_ _ | refine blk_drew ?_ | refine blk_alloc ?_ _)); exact BK337.out⟩, ⟨by repeat (first | (with_reducible first | exact HI0.out | apply IsS79.alloc | apply IsS79.drewN | apply IsS79.drew | apply IsS79.set_0 | refine IsS79.far ?_ NB0_337.out _) | exact HI0.out)⟩, ⟨by repeat (first | (with_reducible first | exact HK.out | apply KeepBut.set_ | apply keep_drewN | apply keep_drew | apply keep_alloc | refine keep_far ?_ GW337.out _) | exact HK.out)⟩, ⟨by repeat (first | (with_reducible first | exact HB.out | apply below_alloc | apply pw_below_drewN | apply below_drew1 | refine below_set ?_ (IsS79.ge HI0.out) | refine below_set ?_ GE337.out) | exact HB.out)⟩⟩
   case round =>
    clear H'
    try clear c5
    try clear c5b0
    try clear c5b1
    try clear c6
    try clear c6b0
    try clear c6b1
    try clear hcz9_0
    try clear hcz9_1
    try clear hcz9_2
    try clear hcz9_3
    try clear hfz9_0
    try clear hfz9_1
    try clear hfz9_2
    try clear hfz9_3
    obtain ⟨x5_1, x6_1, x1000_1, rfl, HA, HK1, HO_5, BK337, HI0, HK, HB⟩ := hrel
    cases gk with
    | zero => exact absurd HA.out (by simp [thermionkit_VoltsOf.l0])
    | succ k1 =>
     have H := HA.out
     clear HA
     simp only [thermionkit_VoltsOf.l0] at H
     by_cases c13 : x6_1 < (x5_1.length : Int)
     ·rw [if_pos c13] at H
      have c13b0 := decide_eq_true c13
      clear c13
      replace H := Option.bind_eq_some_iff.mp H
      obtain ⟨⟨t342, t343⟩, A140, H⟩ := H
      replace H : ((thermionkit_Dice_Between.f t343 (-1000000) 1000000).bind fun bt344 => ((some (([0, t342, bt344.1, 1000000] : List Int) : List Int)).bind fun y346 => ((thermionkit_Dice_Upto.f bt344.2 4).bind fun bt349 => (if 0 ≤ bt349.1 then (if bt349.1 < (y346.length : Int) then (if 0 ≤ x6_1 then (thermionkit_VoltsOf.l0 k1 (x5_1.set (x6_1 : Int).toNat (rd y346 bt349.1)) (wrap64 (x6_1 + 1)) bt349.2) else (none)) else (none)) else (none))))) = some (r1, r2) := H
      have A14 := Aside0.mk A140
      clear A140
      replace H := Option.bind_eq_some_iff.mp H
      obtain ⟨⟨t344, t345⟩, A150, H⟩ := H
      replace H : ((some (([0, t342, t344, 1000000] : List Int) : List Int)).bind fun y346 => ((thermionkit_Dice_Upto.f t345 4).bind fun bt349 => (if 0 ≤ bt349.1 then (if bt349.1 < (y346.length : Int) then (if 0 ≤ x6_1 then (thermionkit_VoltsOf.l0 k1 (x5_1.set (x6_1 : Int).toNat (rd y346 bt349.1)) (wrap64 (x6_1 + 1)) bt349.2) else (none)) else (none)) else (none)))) = some (r1, r2) := H
      have A15 := Aside0.mk A150
      clear A150
      obtain ⟨y346, hy346⟩ : ∃ y_ : List Int, y_ = (([0, t342, t344, 1000000] : List Int)) := ⟨_, rfl⟩
      replace H : ((thermionkit_Dice_Upto.f t345 4).bind fun bt349 => (if 0 ≤ bt349.1 then (if bt349.1 < (y346.length : Int) then (if 0 ≤ x6_1 then (thermionkit_VoltsOf.l0 k1 (x5_1.set (x6_1 : Int).toNat (rd y346 bt349.1)) (wrap64 (x6_1 + 1)) bt349.2) else (none)) else (none)) else (none))) = some (r1, r2) := by first | (rw [hy346]; with_reducible exact H) | (have H2_ := (Option.bind_some _ _).symm.trans H; rw [hy346]; with_reducible exact H2_) | (have H2_ := (Option.bind_some _ _).symm.trans H; with_reducible exact H2_) | with_reducible exact H | (rw [hy346]; exact H) | exact H
      have Ny346 := Aside0.mk hy346
      clear hy346
      replace H := Option.bind_eq_some_iff.mp H
      obtain ⟨⟨t349, t350⟩, A160, H⟩ := H
      replace H : (if 0 ≤ t349 then (if t349 < (y346.length : Int) then (if 0 ≤ x6_1 then (thermionkit_VoltsOf.l0 k1 (x5_1.set (x6_1 : Int).toNat (rd y346 t349)) (wrap64 (x6_1 + 1)) t350) else (none)) else (none)) else (none)) = some (r1, r2) := H
      have A16 := Aside0.mk A160
      clear A160
      by_cases c17 : 0 ≤ t349
      ·rw [if_pos c17] at H
       have c17b0 := decide_eq_true c17
       clear c17
       by_cases c18 : t349 < (y346.length : Int)
       ·rw [if_pos c18] at H
        have c18b0 := decide_eq_true c18
        clear c18
        by_cases c19 : 0 ≤ x6_1
        ·rw [if_pos c19] at H
         have c19b0 := decide_eq_true c19
         clear c19
         obtain ⟨y352, hy352⟩ : ∃ y_ : List Int, y_ = (x5_1.set (x6_1 : Int).toNat (rd y346 t349)) := ⟨_, rfl⟩
         replace H : (thermionkit_VoltsOf.l0 k1 y352 (wrap64 (x6_1 + 1)) t350) = some (r1, r2) := by first | (rw [hy352]; with_reducible exact H) | (have H2_ := (Option.bind_some _ _).symm.trans H; rw [hy352]; with_reducible exact H2_) | (have H2_ := (Option.bind_some _ _).symm.trans H; with_reducible exact H2_) | with_reducible exact H | (rw [hy352]; exact H) | exact H
         have Ny352 := Aside0.mk hy352
         clear hy352
         have H' := Aside0.mk H
         clear H
         obtain ⟨Ao21, co21, eo21⟩ := Kd.R_slice HO_5.out
         subst eo21
         go_wp2_with (first | ((with_reducible refine gate_callee (f := 32) rfl ?_); refine goesL_ (some 20) rfl rfl Try.func32 (by kernel_rfl) rfl #[.pointer (some ⟨g, 0, none⟩), .int .i64 (-100), .int .i64 100] rfl (by (try simp only [List.map_toArray, List.map_cons, List.map_nil]); first | done | rfl | (simp only [List.length_drop, List.length_take]; rfl)) ?_; (with_reducible refine (thermionkit_Dice_Between.calls g x1000_1 (-100) 100 t342 t343 w0 _ ?side1 ?side2 A14.out).mono ?_); (case side1 => repeat (first | (with_reducible first | exact HI0.out | apply IsS79.alloc | apply IsS79.drewN | apply IsS79.drew | apply IsS79.set_0 | refine IsS79.far ?_ NB0_337.out _) | exact HI0.out)); (case side2 => repeat (first | (with_reducible first | exact HB.out | apply below_alloc | apply pw_below_drewN | apply below_drew1 | refine below_set ?_ (IsS79.ge HI0.out) | refine below_set ?_ GE337.out) | exact HB.out)); rintro e w22 ⟨rfl, hi, hb, hk⟩; refine ⟨_, rfl, ?_⟩; have n0_ := Aside0.mk (Kd.R_mono (Kd.R_keep (IsS79.apart (show IsS79 w0 _ g x1000_1 from by repeat (first | (with_reducible first | exact HI0.out | apply IsS79.alloc | apply IsS79.drewN | apply IsS79.drew | apply IsS79.set_0 | refine IsS79.far ?_ NB0_337.out _) | exact HI0.out)) (by (with_reducible repeat (first | apply Kd.R_alloc | apply Kd.R_drewN | apply Kd.R_drew)); exact HO_5.out) (by decide)) hk (fun _ h => h.2)) (fun _ h => h.1)); have n1_ := Aside0.mk (KeepBut.blk hk (g' := gb337) (o := .cells #[.int .i64 a1_0, .int .i64 a1_1, .bool a1_2, .slice A1_3 l1_3.length c1_3] 24 (0, 0)) (by (with_reducible repeat (first | refine blk_drewN ?_ _ | refine blk_drew ?_ | refine blk_alloc ?_ _)); exact BK337.out) NB337_0.out (by simp)); have n2_ := Aside0.mk (KeepBut.trans (by repeat (first | (with_reducible first | exact HK.out | apply KeepBut.set_ | apply keep_drewN | apply keep_drew | apply keep_alloc | refine keep_far ?_ GW337.out _) | exact HK.out)) hk (.inl rfl)); have n3_ := Aside0.mk (hb); have n4_ := Aside0.mk (hi); clear HO_5; clear BK337; clear HK; clear HB; clear HI0; have HO_5 := n0_; have BK337 := n1_; have HK := n2_; have HB := n3_; have HI0 := n4_; clear n0_ n1_ n2_ n3_ n4_; (try clear hb hk hi)) | ((with_reducible refine gate_callee (f := 32) rfl ?_); refine goesL_ (some 22) rfl rfl Try.func32 (by kernel_rfl) rfl #[.pointer (some ⟨g, 0, none⟩), .int .i64 (-1000000), .int .i64 1000000] rfl (by (try simp only [List.map_toArray, List.map_cons, List.map_nil]); first | done | rfl | (simp only [List.length_drop, List.length_take]; rfl)) ?_; (with_reducible refine (thermionkit_Dice_Between.calls g t343 (-1000000) 1000000 t344 t345 w0 _ ?side1 ?side2 A15.out).mono ?_); (case side1 => repeat (first | (with_reducible first | exact HI0.out | apply IsS79.alloc | apply IsS79.drewN | apply IsS79.drew | apply IsS79.set_0 | refine IsS79.far ?_ NB0_337.out _) | exact HI0.out)); (case side2 => repeat (first | (with_reducible first | exact HB.out | apply below_alloc | apply pw_below_drewN | apply below_drew1 | refine below_set ?_ (IsS79.ge HI0.out) | refine below_set ?_ GE337.out) | exact HB.out)); rintro e w23 ⟨rfl, hi, hb, hk⟩; refine ⟨_, rfl, ?_⟩; have n0_ := Aside0.mk (Kd.R_mono (Kd.R_keep (IsS79.apart (show IsS79 w0 _ g t343 from by repeat (first | (with_reducible first | exact HI0.out | apply IsS79.alloc | apply IsS79.drewN | apply IsS79.drew | apply IsS79.set_0 | refine IsS79.far ?_ NB0_337.out _) | exact HI0.out)) (by (with_reducible repeat (first | apply Kd.R_alloc | apply Kd.R_drewN | apply Kd.R_drew)); exact HO_5.out) (by decide)) hk (fun _ h => h.2)) (fun _ h => h.1)); have n1_ := Aside0.mk (KeepBut.blk hk (g' := gb337) (o := .cells #[.int .i64 a1_0, .int .i64 a1_1, .bool a1_2, .slice A1_3 l1_3.length c1_3] 24 (0, 0)) (by (with_reducible repeat (first | refine blk_drewN ?_ _ | refine blk_drew ?_ | refine blk_alloc ?_ _)); exact BK337.out) NB337_0.out (by simp)); have n2_ := Aside0.mk (KeepBut.trans (by repeat (first | (with_reducible first | exact HK.out | apply KeepBut.set_ | apply keep_drewN | apply keep_drew | apply keep_alloc | refine keep_far ?_ GW337.out _) | exact HK.out)) hk (.inl rfl)); have n3_ := Aside0.mk (hb); have n4_ := Aside0.mk (hi); clear HO_5; clear BK337; clear HK; clear HB; clear HI0; have HO_5 := n0_; have BK337 := n1_; have HK := n2_; have HB := n3_; have HI0 := n4_; clear n0_ n1_ n2_ n3_ n4_; (try clear hb hk hi)) | ((with_reducible refine gate_dst (N := 23) rfl ?_); refine Kd.R_lit (Kd.int .i64) _ 3 ?hg (N := 23) ?hd (xs := ([0, t342, t344, 1000000] : List Int)) (inner := [.int .i64 0, .int .i64 t342, .int .i64 t344, .int .i64 1000000]) (ok := fun _ => True) (okp := fun _ => True) ?hr ?hp (fun _ hk => hk) trivial (Below.refl _ _) (Nat.le_refl _) (by simp) ?_; (case hd => rfl); (case hg => rfl); (case hr => first | (go_simp; done) | (go_simp; rfl)); (case hp => exact (Reps.one (show Kd.M (Kd.int .i64) _ _ _ 0 [.int .i64 0] from rfl) (Reps.one (show Kd.M (Kd.int .i64) _ _ _ t342 [.int .i64 t342] from rfl) (Reps.one (show Kd.M (Kd.int .i64) _ _ _ t344 [.int .i64 t344] from rfl) (Reps.one (show Kd.M (Kd.int .i64) _ _ _ 1000000 [.int .i64 1000000] from rfl) (Reps.none _ _)))))); intro v347 w24 ho25 hb hg_ hnew_; clear hg_ hnew_; (first | rw [← Ny346.out] at ho25 | (simp only [Int.reduceToNat] at ho25; rw [← Ny346.out] at ho25)); have n0_ := Aside0.mk (Kd.R_elder' (by (with_reducible repeat (first | apply Kd.R_alloc | apply Kd.R_drewN | apply Kd.R_drew)); exact HO_5.out) (Kd.R_base ho25) hb); have n1_ := Aside0.mk (Kd.R_lower (Kd.R_new' ho25 (Kd.R_lt (by (with_reducible repeat (first | apply Kd.R_alloc | apply Kd.R_drewN | apply Kd.R_drew)); exact HO_5.out))) (keep_size (w := w) (g := g) (row := none) (by repeat (first | (with_reducible first | exact HK.out | apply KeepBut.set_ | apply keep_drewN | apply keep_drew | apply keep_alloc | refine keep_far ?_ GW337.out _) | exact HK.out)))); have n2_ := Aside0.mk (blk_below (g := gb337) (o := .cells #[.int .i64 a1_0, .int .i64 a1_1, .bool a1_2, .slice A1_3 l1_3.length c1_3] 24 (0, 0)) (by (with_reducible repeat (first | refine blk_drewN ?_ _ | refine blk_drew ?_ | refine blk_alloc ?_ _)); exact BK337.out) hb); have n3_ := Aside0.mk (IsS79.below (by repeat (first | (with_reducible first | exact HI0.out | apply IsS79.alloc | apply IsS79.drewN | apply IsS79.drew | apply IsS79.set_0 | refine IsS79.far ?_ NB0_337.out _) | exact HI0.out)) hb); have n4_ := Aside0.mk (KeepBut.trans (by repeat (first | (with_reducible first | exact HK.out | apply KeepBut.set_ | apply keep_drewN | apply keep_drew | apply keep_alloc | refine keep_far ?_ GW337.out _) | exact HK.out)) (KeepBut.of_below hb g none) (.inl rfl)); have n5_ := Aside0.mk (below_step (by repeat (first | (with_reducible first | exact HB.out | apply below_alloc | apply pw_below_drewN | apply below_drew1 | refine below_set ?_ (IsS79.ge HI0.out) | refine below_set ?_ GE337.out) | exact HB.out)) hb); clear HO_5; clear BK337; clear HI0; clear HK; clear HB; have HO_5 := n0_; have HO348 := n1_; have BK337 := n2_; have HI0 := n3_; have HK := n4_; have HB := n5_; clear n0_ n1_ n2_ n3_ n4_ n5_; clear hb ho25) | ((with_reducible refine gate_callee (f := 49) rfl ?_); refine goesL_ (some 25) rfl rfl Try.func49 (by kernel_rfl) rfl #[.pointer (some ⟨g, 0, none⟩), .int .i64 4] rfl (by (try simp only [List.map_toArray, List.map_cons, List.map_nil]); first | done | rfl | (simp only [List.length_drop, List.length_take]; rfl)) ?_; (with_reducible refine (thermionkit_Dice_Upto.calls g t345 4 t349 t350 w0 _ ?side1 ?side2 A16.out).mono ?_); (case side1 => repeat (first | (with_reducible first | exact HI0.out | apply IsS79.alloc | apply IsS79.drewN | apply IsS79.drew | apply IsS79.set_0 | refine IsS79.far ?_ NB0_337.out _) | exact HI0.out)); (case side2 => repeat (first | (with_reducible first | exact HB.out | apply below_alloc | apply pw_below_drewN | apply below_drew1 | refine below_set ?_ (IsS79.ge HI0.out) | refine below_set ?_ GE337.out) | exact HB.out)); rintro e w26 ⟨rfl, hi, hb, hk⟩; refine ⟨_, rfl, ?_⟩; have n0_ := Aside0.mk (Kd.R_mono (Kd.R_keep (IsS79.apart (show IsS79 w0 _ g t345 from by repeat (first | (with_reducible first | exact HI0.out | apply IsS79.alloc | apply IsS79.drewN | apply IsS79.drew | apply IsS79.set_0 | refine IsS79.far ?_ NB0_337.out _) | exact HI0.out)) (by (with_reducible repeat (first | apply Kd.R_alloc | apply Kd.R_drewN | apply Kd.R_drew)); exact HO_5.out) (by decide)) hk (fun _ h => h.2)) (fun _ h => h.1)); have n1_ := Aside0.mk (KeepBut.blk hk (g' := gb337) (o := .cells #[.int .i64 a1_0, .int .i64 a1_1, .bool a1_2, .slice A1_3 l1_3.length c1_3] 24 (0, 0)) (by (with_reducible repeat (first | refine blk_drewN ?_ _ | refine blk_drew ?_ | refine blk_alloc ?_ _)); exact BK337.out) NB337_0.out (by simp)); have n2_ := Aside0.mk (Kd.R_mono (Kd.R_keep (IsS79.apart (show IsS79 w0 _ g t345 from by repeat (first | (with_reducible first | exact HI0.out | apply IsS79.alloc | apply IsS79.drewN | apply IsS79.drew | apply IsS79.set_0 | refine IsS79.far ?_ NB0_337.out _) | exact HI0.out)) (by (with_reducible repeat (first | apply Kd.R_alloc | apply Kd.R_drewN | apply Kd.R_drew)); exact HO348.out) (by decide)) hk (fun _ h => h.2)) (fun _ h => h.1)); have n3_ := Aside0.mk (KeepBut.trans (by repeat (first | (with_reducible first | exact HK.out | apply KeepBut.set_ | apply keep_drewN | apply keep_drew | apply keep_alloc | refine keep_far ?_ GW337.out _) | exact HK.out)) hk (.inl rfl)); have n4_ := Aside0.mk (hb); have n5_ := Aside0.mk (hi); clear HO_5; clear BK337; clear HO348; clear HK; clear HB; clear HI0; have HO_5 := n0_; have BK337 := n1_; have HO348 := n2_; have HK := n3_; have HB := n4_; have HI0 := n5_; clear n0_ n1_ n2_ n3_ n4_ n5_; (try clear hb hk hi); obtain ⟨Ao27, co27, eo27⟩ := Kd.R_slice HO348.out; subst eo27; have p351 : 0 ≤ (t349 : Int) := of_decide_eq_true (by first | (with_reducible assumption) | assumption); have q351 : t349 < (y346.length : Int) := of_decide_eq_true (by first | (with_reducible assumption) | assumption); obtain ⟨ad351, e351, hx351_0⟩ := Kd.at_int (Kd.R_reads' HO348.out).2.2 t349 p351 q351; cases e351; replace p351 := eq_true p351; replace q351 := eq_true q351; have p20 : 0 ≤ (x6_1 : Int) := of_decide_eq_true (by first | (with_reducible assumption) | assumption); have q20 : (x6_1 : Int) < ((x5_1.length : Int) : Int) := of_decide_eq_true (by first | (with_reducible assumption) | assumption); obtain ⟨go20, co20, eo20, gb20, gl20, cl20, HG20⟩ := Kd.R_form HO_5.out (by omega); (first | cases eo20 | (injection eo20 with ea_ en_ ec_; (first | subst ea_ | (injection ea_ with ea_; subst ea_)); subst ec_; clear en_)); have GB20 := Aside0.mk gb20; have GG20 := Aside0.mk HG20; clear gb20 gl20 HG20; obtain ⟨hx20_0, hf20_0⟩ := Kd.R_celln 0 HO_5.out (x6_1 : Int) p20 q20; replace p20 := eq_true p20; replace q20 := eq_true q20; have n_ := Aside0.mk (Kd.R_mono (ok' := (fun k_ => some k_ ≠ (.slice (some ad351) y346.length co27 : Value).ownBlock)) HO_5.out (fun k_ hk => hk.2)); clear HO_5; have HO_5 := n_; clear n_; obtain ⟨hy28_, hz28_⟩ := Kd.R_celln 0 HO_5.out (x6_1 : Int) (of_decide_eq_true (by first | (with_reducible assumption) | assumption)) (of_decide_eq_true (by first | (with_reducible assumption) | assumption)); have HP28 := Kd.R_putg HO_5.out (x6_1 : Int) (rd y346 t349)) | ((with_reducible refine gate_store (t := 3) (p := 28) rfl ?_); refine store_event (t := 3) (p := 28) (v := ?vo_w29) (w1 := (w26.setCell ⟨go20, (x6_1 : Int).toNat, none⟩ (.int .i64 (rd y346 t349)))) ?hg ?ho ?hn ?hr ?_; (case ho => rfl); (case hg => rfl); (case hn => rfl); (case hr => first | (go_simp; done) | (go_simp; rfl)); intro w29 hw; have hg : w26.grownBy w29 (some go20) := (by rw [hw]; exact HP28.2); have hp_ : Kd.R (Kd.int .i64) 3 w29 w.heap.size (fun k_ => some k_ ≠ (.slice (some ad351) y346.length co27 : Value).ownBlock) (.slice (some ⟨go20, 0, none⟩) x5_1.length co21) y352 := (by rw [hw, Ny352.out]; exact HP28.1); clear HP28; have n0_ := Aside0.mk (hp_); have n1_ := Aside0.mk (blk_grown (g := gb337) (o := .cells #[.int .i64 a1_0, .int .i64 a1_1, .bool a1_2, .slice A1_3 l1_3.length c1_3] 24 (0, 0)) (by (with_reducible repeat (first | refine blk_drewN ?_ _ | refine blk_drew ?_ | refine blk_alloc ?_ _)); exact BK337.out) hg (Kd.R_ne HO_5.out BK337.out (by decide))); have n2_ := Aside0.mk (IsS79.grown (by repeat (first | (with_reducible first | exact HI0.out | apply IsS79.alloc | apply IsS79.drewN | apply IsS79.drew | apply IsS79.set_0 | refine IsS79.far ?_ NB0_337.out _) | exact HI0.out)) hg (IsS79.own_ne HI0.out HO_5.out (by decide))); have n3_ := Aside0.mk (Kd.R_after (v := (.slice (some ⟨go20, 0, none⟩) x5_1.length co21)) (v1 := (.slice (some ⟨go20, 0, none⟩) x5_1.length co21)) (ok := (fun _ => True)) (by (with_reducible repeat (first | apply Kd.R_alloc | apply Kd.R_drewN | apply Kd.R_drew)); exact HO348.out) hg (.inl rfl)); have n4_ := Aside0.mk ((by rw [hw]; exact below_set (HB.out) (Nat.le_trans HL.out GB20.out) : Below w0.heap.size w0 w29)); have n5_ := Aside0.mk (KeepBut.trans (by repeat (first | (with_reducible first | exact HK.out | apply KeepBut.set_ | apply keep_drewN | apply keep_drew | apply keep_alloc | refine keep_far ?_ GW337.out _) | exact HK.out)) (KeepBut.of_grown hg g) (Kd.R_base2 HO_5.out)); clear HO_5; clear BK337; clear HI0; clear HO348; clear HB; clear HK; have HO_5 := n0_; have BK337 := n1_; have HI0 := n2_; have HO348 := n3_; have HB := n4_; have HK := n5_; clear n0_ n1_ n2_ n3_ n4_ n5_; clear hg hw hp_))
         go_roundg k1
         case measure => have := HK1.out; omega
         case rel => exact ⟨(y352), (wrap64 (x6_1 + 1)), (t350), (by first | rfl | (simp; done) | (simp [*]; done)), H', ⟨by have := HK1.out; omega⟩, ⟨by (with_reducible repeat (first | apply Kd.R_alloc | apply Kd.R_drewN | apply Kd.R_drew)); exact Kd.R_mono HO_5.out (fun _ hk => trivial)⟩, ⟨by (with_reducible repeat (first | refine blk_drewN ?_ _ | refine blk_drew ?_ | refine blk_alloc ?_ _)); exact BK337.out⟩, ⟨by repeat (first | (with_reducible first | exact HI0.out | apply IsS79.alloc | apply IsS79.drewN | apply IsS79.drew | apply IsS79.set_0 | refine IsS79.far ?_ NB0_337.out _) | exact HI0.out)⟩, ⟨by repeat (first | (with_reducible first | exact HK.out | apply KeepBut.set_ | apply keep_drewN | apply keep_drew | apply keep_alloc | refine keep_far ?_ GW337.out _) | exact HK.out)⟩, ⟨by repeat (first | (with_reducible first | exact HB.out | apply below_alloc | apply pw_below_drewN | apply below_drew1 | refine below_set ?_ (IsS79.ge HI0.out) | refine below_set ?_ GE337.out) | exact HB.out)⟩⟩
        ·rw [if_neg c19] at H
         exact absurd H (by simp)
       ·rw [if_neg c18] at H
        exact absurd H (by simp)
      ·rw [if_neg c17] at H
       exact absurd H (by simp)
     ·rw [if_neg c13] at H
      have c13b0 := decide_eq_false c13
      clear c13
      simp only [Option.some.injEq, Prod.mk.injEq] at H
      obtain ⟨rfl, rfl⟩ := H
      obtain ⟨Ao30, co30, eo30⟩ := Kd.R_slice HO_5.out
      subst eo30
      go_wp2
      go_ret
      exact ⟨_, by first | rfl | (simp [errW_none, errW_some] <;> rfl) | (simp only [← hji4]; first | rfl | (simp [errW_none, errW_some] <;> rfl)) | (simp [*, errW_none, errW_some] <;> rfl), by (with_reducible repeat (first | apply Kd.R_alloc | apply Kd.R_drewN | apply Kd.R_drew)); exact HO_5.out, by repeat (first | (with_reducible first | exact HI0.out | apply IsS79.alloc | apply IsS79.drewN | apply IsS79.drew | apply IsS79.set_0 | refine IsS79.far ?_ NB0_337.out _) | exact HI0.out), by repeat (first | (with_reducible first | exact HB.out | apply below_alloc | apply pw_below_drewN | apply below_drew1 | refine below_set ?_ (IsS79.ge HI0.out) | refine below_set ?_ GE337.out) | exact HB.out), by repeat (first | (with_reducible first | exact HK.out | apply KeepBut.set_ | apply keep_drewN | apply keep_drew | apply keep_alloc | refine keep_far ?_ GW337.out _) | exact HK.out)⟩
  ·rw [if_neg c6] at H
   exact absurd H (by simp)
 ·rw [if_neg c5] at H
  exact absurd H (by simp)
def thermionkit_Mod.f (a0 : Int) (a1 : Int) : Option (Int) := if a1 < 1 then (some 0) else (if a1 = 0 then (none) else (if (Int.tmod a0 a1) < 0 then (some (wrap64 ((Int.tmod a0 a1) + a1))) else (some (Int.tmod a0 a1))))
theorem thermionkit_Mod.calls (a0 : Int) (a1 : Int) (r : Int) (w : World) (h : thermionkit_Mod.f a0 a1 = some r) :
  Calls Try.prog 28 #[.int .i64 a0, .int .i64 a1] w fun e w' => e = .returned (.int .i64 r) ∧ Drawn0 w w' := by
 have H : (if a1 < 1 then (some 0) else (if a1 = 0 then (none) else (if (Int.tmod a0 a1) < 0 then (some (wrap64 ((Int.tmod a0 a1) + a1))) else (some (Int.tmod a0 a1))))) = some r := h
 clear h
 by_cases c3 : a1 < 1
 ·rw [if_pos c3] at H
  have c3b0 := decide_eq_true c3
  clear c3
  obtain rfl := Option.some.inj H
  go_enter Try.func28, Try.ntmps28
  go_wp2
  go_ret
  exact ⟨by first | rfl | (simp; done) | (simp [*]; done), by repeat (first | exact Drawn0.refl _ | apply Drawn0.step)⟩
 ·rw [if_neg c3] at H
  have c3b0 := decide_eq_false c3
  clear c3
  by_cases c4 : a1 = 0
  ·rw [if_pos c4] at H
   exact absurd H (by simp)
  ·rw [if_neg c4] at H
   have c4b0 : (a1 == 0) = false := beq_eq_false_iff_ne.mpr c4
   have c4b1 : (a1 != 0) = true := bne_iff_ne.mpr c4
   by_cases c5 : (Int.tmod a0 a1) < 0
   ·rw [if_pos c5] at H
    have c5b0 := decide_eq_true c5
    clear c5
    obtain rfl := Option.some.inj H
    go_enter Try.func28, Try.ntmps28
    go_wp2
    go_ret
    exact ⟨by first | rfl | (simp; done) | (simp [*]; done), by repeat (first | exact Drawn0.refl _ | apply Drawn0.step)⟩
   ·rw [if_neg c5] at H
    have c5b0 := decide_eq_false c5
    clear c5
    obtain rfl := Option.some.inj H
    go_enter Try.func28, Try.ntmps28
    go_wp2
    go_ret
    exact ⟨by first | rfl | (simp; done) | (simp [*]; done), by repeat (first | exact Drawn0.refl _ | apply Drawn0.step)⟩
def thermionkit_Same.l0 : Nat → List Int → List Int → Int → Option (Bool)
 | 0, _, _, _ => none
 | k + 1, x0, x1, x5 => if x5 < (x0.length : Int) then (if 0 ≤ x5 then (if x5 < (x1.length : Int) then (if (rd x0 x5) = (rd x1 x5) then (thermionkit_Same.l0 k x0 x1 (wrap64 (x5 + 1))) else (some false)) else (none)) else (none)) else (some true)
def thermionkit_Same.f (k : Nat) (l0 : List Int) (l1 : List Int) : Option (Bool) := if (l0.length : Int) = (l1.length : Int) then (thermionkit_Same.l0 k l0 l1 0) else (some false)
theorem thermionkit_Same.calls (k : Nat) (A0 : Option Addr) (c0 : Nat) (l0 : List Int) (A1 : Option Addr) (c1 : Nat) (l1 : List Int) (r : Bool) (w : World) (hr0 : Kd.C (Kd.int .i64) w A0 l0.length l0) (hc0 : l0.length ≤ c0) (hr1 : Kd.C (Kd.int .i64) w A1 l1.length l1) (hc1 : l1.length ≤ c1) (h : thermionkit_Same.f k l0 l1 = some r) :
  Calls Try.prog 43 #[.slice A0 l0.length c0, .slice A1 l1.length c1] w fun e w' => e = .returned (.bool r) ∧ Drawn0 w w' := by
 have HR0 := Aside0.mk hr0
 have HC0 := Aside0.mk hc0
 clear hr0 hc0
 have HR1 := Aside0.mk hr1
 have HC1 := Aside0.mk hc1
 clear hr1 hc1
 have H : (if (l0.length : Int) = (l1.length : Int) then (thermionkit_Same.l0 k l0 l1 0) else (some false)) = some r := h
 clear h
 by_cases c3 : (l0.length : Int) = (l1.length : Int)
 ·rw [if_pos c3] at H
  have c3b0 : ((l0.length : Int) == (l1.length : Int)) = true := beq_iff_eq.mpr c3
  have c3b1 : ((l0.length : Int) != (l1.length : Int)) = false := bne_eq_false_iff_eq.mpr c3
  have c3b2 : (l0.length == l1.length) = true := by first | simpa using c3 | (simp at c3 ⊢; omega)
  clear c3
  have H' := Aside0.mk H
  clear H
  go_enter Try.func43, Try.ntmps43
  go_wp2
  repeat (go_quiet (fail); try go_wp2)
  go_loopg [5] k (fun kq v5 w' => ∃ (x5_1 : Int), v5 = .int .i64 x5_1 ∧ Aside0 (thermionkit_Same.l0 kq l0 l1 x5_1 = some r) ∧ Aside0 (kq ≤ k) ∧ Drawn0 w w')
  case atStart => exact ⟨(0), (by first | rfl | (simp; done) | (simp [*]; done)), H', ⟨Nat.le_refl _⟩, by repeat (first | exact Drawn0.refl _ | apply Drawn0.step)⟩
  case round =>
   clear H'
   try clear c1
   try clear c3
   try clear c3b0
   try clear c3b1
   try clear c3b2
   obtain ⟨x5_1, rfl, HA, HK1, ⟨m1, rfl⟩⟩ := hrel
   cases gk with
   | zero => exact absurd HA.out (by simp [thermionkit_Same.l0])
   | succ k1 =>
    have H := HA.out
    clear HA
    simp only [thermionkit_Same.l0] at H
    by_cases c4 : x5_1 < (l0.length : Int)
    ·rw [if_pos c4] at H
     have c4b0 := decide_eq_true c4
     clear c4
     by_cases c5 : 0 ≤ x5_1
     ·rw [if_pos c5] at H
      have c5b0 := decide_eq_true c5
      clear c5
      by_cases c6 : x5_1 < (l1.length : Int)
      ·rw [if_pos c6] at H
       have c6b0 := decide_eq_true c6
       clear c6
       by_cases c7 : (rd l0 x5_1) = (rd l1 x5_1)
       ·rw [if_pos c7] at H
        have c7b0 : ((rd l0 x5_1) == (rd l1 x5_1)) = true := beq_iff_eq.mpr c7
        have c7b1 : ((rd l0 x5_1) != (rd l1 x5_1)) = false := bne_eq_false_iff_eq.mpr c7
        clear c7
        have H' := Aside0.mk H
        clear H
        have p117 : 0 ≤ (x5_1 : Int) := of_decide_eq_true (by first | (with_reducible assumption) | assumption)
        have q117 : x5_1 < (l0.length : Int) := of_decide_eq_true (by first | (with_reducible assumption) | assumption)
        obtain ⟨ad117, e117, hx117_0⟩ := Kd.at_int HR0.out x5_1 p117 q117
        cases e117
        replace p117 := eq_true p117
        replace q117 := eq_true q117
        have p118 : 0 ≤ (x5_1 : Int) := of_decide_eq_true (by first | (with_reducible assumption) | assumption)
        have q118 : x5_1 < (l1.length : Int) := of_decide_eq_true (by first | (with_reducible assumption) | assumption)
        obtain ⟨ad118, e118, hx118_0⟩ := Kd.at_int HR1.out x5_1 p118 q118
        cases e118
        replace p118 := eq_true p118
        replace q118 := eq_true q118
        go_wp2
        repeat (go_quiet (fail); try go_wp2)
        go_roundg k1
        case measure => have := HK1.out; omega
        case rel => exact ⟨(wrap64 (x5_1 + 1)), (by first | rfl | (simp; done) | (simp [*]; done)), H', ⟨by have := HK1.out; omega⟩, by repeat (first | exact Drawn0.refl _ | apply Drawn0.step)⟩
       ·rw [if_neg c7] at H
        have c7b0 : ((rd l0 x5_1) == (rd l1 x5_1)) = false := beq_eq_false_iff_ne.mpr c7
        have c7b1 : ((rd l0 x5_1) != (rd l1 x5_1)) = true := bne_iff_ne.mpr c7
        obtain rfl := Option.some.inj H
        have p117 : 0 ≤ (x5_1 : Int) := of_decide_eq_true (by first | (with_reducible assumption) | assumption)
        have q117 : x5_1 < (l0.length : Int) := of_decide_eq_true (by first | (with_reducible assumption) | assumption)
        obtain ⟨ad117, e117, hx117_0⟩ := Kd.at_int HR0.out x5_1 p117 q117
        cases e117
        replace p117 := eq_true p117
        replace q117 := eq_true q117
        have p118 : 0 ≤ (x5_1 : Int) := of_decide_eq_true (by first | (with_reducible assumption) | assumption)
        have q118 : x5_1 < (l1.length : Int) := of_decide_eq_true (by first | (with_reducible assumption) | assumption)
        obtain ⟨ad118, e118, hx118_0⟩ := Kd.at_int HR1.out x5_1 p118 q118
        cases e118
        replace p118 := eq_true p118
        replace q118 := eq_true q118
        go_wp2
        repeat (go_quiet (fail); try go_wp2)
        go_ret
        exact ⟨by first | rfl | (simp; done) | (simp [*]; done), by repeat (first | exact Drawn0.refl _ | apply Drawn0.step)⟩
      ·rw [if_neg c6] at H
       exact absurd H (by simp)
     ·rw [if_neg c5] at H
      exact absurd H (by simp)
    ·rw [if_neg c4] at H
     have c4b0 := decide_eq_false c4
     clear c4
     obtain rfl := Option.some.inj H
     go_wp2
     repeat (go_quiet (fail); try go_wp2)
     go_ret
     exact ⟨by first | rfl | (simp; done) | (simp [*]; done), by repeat (first | exact Drawn0.refl _ | apply Drawn0.step)⟩
 ·rw [if_neg c3] at H
  have c3b0 : ((l0.length : Int) == (l1.length : Int)) = false := beq_eq_false_iff_ne.mpr c3
  have c3b1 : ((l0.length : Int) != (l1.length : Int)) = true := bne_iff_ne.mpr c3
  have c3b2 : (l0.length == l1.length) = false := by first | simpa using c3 | (simp at c3 ⊢; omega)
  obtain rfl := Option.some.inj H
  go_enter Try.func43, Try.ntmps43
  go_wp2
  repeat (go_quiet (fail); try go_wp2)
  go_ret
  exact ⟨by first | rfl | (simp; done) | (simp [*]; done), by repeat (first | exact Drawn0.refl _ | apply Drawn0.step)⟩

theorem mx_max (x y : Int) : mx x y = max x y := by unfold mx; split <;> omega
theorem greatest_go (W H : Int) (R : Bool) (C : List Int) (hl : C.length ≤ 1000000) : ∀ (d i : Nat) (x : Int), i + d = C.length → thermionkit_Greatest.l0 (d + 1) x (i : Int) W H R C = some ((C.drop i).foldl max x)
  | 0, i, x, hi => by
    rw [thermionkit_Greatest.l0, if_neg (by omega), List.drop_eq_nil_of_le (by omega)]
    rfl
  | d + 1, i, x, hi => by
    have hil : i < C.length := by omega
    have hw : wrap64 ((i : Int) + 1) = ((i + 1 : Nat) : Int) := by rw [IntWalk.wrap64_in _ (by omega)]; omega
    rw [thermionkit_Greatest.l0, if_pos (by omega), if_pos (by omega), hw, greatest_go W H R C hl d (i + 1) _ (by omega), List.drop_eq_getElem_cons hil, List.foldl_cons, mx_max, rd_natc C i hil]
theorem foldl_max_zero {C : List Int} (h : ∀ e, e ∈ C → 0 ≤ e) (hne : C ≠ []) : C.foldl max 0 = maxOf C := by
  cases C with
  | nil => exact absurd rfl hne
  | cons x l =>
    rw [List.foldl_cons]
    have := h x List.mem_cons_self
    rw [show max 0 x = x by omega]
    rfl
theorem greatest_eq (W H : Int) (R : Bool) {C : List Int} (hl : C.length ≤ 1000000) (h : ∀ e, e ∈ C → 0 ≤ e) (hne : C ≠ []) : thermionkit_Greatest.f (C.length + 1) W H R C = some (maxOf C) := by
  have h1 := greatest_go W H R C hl C.length 0 0 (by omega)
  rw [List.drop_zero, foldl_max_zero h hne] at h1
  exact h1
def OkV (x : List Int) : Prop := ∀ v, v ∈ x → -1000000 ≤ v ∧ v ≤ 1000000
theorem obind {α β : Type} {o : Option α} {a : α} {f : α → Option β} (h : o = some a) : o.bind f = f a := by rw [h]; rfl
theorem volts_step (d i : Nat) (x : List Int) (s r1 s1 r2 s2 r3 s3 : Int) (L : List Int) (hL : ([0, r1, r2, 1000000] : List Int) = L) (hLl : (L.length : Int) = 4) (c1 : 0 ≤ r3) (c2 : r3 < 4) (h : i < x.length) 
   (h1 : thermionkit_Dice_Between.f s (-100) 100 = some (r1, s1)) (h2 : thermionkit_Dice_Between.f s1 (-1000000) 1000000 = some (r2, s2)) (h3 : thermionkit_Dice_Upto.f s2 4 = some (r3, s3)) (hw : wrap64 ((i : Int) + 1) = ((i + 1 : Nat) : Int)) :
   thermionkit_VoltsOf.l0 (d + 1) x (i : Int) s = thermionkit_VoltsOf.l0 d (x.set i (rd L r3)) ((i + 1 : Nat) : Int) s3 := by
    rw [thermionkit_VoltsOf.l0, if_pos (by omega), obind h1, obind h2, obind (show some _ = some L by rw [hL]), obind h3]
    rw [if_pos c1, if_pos (by omega), if_pos (by omega), Int.toNat_natCast, hw]
theorem volts_go : ∀ (d i : Nat) (x : List Int) (s : Int), i + d = x.length → x.length ≤ 100 → OkV x → ∃ x' s', thermionkit_VoltsOf.l0 (d + 1) x (i : Int) s = some (x', s') ∧ x'.length = x.length ∧ OkV x' := by
  intro d
  induction d with
  | zero =>
    intro i x s hi hl hx
    refine ⟨x, s, ?_, rfl, hx⟩
    rw [thermionkit_VoltsOf.l0, if_neg (by omega)]
  | succ d ih =>
    intro i x s hi hl hx
    have hw : wrap64 ((i : Int) + 1) = ((i + 1 : Nat) : Int) := by rw [IntWalk.wrap64_in _ (by omega)]; omega
    obtain ⟨r1, h1, a1, a2⟩ := between_eq s (-100) 100 (by omega) (by omega) (by omega)
    obtain ⟨s1, e1⟩ : ∃ s1, nextWord s = s1 := ⟨_, rfl⟩
    rw [e1] at h1
    obtain ⟨r2, h2, b1, b2⟩ := between_eq s1 (-1000000) 1000000 (by omega) (by omega) (by omega)
    obtain ⟨s2, e2⟩ : ∃ s2, nextWord s1 = s2 := ⟨_, rfl⟩
    rw [e2] at h2
    obtain ⟨r3, h3, c1, c2⟩ := upto_eq s2 4 (by omega) (by omega)
    obtain ⟨s3, e3⟩ : ∃ s3, nextWord s2 = s3 := ⟨_, rfl⟩
    rw [e3] at h3
    clear e1 e2 e3
    obtain ⟨L, hL⟩ : ∃ L : List Int, ([0, r1, r2, 1000000] : List Int) = L := ⟨_, rfl⟩
    have hLl : (L.length : Int) = 4 := by rw [← hL]; rfl
    have hv : -1000000 ≤ rd L r3 ∧ rd L r3 ≤ 1000000 := by
      rw [← hL]
      rcases (show r3 = 0 ∨ r3 = 1 ∨ r3 = 2 ∨ r3 = 3 by omega) with rfl | rfl | rfl | rfl
      · exact ⟨by show (-1000000 : Int) ≤ 0; omega, by show (0 : Int) ≤ 1000000; omega⟩
      · exact ⟨by show -1000000 ≤ r1; omega, by show r1 ≤ 1000000; omega⟩
      · exact ⟨b1, b2⟩
      · exact ⟨by show (-1000000 : Int) ≤ 1000000; omega, by show (1000000 : Int) ≤ 1000000; omega⟩
    obtain ⟨x', s', e, e1, e2⟩ := ih (i + 1) (x.set i (rd L r3)) s3 (by rw [List.length_set]; omega) (by rw [List.length_set]; exact hl) (fun v hv' => by
      rcases mem_set hv' with rfl | hv'
      · exact hv
      · exact hx v hv')
    refine ⟨x', s', ?_, by rw [e1, List.length_set], e2⟩
    rw [volts_step (d + 1) i x s r1 s1 r2 s2 r3 s3 L hL hLl c1 c2 (by omega) h1 h2 h3 hw]
    exact e
theorem volts_fine {s W H : Int} {R : Bool} {C : List Int} (hC : checkErr W H R C = 0) (h3 : ∀ e, e ∈ C → 0 ≤ e ∧ e ≤ 3) (hl : C.length ≤ 256) : ∃ k volts s', (∀ k', k ≤ k' → thermionkit_VoltsOf.f k' s W H R C = some (volts, s')) ∧ voltErr W H R C volts = 0 ∧ volts.length ≤ 3 := by
  have hne := check_ne hC
  have hmx := h3 _ (maxOf_mem hne)
  obtain ⟨m, hm⟩ : ∃ m : Nat, maxOf C = m := ⟨(maxOf C).toNat, by omega⟩
  obtain ⟨volts, s', e, e1, e2⟩ := volts_go m 0 (List.replicate m 0) s (by simp) (by rw [List.length_replicate]; omega) (fun v hv => by
    have := List.eq_of_mem_replicate hv
    subst this
    omega)
  rw [List.length_replicate] at e1
  have hg := greatest_eq W H R (C := C) (by omega) (fun x hx => (h3 x hx).1) hne
  have hf : thermionkit_VoltsOf.f (C.length + 100) s W H R C = some (volts, s') := by
    unfold thermionkit_VoltsOf.f
    rw [obind (at_rounds (fun k => thermionkit_Greatest.mono W H R C k) (show C.length + 1 ≤ C.length + 100 by omega) hg)]
    have hmn : mn 8 (maxOf C) = (m : Int) := by rw [hm]; unfold mn; split <;> omega
    rw [hmn, if_pos (by omega), Int.toNat_natCast, if_pos (by omega)]
    exact at_rounds (g := fun k => thermionkit_VoltsOf.l0 k (List.replicate m 0) 0 s) (fun k => thermionkit_VoltsOf.mono_l k _ _ _) (show m + 1 ≤ C.length + 100 by omega) e
  refine ⟨C.length + 100, volts, s', fun k' hk => at_rounds (fun k => thermionkit_VoltsOf.mono s W H R C k) hk hf, ?_, by omega⟩
  unfold voltErr
  rw [if_neg (by rw [hC]; simp), if_neg (by rw [e1, hm]; simp), if_neg (by
    rintro ⟨v, hv, hb⟩
    have := e2 v hv
    omega)]
theorem eqA42 (d : Nat) (w : World) (x0 y0 : Int) (x1 y1 : Int) :
  (Op.equalIn (d + 2) 42 (.agg #[.int .i64 x0, .int .i64 x1]) (.agg #[.int .i64 y0, .int .i64 y1])).run Try.prog w = .ok (x0 == y0 && (x1 == y1)) w := by
 refine eqA_of Try.underlying42 (by kernel_rfl) ?_
 refine eqf_cons (by rfl) (by go_simp; rfl) (by go_simp; rfl) (by go_simp) ?_
 exact eqf_last (by rfl) (by go_simp; rfl) (by go_simp; rfl) (by go_simp)
def thermionlaw01_line.f  : Option (Int × Int × Bool × List Int) := some (5, 1, false, (([1, 0, 0, 0, 2] : List Int)))
theorem thermionlaw01_line.calls  (r1 : Int) (r2 : Int) (r3 : Bool) (r4 : List Int) (w : World) (h : thermionlaw01_line.f  = some (r1, r2, r3, r4)) :
  Calls Try.prog 62 #[] w fun e w' => ∃ v3_ : Value, e = .returned (.agg #[.int .i64 r1, .int .i64 r2, .bool r3, v3_]) ∧ Kd.R (Kd.int .i64) 3 w' w.heap.size (fun _ => True) v3_ r4 ∧ Below w.heap.size w w' := by
 have hu24 := Try.underlying24
 have HB := Aside0.mk (Below.refl w.heap.size w)
 have H : (some (5, 1, false, (([1, 0, 0, 0, 2] : List Int)))) = some (r1, r2, r3, r4) := h
 clear h
 obtain ⟨y120, hy120⟩ : ∃ y_ : List Int, y_ = (([1, 0, 0, 0, 2] : List Int)) := ⟨_, rfl⟩
 replace H : (some (5, 1, false, y120)) = some (r1, r2, r3, r4) := by first | (rw [hy120]; with_reducible exact H) | (have H2_ := (Option.bind_some _ _).symm.trans H; rw [hy120]; with_reducible exact H2_) | (have H2_ := (Option.bind_some _ _).symm.trans H; with_reducible exact H2_) | with_reducible exact H | (rw [hy120]; exact H) | exact H
 have Ny120 := Aside0.mk hy120
 clear hy120
 simp only [Option.some.injEq, Prod.mk.injEq] at H
 obtain ⟨rfl, rfl, rfl, rfl⟩ := H
 go_enter Try.func62, Try.ntmps62
 go_wp2_with (first | ((with_reducible refine gate_dst (N := 0) rfl ?_); refine box_event ?hg (N := 0) ?hd (cs := #[.int .i64 0, .int .i64 0, .bool false, .slice none 0 0]) (t := 24) ?hr ?_; (case hd => rfl); (case hg => rfl); (case hr => first | (go_simp; done) | (go_simp; rfl)); intro gb119 hg w1 hbox hb; have n0_ := Aside0.mk (below_step (by repeat (first | (with_reducible first | exact HB.out | apply below_alloc | apply pw_below_drewN | apply below_drew1) | exact HB.out)) hb); have n1_ := Aside0.mk (hbox); have n2_ := Aside0.mk ((by rw [hg]; exact (below_size (by repeat (first | (with_reducible first | exact HB.out | apply below_alloc | apply pw_below_drewN | apply below_drew1) | exact HB.out))) : w.heap.size ≤ gb119)); have n3_ := Aside0.mk ((by rw [hg]; exact (below_size (by repeat (first | (with_reducible first | exact HB.out | apply below_alloc | apply pw_below_drewN | apply below_drew1) | exact HB.out))) : w.heap.size ≤ gb119)); clear HB; have HB := n0_; have BK119 := n1_; have GW119 := n2_; have GE119 := n3_; clear n0_ n1_ n2_ n3_; clear hb hbox hg) | ((with_reducible refine gate_dst (N := 1) rfl ?_); refine Kd.R_lit (Kd.int .i64) _ 3 ?hg (N := 1) ?hd (xs := ([1, 0, 0, 0, 2] : List Int)) (inner := [.int .i64 1, .int .i64 0, .int .i64 0, .int .i64 0, .int .i64 2]) (ok := fun _ => True) (okp := fun _ => True) ?hr ?hp (fun _ hk => hk) trivial (Below.refl _ _) (Nat.le_refl _) (by simp) ?_; (case hd => rfl); (case hg => rfl); (case hr => first | (go_simp; done) | (go_simp; rfl)); (case hp => exact (Reps.one (show Kd.M (Kd.int .i64) _ _ _ 1 [.int .i64 1] from rfl) (Reps.one (show Kd.M (Kd.int .i64) _ _ _ 0 [.int .i64 0] from rfl) (Reps.one (show Kd.M (Kd.int .i64) _ _ _ 0 [.int .i64 0] from rfl) (Reps.one (show Kd.M (Kd.int .i64) _ _ _ 0 [.int .i64 0] from rfl) (Reps.one (show Kd.M (Kd.int .i64) _ _ _ 2 [.int .i64 2] from rfl) (Reps.none _ _))))))); intro v121 w2 ho3 hb hg_ hnew_; clear hg_ hnew_; (first | rw [← Ny120.out] at ho3 | (simp only [Int.reduceToNat] at ho3; rw [← Ny120.out] at ho3)); have n0_ := Aside0.mk (Kd.R_lower ho3 (below_size (by repeat (first | (with_reducible first | exact HB.out | apply below_alloc | apply pw_below_drewN | apply below_drew1 | refine below_set ?_ GE119.out) | exact HB.out)))); have n1_ := Aside0.mk (blk_below (g := gb119) (o := .cells #[.int .i64 0, .int .i64 0, .bool false, .slice none 0 0] 24 (0, 0)) (by (with_reducible repeat (first | refine blk_drewN ?_ _ | refine blk_drew ?_ | refine blk_alloc ?_ _)); exact BK119.out) hb); have n2_ := Aside0.mk (below_step (by repeat (first | (with_reducible first | exact HB.out | apply below_alloc | apply pw_below_drewN | apply below_drew1 | refine below_set ?_ GE119.out) | exact HB.out)) hb); clear BK119; clear HB; have HO122 := n0_; have BK119 := n1_; have HB := n2_; clear n0_ n1_ n2_; clear hb ho3; obtain ⟨Ao4, co4, eo4⟩ := Kd.R_slice HO122.out; subst eo4; have hcz5_0 : w2.cell? ⟨gb119, 0, none⟩ = some (.int .i64 0) := (blk_cell BK119.out 0).trans rfl; have hcz5_1 : w2.cell? ⟨gb119, 1, none⟩ = some (.int .i64 0) := (blk_cell BK119.out 1).trans rfl; have hcz5_2 : w2.cell? ⟨gb119, 2, none⟩ = some (.bool false) := (blk_cell BK119.out 2).trans rfl; have hcz5_3 : w2.cell? ⟨gb119, 3, none⟩ = some (.slice none 0 0) := (blk_cell BK119.out 3).trans rfl; have hfz5_0 := blk_frozen BK119.out 0; have hfz5_1 := blk_frozen BK119.out 1; have hfz5_2 := blk_frozen BK119.out 2; have hfz5_3 := blk_frozen BK119.out 3))
 refine bodyPost_ret (results_cell_row rfl _ _ gb119 24 #[.int .i64 5, .int .i64 1, .bool false, .slice Ao4 y120.length co4] (0, 0) _ rfl (by (with_reducible repeat (first | refine blk_drewN ?_ _ | refine blk_drew ?_ | refine blk_alloc ?_ _)); refine blk_put (cs := #[.int .i64 5, .int .i64 1, .bool false, .slice none 0 0]) ?_ 3 _ rfl; (with_reducible repeat (first | refine blk_drewN ?_ _ | refine blk_drew ?_ | refine blk_alloc ?_ _)); refine blk_put (cs := #[.int .i64 5, .int .i64 1, .bool false, .slice none 0 0]) ?_ 2 _ rfl; (with_reducible repeat (first | refine blk_drewN ?_ _ | refine blk_drew ?_ | refine blk_alloc ?_ _)); refine blk_put (cs := #[.int .i64 5, .int .i64 0, .bool false, .slice none 0 0]) ?_ 1 _ rfl; (with_reducible repeat (first | refine blk_drewN ?_ _ | refine blk_drew ?_ | refine blk_alloc ?_ _)); refine blk_put (cs := #[.int .i64 0, .int .i64 0, .bool false, .slice none 0 0]) ?_ 0 _ rfl; (with_reducible repeat (first | refine blk_drewN ?_ _ | refine blk_drew ?_ | refine blk_alloc ?_ _)); exact BK119.out) Try.underlying24 rfl (by kernel_rfl)) rfl ?_
 exact ⟨_, by first | rfl | (simp [errW_none, errW_some] <;> rfl) | (simp [*, errW_none, errW_some] <;> rfl), by (with_reducible repeat (first | apply Kd.R_alloc | apply Kd.R_drewN | apply Kd.R_drew)); exact Kd.R_mono (Kd.R_far (p := ⟨gb119, 3, none⟩) (Kd.R_far (p := ⟨gb119, 2, none⟩) (Kd.R_far (p := ⟨gb119, 1, none⟩) (Kd.R_far (p := ⟨gb119, 0, none⟩) (Kd.R_types HO122.out BK119.out (by decide)) (fun _ hk => hk.2) (.int .i64 5)) (fun _ hk => hk.2) (.int .i64 1)) (fun _ hk => hk.2) (.bool false)) (fun _ hk => hk.2) (.slice Ao4 y120.length co4)) (fun _ hk => trivial), by repeat (first | (with_reducible first | exact HB.out | apply below_alloc | apply pw_below_drewN | apply below_drew1 | refine below_set ?_ GE119.out) | exact HB.out)⟩
def thermionlaw01_ring.f : Option (Int × Int × Bool × List Int) := (thermionlaw01_line.f).bind fun bt124 => (some (bt124.1, bt124.2.1, true, bt124.2.2.2))
theorem thermionlaw01_ring.calls (r1 : Int) (r2 : Int) (r3 : Bool) (r4 : List Int) (w : World) (h : thermionlaw01_ring.f = some (r1, r2, r3, r4)) :
 Calls Try.prog 64 #[] w fun e w' => ∃ v3_ : Value, e = .returned (.agg #[.int .i64 r1, .int .i64 r2, .bool r3, v3_]) ∧ Kd.R (Kd.int .i64) 3 w' w.heap.size (fun _ => True) v3_ r4 ∧ Below w.heap.size w w' := by
 have HM := Aside0.mk (Mem.start w)
 have hu24 := Try.underlying24
 obtain ⟨⟨t1, t2, t3, t4⟩, hl, hh⟩ := Option.bind_eq_some_iff.1 h
 simp only [Option.some.injEq, Prod.mk.injEq] at hh
 obtain ⟨rfl, rfl, rfl, rfl⟩ := hh
 have HL := Aside0.mk hl
 clear h hl
 have HCL : Aside0 (∀ V : World, Calls Try.prog 62 #[] V fun e w' => ∃ v3_ : Value, e = .returned (.agg #[.int .i64 t1, .int .i64 t2, .bool t3, v3_]) ∧ Kd.R (Kd.int .i64) 3 w' V.heap.size (fun _ => True) v3_ t4 ∧ Below V.heap.size V w') := ⟨fun V => thermionlaw01_line.calls t1 t2 t3 t4 V HL.out⟩
 clear HL
 go_enter Try.func64, Try.ntmps64
 go_upto_region 3 with (first
  | ((with_reducible refine gate_dst (N := 0) rfl ?_); refine ev_new HM.out rfl 24 rfl info24 ?_; intro g0 w1 hm1 hq1; clear hq1; have HM1 := Aside0.mk hm1; clear hm1 HM)
  | (go_at_call 62; refine (HCL.out _).mono ?_; rintro e w2 ⟨v3, rfl, hv, hb⟩; obtain ⟨A7, c7, rfl⟩ := Kd.R_slice hv; have HV := Aside0.mk (Kd.R_lower hv HM1.out.below.size); have HM2 := Aside0.mk (HM1.out.step hb); clear hv hb HM1)
  | ((with_reducible refine gate_dst (N := 1) rfl ?_); refine ev_new HM2.out rfl 24 rfl info24 ?_; intro g1 w3 hm3 hq3; have HV2 := Aside0.mk (Kd.R_below HV.out hq3); clear hq3 HV; have HM3 := Aside0.mk hm3; clear hm3 HM2)
  | ((with_reducible refine gate_store (t := 24) (p := 1) rfl ?_); refine ev_storeB HM3.out.head rfl 24 (.tmp 1) (.tmp 2) rfl rfl (cs := #[.int .i64 t1, .int .i64 t2, .bool t3, .slice A7 t4.length c7]) rfl size24 rfl rfl (by simp [Value.oneCell']) ?_; have HM4 := Aside0.mk (HM3.out.row #[.int .i64 t1, .int .i64 t2, .bool t3, .slice A7 t4.length c7]); have HV3 := Aside0.mk (Kd.R_mono (Kd.R_step (Kd.R_types HV2.out HM3.out.head (by decide)) (w1 := w3.setRow g1 #[.int .i64 t1, .int .i64 t2, .bool t3, .slice A7 t4.length c7]) (fun k hk _ => setRow_other _ _ _ _ hk.2)) (fun _ hk => hk.1)); clear HM3 HV2; generalize w3.setRow g1 _ = w4 at HM4 HV3 ⊢; have c2 : w4.cell? ⟨g1, 2, none⟩ = some (.bool t3) := (HM4.out.cell 2).trans rfl; have f2 := HM4.out.frozen 2))
 have HM5 := Aside0.mk (HM4.out.put 2 (.bool true) (cs' := #[.int .i64 t1, .int .i64 t2, .bool true, .slice A7 t4.length c7]) rfl)
 have HV4 := Aside0.mk (Kd.R_set HV3.out HM4.out.head (by decide) 2 (.bool true))
 clear HM4 HV3 c2 f2
 generalize w4.setCell ⟨g1, 2, none⟩ (.bool true) = w5 at HM5 HV4 ⊢
 go_wp2_with (first
  | ((with_reducible refine gate_dst (N := 4) rfl ?_); refine ev_load HM5.out.head rfl 24 (.tmp 1) rfl rfl _ Try.underlying24 rfl size24 rfl ?_)
  | ((with_reducible refine gate_store (t := 24) (p := 0) rfl ?_); refine ev_storeB HM5.out.second rfl 24 (.tmp 0) (.tmp 4) rfl rfl rfl size24 rfl rfl (by simp [Value.oneCell']) ?_))
 (try simp only [Exit.inBlock, Exit.then])
 refine bodyPost_ret (results_cell_row rfl _ _ g0 24 _ (0, 0) _ rfl (setRow_heap _ _ _ _ _ _ HM5.out.second) hu24 rfl (by rw [size24]; rfl)) rfl ⟨_, rfl, Kd.R_mono (Kd.R_step (Kd.R_types HV4.out HM5.out.second (by decide)) (fun k hk _ => setRow_other _ _ _ _ hk.2)) (fun _ _ => trivial), ?_⟩
 have hb := HM5.out.below
 exact ⟨hb.os, hb.tape, hb.output, by rw [size_setRow]; exact hb.size, fun i hi => by rw [setRow_other _ g0 i _ (by have := HM5.out.drop.geh; omega)]; exact hb.block i hi⟩
end Go.Proofs.Ytndkkjpgnmahbaa.Print
end

section
namespace Go.Proofs.Ytndkkjpgnmahbaa.Print
open Go.RowKit YtndkkjpgnmahbaaW.PrintWords YtndkkjpgnmahbaaW.PrintLast YtndkkjpgnmahbaaW.PrintMore Ytndkkjpgnmahbaa.H Proofs.Field
attribute [local go_sem high] eqA42
def thermionlaw01_awake.f (k : Nat) : Option (Bool) := some true
theorem awake_solve : field_Solve.f 5 1 false ([1, 0, 0, 0, 2] : List Int) ([0, 100] : List Int) 1 = some (([0, 0, 0, 50, 100] : List Int), ([0, 50, 75, 88, 100] : List Int), 1, false, 0) := by kernel_rfl
theorem awake_charge : field_Charge.f 5 1 false ([1, 0, 0, 0, 2] : List Int) ([0, 100] : List Int) 1 2 = some (12, 50, 0) := by kernel_rfl
theorem awake_weight : field_Weight.f 5 1 true ([1, 0, 0, 0, 2] : List Int) 3 4 = some 8 := by kernel_rfl
theorem awake_same1 : thermionkit_Same.f 10 ([0, 0, 0, 50, 100] : List Int) ([0, 0, 0, 50, 100] : List Int) = some true := by kernel_rfl
theorem awake_same2 : thermionkit_Same.f 10 ([0, 50, 75, 88, 100] : List Int) ([0, 50, 75, 88, 100] : List Int) = some true := by kernel_rfl
theorem thermionlaw01_awake.calls (k : Nat)  (r : Bool) (w : World) (h : thermionlaw01_awake.f k  = some r) :
 Calls Try.prog 20 #[] w fun e w' => e = .returned (.bool r) ∧ Below w.heap.size w w' := by
 obtain rfl : true = r := Option.some.inj h
 have HM := Aside0.mk (Mem.start w)
 have hu24 := Try.underlying24
 have hu22 := Try.underlying22
 have hu33 := Try.underlying33
 have hu42 := Try.underlying42
 clear h
 go_enter Try.func20, Try.ntmps20
 go_wp2_with (first
  | (go_at_call 62; refine (thermionlaw01_line.calls 5 1 false ([1, 0, 0, 0, 2] : List Int) _ rfl).mono ?_; rintro e1 w1 ⟨v0, rfl, hR, hb⟩; obtain ⟨ga, cga, cuga, rfl, hc1, hn1, hm1⟩ := one_mem HM.out hb hR (by decide); have HNga := Aside0.mk (And.intro hn1 hc1); have HM1 := Aside0.mk hm1; clear hR hb hc1 hn1 hm1 HM)
  | ((with_reducible refine gate_dst (N := 7) rfl ?_); refine ev_lit HM1.out rfl [.int .i64 0, .int .i64 100] 2 3 ?hrl ?_; (case hrl => first | (go_simp; done) | (go_simp; rfl)); intro gb w2 hm1 hq1; have HM2 := Aside0.mk hm1; clear hm1 hq1 HM1)
  | (go_at_call 25; refine (field_Solve.calls 5 1 false (some ⟨ga, 0, none⟩) cga ([1, 0, 0, 0, 2] : List Int) (some ⟨gb, 0, none⟩) 2 ([0, 100] : List Int) 1 ([0, 0, 0, 50, 100] : List Int) ([0, 50, 75, 88, 100] : List Int) 1 false 0 _ (C_mem (HM2.out.second) HNga.out.1) HNga.out.2 (C_mem (HM2.out.head) (isnums_map [0, 100] (by decide))) (by decide) awake_solve).mono ?_; rintro e1 w3 ⟨v0, v1, rfl, hR1, hR2, hb⟩; obtain ⟨g1, c1, cu1, g2, c2, cu2, rfl, rfl, hc1, hc2, hn1, hn2, hm1⟩ := two_mem HM2.out hb hR1 hR2 (by decide) (by decide); have HNS := Aside0.mk (And.intro (And.intro hn1 hc1) (And.intro hn2 hc2)); have HM3 := Aside0.mk hm1; clear hR1 hR2 hb hc1 hc2 hn1 hn2 hm1 HNga HM2)
  | ((with_reducible refine gate_dst (N := 1) rfl ?_); refine ev_new HM3.out rfl 33 rfl info33 ?_; intro gf w4 hm1 hq1; have HM4 := Aside0.mk hm1; clear hm1 hq1 HM3)
  | ((with_reducible refine gate_store (t := 33) (p := 1) rfl ?_); refine ev_store HM4.out rfl 33 (.tmp 1) (.tmp 9) rfl rfl (cs := #[.slice (some ⟨g1, 0, none⟩) 5 c1, .slice (some ⟨g2, 0, none⟩) 5 c2, .int .i64 1, .bool false]) rfl size33 rfl rfl (by simp [Value.oneCell']) ?_; intro w5 hm1 hq1; have HM5 := Aside0.mk hm1; clear hm1 hq1 HM4)
  | (go_at_call 62; refine (thermionlaw01_line.calls 5 1 false ([1, 0, 0, 0, 2] : List Int) _ rfl).mono ?_; rintro e1 w6 ⟨v0, rfl, hR, hb⟩; obtain ⟨gc, cgc, cugc, rfl, hc1, hn1, hm1⟩ := one_mem HM5.out hb hR (by decide); have HNgc := Aside0.mk (And.intro hn1 hc1); have HM6 := Aside0.mk hm1; clear hR hb hc1 hn1 hm1 HM5)
  | ((with_reducible refine gate_dst (N := 13) rfl ?_); refine ev_lit HM6.out rfl [.int .i64 0, .int .i64 100] 2 3 ?hrl ?_; (case hrl => first | (go_simp; done) | (go_simp; rfl)); intro gd w7 hm1 hq1; have HM7 := Aside0.mk hm1; clear hm1 hq1 HM6)
  | (go_at_call 30; refine (field_Charge.calls 5 1 false (some ⟨gc, 0, none⟩) cgc ([1, 0, 0, 0, 2] : List Int) (some ⟨gd, 0, none⟩) 2 ([0, 100] : List Int) 1 2 12 50 0 _ (C_mem (HM7.out.second) HNgc.out.1) HNgc.out.2 (C_mem (HM7.out.head) (isnums_map [0, 100] (by decide))) (by decide) awake_charge).mono ?_; rintro e8 w8 ⟨rfl, hb⟩; have HM8 := Aside0.mk (HM7.out.step hb); clear hb HM7 HNgc)
  | ((with_reducible refine gate_dst (N := 3) rfl ?_); refine ev_new HM8.out rfl 42 rfl info42 ?_; intro gr w9 hm1 hq1; have HM9 := Aside0.mk hm1; clear hm1 hq1 HM8)
  | ((with_reducible refine gate_store (t := 42) (p := 3) rfl ?_); refine ev_store HM9.out rfl 42 (.tmp 3) (.tmp 15) rfl rfl (cs := #[.int .i64 12, .int .i64 50]) rfl size42 rfl rfl (by simp [Value.oneCell']) ?_; intro w10 hm1 hq1; have HM10 := Aside0.mk hm1; clear hm1 hq1 HM9; have q0 := (blk_cell HM10.out.blk4 0).trans rfl; have q1 := (blk_cell HM10.out.blk4 1).trans rfl)
  | ((with_reducible refine gate_dst (N := 26) rfl ?_); (try (refine gate_guard (by rfl) ?_; dsimp only)); refine ev_lit HM10.out rfl [.int .i64 0, .int .i64 0, .int .i64 0, .int .i64 50, .int .i64 100] 5 3 ?hrl ?_; (case hrl => first | (go_simp; done) | (go_simp; rfl)); intro ge w11 hm1 hq1; have HM11 := Aside0.mk hm1; clear hm1 hq1 HM10 q0 q1)
  | (go_at_call 43; refine (thermionkit_Same.calls 10 (some ⟨g1, 0, none⟩) c1 ([0, 0, 0, 50, 100] : List Int) (some ⟨ge, 0, none⟩) 5 ([0, 0, 0, 50, 100] : List Int) true _ (C_mem (HM11.out.blk7) HNS.out.1.1) HNS.out.1.2 (C_mem (HM11.out.head) (isnums_map ([0, 0, 0, 50, 100] : List Int) (by decide))) (by decide) awake_same1).mono ?_; rintro e12 w12 ⟨rfl, hb⟩; have HM12 := Aside0.mk (HM11.out.step hb.below); clear hb HM11 ; have HNT := Aside0.mk HNS.out.2; clear HNS; have q1 := (blk_cell HM12.out.blk5 1).trans rfl)
  | ((with_reducible refine gate_dst (N := 32) rfl ?_); (try (refine gate_guard (by rfl) ?_; dsimp only)); refine ev_lit HM12.out rfl [.int .i64 0, .int .i64 50, .int .i64 75, .int .i64 88, .int .i64 100] 5 3 ?hrl ?_; (case hrl => first | (go_simp; done) | (go_simp; rfl)); intro gg w13 hm1 hq1; have HM13 := Aside0.mk hm1; clear hm1 hq1 HM12 q1)
  | (go_at_call 43; refine (thermionkit_Same.calls 10 (some ⟨g2, 0, none⟩) c2 ([0, 50, 75, 88, 100] : List Int) (some ⟨gg, 0, none⟩) 5 ([0, 50, 75, 88, 100] : List Int) true _ (C_mem (HM13.out.blk7) HNT.out.1) HNT.out.2 (C_mem (HM13.out.head) (isnums_map ([0, 50, 75, 88, 100] : List Int) (by decide))) (by decide) awake_same2).mono ?_; rintro e14 w14 ⟨rfl, hb⟩; have HM14 := Aside0.mk (HM13.out.step hb.below); clear hb HM13 ; clear HNT; have q0 := (blk_cell HM14.out.third 0).trans rfl; have q1 := (blk_cell HM14.out.third 1).trans rfl)
  | (go_at_call 64; refine (thermionlaw01_ring.calls 5 1 true ([1, 0, 0, 0, 2] : List Int) _ rfl).mono ?_; rintro e1 w15 ⟨v0, rfl, hR, hb⟩; obtain ⟨gh, ch, ch2, rfl, hc1, hn1, hm1⟩ := one_mem HM14.out hb hR (by decide); have HNh := Aside0.mk (And.intro hn1 hc1); have HM15 := Aside0.mk hm1; clear hR hb hc1 hn1 hm1 q0 q1 HM14)
  | (go_at_call 63; refine (field_Weight.calls 5 1 true (some ⟨gh, 0, none⟩) ch ([1, 0, 0, 0, 2] : List Int) 3 4 8 _ (C_mem (HM15.out.head) HNh.out.1) HNh.out.2 awake_weight).mono ?_; rintro e16 w16 ⟨rfl, hb⟩; have HM16 := Aside0.mk (HM15.out.step hb); clear hb HM15 ))
 go_ret
 exact ⟨rfl, HM16.out.below⟩
end Go.Proofs.Ytndkkjpgnmahbaa.Print
end

section
namespace Go.Proofs.Ytndkkjpgnmahbaa.Print
open Go.RowKit YtndkkjpgnmahbaaW.PrintWords YtndkkjpgnmahbaaW.PrintLast YtndkkjpgnmahbaaW.PrintMore Ytndkkjpgnmahbaa.H Proofs.Field
theorem awake_true : thermionlaw01_awake.f 10 = some true := by kernel_rfl
theorem mod_eq (a m : Int) (h1 : 1 ≤ m) (h2 : m ≤ 4611686018427387904) : ∃ r : Nat, thermionkit_Mod.f a m = some (r : Int) ∧ (r : Int) < m := by
 have hb : Int.tmod a m < m := Int.tmod_lt_of_pos a (by omega)
 have hl : -m < Int.tmod a m := by
  rcases Int.le_total 0 a with q | q
  ·have := Int.tmod_nonneg m q; omega
  ·have e : Int.tmod a m = - Int.tmod (-a) m := by rw [Int.neg_tmod]; omega
   have := Int.tmod_lt_of_pos (-a) (show 0 < m by omega)
   omega
 unfold thermionkit_Mod.f
 rw [if_neg (by omega), if_neg (by omega)]
 obtain ⟨t, ht⟩ : ∃ t, Int.tmod a m = t := ⟨_, rfl⟩
 rw [ht] at hb hl ⊢
 by_cases q : t < 0
 ·rw [if_pos q, IntWalk.wrap64_in _ (by omega)]
  exact ⟨(t + m).toNat, by rw [show ((t + m).toNat : Int) = t + m by omega], by omega⟩
 ·rw [if_neg q]
  exact ⟨t.toNat, by rw [show (t.toNat : Int) = t by omega], by omega⟩
theorem dealt_plan (s a1 a2 : Int) (h1 : 1 ≤ a1 ∧ a1 ≤ 16) (h2 : 1 ≤ a2 ∧ a2 ≤ 16) : ∃ (W H : Nat) (R : Bool) (C : List Int) (s1 : Int), thermionkit_PlanOf.f s a1 a2 = some ((W : Int), (H : Int), R, C, s1) ∧ 1 ≤ W ∧ (W : Int) ≤ a1 ∧ 1 ≤ H ∧ (H : Int) ≤ a2 ∧ C.length = W * H ∧ C.length ≤ 256 ∧ (∀ e, e ∈ C → 0 ≤ e ∧ e ≤ 3) ∧ checkErr W H R C = 0 := by
 have h : ∃ W H R C r, thermionkit_PlanOf.f s a1 a2 = some (W, H, R, C, r) := by
  unfold thermionkit_PlanOf.f
  rw [if_pos ⟨h1.1, h1.2, h2.1, h2.2⟩]
  exact ⟨_, _, _, _, _, rfl⟩
 obtain ⟨W, H, R, C, r, h⟩ := h
 obtain ⟨a, b, c, d, e, f, g, i, j⟩ := planOf_fine h
 obtain ⟨W', rfl⟩ : ∃ W' : Nat, W = W' := ⟨W.toNat, by omega⟩
 obtain ⟨H', rfl⟩ : ∃ H' : Nat, H = H' := ⟨H.toNat, by omega⟩
 have hl : C.length = W' * H' := by rw [← Int.natCast_mul] at g; omega
 have h256 : C.length ≤ 256 := by have := Nat.mul_le_mul (show W' ≤ 16 by omega) (show H' ≤ 16 by omega); omega
 exact ⟨W', H', R, C, r, h, by omega, by omega, by omega, by omega, hl, h256, i, j⟩
structure Dealt (s a1 a2 : Int) (W H : Nat) (R : Bool) (C v : List Int) (s1 s2 : Int) : Prop where
 plan : thermionkit_PlanOf.f s a1 a2 = some ((W : Int), (H : Int), R, C, s1)
 volts : ∃ K, ∀ k, K ≤ k → thermionkit_VoltsOf.f k s1 (W : Int) (H : Int) R C = some (v, s2)
 W1 : 1 ≤ W
 W2 : (W : Int) ≤ a1
 H1 : 1 ≤ H
 H2 : (H : Int) ≤ a2
 W16 : W ≤ 16
 H16 : H ≤ 16
 len : C.length = W * H
 small : C.length ≤ 256
 cells : ∀ e, e ∈ C → 0 ≤ e ∧ e ≤ 3
 check : checkErr W H R C = 0
 verr : voltErr W H R C v = 0
 volted : Volted W H R C v
 vlen : v.length ≤ 3
theorem solve_eq {W H : Nat} {R : Bool} {C v : List Int} {n : Nat} (hv : voltErr W H R C v = 0) (hn : n ≤ 200) :
  field_Solve.f W H R C v n = some ((solveN W H R C v 256 n).1.take C.length, (solveN W H R C v 256 n).2.1.take C.length, ((solveN W H R C v 256 n).2.2.1 : Int), (solveN W H R C v 256 n).2.2.2, 0) := by
 unfold field_Solve.f
 rw [if_neg (by rw [hv]; simp), if_neg (by omega), Int.toNat_natCast, Int.toNat_natCast, Int.toNat_natCast]
theorem bounds_len {W H : Nat} {R : Bool} {C v : List Int} (hV : Volted W H R C v) (h : C.length ≤ 256) (n : Nat) : ((solveN W H R C v 256 n).1.take C.length).length = C.length ∧ ((solveN W H R C v 256 n).2.1.take C.length).length = C.length := by
 have hp := solve_pair hV h n
 have h1 := hp.low.1.len
 have h2 := hp.high.1.len
 rw [List.length_take, List.length_take]
 omega
end Go.Proofs.Ytndkkjpgnmahbaa.Print
end

section
namespace Go.Proofs.Ytndkkjpgnmahbaa.Print
open Go.RowKit YtndkkjpgnmahbaaW.PrintWords YtndkkjpgnmahbaaW.PrintLast YtndkkjpgnmahbaaW.PrintMore Ytndkkjpgnmahbaa.H Proofs.Field
structure PW (w W : World) (g : Nat) (s : Int) (A : Option Addr) (c : Nat) (C : List Int) : Prop where
 old : Below w.heap.size w W
 dice : IsS79 w W g s
 row : Kd.R (Kd.int .i64) 3 W w.heap.size (fun k => k ≠ g) (.slice A C.length c) C
theorem PW.make {w W : World} {g base : Nat} {s : Int} {A : Option Addr} {c : Nat} {C : List Int} (hI : IsS79 w W g s) (hB : Below w.heap.size w W) (hR : Kd.R (Kd.int .i64) 3 W base (fun _ => True) (.slice A C.length c) C) (hb : w.heap.size ≤ base) : PW w W g s A c C :=
 ⟨hB, hI, Kd.R_mono (Kd.R_types (Kd.R_lower hR hb) hI.1 (by decide)) (fun k hk => hk.2)⟩
namespace PW
variable {w W W1 : World} {g : Nat} {s s1 : Int} {A : Option Addr} {c : Nat} {C : List Int}
theorem below (h : PW w W g s A c C) (hb : Below W.heap.size W W1) : PW w W1 g s A c C := ⟨below_step h.old hb, h.dice.below hb, Kd.R_below h.row hb⟩
theorem reads (h : PW w W g s A c C) : Kd.C (Kd.int .i64) W A C.length C := (Kd.R_reads' h.row).2.2
theorem cap (h : PW w W g s A c C) : C.length ≤ c := (Kd.R_reads' h.row).2.1
theorem far (h : PW w W g s A c C) : ∀ ad, A = some ad → 0 < C.length → ad.block ≠ g := fun ad e hp => by
 subst e
 obtain ⟨b, rfl⟩ := Kd.R_head h.row
 exact h.row.1 b rfl
end PW
structure LB (w W : World) (g6 : Nat) (Wd Hd : Int) (R : Bool) (A : Option Addr) (c : Nat) (C : List Int) (B : Option Addr) (d : Nat) (v : List Int) : Prop where
 old : Below w.heap.size w W
 plan : W.heap[g6]? = some (.cells (planV Wd Hd R A C.length c) 24 (0, 0))
 rc : Kd.C (Kd.int .i64) W A C.length C
 hc : C.length ≤ c
 rv : Kd.C (Kd.int .i64) W B v.length v
 hv : v.length ≤ d
theorem LB.make {w w2 W3 W : World} {g g6 base : Nat} {s : Int} {Wd Hd : Int} {R : Bool} {A : Option Addr} {c : Nat} {C : List Int} {B : Option Addr} {d : Nat} {v : List Int} (hp : PW w W3 g s A c C) (hm : Mem w2 W3 [(g6, planV Wd Hd R A C.length c, 24)])
  (hR : Kd.R (Kd.int .i64) 3 W base (fun _ => True) (.slice B v.length d) v) (hB : Below w.heap.size w W) (hK : KeepBut W3 W g none) : LB w W g6 Wd Hd R A c C B d v := by
 have h1 := Kd.R_reads' (Kd.R_keep hp.row hK (fun k hk => hk))
 have h2 := Kd.R_reads' hR
 exact ⟨hB, hK.blk hm.head (blk_ne hm.head hp.dice.1 (by decide)) (by simp), h1.2.2, h1.2.1, h2.2.2, h2.2.1⟩
namespace LB
variable {w W W1 : World} {g6 : Nat} {Wd Hd : Int} {R : Bool} {A : Option Addr} {c : Nat} {C : List Int} {B : Option Addr} {d : Nat} {v : List Int}
end LB
end Go.Proofs.Ytndkkjpgnmahbaa.Print
end

section
namespace Go.Proofs.Ytndkkjpgnmahbaa.Print
open Go.RowKit YtndkkjpgnmahbaaW.PrintWords YtndkkjpgnmahbaaW.PrintLast YtndkkjpgnmahbaaW.PrintMore Ytndkkjpgnmahbaa.H Proofs.Field
theorem made_zero (n : Nat) : madeCells (Value.int .i64 0).cells (n * 1) = numsA (List.replicate n 0) := by
 unfold madeCells numsA nums
 rw [Nat.mul_one]
 apply Array.ext'
 simp [Value.cells]
 apply List.ext_getElem
 ·simp
 ·intro i h1 h2
  simp [Nat.mod_one]
theorem make_ints (m : Nat) (h : m ≤ 100000) : ∀ w : World, (Instr.makeSlice 22 (.int .i64 (m : Int)) (.int .i64 (m : Int))).run Try.prog w = .ok (.slice (some ⟨w.heap.size, 0, none⟩) m m) (w.alloc (.cells (numsA (List.replicate m 0)) 3)) := fun w => by
 obtain ⟨i0, hi, hz0, hz1, hz2⟩ := info_parts info3
 have hr := run_make (P := Try.prog) (w := w) 22 3 i0 (.int .i64 0) Try.underlying22 hi hz0 .i64 .i64 (m : Int) (m : Int) (by omega) (by omega) (by rw [hz2]; omega) (by omega)
 rw [hz1, Int.toNat_natCast, made_zero] at hr
 exact hr
theorem C_of_cells {V : World} {g : Nat} {b : List Int} {t : TypeId} (hV : V.heap[g]? = some (.cells (numsA b) t (0, 0))) (hb : b.length ≤ 1000000) : Kd.C (Kd.int .i64) V (some ⟨g, 0, none⟩) b.length b := by
 refine Kd.C_of_reads (d := (0 : Int)) (h1 := fun _ => rfl) ⟨rfl, by omega, fun _ => ⟨_, rfl, fun j hj => ?_⟩⟩
 have h1 := (blk_cell hV j).trans (numsA_get hj)
 rw [show (⟨g, 0, none⟩ : Addr).add j = ⟨g, j, none⟩ by unfold Addr.add; split <;> simp_all]
 rw [h1]
 rfl
theorem numsA_set (b : List Int) (i : Nat) (v : Int) : (numsA b).setIfInBounds i (.int .i64 v) = numsA (b.set i v) := set_nums b i v
theorem at_row {w : World} {A : Option Addr} {xs : List Int} (h : Kd.C (Kd.int .i64) w A xs.length xs) (i : Nat) (h1 : i < xs.length) : ∃ ad, A = some ad ∧ w.cell? (ad.add i) = some (.int .i64 (fn xs i)) := at_nat h i h1
theorem mem_two {w W : World} {l : List (Nat × Array Value × TypeId)} (h : Mem w W l) (c1 c2 : Array Value) (t1 t2 : TypeId) : Mem w ((W.alloc (.cells c1 t1)).alloc (.cells c2 t2)) ((W.heap.size + 1, c2, t2) :: (W.heap.size, c1, t1) :: l) := by
 have h1 := h.new (g := W.heap.size) rfl (blk_new W (.cells c1 t1)) (below_alloc (Below.refl _ _) _)
 have e : (W.alloc (.cells c1 t1)).heap.size = W.heap.size + 1 := Array.size_push _
 have h2 := blk_new (W.alloc (.cells c1 t1)) (.cells c2 t2)
 rw [e] at h2
 exact h1.new (g := W.heap.size + 1) e.symm h2 (below_alloc (Below.refl _ _) _)
theorem solve_at (W H : Int) (R : Bool) (A : Option Addr) (c : Nat) (C : List Int) (A1 : Option Addr) (c1 m : Nat) (volts : List Int) (a2 : Int) (r1 r2 : List Int) (r3 : Int) (r4 : Bool) (w : World) (hr : Kd.C (Kd.int .i64) w A C.length C) (hc : C.length ≤ c) (hl : volts.length = m) (hr1 : Kd.C (Kd.int .i64) w A1 volts.length volts) (hc1 : m ≤ c1)
  (h : field_Solve.f W H R C volts a2 = some (r1, r2, r3, r4, 0)) :
  Calls Try.prog 25 #[.agg (planV W H R A C.length c), .slice A1 m c1, .int .i64 a2] w fun e w' => ∃ v0_ v1_ : Value, e = .returned (.tuple #[.agg #[v0_, v1_, .int .i64 r3, .bool r4], .int .i64 0]) ∧ Kd.R (Kd.int .i64) 3 w' w.heap.size (fun k_ => some k_ ≠ (v1_ : Value).ownBlock) v0_ r1 ∧ Kd.R (Kd.int .i64) 3 w' w.heap.size (fun k_ => some k_ ≠ (v0_ : Value).ownBlock) v1_ r2 ∧ Below w.heap.size w w' := by
 subst hl
 exact field_Solve.calls W H R A c C A1 c1 volts a2 r1 r2 r3 r4 0 w hr hc hr1 hc1 h
structure Rows (W : World) (rs : List (Option Addr × List Int)) : Prop where
 all : ∀ p, p ∈ rs → Kd.C (Kd.int .i64) W p.1 p.2.length p.2
namespace Rows
variable {W W1 : World} {rs : List (Option Addr × List Int)}
theorem nil (W : World) : Rows W [] := ⟨fun p hp => by simp at hp⟩
theorem below (h : Rows W rs) (hb : Below W.heap.size W W1) : Rows W1 rs := ⟨fun p hp => Kd.C_below (h.all p hp) hb⟩
theorem cons (h : Rows W rs) {A : Option Addr} {l : List Int} (hC : Kd.C (Kd.int .i64) W A l.length l) : Rows W ((A, l) :: rs) := ⟨fun p hp => by
 rcases List.mem_cons.1 hp with rfl | hp
 ·exact hC
 ·exact h.all p hp⟩
end Rows
def fillTo (f : Nat → Int) (m i : Nat) : List Int := (List.range m).map (fun j => if j < i then f j else 0)
theorem fillTo_length (f : Nat → Int) (m i : Nat) : (fillTo f m i).length = m := by simp [fillTo]
theorem fillTo_zero (f : Nat → Int) (m : Nat) : fillTo f m 0 = List.replicate m 0 := by
 unfold fillTo
 apply List.ext_getElem
 ·simp
 ·intro i h1 h2
  simp
theorem fn_fillTo (f : Nat → Int) {m i j : Nat} (hj : j < m) : fn (fillTo f m i) j = if j < i then f j else 0 := by
 unfold fn fillTo
 rw [List.getD_eq_getElem?_getD, List.getElem?_map, List.getElem?_range hj]
 rfl
theorem fn_ext {a b : List Int} (hl : a.length = b.length) (h : ∀ j, j < a.length → fn a j = fn b j) : a = b := by
 apply List.ext_getElem hl
 intro i h1 h2
 have := h i h1
 unfold fn at this
 rw [List.getD_eq_getElem?_getD, List.getD_eq_getElem?_getD, List.getElem?_eq_getElem h1, List.getElem?_eq_getElem h2] at this
 exact this
theorem fillTo_step (f : Nat → Int) {m i : Nat} (hi : i < m) : (fillTo f m i).set i (f i) = fillTo f m (i + 1) := by
 apply fn_ext
 ·rw [List.length_set, fillTo_length, fillTo_length]
 ·intro j hj
  rw [List.length_set, fillTo_length] at hj
  rw [fn_set (by rw [fillTo_length]; exact hi), fn_fillTo f hj, fn_fillTo f hj]
  by_cases q : j = i
  ·subst q; rw [if_pos rfl, if_pos (by omega)]
  ·rw [if_neg q]
   by_cases r : j < i
   ·rw [if_pos r, if_pos (by omega)]
   ·rw [if_neg r, if_neg (by omega)]
end Go.Proofs.Ytndkkjpgnmahbaa.Print
end

section
namespace Go.Proofs.Ytndkkjpgnmahbaa.Print
open Go.RowKit YtndkkjpgnmahbaaW.PrintWords YtndkkjpgnmahbaaW.PrintLast YtndkkjpgnmahbaaW.PrintMore Ytndkkjpgnmahbaa.H Proofs.Field
def Row4 (W : World) (base g c n : Nat) (l : List Int) : Prop := l.length = n ∧ Kd.R (Kd.int .i64) 3 W base (fun k => k = g) (.slice (some ⟨g, 0, none⟩) n c) l
namespace Row4
variable {W W1 : World} {base g c n : Nat} {l : List Int}
theorem below (h : Row4 W base g c n l) (hb : Below W.heap.size W W1) : Row4 W1 base g c n l := ⟨h.1, Kd.R_below h.2 hb⟩
theorem keep {g2 : Nat} (h : Row4 W base g c n l) (hk : KeepBut W W1 g2 none) (hne : g ≠ g2) : Row4 W1 base g c n l := ⟨h.1, Kd.R_keep h.2 hk (fun k e => by subst e; exact hne)⟩
theorem far (h : Row4 W base g c n l) {p : Addr} (hne : g ≠ p.block) (u : Value) : Row4 (W.setCell p u) base g c n l := ⟨h.1, Kd.R_far h.2 (fun k e => by subst e; exact hne) u⟩
theorem reads (h : Row4 W base g c n l) : Kd.C (Kd.int .i64) W (some ⟨g, 0, none⟩) l.length l ∧ n ≤ c := ⟨(Kd.R_reads' h.2).2.2, (Kd.R_reads' h.2).2.1⟩
theorem put (h : Row4 W base g c n l) (i : Nat) (x : Int) : Row4 (W.setCell ⟨g, i, none⟩ (.int .i64 x)) base g c n (l.set i x) := by
 obtain ⟨e, h⟩ := h
 refine ⟨by rw [List.length_set]; exact e, ?_⟩
 exact Kd.R_putn (enc := Value.int .i64) (h1 := fun _ => rfl) h (i : Int) x
theorem cell (h : Row4 W base g c n l) {i : Nat} (hi : i < n) : W.cell? ⟨g, i, none⟩ = some (.int .i64 (fn l i)) ∧ W.frozen? ⟨g, i, none⟩ = false := by
 exact Kd.R_celln (enc := Value.int .i64) (h1 := fun _ => rfl) (0 : Int) h.2 (i : Int) (by omega) (by omega)
theorem ge (h : Row4 W base g c n l) : base ≤ g := Kd.R_base h.2 g rfl
theorem lt (h : Row4 W base g c n l) : g < W.heap.size := Kd.R_lt h.2 g rfl
end Row4
end Go.Proofs.Ytndkkjpgnmahbaa.Print
end

section
namespace Go.Proofs.Ytndkkjpgnmahbaa.Print
open Go.RowKit YtndkkjpgnmahbaaW.PrintWords YtndkkjpgnmahbaaW.PrintLast YtndkkjpgnmahbaaW.PrintMore Ytndkkjpgnmahbaa.H Proofs.Field
theorem list_ext {a b : List Int} (hl : a.length = b.length) (h : ∀ j, j < a.length → fn a j = fn b j) : a = b := by
 apply List.ext_getElem hl
 intro i h1 h2
 have := h i h1
 unfold fn at this
 rw [List.getD_eq_getElem?_getD, List.getD_eq_getElem?_getD, List.getElem?_eq_getElem h1, List.getElem?_eq_getElem h2] at this
 exact this
def listOf (n : Nat) (f : Nat → Int) : List Int := (List.range n).map f
theorem listOf_length (n : Nat) (f : Nat → Int) : (listOf n f).length = n := by simp [listOf]
theorem fn_listOf {n : Nat} (f : Nat → Int) {j : Nat} (hj : j < n) : fn (listOf n f) j = f j := by
 unfold fn listOf
 rw [List.getD_eq_getElem?_getD, List.getElem?_map, List.getElem?_range hj]
 rfl
end Go.Proofs.Ytndkkjpgnmahbaa.Print
end

section
namespace Go.Proofs.Field
open Go.Proofs.Ytndkkjpgnmahbaa.Print
def row (M : List (List Int)) (i : Nat) : List Int := M.getD i []
def elimRow (k : Nat) (last : Int) (K r : List Int) : List Int := (List.zipWith (fun x y => (x * fn K k - fn r k * y).tdiv last) r K).set k 0
def elimAt (k : Nat) (last : Int) (M : List (List Int)) (i : Nat) : List Int :=
 if i = k then row M k else if i < k then (elimRow k last (row M k) (row M i)).set i (fn (row M k) k) else elimRow k last (row M k) (row M i)
def elimM (k : Nat) (last : Int) (M : List (List Int)) : List (List Int) := (List.range M.length).map (elimAt k last M)
def elimRun : Nat → Nat → Int → List (List Int) → Int × List (List Int)
 | 0, _, last, M => (last, M)
 | d + 1, k, last, M => elimRun d (k + 1) (fn (row M k) k) (elimM k last M)
def exactAt (k : Nat) (last : Int) (M : List (List Int)) (i : Nat) : Bool :=
 i == k || (List.zipWith (fun x y => (x * fn (row M k) k - fn (row M i) k * y) % last) (row M i) (row M k)).all (· == 0)
def smallM (M : List (List Int)) : Bool := M.all (fun r => r.all (fun x => decide (-1000000 ≤ x) && decide (x ≤ 1000000)))
def okStep (k : Nat) (last : Int) (M : List (List Int)) : Bool := decide (1 ≤ fn (row M k) k) && (smallM M && (List.range M.length).all (exactAt k last M))
def chkRun : Nat → Nat → Int → List (List Int) → Option (Int × List (List Int))
 | 0, _, last, M => some (last, M)
 | d + 1, k, last, M => if okStep k last M = true then chkRun d (k + 1) (fn (row M k) k) (elimM k last M) else none
def matAt (W H : Nat) (R : Bool) (at_ : List Nat) (i j : Nat) : Int := if i = j then sumTo (fun q => netM W H R (at_.getD i 0) q) (W * H) else - netM W H R (at_.getD i 0) (at_.getD j 0)
def extOf (W H : Nat) (R : Bool) (at_ : List Nat) : List (List Int) :=
 (List.range at_.length).map (fun i => (List.range at_.length).map (matAt W H R at_ i) ++ (List.range at_.length).map (fun j => if i = j then 1 else 0))
def goodEnd (n : Nat) (A : Nat → Nat → Int) (l : Int) (M : List (List Int)) : Bool :=
 decide (1 ≤ l) && (smallM M && (List.range n).all (fun i => (List.range n).all (fun j => decide (0 ≤ fn (row M i) (n + j)) && (sumTo (fun q => fn (row M i) (n + q) * A q j) n == if i = j then l else 0))))
def chkAt (W H : Nat) (R : Bool) (at_ : List Nat) : Bool :=
 match chkRun at_.length 0 1 (extOf W H R at_) with
 | none => false
 | some (l, M) => decide (l ≤ 1000000) && goodEnd at_.length (matAt W H R at_) l M
def subs : Nat → List Nat → List (List Nat)
 | _, [] => [[]]
 | 0, _ :: _ => [[]]
 | m + 1, a :: l => subs (m + 1) l ++ (subs m l).map (a :: ·)
def allChk : Bool := [1, 2, 3].all fun W => [1, 2, 3].all fun H => [true, false].all fun R => (subs 4 (List.range (W * H))).all fun at_ => at_.length == W * H || chkAt W H R at_
theorem all_chk : allChk = true := by decide +kernel
theorem fn_zipWith (f : Int → Int → Int) {a b : List Int} {j : Nat} (ha : j < a.length) (hb : j < b.length) : fn (List.zipWith f a b) j = f (fn a j) (fn b j) := by
 unfold fn
 rw [List.getD_eq_getElem?_getD, List.getD_eq_getElem?_getD, List.getD_eq_getElem?_getD, List.getElem?_eq_getElem ha, List.getElem?_eq_getElem hb, List.getElem?_eq_getElem (by rw [List.length_zipWith]; omega), List.getElem_zipWith]
 rfl
section
variable {n k : Nat} {last : Int} {b K r : List Int} {M : List (List Int)}
theorem elimRow_length (h : K.length = r.length) : (elimRow k last K r).length = r.length := by
 unfold elimRow
 rw [List.length_set, List.length_zipWith]; omega
theorem fn_elimRow (h : K.length = r.length) (hk : k < r.length) {j : Nat} (hj : j < r.length) : fn (elimRow k last K r) j = if j = k then 0 else (fn r j * fn K k - fn r k * fn K j).tdiv last := by
 unfold elimRow
 rw [fn_set (by rw [List.length_zipWith]; omega), fn_zipWith _ hj (by omega)]
theorem row_map {f : List Int → List Int} {i : Nat} (hi : i < M.length) : row (M.map f) i = f (row M i) := by
 unfold row
 rw [List.getD_eq_getElem?_getD, List.getD_eq_getElem?_getD, List.getElem?_map, List.getElem?_eq_getElem hi]
 rfl
theorem row_range {f : Nat → List Int} {i n : Nat} (hi : i < n) : row ((List.range n).map f) i = f i := by
 unfold row
 rw [List.getD_eq_getElem?_getD, List.getElem?_map, List.getElem?_range hi]
 rfl
theorem row_mem {i : Nat} (hi : i < M.length) : row M i ∈ M := by
 unfold row
 rw [List.getD_eq_getElem?_getD, List.getElem?_eq_getElem hi]
 exact List.getElem_mem hi
def conc (n : Nat) (b r : List Int) : List Int := listOf (n + 1) (fun j => if j < n then fn r j else sumTo (fun q => fn r (n + q) * fn b q) n)
def concM (n : Nat) (b : List Int) (M : List (List Int)) : List (List Int) := M.map (conc n b)
theorem conc_length : (conc n b r).length = n + 1 := listOf_length _ _
theorem fn_conc {j : Nat} (hj : j < n) : fn (conc n b r) j = fn r j := by
 unfold conc
 rw [fn_listOf _ (by omega), if_pos hj]
theorem fn_conc_last : fn (conc n b r) n = sumTo (fun q => fn r (n + q) * fn b q) n := by
 unfold conc
 rw [fn_listOf _ (by omega), if_neg (by omega)]
theorem conc_elim (hK : K.length = 2 * n) (hr : r.length = 2 * n) (hk : k < n) (hl : last ≠ 0) (he : ∀ j, n ≤ j → j < 2 * n → last ∣ fn r j * fn K k - fn r k * fn K j) :
  elimRow k last (conc n b K) (conc n b r) = conc n b (elimRow k last K r) := by
 apply list_ext
 ·rw [elimRow_length (by rw [conc_length, conc_length]), conc_length, conc_length]
 ·intro j hj
  rw [elimRow_length (by rw [conc_length, conc_length]), conc_length] at hj
  rw [fn_elimRow (by rw [conc_length, conc_length]) (by rw [conc_length]; omega) (by rw [conc_length]; omega), fn_conc hk, fn_conc hk]
  by_cases hjn : j < n
  ·rw [fn_conc hjn, fn_conc hjn, fn_conc hjn, fn_elimRow (by omega) (by omega) (by omega)]
  ·obtain rfl : j = n := by omega
   rw [fn_conc_last, fn_conc_last, fn_conc_last, if_neg (by omega)]
   have h : sumTo (fun q => fn r (j + q) * fn b q) j * fn K k - fn r k * sumTo (fun q => fn K (j + q) * fn b q) j = last * sumTo (fun q => fn (elimRow k last K r) (j + q) * fn b q) j := by
    rw [← sumTo_mulr, ← sumTo_mul, ← sumTo_sub, ← sumTo_mul]
    refine sumTo_congr (fun q hq => ?_)
    rw [fn_elimRow (by omega) (by omega) (by omega), if_neg (by omega)]
    obtain ⟨t, ht⟩ := he (j + q) (by omega) (by omega)
    rw [ht, Int.mul_tdiv_cancel_left _ hl]
    have e : (fn r (j + q) * fn K k - fn r k * fn K (j + q)) * fn b q = last * t * fn b q := by rw [ht]
    rw [Int.sub_mul] at e
    rw [Int.mul_right_comm, ← Int.mul_assoc, e, Int.mul_assoc]
   rw [h, Int.mul_tdiv_cancel_left _ hl]
theorem conc_set {i : Nat} {x : Int} (hi : i < n) (hr : r.length = 2 * n) : (conc n b r).set i x = conc n b (r.set i x) := by
 apply list_ext
 ·rw [List.length_set, conc_length, conc_length]
 ·intro j hj
  rw [List.length_set, conc_length] at hj
  rw [fn_set (by rw [conc_length]; omega)]
  by_cases hjn : j < n
  ·rw [fn_conc hjn, fn_conc hjn, fn_set (by omega)]
  ·obtain rfl : j = n := by omega
   rw [if_neg (by omega), fn_conc_last, fn_conc_last]
   refine sumTo_congr (fun q hq => ?_)
   rw [fn_set (by omega), if_neg (by omega)]
structure Ext (n : Nat) (M : List (List Int)) : Prop where
 rows : M.length = n
 cols : ∀ i, i < n → (row M i).length = 2 * n
theorem elimAt_length {m : Nat} {i : Nat} (hc : ∀ i, i < M.length → (row M i).length = m) (hk : k < M.length) (hi : i < M.length) : (elimAt k last M i).length = m := by
 unfold elimAt
 have h1 := hc k hk
 have h2 := hc i hi
 split
 ·exact h1
 ·split
  ·rw [List.length_set, elimRow_length (by omega), h2]
  ·rw [elimRow_length (by omega), h2]
theorem elimM_rows : (elimM k last M).length = M.length := by simp [elimM]
theorem row_elimM {i : Nat} (hi : i < M.length) : row (elimM k last M) i = elimAt k last M i := by
 unfold elimM
 rw [row_range hi]
theorem Ext.elim (h : Ext n M) (hk : k < n) : Ext n (elimM k last M) := by
 refine ⟨by rw [elimM_rows, h.rows], fun i hi => ?_⟩
 rw [row_elimM (by rw [h.rows]; exact hi)]
 exact elimAt_length (fun i hi => h.cols i (by rw [← h.rows]; exact hi)) (by rw [h.rows]; exact hk) (by rw [h.rows]; exact hi)
theorem exact_dvd (h : Ext n M) (hl : last ≠ 0) {i : Nat} (hi : i < n) (hk : k < n) (hne : i ≠ k) (he : exactAt k last M i = true) {j : Nat} (hj : j < 2 * n) : last ∣ fn (row M i) j * fn (row M k) k - fn (row M i) k * fn (row M k) j := by
 unfold exactAt at he
 simp only [Bool.or_eq_true, beq_iff_eq, hne, false_or, List.all_eq_true] at he
 have h1 := h.cols i hi
 have h2 := h.cols k hk
 have h3 := fn_zipWith (fun x y => (x * fn (row M k) k - fn (row M i) k * y) % last) (a := row M i) (b := row M k) (j := j) (by omega) (by omega)
 have hm := he _ (fn_mem (C := List.zipWith (fun x y => (x * fn (row M k) k - fn (row M i) k * y) % last) (row M i) (row M k)) (i := j) (by rw [List.length_zipWith]; omega))
 rw [h3] at hm
 exact Int.dvd_of_emod_eq_zero hm
theorem concM_elim (h : Ext n M) (hk : k < n) (hl : last ≠ 0) (hok : okStep k last M = true) : elimM k last (concM n b M) = concM n b (elimM k last M) := by
 have hr := h.rows
 have hx : ∀ i, i < n → i ≠ k → exactAt k last M i = true := fun i hi _ => by
  unfold okStep at hok
  simp only [Bool.and_eq_true, List.all_eq_true, List.mem_range] at hok
  exact hok.2.2 i (by omega)
 unfold elimM
 rw [show (concM n b M).length = M.length by simp [concM], show concM n b ((List.range M.length).map (elimAt k last M)) = (List.range M.length).map (fun i => conc n b (elimAt k last M i)) by unfold concM; rw [List.map_map]; rfl]
 refine List.map_congr_left (fun i hi => ?_)
 rw [List.mem_range, hr] at hi
 unfold elimAt concM
 rw [row_map (by omega), row_map (by omega)]
 by_cases e : i = k
 ·rw [if_pos e, if_pos e]
 ·rw [if_neg e, if_neg e]
  have h1 := conc_elim (b := b) (h.cols k hk) (h.cols i hi) hk hl (fun j _ hj => exact_dvd h hl hi hk e (hx i hi e) hj)
  by_cases q : i < k
  ·rw [if_pos q, if_pos q, h1, fn_conc hk, conc_set hi (by rw [elimRow_length (by rw [h.cols k hk, h.cols i hi]), h.cols i hi])]
  ·rw [if_neg q, if_neg q, h1]
structure SafeM (n k : Nat) (last : Int) (M : List (List Int)) : Prop where
 rows : M.length = n
 cols : ∀ i, i < n → (row M i).length = n + 1
 piv : 1 ≤ fn (row M k) k
 l1 : 1 ≤ last
 l2 : last ≤ 1000000
 small : ∀ i j, i < n → j < n → -1000000 ≤ fn (row M i) j ∧ fn (row M i) j ≤ 1000000
 right : ∀ i, i < n → -400000000000 ≤ fn (row M i) n ∧ fn (row M i) n ≤ 400000000000
def Fits (n : Nat) : Nat → Nat → Int → List (List Int) → Prop
 | 0, _, _, M => M.length = n ∧ ∀ i, i < n → (row M i).length = n + 1
 | d + 1, k, last, M => SafeM n k last M ∧ Fits n d (k + 1) (fn (row M k) k) (elimM k last M)
theorem small_at (hs : smallM M = true) (h : Ext n M) {i j : Nat} (hi : i < n) (hj : j < 2 * n) : -1000000 ≤ fn (row M i) j ∧ fn (row M i) j ≤ 1000000 := by
 unfold smallM at hs
 simp only [List.all_eq_true, Bool.and_eq_true, decide_eq_true_eq] at hs
 exact hs _ (row_mem (by rw [h.rows]; exact hi)) _ (fn_mem (by rw [h.cols i hi]; exact hj))
theorem sum_abs {f : Nat → Int} {B : Int} (h : ∀ i, -B ≤ f i ∧ f i ≤ B) : ∀ n : Nat, -((n : Int) * B) ≤ sumTo f n ∧ sumTo f n ≤ (n : Int) * B
 | 0 => by simp [sumTo]
 | n + 1 => by
  have h1 := sum_abs h n
  have h2 := h n
  rw [show sumTo f (n + 1) = sumTo f n + f n from rfl, show ((n + 1 : Nat) : Int) * B = (n : Int) * B + B by rw [Int.natCast_add, Int.add_mul]; simp]
  omega
theorem mul_abs {x y X Y : Int} (h1 : -X ≤ x ∧ x ≤ X) (h2 : -Y ≤ y ∧ y ≤ Y) : -(X * Y) ≤ x * y ∧ x * y ≤ X * Y := by
 have hX : 0 ≤ X := by omega
 have hY : 0 ≤ Y := by omega
 have ha : x.natAbs ≤ X.natAbs := by omega
 have hb : y.natAbs ≤ Y.natAbs := by omega
 have hc := Nat.mul_le_mul ha hb
 rw [← Int.natAbs_mul, ← Int.natAbs_mul] at hc
 have hXY : 0 ≤ X * Y := Int.mul_nonneg hX hY
 omega
theorem right_abs (hb : ∀ q, -100000 ≤ fn b q ∧ fn b q ≤ 100000) (hn : n ≤ 4) (hr : ∀ q, q < n → -1000000 ≤ fn r (n + q) ∧ fn r (n + q) ≤ 1000000) : -400000000000 ≤ fn (conc n b r) n ∧ fn (conc n b r) n ≤ 400000000000 := by
 rw [fn_conc_last]
 have h1 : sumTo (fun q => fn r (n + q) * fn b q) n = sumTo (fun q => if q < n then fn r (n + q) * fn b q else 0) n := sumTo_congr (fun q hq => by rw [if_pos hq])
 rw [h1]
 have h2 := sum_abs (f := fun q => if q < n then fn r (n + q) * fn b q else 0) (B := 100000000000) (fun q => by
  by_cases hq : q < n
  ·simp only [hq, if_true]
   have := mul_abs (hr q hq) (hb q)
   omega
  ·simp only [hq, if_false]; omega) n
 omega
theorem chk_fits (hn : n ≤ 4) (hb : ∀ q, -100000 ≤ fn b q ∧ fn b q ≤ 100000) : ∀ (d k : Nat) (last : Int) (M : List (List Int)) (l : Int) (M' : List (List Int)), chkRun d k last M = some (l, M') → 1 ≤ last → last ≤ 1000000 → Ext n M → k + d = n →
  Fits n d k last (concM n b M) ∧ elimRun d k last (concM n b M) = (l, concM n b M') ∧ Ext n M' ∧ 1 ≤ l
 | 0, k, last, M, l, M', h, h1, h2, hE, hd => by
  simp only [chkRun, Option.some.injEq, Prod.mk.injEq] at h
  obtain ⟨rfl, rfl⟩ := h
  refine ⟨⟨by simp [concM, hE.rows], fun i hi => ?_⟩, rfl, hE, h1⟩
  unfold concM
  rw [row_map (by rw [hE.rows]; exact hi), conc_length]
 | d + 1, k, last, M, l, M', h, h1, h2, hE, hd => by
  simp only [chkRun] at h
  by_cases hok : okStep k last M = true
  ·rw [if_pos hok] at h
   have hk : k < n := by omega
   have hk' := hok
   unfold okStep at hk'
   simp only [Bool.and_eq_true, decide_eq_true_eq] at hk'
   obtain ⟨hp, hs, _⟩ := hk'
   have hpk : fn (row (concM n b M) k) k = fn (row M k) k := by
    unfold concM
    rw [row_map (by rw [hE.rows]; exact hk), fn_conc hk]
   obtain ⟨a1, a2, a3, a4⟩ := chk_fits hn hb d (k + 1) _ _ l M' h hp (small_at hs hE hk (by omega)).2 (hE.elim hk) (by omega)
   refine ⟨⟨⟨by simp [concM, hE.rows], fun i hi => ?_, by rw [hpk]; exact hp, h1, h2, fun i j hi hj => ?_, fun i hi => ?_⟩, ?_⟩, ?_, a3, a4⟩
   ·unfold concM
    rw [row_map (by rw [hE.rows]; exact hi), conc_length]
   ·unfold concM
    rw [row_map (by rw [hE.rows]; exact hi), fn_conc hj]
    exact small_at hs hE hi (by omega)
   ·unfold concM
    rw [row_map (by rw [hE.rows]; exact hi)]
    exact right_abs hb hn (fun q hq => small_at hs hE hi (by omega))
   ·rw [hpk, concM_elim hE hk (by omega) hok]; exact a1
   ·rw [elimRun, hpk, concM_elim hE hk (by omega) hok]; exact a2
  ·rw [if_neg hok] at h; exact absurd h (by simp)
end
theorem mem_subs : ∀ (m : Nat) (l s : List Nat), s.Sublist l → s.length ≤ m → s ∈ subs m l
 | m, [], s, h, _ => by
  rw [List.sublist_nil.1 h]
  cases m <;> simp [subs]
 | 0, a :: l, s, h, hl => by
  rw [List.length_eq_zero_iff.1 (by omega : s.length = 0)]
  simp [subs]
 | m + 1, a :: l, s, h, hl => by
  rw [subs, List.mem_append, List.mem_map]
  cases h with
  | cons _ h => exact .inl (mem_subs (m + 1) l s h hl)
  | cons_cons _ h =>
   rename_i s
   exact .inr ⟨s, mem_subs m l s h (by simp at hl; omega), rfl⟩
theorem chk_at {W H : Nat} {R : Bool} {s : List Nat} (hW : 1 ≤ W ∧ W ≤ 3) (hH : 1 ≤ H ∧ H ≤ 3) (hs : s.Sublist (List.range (W * H))) (hl : s.length ≤ 4) (hne : s.length ≠ W * H) : chkAt W H R s = true := by
 have h := all_chk
 unfold allChk at h
 simp only [List.all_eq_true] at h
 have h1 := h W (by simp; omega) H (by simp; omega) R (by cases R <;> simp) s (mem_subs 4 _ s hs hl)
 simpa [hne] using h1
def augOf (n : Nat) (A : Nat → Nat → Int) (b : List Int) : List (List Int) := (List.range n).map (fun i => listOf (n + 1) (fun j => if j < n then A i j else fn b i))
theorem fn_append_lt {a b : List Int} {j : Nat} (h : j < a.length) : fn (a ++ b) j = fn a j := by
 unfold fn
 rw [List.getD_eq_getElem?_getD, List.getD_eq_getElem?_getD, List.getElem?_append_left h]
theorem fn_append_ge {a b : List Int} {j : Nat} (h : a.length ≤ j) : fn (a ++ b) j = fn b (j - a.length) := by
 unfold fn
 rw [List.getD_eq_getElem?_getD, List.getD_eq_getElem?_getD, List.getElem?_append_right h]
theorem conc_ext (W H : Nat) (R : Bool) (s : List Nat) (b : List Int) : concM s.length b (extOf W H R s) = augOf s.length (matAt W H R s) b := by
 unfold concM extOf augOf
 rw [List.map_map]
 refine List.map_congr_left (fun i hi => ?_)
 rw [List.mem_range] at hi
 have hlen : (listOf s.length (matAt W H R s i)).length = s.length := listOf_length _ _
 have e : ∀ f : Nat → Int, (List.range s.length).map f = listOf s.length f := fun f => rfl
 show conc _ _ ((List.range s.length).map _ ++ (List.range s.length).map _) = _
 rw [e, e]
 unfold conc
 apply list_ext
 ·rw [listOf_length, listOf_length]
 ·intro j hj
  rw [listOf_length] at hj
  rw [fn_listOf _ hj, fn_listOf _ hj]
  by_cases q : j < s.length
  ·rw [if_pos q, if_pos q, fn_append_lt (by omega), fn_listOf _ q]
  ·rw [if_neg q, if_neg q]
   have h1 : sumTo (fun q => fn (listOf s.length (matAt W H R s i) ++ listOf s.length (fun j => if i = j then 1 else 0)) (s.length + q) * fn b q) s.length = sumTo (fun q => if q = i then fn b i else 0) s.length := sumTo_congr (fun q hq => by
    rw [fn_append_ge (by omega), hlen, show s.length + q - s.length = q by omega, fn_listOf _ hq]
    by_cases e : i = q
    ·subst e; rw [if_pos rfl, if_pos rfl, Int.one_mul]
    ·rw [if_neg e, if_neg (Ne.symm e), Int.zero_mul])
   rw [h1, sumTo_one _ _ hi]
theorem ext_ext (W H : Nat) (R : Bool) (s : List Nat) : Ext s.length (extOf W H R s) := by
 refine ⟨by simp [extOf], fun i hi => ?_⟩
 unfold extOf
 rw [row_range hi, List.length_append, List.length_map, List.length_map, List.length_range]
 omega
theorem inverse_sum {n : Nat} {T A : Nat → Nat → Int} {l : Int} (h : ∀ i j, i < n → j < n → sumTo (fun q => T i q * A q j) n = if i = j then l else 0) (x : Nat → Int) {i : Nat} (hi : i < n) :
  l * x i = sumTo (fun q => T i q * sumTo (fun j => A q j * x j) n) n := by
 have h1 : sumTo (fun j => sumTo (fun q => T i q * A q j) n * x j) n = l * x i := by
  rw [← sumTo_one (l * x i) i hi]
  refine sumTo_congr (fun j hj => ?_)
  rw [h i j hi hj]
  by_cases e : i = j
  ·subst e; rw [if_pos rfl, if_pos rfl]
  ·rw [if_neg e, if_neg (Ne.symm e), Int.zero_mul]
 rw [← h1]
 rw [sumTo_congr (g := fun j => sumTo (fun q => T i q * A q j * x j) n) (fun j _ => (sumTo_mulr _ _ _).symm), sumTo_comm]
 refine sumTo_congr (fun q _ => ?_)
 rw [← sumTo_mul]
 exact sumTo_congr (fun j _ => Int.mul_assoc _ _ _)
theorem exact_end {W H : Nat} {R : Bool} {s : List Nat} {b : List Int} (hc : chkAt W H R s = true) (hn : s.length ≤ 4) (hb : ∀ q, -100000 ≤ fn b q ∧ fn b q ≤ 100000) :
  Fits s.length s.length 0 1 (augOf s.length (matAt W H R s) b) ∧ ∃ l M', elimRun s.length 0 1 (augOf s.length (matAt W H R s) b) = (l, M') ∧ 1 ≤ l ∧ l ≤ 1000000 ∧ M'.length = s.length ∧
   (∀ i, i < s.length → (row M' i).length = s.length + 1 ∧ -400000000000 ≤ fn (row M' i) s.length ∧ fn (row M' i) s.length ≤ 400000000000) ∧
   (∀ x : Nat → Int, (∀ i, i < s.length → sumTo (fun j => matAt W H R s i j * x j) s.length ≤ fn b i) → ∀ i, i < s.length → x i * l ≤ fn (row M' i) s.length) ∧
   (∀ x : Nat → Int, (∀ i, i < s.length → fn b i ≤ sumTo (fun j => matAt W H R s i j * x j) s.length) → ∀ i, i < s.length → fn (row M' i) s.length ≤ x i * l) := by
 unfold chkAt at hc
 split at hc
 ·exact absurd hc (by simp)
 ·rename_i l M' hrun
  simp only [Bool.and_eq_true, decide_eq_true_eq] at hc
  obtain ⟨a1, a2, a3, a4⟩ := chk_fits (b := b) hn hb _ _ _ _ _ _ hrun (by omega) (by omega) (ext_ext W H R s) (by omega)
  rw [conc_ext] at a1 a2
  obtain ⟨hl, hg⟩ := hc
  unfold goodEnd at hg
  simp only [Bool.and_eq_true, decide_eq_true_eq, List.all_eq_true, List.mem_range, beq_iff_eq] at hg
  obtain ⟨_, hs, hT⟩ := hg
  have hrow : ∀ i, i < s.length → row (concM s.length b M') i = conc s.length b (row M' i) := fun i hi => by
   unfold concM
   rw [row_map (by rw [a3.rows]; exact hi)]
  refine ⟨a1, l, _, a2, a4, hl, by simp [concM, a3.rows], fun i hi => ?_, fun x hx i hi => ?_, fun x hx i hi => ?_⟩
  ·rw [hrow i hi]
   exact ⟨conc_length, right_abs hb hn (fun q hq => small_at hs a3 hi (by omega))⟩
  ·rw [hrow i hi, fn_conc_last, Int.mul_comm, inverse_sum (T := fun i q => fn (row M' i) (s.length + q)) (fun i j hi hj => (hT i hi j hj).2) x hi]
   exact sumTo_le (fun q hq => Int.mul_le_mul_of_nonneg_left (hx q hq) (hT i hi q hq).1)
  ·rw [hrow i hi, fn_conc_last, Int.mul_comm, inverse_sum (T := fun i q => fn (row M' i) (s.length + q)) (fun i j hi hj => (hT i hi j hj).2) x hi]
   exact sumTo_le (fun q hq => Int.mul_le_mul_of_nonneg_left (hx q hq) (hT i hi q hq).1)
def zerosTo (C : List Int) (i : Nat) : List Nat := (List.range i).filter (fun q => fn C q == 0)
theorem zerosTo_succ (C : List Int) (i : Nat) : zerosTo C (i + 1) = if fn C i = 0 then zerosTo C i ++ [i] else zerosTo C i := by
 unfold zerosTo
 rw [List.range_succ, List.filter_append]
 by_cases h : fn C i = 0
 ·rw [if_pos h]; simp [h]
 ·rw [if_neg h]; simp [h]
theorem zerosTo_sub (C : List Int) (i : Nat) : (zerosTo C i).Sublist (List.range i) := List.filter_sublist
theorem zerosTo_set {C : List Int} {i m : Nat} {x : Int} (hi : i < C.length) (hm : m ≤ i) : zerosTo (C.set i x) m = zerosTo C m := by
 unfold zerosTo
 refine List.filter_congr (fun q hq => ?_)
 rw [List.mem_range] at hq
 rw [fn_set hi, if_neg (by omega)]
theorem zeros_lt {C : List Int} {m k : Nat} (hk : k < (zerosTo C m).length) : (zerosTo C m).getD k 0 < m ∧ fn C ((zerosTo C m).getD k 0) = 0 := by
 have h : (zerosTo C m).getD k 0 ∈ zerosTo C m := by
  rw [List.getD_eq_getElem?_getD, List.getElem?_eq_getElem hk]
  exact List.getElem_mem hk
 unfold zerosTo at h ⊢
 rw [List.mem_filter, List.mem_range] at h
 exact ⟨h.1, by simpa using h.2⟩
theorem sum_zeros (C : List Int) (f : Nat → Int) : ∀ m, sumTo (fun q => if fn C q = 0 then f q else 0) m = sumTo (fun k => f ((zerosTo C m).getD k 0)) (zerosTo C m).length
 | 0 => rfl
 | m + 1 => by
  rw [show sumTo (fun q => if fn C q = 0 then f q else 0) (m + 1) = sumTo (fun q => if fn C q = 0 then f q else 0) m + (if fn C m = 0 then f m else 0) from rfl, sum_zeros C f m, zerosTo_succ]
  by_cases h : fn C m = 0
  ·rw [if_pos h, if_pos h, List.length_append, List.length_singleton]
   show _ = sumTo _ _ + f _
   rw [List.getD_eq_getElem?_getD, List.getElem?_append_right (by omega)]
   simp only [Nat.sub_self, List.getElem?_cons_zero, Option.getD_some]
   congr 1
   exact sumTo_congr (fun k hk => by rw [List.getD_eq_getElem?_getD, List.getD_eq_getElem?_getD, List.getElem?_append_left hk])
  ·rw [if_neg h, if_neg h]; omega
def rightOf (W H : Nat) (R : Bool) (C v : List Int) (i : Nat) : Int := sumTo (fun q => if 0 < fn C q then netM W H R i q * volt C v q else 0) (W * H)
theorem netM_self (W H : Nat) (R : Bool) (i : Nat) : netM W H R i i = 0 := by
 unfold netM
 split
 ·rename_i h
  have := cell_at h.1
  rw [if_neg (by omega), if_neg (by omega), if_neg (by omega), if_neg (by omega)]
 ·rfl
section
variable {W H : Nat} {R : Bool} {C v : List Int}
theorem mat_sum (hl : C.length = W * H) (hC : ∀ i, i < W * H → 0 ≤ fn C i) {x : List Int} (hx : ∀ i, i < C.length → 0 < fn C i → fn x i = volt C v i) {k : Nat} (hk : k < (zerosTo C (W * H)).length) :
  sumTo (fun j => matAt W H R (zerosTo C (W * H)) k j * fn x ((zerosTo C (W * H)).getD j 0)) (zerosTo C (W * H)).length =
   (net W H R C).T ((zerosTo C (W * H)).getD k 0) * fn x ((zerosTo C (W * H)).getD k 0) - ((net W H R C).S (fn x) ((zerosTo C (W * H)).getD k 0) - rightOf W H R C v ((zerosTo C (W * H)).getD k 0)) := by
 obtain ⟨c, hc⟩ : ∃ c, (zerosTo C (W * H)).getD k 0 = c := ⟨_, rfl⟩
 have h1 : sumTo (fun j => matAt W H R (zerosTo C (W * H)) k j * fn x ((zerosTo C (W * H)).getD j 0)) (zerosTo C (W * H)).length =
   sumTo (fun j => (if j = k then (net W H R C).T c * fn x c else 0) - netM W H R c ((zerosTo C (W * H)).getD j 0) * fn x ((zerosTo C (W * H)).getD j 0)) (zerosTo C (W * H)).length := sumTo_congr (fun j hj => by
  unfold matAt
  by_cases e : k = j
  ·subst e
   rw [if_pos rfl, if_pos rfl, hc, netM_self]
   show _ * _ = sumTo _ _ * _ - _
   rw [Int.zero_mul, Int.sub_zero]
   rfl
  ·rw [if_neg e, if_neg (Ne.symm e), hc, Int.neg_mul]; omega)
 rw [h1, sumTo_sub, sumTo_one _ _ hk, hc, ← sum_zeros C (fun q => netM W H R c q * fn x q) (W * H)]
 congr 1
 show _ = sumTo (fun q => netM W H R c q * fn x q) (W * H) - _
 unfold rightOf
 rw [← sumTo_sub]
 refine sumTo_congr (fun q hq => ?_)
 have := hC q hq
 by_cases e : fn C q = 0
 ·rw [if_pos e, if_neg (by omega)]; omega
 ·rw [if_neg e, if_pos (by omega), hx q (by omega) (by omega)]; omega
theorem low_right {u : Nat} (hl : C.length = W * H) (hC : ∀ i, i < W * H → 0 ≤ fn C i) {x : List Int} (h : Low W H R C (volt C v) u x) (hh : ∀ i, i < C.length → 0 < fn C i → fn x i = volt C v i) {k : Nat} (hk : k < (zerosTo C (W * H)).length) :
  sumTo (fun j => matAt W H R (zerosTo C (W * H)) k j * fn x ((zerosTo C (W * H)).getD j 0)) (zerosTo C (W * H)).length ≤ rightOf W H R C v ((zerosTo C (W * H)).getD k 0) := by
 rw [mat_sum hl hC hh hk]
 have hz := zeros_lt hk
 have h1 := h.2 _ hz.1 ((net_el _).2 (by omega))
 omega
theorem high_right {u : Nat} (hl : C.length = W * H) (hC : ∀ i, i < W * H → 0 ≤ fn C i) {x : List Int} (h : High W H R C (volt C v) u x) (hh : ∀ i, i < C.length → 0 < fn C i → fn x i = volt C v i) {k : Nat} (hk : k < (zerosTo C (W * H)).length) :
  rightOf W H R C v ((zerosTo C (W * H)).getD k 0) ≤ sumTo (fun j => matAt W H R (zerosTo C (W * H)) k j * fn x ((zerosTo C (W * H)).getD j 0)) (zerosTo C (W * H)).length := by
 rw [mat_sum hl hC hh hk]
 have hz := zeros_lt hk
 have h1 := h.2 _ hz.1 ((net_el _).2 (by omega))
 omega
end
end Go.Proofs.Field
end

section
namespace Go.Proofs.Ytndkkjpgnmahbaa.Print
open Go.RowKit YtndkkjpgnmahbaaW.PrintWords YtndkkjpgnmahbaaW.PrintLast YtndkkjpgnmahbaaW.PrintMore Ytndkkjpgnmahbaa.H Proofs.Field
theorem made_nil (n : Nat) : madeCells (Value.slice none 0 0).cells (n * 1) = Array.replicate n (Value.slice none 0 0) := by
 unfold madeCells
 rw [Nat.mul_one]
 apply Array.ext'
 simp [Value.cells]
 apply List.ext_getElem
 ·simp
 ·intro i h1 h2
  simp [Nat.mod_one]
theorem make_lists (m : Nat) (h : m ≤ 100000) : ∀ w : World, (Instr.makeSlice 46 (.int .i64 (m : Int)) (.int .i64 (m : Int))).run Try.prog w = .ok (.slice (some ⟨w.heap.size, 0, none⟩) m m) (w.alloc (.cells (Array.replicate m (Value.slice none 0 0)) 22)) := fun w => by
 obtain ⟨i0, hi, hz0, hz1, hz2⟩ := info_parts info22
 have hr := run_make (P := Try.prog) (w := w) 46 22 i0 (.slice none 0 0) Try.underlying46 hi hz0 .i64 .i64 (m : Int) (m : Int) (by omega) (by omega) (by rw [hz2]; omega) (by omega)
 rw [hz1, Int.toNat_natCast, made_nil] at hr
 exact hr
def topOf (n k m : Nat) (gs cap : Nat → Nat) : Array Value := ((List.range n).map (fun i => if i < k then Value.slice (some ⟨gs i, 0, none⟩) m (cap i) else .slice none 0 0)).toArray
theorem topOf_get {n k m : Nat} {gs cap : Nat → Nat} {i : Nat} (hi : i < n) : (topOf n k m gs cap)[i]? = some (if i < k then Value.slice (some ⟨gs i, 0, none⟩) m (cap i) else .slice none 0 0) := by
 unfold topOf
 rw [List.getElem?_toArray, List.getElem?_map, List.getElem?_range hi]
 rfl
theorem topOf_zero (n m : Nat) (gs cap : Nat → Nat) : topOf n 0 m gs cap = Array.replicate n (Value.slice none 0 0) := by
 apply Array.ext'
 unfold topOf
 apply List.ext_getElem
 ·simp
 ·intro i h1 h2; simp
def upd (f : Nat → Nat) (k x i : Nat) : Nat := if i = k then x else f i
theorem topOf_set {n k m : Nat} {gs cap : Nat → Nat} (hk : k < n) (g c : Nat) : (topOf n k m gs cap).setIfInBounds k (.slice (some ⟨g, 0, none⟩) m c) = topOf n (k + 1) m (upd gs k g) (upd cap k c) := by
 apply Array.ext'
 unfold topOf
 rw [List.setIfInBounds_toArray]
 apply List.ext_getElem
 ·simp
 ·intro i h1 h2
  simp only [List.length_set, List.length_map, List.length_range] at h1
  simp only [List.getElem_set, List.getElem_map, List.getElem_range]
  by_cases e : k = i
  ·subst e
   rw [if_pos rfl, if_pos (by omega)]
   simp [upd]
  ·rw [if_neg e]
   by_cases q : i < k
   ·rw [if_pos q, if_pos (by omega)]
    simp [upd, Ne.symm e]
   ·rw [if_neg q, if_neg (by omega)]
structure Tbl (w W : World) (gm n k m : Nat) (gs cap : Nat → Nat) (M : List (List Int)) : Prop where
 below : Below w.heap.size w W
 top : W.heap[gm]? = some (.cells (topOf n k m gs cap) 22 (0, 0))
 rows : ∀ i, i < k → ∃ cur, W.heap[gs i]? = some (.cells cur 3 (0, 0)) ∧ IsNums cur (row M i)
 cols : ∀ i, i < k → (row M i).length = m
 num : M.length = k
 caps : ∀ i, i < k → m ≤ cap i
 kn : k ≤ n
 ge0 : w.heap.size ≤ gm
 ge : ∀ i, i < k → w.heap.size ≤ gs i
 apart : ∀ i j, i < k → j < k → i ≠ j → gs i ≠ gs j
theorem row_set_self {M : List (List Int)} {i : Nat} {r : List Int} (hi : i < M.length) : row (M.set i r) i = r := by
 unfold row; simp [hi]
theorem row_set_ne {M : List (List Int)} {i j : Nat} {r : List Int} (h : i ≠ j) : row (M.set i r) j = row M j := by
 unfold row
 rw [List.getD_eq_getElem?_getD, List.getD_eq_getElem?_getD, List.getElem?_set_ne h]
theorem row_snoc_lt {M : List (List Int)} {i : Nat} {r : List Int} (h : i < M.length) : row (M ++ [r]) i = row M i := by
 unfold row
 rw [List.getD_eq_getElem?_getD, List.getD_eq_getElem?_getD, List.getElem?_append_left h]
theorem row_snoc {M : List (List Int)} {r : List Int} : row (M ++ [r]) M.length = r := by
 unfold row; simp
namespace Tbl
variable {w W W1 : World} {gm n k m : Nat} {gs cap : Nat → Nat} {M : List (List Int)}
theorem start (w : World) {W : World} (hb : Below w.heap.size w W) {gm : Nat} (hg : W.heap[gm]? = some (.cells (Array.replicate n (Value.slice none 0 0)) 22 (0, 0))) (hge : w.heap.size ≤ gm) (m : Nat) (gs cap : Nat → Nat) : Tbl w W gm n 0 m gs cap [] :=
 ⟨hb, by rw [topOf_zero]; exact hg, fun i h => absurd h (by omega), fun i h => absurd h (by omega), rfl, fun i h => absurd h (by omega), by omega, hge, fun i h => absurd h (by omega), fun i j h => absurd h (by omega)⟩
theorem step (h : Tbl w W gm n k m gs cap M) (hb : Below W.heap.size W W1) : Tbl w W1 gm n k m gs cap M :=
 ⟨below_step h.below hb, blk_below h.top hb, fun i hi => by obtain ⟨cur, a, b⟩ := h.rows i hi; exact ⟨cur, blk_below a hb, b⟩, h.cols, h.num, h.caps, h.kn, h.ge0, h.ge, h.apart⟩
theorem head (h : Tbl w W gm n k m gs cap M) {i : Nat} (hi : i < k) : W.cell? ⟨gm, i, none⟩ = some (.slice (some ⟨gs i, 0, none⟩) m (cap i)) := by
 have hk := h.kn
 rw [blk_cell h.top i, topOf_get (by omega), if_pos hi]
theorem cell (h : Tbl w W gm n k m gs cap M) {i j : Nat} (hi : i < k) (hj : j < m) : W.cell? ⟨gs i, j, none⟩ = some (.int .i64 (fn (row M i) j)) := by
 obtain ⟨cur, a, b⟩ := h.rows i hi
 rw [blk_cell a j]
 exact b.2 j (by rw [h.cols i hi]; exact hj)
theorem frozen (h : Tbl w W gm n k m gs cap M) {i : Nat} (hi : i < k) (j : Nat) : W.frozen? ⟨gs i, j, none⟩ = false := by
 obtain ⟨cur, a, b⟩ := h.rows i hi
 exact blk_frozen a j
theorem frozen0 (h : Tbl w W gm n k m gs cap M) (j : Nat) : W.frozen? ⟨gm, j, none⟩ = false := blk_frozen h.top j
theorem ne0 (h : Tbl w W gm n k m gs cap M) {i : Nat} (hi : i < k) : gm ≠ gs i := by
 obtain ⟨cur, a, b⟩ := h.rows i hi
 exact blk_ne h.top a (by decide)
theorem put (h : Tbl w W gm n k m gs cap M) {i : Nat} (hi : i < k) (j : Nat) (x : Int) : Tbl w (W.setCell ⟨gs i, j, none⟩ (.int .i64 x)) gm n k m gs cap (M.set i ((row M i).set j x)) := by
 have hn := h.num
 refine ⟨below_set h.below (h.ge i hi), blk_far (p := ⟨gs i, j, none⟩) h.top (h.ne0 hi) _, fun i2 hi2 => ?_, fun i2 hi2 => ?_, by rw [List.length_set]; exact hn, h.caps, h.kn, h.ge0, h.ge, h.apart⟩
 ·obtain ⟨cur, a, b⟩ := h.rows i2 hi2
  by_cases e : i = i2
  ·subst e
   exact ⟨_, blk_set a j _, by rw [row_set_self (by omega)]; exact b.set j x⟩
  ·exact ⟨cur, blk_far (p := ⟨gs i, j, none⟩) a (h.apart i2 i hi2 hi (Ne.symm e)) _, by rw [row_set_ne e]; exact b⟩
 ·by_cases e : i = i2
  ·subst e
   rw [row_set_self (by omega), List.length_set]; exact h.cols i hi2
  ·rw [row_set_ne e]; exact h.cols i2 hi2
theorem more (h : Tbl w W gm n k m gs cap M) (hb : Below W.heap.size W W1) (hk : k < n) {g c : Nat} {cur : Array Value} {r : List Int} (hg : W1.heap[g]? = some (.cells cur 3 (0, 0))) (hr : IsNums cur r) (hge : W.heap.size ≤ g) (hl : r.length = m) (hc : m ≤ c) :
  Tbl w (W1.setCell ⟨gm, k, none⟩ (.slice (some ⟨g, 0, none⟩) m c)) gm n (k + 1) m (upd gs k g) (upd cap k c) (M ++ [r]) := by
 have h1 := h.step hb
 have hn := h.num
 have hgg : gm ≠ g := by have := blk_lt h.top; omega
 have hlt : ∀ i, i < k → gs i ≠ g := fun i hi => by
  obtain ⟨cur, a, b⟩ := h.rows i hi
  have := blk_lt a; omega
 refine ⟨below_set h1.below h.ge0, ?_, fun i hi => ?_, fun i hi => ?_, by rw [List.length_append, hn]; rfl, fun i hi => ?_, by omega, h.ge0, fun i hi => ?_, fun i j hi hj hne => ?_⟩
 ·rw [blk_set h1.top k, topOf_set hk]
 ·by_cases e : i = k
  ·subst e
   refine ⟨cur, ?_, ?_⟩
   ·rw [show upd gs i g i = g by simp [upd]]
    exact blk_far (p := ⟨gm, i, none⟩) hg (Ne.symm hgg) _
   ·rw [← hn, row_snoc]; exact hr
  ·obtain ⟨cur, a, b⟩ := h1.rows i (by omega)
   refine ⟨cur, ?_, ?_⟩
   ·rw [show upd gs k g i = gs i by simp [upd, e]]
    exact blk_far (p := ⟨gm, k, none⟩) a (Ne.symm (h1.ne0 (by omega))) _
   ·rw [row_snoc_lt (by omega)]; exact b
 ·by_cases e : i = k
  ·subst e; rw [← hn, row_snoc]; exact hl
  ·rw [row_snoc_lt (by omega)]; exact h.cols i (by omega)
 ·by_cases e : i = k
  ·subst e; simpa [upd] using hc
  ·simpa [upd, e] using h.caps i (by omega)
 ·by_cases e : i = k
  ·subst e
   have := h.below.size
   simp [upd]; omega
  ·simpa [upd, e] using h.ge i (by omega)
 ·by_cases e : i = k
  ·subst e
   have := hlt j (by omega)
   simp [upd, Ne.symm hne]; exact Ne.symm this
  ·by_cases e2 : j = k
   ·subst e2
    have := hlt i (by omega)
    simp [upd, e]; exact this
   ·simpa [upd, e, e2] using h.apart i j (by omega) (by omega) hne
end Tbl
structure TRead (W : World) (gm n m : Nat) (gs cap : Nat → Nat) (A : Nat → Nat → Int) : Prop where
 lt : ∀ i, i < n → gs i < W.heap.size
 lt0 : 0 < n → gm < W.heap.size
 caps : ∀ i, i < n → m ≤ cap i
 head : ∀ i, i < n → W.cell? ⟨gm, i, none⟩ = some (.slice (some ⟨gs i, 0, none⟩) m (cap i))
 cell : ∀ i j, i < n → j < m → W.cell? ⟨gs i, j, none⟩ = some (.int .i64 (A i j))
theorem TRead.step {W W1 : World} {gm n m : Nat} {gs cap : Nat → Nat} {A : Nat → Nat → Int} (h : TRead W gm n m gs cap A) (hb : Below W.heap.size W W1) : TRead W1 gm n m gs cap A :=
 ⟨fun i hi => Nat.lt_of_lt_of_le (h.lt i hi) hb.size, fun hn => Nat.lt_of_lt_of_le (h.lt0 hn) hb.size, h.caps, fun i hi => cell_later hb (h.head i hi), fun i j hi hj => cell_later hb (h.cell i j hi hj)⟩
theorem Tbl.read {w W : World} {gm n m : Nat} {gs cap : Nat → Nat} {M : List (List Int)} (h : Tbl w W gm n n m gs cap M) : TRead W gm n m gs cap (fun i j => fn (row M i) j) :=
 ⟨fun i hi => by obtain ⟨cur, a, b⟩ := h.rows i hi; exact blk_lt a, fun _ => blk_lt h.top, h.caps, fun i hi => h.head hi, fun i j hi hj => h.cell hi hj⟩
theorem TRead.reads {W : World} {gm n m : Nat} {gs cap : Nat → Nat} {A : Nat → Nat → Int} (h : TRead W gm n m gs cap A) {i : Nat} (hi : i < n) (hm : m ≤ 1000000) : Kd.C (Kd.int .i64) W (some ⟨gs i, 0, none⟩) m (listOf m (A i)) := by
 have hl : (listOf m (A i)).length = m := listOf_length _ _
 refine Kd.C_of_reads (d := (0 : Int)) (h1 := fun _ => rfl) ⟨hl, by omega, fun _ => ⟨_, rfl, fun j hj => ?_⟩⟩
 rw [show (⟨gs i, 0, none⟩ : Addr).add j = ⟨gs i, j, none⟩ by unfold Addr.add; split <;> simp_all]
 rw [h.cell i j hi hj]
 show _ = some (Value.int .i64 (fn (listOf m (A i)) j))
 rw [fn_listOf _ hj]
structure LitV (W : World) (g : Nat) (x : Int) (v : Value) : Prop where
 b : W.heap[g]? = some (.cells #[.int .i64 x] 3 (0, 0))
 l : some g ≠ v.ownBlock
namespace LitV
variable {W W1 : World} {g : Nat} {x : Int} {v v1 : Value}
theorem reads (h : LitV W g x v) : Kd.C (Kd.int .i64) W (some ⟨g, 0, none⟩) 1 [x] := C_of_cells (b := [x]) h.b (by simp)
theorem step (h : LitV W g x v) (hb : Below W.heap.size W W1) : LitV W1 g x v := ⟨blk_below h.b hb, h.l⟩
theorem grow (h : LitV W g x v) (hg : W.grownBy W1 v.ownBlock) (hat : v1.ownBlock = v.ownBlock ∨ ∃ b, v1.ownBlock = some b ∧ W.heap.size ≤ b) : LitV W1 g x v1 :=
 ⟨(hg.block g (blk_lt h.b) h.l).trans h.b, by
  rcases hat with e | ⟨b, e, hb⟩
  ·rw [e]; exact h.l
  ·rw [e]; intro q; have := Option.some.inj q; have := blk_lt h.b; omega⟩
theorem fresh (h : LitV W g x v) (hat : ∃ b, v1.ownBlock = some b ∧ W.heap.size ≤ b) (hb : Below W.heap.size W W1) : LitV W1 g x v1 := ⟨blk_below h.b hb, by
 obtain ⟨b, e, hb⟩ := hat
 rw [e]; intro q; have := Option.some.inj q; have := blk_lt h.b; omega⟩
end LitV
end Go.Proofs.Ytndkkjpgnmahbaa.Print
end

section
namespace Go.Proofs.Field
open Go.Proofs.Ytndkkjpgnmahbaa.Print
section
variable {n k i t : Nat} {last : Int} {K r : List Int} {M : List (List Int)}
def partRow (k : Nat) (last : Int) (K r : List Int) (t : Nat) : List Int := listOf r.length (fun j => if t ≤ j ∧ j ≠ k then (fn r j * fn K k - fn r k * fn K j).tdiv last else fn r j)
theorem partRow_length (t : Nat) : (partRow k last K r t).length = r.length := listOf_length _ _
theorem fn_partRow (t : Nat) {j : Nat} (hj : j < r.length) : fn (partRow k last K r t) j = if t ≤ j ∧ j ≠ k then (fn r j * fn K k - fn r k * fn K j).tdiv last else fn r j := by
 unfold partRow
 rw [fn_listOf _ hj]
theorem partRow_top : partRow k last K r r.length = r := by
 apply list_ext (partRow_length _)
 intro j hj
 rw [partRow_length] at hj
 rw [fn_partRow _ hj, if_neg (by omega)]
theorem partRow_step (ht : t < r.length) (hk : t ≠ k) : (partRow k last K r (t + 1)).set t ((fn r t * fn K k - fn r k * fn K t).tdiv last) = partRow k last K r t := by
 apply list_ext (by rw [List.length_set, partRow_length, partRow_length])
 intro j hj
 rw [List.length_set, partRow_length] at hj
 rw [fn_set (by rw [partRow_length]; exact ht), fn_partRow _ hj, fn_partRow _ hj]
 by_cases e : j = t
 ·subst e; rw [if_pos rfl, if_pos ⟨by omega, hk⟩]
 ·rw [if_neg e]
  by_cases q : t + 1 ≤ j ∧ j ≠ k
  ·rw [if_pos q, if_pos (by omega)]
  ·rw [if_neg q, if_neg (by omega)]
theorem partRow_pass : partRow k last K r (k + 1) = partRow k last K r k := by
 apply list_ext (by rw [partRow_length, partRow_length])
 intro j hj
 rw [partRow_length] at hj
 rw [fn_partRow _ hj, fn_partRow _ hj]
 by_cases q : k + 1 ≤ j ∧ j ≠ k
 ·rw [if_pos q, if_pos (by omega)]
 ·rw [if_neg q, if_neg (by omega)]
theorem partRow_end (h : K.length = r.length) (hk : k < r.length) : (partRow k last K r 0).set k 0 = elimRow k last K r := by
 apply list_ext (by rw [List.length_set, partRow_length, elimRow_length h])
 intro j hj
 rw [List.length_set, partRow_length] at hj
 rw [fn_set (by rw [partRow_length]; exact hk), fn_partRow _ hj, fn_elimRow h hk hj]
 by_cases e : j = k
 ·rw [if_pos e, if_pos e]
 ·rw [if_neg e, if_neg e, if_pos ⟨by omega, e⟩]
def partM (k : Nat) (last : Int) (M : List (List Int)) (i : Nat) : List (List Int) := (List.range M.length).map (fun q => if q < i ∧ q ≠ k then elimRow k last (row M k) (row M q) else row M q)
def diagM (k : Nat) (last : Int) (M : List (List Int)) (i : Nat) : List (List Int) := (List.range M.length).map (fun q => if q = k then row M k else if q < i then (elimRow k last (row M k) (row M q)).set q (fn (row M k) k) else elimRow k last (row M k) (row M q))
theorem rows_ext {A B : List (List Int)} (hl : A.length = B.length) (h : ∀ q, q < A.length → row A q = row B q) : A = B := by
 apply List.ext_getElem hl
 intro i h1 h2
 have := h i h1
 unfold row at this
 rw [List.getD_eq_getElem?_getD, List.getD_eq_getElem?_getD, List.getElem?_eq_getElem h1, List.getElem?_eq_getElem h2] at this
 exact this
theorem partM_length (i : Nat) : (partM k last M i).length = M.length := by simp [partM]
theorem diagM_length (i : Nat) : (diagM k last M i).length = M.length := by simp [diagM]
theorem row_partM (i : Nat) {q : Nat} (hq : q < M.length) : row (partM k last M i) q = if q < i ∧ q ≠ k then elimRow k last (row M k) (row M q) else row M q := by
 unfold partM; rw [row_range hq]
theorem row_diagM (i : Nat) {q : Nat} (hq : q < M.length) : row (diagM k last M i) q = if q = k then row M k else if q < i then (elimRow k last (row M k) (row M q)).set q (fn (row M k) k) else elimRow k last (row M k) (row M q) := by
 unfold diagM; rw [row_range hq]
theorem partM_zero : partM k last M 0 = M := rows_ext (partM_length _) (fun q hq => by
 rw [partM_length] at hq
 rw [row_partM _ hq, if_neg (by omega)])
theorem partM_step (hi : i < M.length) (hk : i ≠ k) : (partM k last M i).set i (elimRow k last (row M k) (row M i)) = partM k last M (i + 1) := rows_ext (by rw [List.length_set, partM_length, partM_length]) (fun q hq => by
 rw [List.length_set, partM_length] at hq
 rw [row_partM _ hq]
 by_cases e : i = q
 ·subst e
  rw [row_set_self (by rw [partM_length]; exact hi), if_pos ⟨by omega, hk⟩]
 ·rw [row_set_ne e, row_partM _ hq]
  by_cases c : q < i ∧ q ≠ k
  ·rw [if_pos c, if_pos (by omega)]
  ·rw [if_neg c, if_neg (by omega)])
theorem partM_pass : partM k last M k = partM k last M (k + 1) := rows_ext (by rw [partM_length, partM_length]) (fun q hq => by
 rw [partM_length] at hq
 rw [row_partM _ hq, row_partM _ hq]
 by_cases c : q < k ∧ q ≠ k
 ·rw [if_pos c, if_pos (by omega)]
 ·rw [if_neg c, if_neg (by omega)])
theorem diagM_zero : diagM k last M 0 = partM k last M M.length := rows_ext (by rw [diagM_length, partM_length]) (fun q hq => by
 rw [diagM_length] at hq
 rw [row_diagM _ hq, row_partM _ hq]
 by_cases e : q = k
 ·subst e; rw [if_pos rfl, if_neg (by omega)]
 ·rw [if_neg e, if_neg (by omega), if_pos ⟨hq, e⟩])
theorem diagM_step (hi : i < k) (hk : k < M.length) : (diagM k last M i).set i ((row (diagM k last M i) i).set i (fn (row M k) k)) = diagM k last M (i + 1) := rows_ext (by rw [List.length_set, diagM_length, diagM_length]) (fun q hq => by
 rw [List.length_set, diagM_length] at hq
 rw [row_diagM _ hq]
 by_cases e : i = q
 ·subst e
  rw [row_set_self (by rw [diagM_length]; omega), row_diagM _ (by omega), if_neg (by omega), if_neg (by omega), if_neg (by omega), if_pos (by omega)]
 ·rw [row_set_ne e, row_diagM _ hq]
  by_cases c : q = k
  ·rw [if_pos c, if_pos c]
  ·rw [if_neg c, if_neg c]
   by_cases d : q < i
   ·rw [if_pos d, if_pos (by omega)]
   ·rw [if_neg d, if_neg (by omega)])
theorem diagM_end : diagM k last M k = elimM k last M := rows_ext (by rw [diagM_length, elimM_rows]) (fun q hq => by
 rw [diagM_length] at hq
 rw [row_diagM _ hq, row_elimM hq]
 rfl)
theorem aug_length (n : Nat) (A : Nat → Nat → Int) (b : List Int) : (augOf n A b).length = n := by simp [augOf]
theorem aug_take (A : Nat → Nat → Int) (b : List Int) (hi : i < n) : (augOf n A b).take (i + 1) = (augOf n A b).take i ++ [listOf n (A i) ++ [fn b i]] := by
 rw [List.take_add_one, List.getElem?_eq_getElem (by rw [aug_length]; exact hi)]
 congr 1
 show [_] = [_]
 congr 1
 unfold augOf
 rw [List.getElem_map, List.getElem_range]
 apply list_ext
 ·rw [listOf_length, List.length_append, listOf_length]; rfl
 ·intro j hj
  rw [listOf_length] at hj
  rw [fn_listOf _ hj]
  by_cases e : j < n
  ·rw [if_pos e, fn_append_lt (by rw [listOf_length]; exact e), fn_listOf _ e]
  ·rw [if_neg e, fn_append_ge (by rw [listOf_length]; omega), listOf_length, show j - n = 0 by omega]
   rfl
theorem tdiv_abs (a : Int) {d B : Int} (hd : 1 ≤ d) (h : -B ≤ a ∧ a ≤ B) : -B ≤ a.tdiv d ∧ a.tdiv d ≤ B := by
 have h1 : (a.tdiv d).natAbs = a.natAbs / d.natAbs := Int.natAbs_tdiv a d
 have h2 : a.natAbs / d.natAbs ≤ a.natAbs := Nat.div_le_self _ _
 omega
theorem elim_fit {x p c y l : Int} (hx : -400000000000 ≤ x ∧ x ≤ 400000000000) (hp : -1000000 ≤ p ∧ p ≤ 1000000) (hc : -1000000 ≤ c ∧ c ≤ 1000000) (hy : -400000000000 ≤ y ∧ y ≤ 400000000000) (hl : 1 ≤ l) :
  ∃ p1 p2 d q, Go.IntKind.i64.wrap (x * p) = p1 ∧ Go.IntKind.i64.wrap (c * y) = p2 ∧ Go.IntKind.i64.wrap (p1 - p2) = d ∧ Go.IntKind.i64.wrap (d.tdiv l) = q ∧ q = (x * p - c * y).tdiv l := by
 have h1 := mul_abs (X := 400000000000) (Y := 1000000) hx hp
 have h2 := mul_abs (X := 1000000) (Y := 400000000000) hc hy
 refine ⟨x * p, c * y, x * p - c * y, (x * p - c * y).tdiv l, IntWalk.i64_in _ (by omega), IntWalk.i64_in _ (by omega), IntWalk.i64_in _ (by omega), IntWalk.i64_in _ ?_, rfl⟩
 have h3 := tdiv_abs (x * p - c * y) (B := 800000000000000000) hl (by omega)
 omega
theorem SafeM.entry (h : SafeM n k last M) {q j : Nat} (hq : q < n) (hj : j < n + 1) : -400000000000 ≤ fn (row M q) j ∧ fn (row M q) j ≤ 400000000000 := by
 by_cases e : j < n
 ·have := h.small q j hq e; omega
 ·obtain rfl : j = n := by omega
  exact h.right q hq
end
end Go.Proofs.Field
end

section
namespace Go.Proofs.Ytndkkjpgnmahbaa.Print
open Go.RowKit YtndkkjpgnmahbaaW.PrintWords YtndkkjpgnmahbaaW.PrintLast YtndkkjpgnmahbaaW.PrintMore Ytndkkjpgnmahbaa.H Proofs.Field
def solF.T6 : Bool × List (List Nat × List Nat) := (true, [([], []), ([], []), ([], []), ([], []), ([], []), ([3, 4], [3, 4]), ([5], [5]), ([2, 6], [2, 6]), ([], []), ([], []), ([8, 9], [8, 9]), ([10], [10]), ([11], [11]), ([7, 12, 7], [7, 12]), ([0, 1, 0, 1, 2, 3, 4, 5, 6, 7, 8, 9, 10, 11, 12, 13], [0, 1]), ([14, 13, 13, 0, 1, 2, 3, 4, 5, 6, 7, 8, 9, 10, 11, 12, 13], [13, 14])])
def solF.B6 : List Nat := [0, 0, 0, 0, 0, 24, 56, 124, 0, 0, 768, 1792, 3840, 8188, 16383, 32767]
theorem solF.tab6 : rtab .any (opsOf Try.f34 6) = solF.T6 := by kernel_rfl
theorem solF.bits6 : waitsOk solF.T6.2 solF.B6 = true := by kernel_rfl
def solF.T21 : Bool × List (List Nat × List Nat) := (true, [([], []), ([], []), ([0, 1], [0, 1]), ([2], [2]), ([], []), ([], []), ([], []), ([5, 6], [5, 6]), ([7], [7]), ([], []), ([8, 9], [8, 9]), ([10], [10]), ([], []), ([], []), ([12, 13], [12, 13]), ([14], [14]), ([], []), ([15, 16], [15, 16]), ([17], [17]), ([11, 18], [11, 18]), ([], []), ([], []), ([20, 21], [20, 21]), ([22], [22]), ([], []), ([23, 24], [23, 24]), ([25], [25]), ([], []), ([], []), ([27, 28], [27, 28]), ([29], [29]), ([], []), ([30, 31], [30, 31]), ([32], [32]), ([26, 33], [26, 33]), ([19, 34], [19, 34]), ([], []), ([35, 36], [35, 36]), ([3, 4, 0, 1, 2, 3, 4, 5, 6, 7, 8, 9, 10, 11, 12, 13, 14, 15, 16, 17, 18, 19, 20, 21, 22, 23, 24, 25, 26, 27, 28, 29, 30, 31, 32, 33, 34, 35, 36, 37], [3, 4]), ([38, 37, 0, 1, 2, 3, 4, 5, 6, 7, 8, 9, 10, 11, 12, 13, 14, 15, 16, 17, 18, 19, 20, 21, 22, 23, 24, 25, 26, 27, 28, 29, 30, 31, 32, 33, 34, 35, 36, 37], [37, 38])])
def solF.B21 : List Nat := [0, 0, 3, 7, 0, 0, 0, 96, 224, 0, 992, 2016, 0, 0, 12288, 28672, 0, 126976, 258048, 524256, 0, 0, 3145728, 7340032, 0, 32505856, 66060288, 0, 0, 402653184, 939524096, 0, 4160749568, 8455716864, 17178820608, 34359738336, 0, 137438953440, 274877906943, 549755813887]
theorem solF.tab21 : rtab .any (opsOf Try.f34 21) = solF.T21 := by kernel_rfl
theorem solF.bits21 : waitsOk solF.T21.2 solF.B21 = true := by kernel_rfl
def solF.T26 : Bool × List (List Nat × List Nat) := (true, [([], []), ([], []), ([0, 1], [0, 1]), ([2], [2]), ([], []), ([], []), ([], []), ([5, 6], [5, 6]), ([7], [7]), ([], []), ([8, 9], [8, 9]), ([10], [10]), ([3, 4, 0, 1, 2, 3, 4, 5, 6, 7, 8, 9, 10, 11], [3, 4]), ([12, 11, 0, 1, 2, 3, 4, 5, 6, 7, 8, 9, 10, 11], [11, 12])])
def solF.B26 : List Nat := [0, 0, 3, 7, 0, 0, 0, 96, 224, 0, 992, 2016, 4095, 8191]
theorem solF.tab26 : rtab .any (opsOf Try.f34 26) = solF.T26 := by kernel_rfl
theorem solF.bits26 : waitsOk solF.T26.2 solF.B26 = true := by kernel_rfl
theorem Tbl.head0 {w W : World} {gm n k m : Nat} {gs cap : Nat → Nat} {M : List (List Int)} (h : Tbl w W gm n k m gs cap M) {i : Nat} (hi : i < n) : ∃ v, W.cell? ⟨gm, i, none⟩ = some v := ⟨_, (blk_cell h.top i).trans (topOf_get hi)⟩
theorem lit_step {P : Program} {ops : Array Oper} {o : Oper} {a : Act} {Q : Exit → Act → World → Prop} {Kc : Act → World → Prop} {W : World} {N : Option Tmp} (hw : Region.wanted o (yielded ops a.tmps) = true) (hN : o.dst = N) (inner : List Value) (n : Nat) (e : TypeId)
  (hrun : (execOp a.eval o).run P W = .ok (.value (.slice (some ⟨W.heap.size, 0, none⟩) n n)) (W.alloc (.cells inner.toArray e)))
  (h : ∀ g W1, W1.heap[g]? = some (.cells inner.toArray e (0, 0)) → g = W.heap.size → Below W.heap.size W W1 → Kc (a.put N (.slice (some ⟨g, 0, none⟩) n n)) W1) : if Region.wanted o (yielded ops a.tmps) = true then Oper.wp P o a W Kc Q else Kc (a.put N undef) W := by
 subst hN
 exact event_step hw hrun (h _ _ (blk_new W _) rfl (below_alloc (Below.refl _ _) _))
theorem R_empty {w0 W W1 : World} {g : Nat} (hb : W1.heap[g]? = some (.cells #[] 3 (0, 0))) (hg : g = W.heap.size) (hB : Below W.heap.size W W1) (hw : Below w0.heap.size w0 W) : Kd.R (Kd.int .i64) 3 W1 w0.heap.size (fun _ => True) (.slice (some ⟨g, 0, none⟩) 0 0) [] := by
 have := hw.size
 refine ⟨fun k hk => trivial, [], ⟨rfl, .inr ⟨g, 0, #[], rfl, by omega, hb, by simp, by unfold maxLen; omega, by simp, by simp⟩⟩, Reps.none _ _⟩
section
variable {w W : World} {gm n k i t : Nat} {gs cap : Nat → Nat} {M : List (List Int)} {last x p c y q : Int}
theorem six_cells (h : Tbl w W gm n n (n + 1) gs cap ((partM k last M i).set i (partRow k last (row M k) (row M i) (t + 1)))) (hi : i < n) (hk : k < n) (ht : t < n + 1)
  (he : M.length = n ∧ (row M i).length = n + 1 ∧ i ≠ k ∧ fn (row M i) t = x ∧ fn (row M k) k = p ∧ fn (row M i) k = c ∧ fn (row M k) t = y) :
  W.cell? ⟨gm, i, none⟩ = some (.slice (some ⟨gs i, 0, none⟩) (n + 1) (cap i)) ∧ W.cell? ⟨gm, k, none⟩ = some (.slice (some ⟨gs k, 0, none⟩) (n + 1) (cap k)) ∧ W.cell? ⟨gs i, t, none⟩ = some (.int .i64 x) ∧ W.cell? ⟨gs k, k, none⟩ = some (.int .i64 p) ∧ W.cell? ⟨gs i, k, none⟩ = some (.int .i64 c) ∧ W.cell? ⟨gs k, t, none⟩ = some (.int .i64 y) := by
 obtain ⟨e1, e2, e3, e4, e5, e6, e7⟩ := he
 have hri : row ((partM k last M i).set i (partRow k last (row M k) (row M i) (t + 1))) i = partRow k last (row M k) (row M i) (t + 1) := row_set_self (by rw [partM_length]; omega)
 have hrk : row ((partM k last M i).set i (partRow k last (row M k) (row M i) (t + 1))) k = row M k := by
  rw [row_set_ne e3, row_partM _ (by omega), if_neg (by omega)]
 have a3 := h.cell hi ht
 have a4 := h.cell hk (show k < n + 1 by omega)
 have a5 := h.cell hi (show k < n + 1 by omega)
 have a6 := h.cell hk ht
 rw [hri, fn_partRow _ (by omega), if_neg (by omega), e4] at a3
 rw [hrk, e5] at a4
 rw [hri, fn_partRow _ (by omega), if_neg (by omega), e6] at a5
 rw [hrk, e7] at a6
 exact ⟨h.head hi, h.head hk, a3, a4, a5, a6⟩
theorem part_put (h : Tbl w W gm n n (n + 1) gs cap (((partM k last M i).set i (partRow k last (row M k) (row M i) (t + 1))).set i ((row ((partM k last M i).set i (partRow k last (row M k) (row M i) (t + 1))) i).set t q))) (hi : i < n) (ht : t < n + 1) (hne : t ≠ k)
  (he : M.length = n ∧ (row M i).length = n + 1 ∧ q = (fn (row M i) t * fn (row M k) k - fn (row M i) k * fn (row M k) t).tdiv last) : Tbl w W gm n n (n + 1) gs cap ((partM k last M i).set i (partRow k last (row M k) (row M i) t)) := by
 obtain ⟨e1, e2, e3⟩ := he
 subst e3
 rw [row_set_self (by rw [partM_length]; omega), List.set_set, partRow_step (by omega) hne] at h
 exact h
theorem three_cells (h : Tbl w W gm n n (n + 1) gs cap (diagM k last M i)) (hi : i < n) (hk : k < n) (he : M.length = n ∧ fn (row M k) k = p) :
  W.cell? ⟨gm, i, none⟩ = some (.slice (some ⟨gs i, 0, none⟩) (n + 1) (cap i)) ∧ W.cell? ⟨gm, k, none⟩ = some (.slice (some ⟨gs k, 0, none⟩) (n + 1) (cap k)) ∧ W.cell? ⟨gs k, k, none⟩ = some (.int .i64 p) := by
 have a4 := h.cell hk (show k < n + 1 by omega)
 rw [row_diagM _ (by omega), if_pos rfl, he.2] at a4
 exact ⟨h.head hi, h.head hk, a4⟩
theorem diag_put (h : Tbl w W gm n n (n + 1) gs cap ((diagM k last M i).set i ((row (diagM k last M i) i).set i p))) (hi : i < k) (hk : k < M.length) (he : fn (row M k) k = p) : Tbl w W gm n n (n + 1) gs cap (diagM k last M (i + 1)) := by
 subst he
 rw [diagM_step hi hk] at h
 exact h
theorem part_end (h : Tbl w W gm n n (n + 1) gs cap (((partM k last M i).set i (partRow k last (row M k) (row M i) 0)).set i ((row ((partM k last M i).set i (partRow k last (row M k) (row M i) 0)) i).set k 0))) (hi : i < n) (hk : k < n) (hr : M.length = n) (hc : (row M i).length = n + 1) (hc2 : (row M k).length = n + 1) (hik : i ≠ k) : Tbl w W gm n n (n + 1) gs cap (partM k last M (i + 1)) := by
 rw [row_set_self (by rw [partM_length]; omega), List.set_set, partRow_end (by omega) (by omega), partM_step (by omega) hik] at h
 exact h
theorem tbl_far {k m go : Nat} {cs : Array Value} (h : Tbl w W gm n k m gs cap M) (hm : Mem w W [(go, cs, 3)]) (hne : ∀ i, i < k → gs i ≠ go) (j : Nat) (v : Value) : Tbl w (W.setCell ⟨go, j, none⟩ v) gm n k m gs cap M :=
 ⟨below_set h.below hm.geh, blk_far (p := ⟨go, j, none⟩) h.top (blk_ne h.top hm.head (by decide)) _, fun i hi => by obtain ⟨cur, a, b⟩ := h.rows i hi; exact ⟨cur, blk_far (p := ⟨go, j, none⟩) a (hne i hi) _, b⟩, h.cols, h.num, h.caps, h.kn, h.ge0, h.ge, h.apart⟩
theorem fill_list (f : Nat → Int) (n : Nat) : fillTo f n n = listOf n f := by
 apply fn_ext
 ·rw [fillTo_length, listOf_length]
 ·intro j hj
  rw [fillTo_length] at hj
  rw [fn_fillTo f hj, if_pos hj, fn_listOf _ hj]
theorem part_top (h : Tbl w W gm n n (n + 1) gs cap (partM k last M i)) (hr : M.length = n) (hi : i < n) (hc : (row M i).length = n + 1) : Tbl w W gm n n (n + 1) gs cap ((partM k last M i).set i (partRow k last (row M k) (row M i) (n + 1))) := by
 have e : (partM k last M i).set i (partRow k last (row M k) (row M i) (n + 1)) = partM k last M i := rows_ext (by rw [List.length_set]) (fun q hq => by
  rw [List.length_set, partM_length] at hq
  by_cases e : i = q
  ·subst e
   rw [row_set_self (by rw [partM_length]; omega), row_partM _ hq, if_neg (by omega), ← hc, partRow_top]
  ·rw [row_set_ne e])
 rw [e]; exact h
end
theorem solved_calls (n : Nat) (hn : n ≤ 4) (ga : Nat) (gsa capa : Nat → Nat) (A : Nat → Nat → Int) (A1 : Option Addr) (c1 : Nat) (b : List Int) (l : Int) (M' : List (List Int)) (w : World)
  (hA : TRead w ga n n gsa capa A) (hb : Kd.C (Kd.int .i64) w A1 b.length b) (hbl : b.length = n) (hf : Fits n n 0 1 (augOf n A b)) (hrun : elimRun n 0 1 (augOf n A b) = (l, M')) :
  Calls Try.prog 34 #[.slice (some ⟨ga, 0, none⟩) n n, .slice A1 n c1] w fun e w' => ∃ go, e = .returned (.tuple #[.int .i64 l, .slice (some ⟨go, 0, none⟩) n n]) ∧ w'.heap[go]? = some (.cells (numsA (listOf n (fun i => fn (row M' i) n))) 3 (0, 0)) ∧ w.heap.size ≤ go ∧ Below w.heap.size w w' := by
 have hmk := make_ints n (by omega)
 have hml := make_lists n (by omega)
 have HNS := Aside0.mk hn
 have HA := Aside0.mk hA
 have HBV := Aside0.mk hb
 have HBL := Aside0.mk hbl
 have HF := Aside0.mk hf
 have HRUN := Aside0.mk hrun
 have hu22 := Try.underlying22
 have hu46 := Try.underlying46
 clear hn hA hb hbl hf hrun
 go_enter Try.func34, Try.ntmps34
 go_upto_region 3 with fail
 go_cut [6, 7, 8] (fun v6 v7 v8 wc => ∃ (gm : Nat) (gs cap : Nat → Nat), v6 = .int .i64 (n : Int) ∧ v7 = .slice (some ⟨gm, 0, none⟩) n n ∧ v8 = .int .i64 0 ∧ Aside0 (Tbl w wc gm n 0 (n + 1) gs cap ((augOf n A b).take 0)))
 case first =>
  go_wp2_with fail
  go_meet
  case rel => exact ⟨_, fun _ => 0, fun _ => 0, rfl, rfl, rfl, ⟨Tbl.start w (below_alloc (Below.refl _ _) _) (blk_new _ _) (Nat.le_refl _) _ _ _⟩⟩
 case rest =>
 obtain ⟨gm, gs0, cap0, rfl, rfl, rfl, HT0⟩ := hcut
 clear hml
 go_wp2_with fail
 go_loopg [8] n (fun d v8 w' => ∃ (i : Nat) (gs cap : Nat → Nat), v8 = .int .i64 (i : Int) ∧ Aside0 (i + d = n) ∧ Aside0 (Tbl w w' gm n i (n + 1) gs cap ((augOf n A b).take i)))
 case atStart => exact ⟨0, gs0, cap0, rfl, ⟨Nat.zero_add _⟩, HT0⟩
 case round =>
  clear HT0
  obtain ⟨i, gs, cap, rfl, HK, HT⟩ := hrel
  by_cases hi : i < n
  ·have HI := Aside0.mk hi
   have d1 : decide ((i : Int) < (n : Int)) = true := decide_eq_true (by omega)
   have d2 : decide (i < n) = true := by simp; omega
   have d5 : wrap64 ((i : Int) + 1) = ((i + 1 : Nat) : Int) := by rw [IntWalk.wrap64_in _ (by have := HNS.out; omega)]; omega
   have d3 : (0 : Int) ≤ (i : Int) := by omega
   have d4 : (i : Int) < (n : Int) := by omega
   have hAR := (HA.out.step HT.out.below)
   have HAR := Aside0.mk (hAR.reads HI.out (by have := HNS.out; omega))
   obtain ⟨ad, ead, hxb⟩ := at_row (Kd.C_below HBV.out HT.out.below) i (by rw [HBL.out]; exact hi)
   subst ead
   obtain ⟨bi, hbi⟩ : ∃ bi, fn b i = bi := ⟨_, rfl⟩
   rw [hbi] at hxb
   have HC2 := Aside0.mk (And.intro (hAR.head i hi) hxb)
   have HTK : Aside0 ((augOf n A b).take (i + 1) = (augOf n A b).take i ++ [listOf n (A i) ++ [bi]]) := ⟨by rw [aug_take A b hi, hbi]⟩
   clear hAR hxb hbi hi
   go_upto_region 6 with fail
   refine start_ (n := 16) (S := fun w' => w'.cell? ⟨ga, i, none⟩ = some (.slice (some ⟨gsa i, 0, none⟩) n (capa i)) ∧ w'.cell? (ad.add i) = some (.int .i64 bi)) (ds := [15]) (bS 16 0) (by kernel_rfl) rfl rfl (⟨HC2.out.1, HC2.out.2⟩) (fun hHeld => ?_); refine with_tabW solF.tab6 solF.bits6 (fun HT_ HW_ => ?_)
   have HB := Aside0.mk (below_drew1 (Below.refl wr.heap.size wr))
   refine pu_ 0 25 (bS 16 1) HT_ ?_
   refine pu_ 1 26 (bS 16 3) HT_ ?_
   refine pu_ 3 28 (bS 16 11) HT_ ?_
   refine pu_ 4 29 (bS 16 27) HT_ ?_
   refine pu_ 5 30 (bS 16 59) HT_ ?_
   refine pu_ 8 33 (bS 16 315) HT_ ?_
   refine pu_ 9 34 (bS 16 827) HT_ ?_
   refine pu_ 10 35 (bS 16 1851) HT_ ?_
   refine ta_ 6 31 (bS 16 1915) HT_ HW_ hHeld ?_
   refine ta_ 11 36 (bS 16 3963) HT_ HW_ hHeld ?_
   refine two_ (i := 2) (j := 12) (Ni := some 27) (Nj := some 37) (bS 16 3967) (bS 16 8059) rfl rfl rfl rfl (two_of HT_.out (by kernel_rfl)) (by decide) (by decide) (fun K hK => ?_) (fun K hK => ?_)
   ·refine lit_step (by rfl) rfl [] 0 3 (by first | (go_simp; done) | (go_simp; rfl)) (fun ge wq hbk hge hBx => ?_)
    have HV := Aside0.mk (R_empty hbk hge hBx HB.out)
    have HB2 := Aside0.mk (below_step HB.out hBx)
    clear HB hbk hge hBx
    have HB := HB2
    clear HB2
    refine hK.out _ _ (⟨cell_later HB.out HC2.out.1, cell_later HB.out HC2.out.2⟩) (fun hHeld => ?_)
    clear hK K
    refine nm_ ?_
    refine two_ (i := 7) (j := 12) (Ni := some 32) (Nj := some 37) (bS 16 4095) (bS 16 8063) rfl rfl rfl rfl (two_of HT_.out (by kernel_rfl)) (by decide) (by decide) (fun K hK => ?_) (fun K hK => ?_)
    ·refine Kd.R_append_rows_step (Kd.int .i64) (Rr := (Kd.int .i64).K _) (w0 := wr) wr.heap.size (by rfl) (.tmp 27) (.tmp 31) 22 3 (.int .i64 0) 8 rfl Try.underlying22 info3 rfl (by decide) (by omega) (.slice (some ⟨ge, 0, none⟩) 0 0) ([]) (listOf n (A i)) (some ⟨gsa i, 0, none⟩) n (capa i) (fun _ => True) (fun _ => False) rfl rfl HV.out (Kd.C_below HAR.out HB.out) (fun x cs h => h) (fun _ h => h.elim) (fun _ _ => trivial) HB.out HB.out.size (by simp [listOf_length]; have := HNS.out; omega) ?_
     intro v1 wq hR hBx hg hat
     rw [List.nil_append] at hR
     clear HV HB
     have HV := Aside0.mk hR
     have HB := Aside0.mk hBx
     clear hR hBx hg hat
     refine hK.out _ _ (⟨cell_later HB.out HC2.out.1, cell_later HB.out HC2.out.2⟩) (fun hHeld => ?_)
     clear hK K
     refine nm_ ?_
     refine on_ 12 37 (bS 16 8191) (fun K hK => ?_) (one_of HT_.out (by kernel_rfl))
     refine lit_step (by rfl) rfl [.int .i64 bi] 1 3 (by first | (go_simp; done) | (go_simp; rfl)) (fun gl wq hbk hge hBx => ?_)
     have HL := Aside0.mk (LitV.mk hbk (Kd.fresh' (Kd.R_lt HV.out) _ (by omega)))
     have HV2 := Aside0.mk (Kd.R_below HV.out hBx)
     clear HV
     have HV := HV2
     clear HV2
     have HB2 := Aside0.mk (below_step HB.out hBx)
     clear HB hbk hge hBx
     have HB := HB2
     clear HB2
     refine hK.out _ _ (⟨cell_later HB.out HC2.out.1, cell_later HB.out HC2.out.2⟩) (fun hHeld => ?_)
     clear hK K
     refine nm_ ?_
     refine on_ 13 38 (bS 16 16383) (fun K hK => ?_) (one_of HT_.out (by kernel_rfl))
     refine Kd.R_append_rows_step (Kd.int .i64) (Rr := (Kd.int .i64).K _) (w0 := wr) wr.heap.size (by rfl) (.tmp 32) (.tmp 37) 22 3 (.int .i64 0) 8 rfl Try.underlying22 info3 rfl (by decide) (by omega) (v1) (listOf n (A i)) ([bi]) (some ⟨gl, 0, none⟩) 1 1 (fun _ => True) (fun _ => False) rfl rfl HV.out (HL.out.reads) (fun x cs h => h) (fun _ h => h.elim) (fun _ _ => trivial) HB.out HB.out.size (by simp [listOf_length]; have := HNS.out; omega) ?_
     intro v2 wq hR hBx hg hat
     clear HV HB HL
     obtain ⟨gR, cR, cuR, eR, hcR, hbR, hgR, _, hnR⟩ := R_mem hR (by simp)
     have eL : (listOf n (A i) ++ [bi]).length = n + 1 := by simp [listOf_length]
     rw [eL] at eR
     subst eR
     have HV := Aside0.mk (And.intro hbR (And.intro hgR (And.intro hnR (And.intro eL (by rw [eL] at hcR; exact hcR)))))
     have HB := Aside0.mk hBx
     clear hR hBx hg hat hbR hgR hnR eL hcR
     refine hK.out _ _ (⟨cell_later HB.out HC2.out.1, cell_later HB.out HC2.out.2⟩) (fun hHeld => ?_)
     clear hK K
     refine nm_ ?_
     refine pu_ 14 39 (bS 16 32767) HT_ ?_
     refine la_ 15 (bS 16 65535) (fun K hK => ?_) (one_of HT_.out (by kernel_rfl))
     obtain ⟨vo, cX⟩ := (HT.out.step HB.out).head0 (i := i) HI.out
     have fX := (HT.out.step HB.out).frozen0 i
     go_simp
     refine hK.out _ _ ?_
     clear hK K
     refine done_ (done_of HT_.out (by kernel_rfl)) ?_
     clear hHeld HT_ HW_ cX fX
     have HT2 := Aside0.mk (HT.out.more HB.out HI.out HV.out.1 HV.out.2.2.1 HV.out.2.1 HV.out.2.2.2.1 HV.out.2.2.2.2)
     generalize wq.setCell _ _ = wz at HT2 ⊢
     clear HT HV HB
     go_wp2_with fail
     go_roundg (n - (i + 1))
     case measure => have := HI.out; have := HK.out; omega
     case rel => exact ⟨i + 1, _, _, by first | exact congrArg _ d5 | go_num, ⟨by have := HK.out; have := HI.out; omega⟩, ⟨by have h := HT2.out; rw [← HTK.out] at h; exact h⟩⟩
    ·refine lit_step (by rfl) rfl [.int .i64 bi] 1 3 (by first | (go_simp; done) | (go_simp; rfl)) (fun gl wq hbk hge hBx => ?_)
     have HL := Aside0.mk (LitV.mk hbk (Kd.fresh' (Kd.R_lt HV.out) _ (by omega)))
     have HV2 := Aside0.mk (Kd.R_below HV.out hBx)
     clear HV
     have HV := HV2
     clear HV2
     have HB2 := Aside0.mk (below_step HB.out hBx)
     clear HB hbk hge hBx
     have HB := HB2
     clear HB2
     refine hK.out _ _ (⟨cell_later HB.out HC2.out.1, cell_later HB.out HC2.out.2⟩) (fun hHeld => ?_)
     clear hK K
     refine nm_ ?_
     refine on_ 7 32 (bS 16 8191) (fun K hK => ?_) (one_of HT_.out (by kernel_rfl))
     refine Kd.R_append_rows_step (Kd.int .i64) (Rr := (Kd.int .i64).K _) (w0 := wr) wr.heap.size (by rfl) (.tmp 27) (.tmp 31) 22 3 (.int .i64 0) 8 rfl Try.underlying22 info3 rfl (by decide) (by omega) (.slice (some ⟨ge, 0, none⟩) 0 0) ([]) (listOf n (A i)) (some ⟨gsa i, 0, none⟩) n (capa i) (fun _ => True) (fun _ => False) rfl rfl HV.out (Kd.C_below HAR.out HB.out) (fun x cs h => h) (fun _ h => h.elim) (fun _ _ => trivial) HB.out HB.out.size (by simp [listOf_length]; have := HNS.out; omega) ?_
     intro v1 wq hR hBx hg hat
     have HL2 := Aside0.mk (HL.out.grow hg hat)
     clear HL
     have HL := HL2
     clear HL2
     rw [List.nil_append] at hR
     clear HV HB
     have HV := Aside0.mk hR
     have HB := Aside0.mk hBx
     clear hR hBx hg hat
     refine hK.out _ _ (⟨cell_later HB.out HC2.out.1, cell_later HB.out HC2.out.2⟩) (fun hHeld => ?_)
     clear hK K
     refine nm_ ?_
     refine on_ 13 38 (bS 16 16383) (fun K hK => ?_) (one_of HT_.out (by kernel_rfl))
     refine Kd.R_append_rows_step (Kd.int .i64) (Rr := (Kd.int .i64).K _) (w0 := wr) wr.heap.size (by rfl) (.tmp 32) (.tmp 37) 22 3 (.int .i64 0) 8 rfl Try.underlying22 info3 rfl (by decide) (by omega) (v1) (listOf n (A i)) ([bi]) (some ⟨gl, 0, none⟩) 1 1 (fun _ => True) (fun _ => False) rfl rfl HV.out (HL.out.reads) (fun x cs h => h) (fun _ h => h.elim) (fun _ _ => trivial) HB.out HB.out.size (by simp [listOf_length]; have := HNS.out; omega) ?_
     intro v2 wq hR hBx hg hat
     clear HV HB HL
     obtain ⟨gR, cR, cuR, eR, hcR, hbR, hgR, _, hnR⟩ := R_mem hR (by simp)
     have eL : (listOf n (A i) ++ [bi]).length = n + 1 := by simp [listOf_length]
     rw [eL] at eR
     subst eR
     have HV := Aside0.mk (And.intro hbR (And.intro hgR (And.intro hnR (And.intro eL (by rw [eL] at hcR; exact hcR)))))
     have HB := Aside0.mk hBx
     clear hR hBx hg hat hbR hgR hnR eL hcR
     refine hK.out _ _ (⟨cell_later HB.out HC2.out.1, cell_later HB.out HC2.out.2⟩) (fun hHeld => ?_)
     clear hK K
     refine nm_ ?_
     refine pu_ 14 39 (bS 16 32767) HT_ ?_
     refine la_ 15 (bS 16 65535) (fun K hK => ?_) (one_of HT_.out (by kernel_rfl))
     obtain ⟨vo, cX⟩ := (HT.out.step HB.out).head0 (i := i) HI.out
     have fX := (HT.out.step HB.out).frozen0 i
     go_simp
     refine hK.out _ _ ?_
     clear hK K
     refine done_ (done_of HT_.out (by kernel_rfl)) ?_
     clear hHeld HT_ HW_ cX fX
     have HT2 := Aside0.mk (HT.out.more HB.out HI.out HV.out.1 HV.out.2.2.1 HV.out.2.1 HV.out.2.2.2.1 HV.out.2.2.2.2)
     generalize wq.setCell _ _ = wz at HT2 ⊢
     clear HT HV HB
     go_wp2_with fail
     go_roundg (n - (i + 1))
     case measure => have := HI.out; have := HK.out; omega
     case rel => exact ⟨i + 1, _, _, by first | exact congrArg _ d5 | go_num, ⟨by have := HK.out; have := HI.out; omega⟩, ⟨by have h := HT2.out; rw [← HTK.out] at h; exact h⟩⟩
   ·refine lit_step (by rfl) rfl [.int .i64 bi] 1 3 (by first | (go_simp; done) | (go_simp; rfl)) (fun gl wq hbk hge hBx => ?_)
    have HL := Aside0.mk (LitV.mk (v := .slice none 0 0) hbk (by simp [Value.ownBlock]))
    have HB2 := Aside0.mk (below_step HB.out hBx)
    clear HB hbk hge hBx
    have HB := HB2
    clear HB2
    refine hK.out _ _ (⟨cell_later HB.out HC2.out.1, cell_later HB.out HC2.out.2⟩) (fun hHeld => ?_)
    clear hK K
    refine nm_ ?_
    refine on_ 2 27 (bS 16 8063) (fun K hK => ?_) (one_of HT_.out (by kernel_rfl))
    refine lit_step (by rfl) rfl [] 0 3 (by first | (go_simp; done) | (go_simp; rfl)) (fun ge wq hbk hge hBx => ?_)
    have HV := Aside0.mk (R_empty hbk hge hBx HB.out)
    have HL2 := Aside0.mk (HL.out.fresh (v1 := .slice (some ⟨ge, 0, none⟩) 0 0) ⟨ge, rfl, by omega⟩ hBx)
    clear HL
    have HL := HL2
    clear HL2
    have HB2 := Aside0.mk (below_step HB.out hBx)
    clear HB hbk hge hBx
    have HB := HB2
    clear HB2
    refine hK.out _ _ (⟨cell_later HB.out HC2.out.1, cell_later HB.out HC2.out.2⟩) (fun hHeld => ?_)
    clear hK K
    refine nm_ ?_
    refine on_ 7 32 (bS 16 8191) (fun K hK => ?_) (one_of HT_.out (by kernel_rfl))
    refine Kd.R_append_rows_step (Kd.int .i64) (Rr := (Kd.int .i64).K _) (w0 := wr) wr.heap.size (by rfl) (.tmp 27) (.tmp 31) 22 3 (.int .i64 0) 8 rfl Try.underlying22 info3 rfl (by decide) (by omega) (.slice (some ⟨ge, 0, none⟩) 0 0) ([]) (listOf n (A i)) (some ⟨gsa i, 0, none⟩) n (capa i) (fun _ => True) (fun _ => False) rfl rfl HV.out (Kd.C_below HAR.out HB.out) (fun x cs h => h) (fun _ h => h.elim) (fun _ _ => trivial) HB.out HB.out.size (by simp [listOf_length]; have := HNS.out; omega) ?_
    intro v1 wq hR hBx hg hat
    have HL2 := Aside0.mk (HL.out.grow hg hat)
    clear HL
    have HL := HL2
    clear HL2
    rw [List.nil_append] at hR
    clear HV HB
    have HV := Aside0.mk hR
    have HB := Aside0.mk hBx
    clear hR hBx hg hat
    refine hK.out _ _ (⟨cell_later HB.out HC2.out.1, cell_later HB.out HC2.out.2⟩) (fun hHeld => ?_)
    clear hK K
    refine nm_ ?_
    refine on_ 13 38 (bS 16 16383) (fun K hK => ?_) (one_of HT_.out (by kernel_rfl))
    refine Kd.R_append_rows_step (Kd.int .i64) (Rr := (Kd.int .i64).K _) (w0 := wr) wr.heap.size (by rfl) (.tmp 32) (.tmp 37) 22 3 (.int .i64 0) 8 rfl Try.underlying22 info3 rfl (by decide) (by omega) (v1) (listOf n (A i)) ([bi]) (some ⟨gl, 0, none⟩) 1 1 (fun _ => True) (fun _ => False) rfl rfl HV.out (HL.out.reads) (fun x cs h => h) (fun _ h => h.elim) (fun _ _ => trivial) HB.out HB.out.size (by simp [listOf_length]; have := HNS.out; omega) ?_
    intro v2 wq hR hBx hg hat
    clear HV HB HL
    obtain ⟨gR, cR, cuR, eR, hcR, hbR, hgR, _, hnR⟩ := R_mem hR (by simp)
    have eL : (listOf n (A i) ++ [bi]).length = n + 1 := by simp [listOf_length]
    rw [eL] at eR
    subst eR
    have HV := Aside0.mk (And.intro hbR (And.intro hgR (And.intro hnR (And.intro eL (by rw [eL] at hcR; exact hcR)))))
    have HB := Aside0.mk hBx
    clear hR hBx hg hat hbR hgR hnR eL hcR
    refine hK.out _ _ (⟨cell_later HB.out HC2.out.1, cell_later HB.out HC2.out.2⟩) (fun hHeld => ?_)
    clear hK K
    refine nm_ ?_
    refine pu_ 14 39 (bS 16 32767) HT_ ?_
    refine la_ 15 (bS 16 65535) (fun K hK => ?_) (one_of HT_.out (by kernel_rfl))
    obtain ⟨vo, cX⟩ := (HT.out.step HB.out).head0 (i := i) HI.out
    have fX := (HT.out.step HB.out).frozen0 i
    go_simp
    refine hK.out _ _ ?_
    clear hK K
    refine done_ (done_of HT_.out (by kernel_rfl)) ?_
    clear hHeld HT_ HW_ cX fX
    have HT2 := Aside0.mk (HT.out.more HB.out HI.out HV.out.1 HV.out.2.2.1 HV.out.2.1 HV.out.2.2.2.1 HV.out.2.2.2.2)
    generalize wq.setCell _ _ = wz at HT2 ⊢
    clear HT HV HB
    go_wp2_with fail
    go_roundg (n - (i + 1))
    case measure => have := HI.out; have := HK.out; omega
    case rel => exact ⟨i + 1, _, _, by first | exact congrArg _ d5 | go_num, ⟨by have := HK.out; have := HI.out; omega⟩, ⟨by have h := HT2.out; rw [← HTK.out] at h; exact h⟩⟩
  ·obtain rfl : n = i := by have := HK.out; omega
   have d1 : decide ((n : Int) < (n : Int)) = false := by simp
   have d2 : decide (n < n) = false := by simp
   go_upto_region 7 with fail
   go_cut [9] (fun v9 wc => ∃ (gs cap : Nat → Nat), v9 = .int .i64 1 ∧ Aside0 (Tbl w wc gm n n (n + 1) gs cap (augOf n A b)))
   case first =>
    go_wp2_with fail
    go_meet
    case rel => exact ⟨gs, cap, rfl, ⟨by have h := HT.out; rw [List.take_of_length_le (by rw [aug_length]; exact Nat.le_refl _)] at h; exact h⟩⟩
   case rest =>
   clear HT d1 d2 HK gs cap
   obtain ⟨gs, cap, rfl, HT1⟩ := hcut
   go_wp2_with fail
   go_loopg [9, 10] n (fun d v9 v10 w' => ∃ (k : Nat) (last : Int) (M : List (List Int)), v9 = .int .i64 last ∧ v10 = .int .i64 (k : Int) ∧ Aside0 (k + d = n) ∧ Aside0 (Fits n d k last M ∧ elimRun d k last M = (l, M')) ∧ Aside0 (Tbl w w' gm n n (n + 1) gs cap M))
   case atStart => exact ⟨0, 1, augOf n A b, rfl, rfl, ⟨Nat.zero_add _⟩, ⟨HF.out, HRUN.out⟩, HT1⟩
   case round =>
    clear HT1
    obtain ⟨k, last, M, rfl, rfl, HK, HFR, HT⟩ := hrel
    by_cases hk : k < n
    ·have HKL := Aside0.mk hk
     have d1 : decide ((k : Int) < (n : Int)) = true := decide_eq_true (by omega)
     have d2 := decide_eq_true hk
     have d3 : (0 : Int) ≤ (k : Int) := by omega
     have d4 : (k : Int) < (n : Int) := by omega
     have d6 : (k : Int) < (n : Int) + 1 := by omega
     have d7 : k < n + 1 := by omega
     have d5 : wrap64 ((k : Int) + 1) = ((k + 1 : Nat) : Int) := by rw [IntWalk.wrap64_in _ (by have := HNS.out; omega)]; omega
     obtain ⟨hsafe, hfits, hrun2⟩ : SafeM n k last M ∧ Fits n (n - (k + 1)) (k + 1) (fn (row M k) k) (elimM k last M) ∧ elimRun (n - (k + 1)) (k + 1) (fn (row M k) k) (elimM k last M) = (l, M') := by
      have e : gk = (n - (k + 1)) + 1 := by have := HK.out; omega
      have h := HFR.out
      rw [e] at h
      exact ⟨h.1.1, h.1.2, h.2⟩
     obtain ⟨p, hp⟩ : ∃ p, fn (row M k) k = p := ⟨_, rfl⟩
     have hpiv := hsafe.piv
     rw [hp] at hfits hrun2 hpiv
     have e1 := HT.out.head hk
     have e2 := HT.out.cell hk d7
     rw [hp] at e2
     have e3 : (p == 0) = false := beq_eq_false_iff_ne.mpr (by omega)
     have e4 : decide (p = 0) = false := decide_eq_false (by omega)
     have HSF := Aside0.mk hsafe
     have HN1 := Aside0.mk (And.intro hfits hrun2)
     have HPV : Aside0 (M.length = n ∧ fn (row M k) k = p) := ⟨hsafe.rows, hp⟩
     have HPW := Aside0.mk hp
     have HROWS := Aside0.mk hsafe.rows
     clear hfits hrun2 hpiv hp hsafe hk
     go_wp2_with fail
     clear e1 e2 e3 e4
     go_loopg [11] n (fun d v11 w' => ∃ (i : Nat), v11 = .int .i64 (i : Int) ∧ Aside0 (i + d = n) ∧ Aside0 (Tbl w w' gm n n (n + 1) gs cap (partM k last M i)))
     case atStart => exact ⟨0, rfl, ⟨Nat.zero_add _⟩, ⟨by rw [partM_zero]; exact HT.out⟩⟩
     case round =>
      have HK0 := HK
      clear HT HK
      obtain ⟨i, rfl, HK, HT⟩ := hrel
      by_cases hi : i < n
      ·have HI := Aside0.mk hi
       have d1 : decide ((i : Int) < (n : Int)) = true := decide_eq_true (by omega)
       have d2 := decide_eq_true hi
       have d3 : (0 : Int) ≤ (i : Int) := by omega
       have d4 : (i : Int) < (n : Int) := by omega
       have d5 : wrap64 ((i : Int) + 1) = ((i + 1 : Nat) : Int) := by rw [IntWalk.wrap64_in _ (by have := HNS.out; omega)]; omega
       by_cases hik : i = k
       ·subst hik
        have e1 : ((i : Int) == (i : Int)) = true := by simp
        have e2 : (i == i) = true := by simp
        have e3 : decide ((i : Int) = (i : Int)) = true := by simp
        have e4 : decide (i = i) = true := by simp
        clear hi
        go_wp2_with fail
        go_roundg (n - (i + 1))
        case measure => have := HI.out; have := HK.out; omega
        case rel => exact ⟨i + 1, by first | exact congrArg _ d5 | go_num, ⟨by have := HK.out; have := HI.out; omega⟩, ⟨by rw [← partM_pass]; exact HT.out⟩⟩
       ·have HIK := Aside0.mk hik
        have e1 : ((i : Int) == (k : Int)) = false := beq_eq_false_iff_ne.mpr (by omega)
        have e2 : (i == k) = false := beq_eq_false_iff_ne.mpr hik
        have e3 : decide ((i : Int) = (k : Int)) = false := decide_eq_false (by omega)
        have e4 := decide_eq_false hik
        have HT2 := Aside0.mk (part_top HT.out HROWS.out HI.out (HSF.out.cols i HI.out))
        clear hi hik HT
        go_wp2_with fail
        clear e1 e2 e3 e4
        go_loopg [12] (n + 1) (fun d v12 w' => ∃ (z : Int), v12 = .int .i64 z ∧ Aside0 (z + 1 = (d : Int) ∧ d ≤ n + 1) ∧ Aside0 (Tbl w w' gm n n (n + 1) gs cap ((partM k last M i).set i (partRow k last (row M k) (row M i) (z + 1).toNat))))
        case atStart => exact ⟨(n : Int), rfl, ⟨by omega, by omega⟩, ⟨by rw [show ((n : Int) + 1).toNat = n + 1 by omega]; exact HT2.out⟩⟩
        case round =>
         have HKI := HK
         clear HT2 HK
         obtain ⟨z, rfl, HK, HT⟩ := hrel
         by_cases hz : 0 ≤ z
         ·obtain ⟨t, rfl⟩ : ∃ t : Nat, z = (t : Int) := ⟨z.toNat, by omega⟩
          have HTN : Aside0 (t + 1 = gk) := ⟨by have := HK.out.1; omega⟩
          have HTL : Aside0 (t < n + 1) := ⟨by have := HK.out.2; have := HTN.out; omega⟩
          have b1 := decide_eq_true hz
          have b2 : (t : Int) < (n : Int) + 1 := by have := HTL.out; omega
          have b3 : t < n + 1 := HTL.out
          have b4 : (k : Int) < (n : Int) + 1 := by omega
          have b5 : k < n + 1 := by omega
          have m2 : wrap64 ((t : Int) - 1) = (t : Int) - 1 := IntWalk.wrap64_in _ (by have := HNS.out; omega)
          have HT3 : Aside0 (Tbl w wr gm n n (n + 1) gs cap ((partM k last M i).set i (partRow k last (row M k) (row M i) (t + 1)))) := ⟨by have h := HT.out; rw [show ((t : Int) + 1).toNat = t + 1 by omega] at h; exact h⟩
          clear HT HK hz
          by_cases htk : t = k
          ·subst htk
           have e1 : ((t : Int) == (t : Int)) = true := by simp
           have e2 : (t == t) = true := by simp
           have e3 : decide ((t : Int) = (t : Int)) = true := by simp
           have e4 : decide (t = t) = true := by simp
           have e5 : ((t : Int) != (t : Int)) = false := by simp
           have e6 : (t != t) = false := by simp
           go_wp2_with fail
           go_roundg t
           case measure => have := HTN.out; omega
           case rel => exact ⟨(t : Int) - 1, by first | exact congrArg _ m2 | go_num, ⟨by omega, by have := HTL.out; omega⟩, ⟨by rw [show ((t : Int) - 1 + 1).toNat = t by omega, ← partRow_pass]; exact HT3.out⟩⟩
          ·have HNE := Aside0.mk htk
           have e1 : ((t : Int) == (k : Int)) = false := beq_eq_false_iff_ne.mpr (by omega)
           have e2 : (t == k) = false := beq_eq_false_iff_ne.mpr htk
           have e3 : decide ((t : Int) = (k : Int)) = false := decide_eq_false (by omega)
           have e4 := decide_eq_false htk
           have e5 : ((t : Int) != (k : Int)) = true := bne_iff_ne.mpr (by omega)
           have e6 : (t != k) = true := bne_iff_ne.mpr htk
           go_upto_region 21 with fail
           clear e1 e2 e3 e4 e5 e6 htk
           obtain ⟨x, hx⟩ : ∃ x, fn (row M i) t = x := ⟨_, rfl⟩
           obtain ⟨c, hc⟩ : ∃ x, fn (row M i) k = x := ⟨_, rfl⟩
           obtain ⟨y, hy⟩ : ∃ x, fn (row M k) t = x := ⟨_, rfl⟩
           obtain ⟨p1, p2, dd, q, n1, n2, n3, n4, hq⟩ := elim_fit (x := x) (p := p) (c := c) (y := y) (l := last) (by rw [← hx]; exact HSF.out.entry HI.out HTL.out) (by rw [← HPW.out]; exact HSF.out.small k k HKL.out HKL.out) (by rw [← hc]; exact HSF.out.small i k HI.out HKL.out) (by rw [← hy]; exact HSF.out.entry HKL.out HTL.out) HSF.out.l1
           have HE6 : Aside0 (M.length = n ∧ (row M i).length = n + 1 ∧ i ≠ k ∧ fn (row M i) t = x ∧ fn (row M k) k = p ∧ fn (row M i) k = c ∧ fn (row M k) t = y) := ⟨HROWS.out, HSF.out.cols i HI.out, HIK.out, hx, HPW.out, hc, hy⟩
           have HQE : Aside0 (M.length = n ∧ (row M i).length = n + 1 ∧ q = (fn (row M i) t * fn (row M k) k - fn (row M i) k * fn (row M k) t).tdiv last) := ⟨HROWS.out, HSF.out.cols i HI.out, by rw [hx, HPW.out, hc, hy]; exact hq⟩
           have l1 : (last == 0) = false := beq_eq_false_iff_ne.mpr (by have := HSF.out.l1; omega)
           have l2 : last ≠ 0 := by have := HSF.out.l1; omega
           have l3 := decide_eq_false l2
           have HQ := Aside0.mk (HT3.out.step (below_drew1 (Below.refl wr.heap.size wr)))
           clear hx hc hy hq
           refine start_ (n := 40) (S := fun w' => w'.cell? ⟨gm, i, none⟩ = some (.slice (some ⟨gs i, 0, none⟩) (n + 1) (cap i)) ∧ w'.cell? ⟨gm, k, none⟩ = some (.slice (some ⟨gs k, 0, none⟩) (n + 1) (cap k)) ∧ w'.cell? ⟨gs i, t, none⟩ = some (.int .i64 x) ∧ w'.cell? ⟨gs k, k, none⟩ = some (.int .i64 p) ∧ w'.cell? ⟨gs i, k, none⟩ = some (.int .i64 c) ∧ w'.cell? ⟨gs k, t, none⟩ = some (.int .i64 y)) (ds := [39]) (bS 40 0) (by kernel_rfl) rfl rfl (six_cells HQ.out HI.out HKL.out HTL.out HE6.out) (fun hHeld => ?_); refine with_tabW solF.tab21 solF.bits21 (fun HT_ HW_ => ?_)
           refine pu_ 0 69 (bS 40 1) HT_ ?_
           refine pu_ 1 70 (bS 40 3) HT_ ?_
           refine pu_ 2 71 (bS 40 7) HT_ ?_
           refine pu_ 4 73 (bS 40 23) HT_ ?_
           refine pu_ 5 74 (bS 40 55) HT_ ?_
           refine pu_ 6 75 (bS 40 119) HT_ ?_
           refine pu_ 7 76 (bS 40 247) HT_ ?_
           refine pu_ 9 78 (bS 40 759) HT_ ?_
           refine pu_ 12 81 (bS 40 4855) HT_ ?_
           refine pu_ 13 82 (bS 40 13047) HT_ ?_
           refine pu_ 14 83 (bS 40 29431) HT_ ?_
           refine pu_ 16 85 (bS 40 94967) HT_ ?_
           refine pu_ 20 89 (bS 40 1143543) HT_ ?_
           refine pu_ 21 90 (bS 40 3240695) HT_ ?_
           refine pu_ 22 91 (bS 40 7434999) HT_ ?_
           refine pu_ 24 93 (bS 40 24212215) HT_ ?_
           refine pu_ 27 96 (bS 40 158429943) HT_ ?_
           refine pu_ 28 97 (bS 40 426865399) HT_ ?_
           refine pu_ 29 98 (bS 40 963736311) HT_ ?_
           refine pu_ 31 100 (bS 40 3111219959) HT_ ?_
           refine pu_ 36 105 (bS 40 71830696695) HT_ ?_
           refine ta_ 3 72 (bS 40 71830696703) HT_ HW_ hHeld ?_
           refine ta_ 8 77 (bS 40 71830696959) HT_ HW_ hHeld ?_
           refine pu_ 10 79 (bS 40 71830697983) HT_ ?_
           refine ta_ 11 80 (bS 40 71830700031) HT_ HW_ hHeld ?_
           refine ta_ 15 84 (bS 40 71830732799) HT_ HW_ hHeld ?_
           refine pu_ 17 86 (bS 40 71830863871) HT_ ?_
           refine ta_ 18 87 (bS 40 71831126015) HT_ HW_ hHeld ?_
           refine pu_ 19 88 (bS 40 71831650303) HT_ ?_
           refine ta_ 23 92 (bS 40 71840038911) HT_ HW_ hHeld ?_
           refine pu_ 25 94 (bS 40 71873593343) HT_ ?_
           refine ta_ 26 95 (bS 40 71940702207) HT_ HW_ hHeld ?_
           refine ta_ 30 99 (bS 40 73014444031) HT_ HW_ hHeld ?_
           refine pu_ 32 101 (bS 40 77309411327) HT_ ?_
           refine ta_ 33 102 (bS 40 85899345919) HT_ HW_ hHeld ?_
           refine pu_ 34 103 (bS 40 103079215103) HT_ ?_
           refine pu_ 35 104 (bS 40 137438953471) HT_ ?_
           refine pu_ 37 106 (bS 40 274877906943) HT_ ?_
           refine pu_ 38 107 (bS 40 549755813887) HT_ ?_
           refine la_ 39 (bS 40 1099511627775) (fun K hK => ?_) (one_of HT_.out (by kernel_rfl))
           have cX := (six_cells HQ.out HI.out HKL.out HTL.out HE6.out).2.2.1
           have fX := HQ.out.frozen HI.out t
           go_simp
           refine hK.out _ _ ?_
           clear hK K
           refine done_ (done_of HT_.out (by kernel_rfl)) ?_
           clear hHeld HT_ HW_ cX fX n1 n2 n3 n4
           have HQ2 := Aside0.mk ((HT3.out.put HI.out t q).step (below_drew1 (Below.refl _ _)))
           generalize (wr.setCell _ _).drew = wz at HQ2 ⊢
           clear HQ HT3
           go_wp2_with fail
           go_roundg t
           case measure => have := HTN.out; omega
           case rel => exact ⟨(t : Int) - 1, by first | exact congrArg _ m2 | go_num, ⟨by omega, by have := HTL.out; omega⟩, ⟨by rw [show ((t : Int) - 1 + 1).toNat = t by omega]; exact part_put HQ2.out HI.out HTL.out HNE.out HQE.out⟩⟩
         ·have hz1 : z = -1 := by have := HK.out.1; omega
          subst hz1
          have b1 : decide ((-1 : Int) ≥ 0) = false := by decide
          have HT3 : Aside0 (Tbl w wr gm n n (n + 1) gs cap ((partM k last M i).set i (partRow k last (row M k) (row M i) 0))) := HT
          clear HT HK hz
          have c1 := HT3.out.head HI.out
          have c2 := HT3.out.cell HI.out d7
          have c3 := HT3.out.frozen HI.out k
          go_wp2_with fail
          clear c1 c2 c3
          go_roundg (n - (i + 1))
          case measure => have := HI.out; have := HKI.out; omega
          case rel => exact ⟨i + 1, by first | exact congrArg _ d5 | go_num, ⟨by have := HKI.out; have := HI.out; omega⟩, ⟨part_end (HT3.out.put HI.out k 0) HI.out HKL.out HROWS.out (HSF.out.cols i HI.out) (HSF.out.cols k HKL.out) HIK.out⟩⟩
      ·obtain rfl : n = i := by have := HK.out; omega
       have d1 : decide ((n : Int) < (n : Int)) = false := by simp
       have d2 : decide (n < n) = false := by simp
       have HT2 : Aside0 (Tbl w wr gm n n (n + 1) gs cap (diagM k last M 0)) := ⟨by rw [diagM_zero, HROWS.out]; exact HT.out⟩
       clear HT hi HK
       go_wp2_with fail
       go_loopg [13] k (fun d v13 w' => ∃ (i : Nat), v13 = .int .i64 (i : Int) ∧ Aside0 (i + d = k) ∧ Aside0 (Tbl w w' gm n n (n + 1) gs cap (diagM k last M i)))
       case atStart => exact ⟨0, rfl, ⟨Nat.zero_add _⟩, HT2⟩
       case round =>
        clear HT2
        obtain ⟨i, rfl, HK, HT⟩ := hrel
        by_cases hi : i < k
        ·have HI := Aside0.mk hi
         have HIN : Aside0 (i < n) := ⟨by have := HKL.out; omega⟩
         have b1 : decide ((i : Int) < (k : Int)) = true := decide_eq_true (by omega)
         have b2 := decide_eq_true hi
         have d5 : wrap64 ((i : Int) + 1) = ((i + 1 : Nat) : Int) := by rw [IntWalk.wrap64_in _ (by have := HNS.out; have := HIN.out; omega)]; omega
         have b3 : (0 : Int) ≤ (i : Int) := by omega
         have b4 : (i : Int) < (n : Int) := by have := HIN.out; omega
         have b5 : (i : Int) < (n : Int) + 1 := by have := HIN.out; omega
         have b6 : i < n := HIN.out
         have b7 : i < n + 1 := by omega
         clear hi
         go_upto_region 26 with fail
         have HQ := Aside0.mk (HT.out.step (below_drew1 (Below.refl wr.heap.size wr)))
         refine start_ (n := 14) (S := fun w' => w'.cell? ⟨gm, i, none⟩ = some (.slice (some ⟨gs i, 0, none⟩) (n + 1) (cap i)) ∧ w'.cell? ⟨gm, k, none⟩ = some (.slice (some ⟨gs k, 0, none⟩) (n + 1) (cap k)) ∧ w'.cell? ⟨gs k, k, none⟩ = some (.int .i64 p)) (ds := [13]) (bS 14 0) (by kernel_rfl) rfl rfl (three_cells HQ.out HIN.out HKL.out HPV.out) (fun hHeld => ?_); refine with_tabW solF.tab26 solF.bits26 (fun HT_ HW_ => ?_)
         refine pu_ 0 119 (bS 14 1) HT_ ?_
         refine pu_ 1 120 (bS 14 3) HT_ ?_
         refine pu_ 2 121 (bS 14 7) HT_ ?_
         refine pu_ 4 123 (bS 14 23) HT_ ?_
         refine pu_ 5 124 (bS 14 55) HT_ ?_
         refine pu_ 6 125 (bS 14 119) HT_ ?_
         refine pu_ 7 126 (bS 14 247) HT_ ?_
         refine pu_ 9 128 (bS 14 759) HT_ ?_
         refine ta_ 3 122 (bS 14 767) HT_ HW_ hHeld ?_
         refine ta_ 8 127 (bS 14 1023) HT_ HW_ hHeld ?_
         refine pu_ 10 129 (bS 14 2047) HT_ ?_
         refine ta_ 11 130 (bS 14 4095) HT_ HW_ hHeld ?_
         refine pu_ 12 131 (bS 14 8191) HT_ ?_
         refine la_ 13 (bS 14 16383) (fun K hK => ?_) (one_of HT_.out (by kernel_rfl))
         have cX := HQ.out.cell HIN.out (j := i) (by have := HIN.out; omega)
         have fX := HQ.out.frozen HIN.out i
         go_simp
         refine hK.out _ _ ?_
         clear hK K
         refine done_ (done_of HT_.out (by kernel_rfl)) ?_
         clear hHeld HT_ HW_ cX fX
         have HQ2 := Aside0.mk ((HT.out.put HIN.out i p).step (below_drew1 (Below.refl _ _)))
         generalize (wr.setCell _ _).drew = wz at HQ2 ⊢
         clear HQ HT
         go_wp2_with fail
         go_roundg (k - (i + 1))
         case measure => have := HI.out; have := HK.out; omega
         case rel => exact ⟨i + 1, by first | exact congrArg _ d5 | go_num, ⟨by have := HK.out; have := HI.out; omega⟩, ⟨diag_put HQ2.out HI.out (by rw [HROWS.out]; exact HKL.out) HPW.out⟩⟩
        ·obtain rfl : k = i := by have := HK.out; omega
         have b1 : decide ((k : Int) < (k : Int)) = false := by simp
         have b2 : decide (k < k) = false := by simp
         have HT2 : Aside0 (Tbl w wr gm n n (n + 1) gs cap (elimM k last M)) := ⟨by rw [← diagM_end]; exact HT.out⟩
         have hc2 := HT.out.cell HKL.out d7
         rw [row_diagM _ (by rw [HROWS.out]; exact HKL.out), if_pos rfl, HPW.out] at hc2
         have hc1 := HT.out.head HKL.out
         clear HT hi HK
         have d5 : wrap64 ((k : Int) + 1) = ((k + 1 : Nat) : Int) := by rw [IntWalk.wrap64_in _ (by have := HNS.out; have := HKL.out; omega)]; omega
         go_wp2_with fail
         clear hc1 hc2
         go_roundg (n - (k + 1))
         case measure => have := HKL.out; have := HK0.out; omega
         case rel => exact ⟨k + 1, p, elimM k last M, rfl, by first | exact congrArg _ d5 | go_num, ⟨by have := HKL.out; omega⟩, HN1, HT2⟩
    ·obtain rfl : n = k := by have := HK.out; omega
     have d1 : decide ((n : Int) < (n : Int)) = false := by simp
     have d2 : decide (n < n) = false := by simp
     have eg : gk = 0 := by have := HK.out; omega
     obtain ⟨e1, e2⟩ : last = l ∧ M = M' := by
      have h := HFR.out.2
      rw [eg] at h
      simp only [elimRun, Prod.mk.injEq] at h
      exact h
     subst e1 e2
     clear HFR HK hk eg
     go_upto_region 29 with fail
     go_cut [14, 15] (fun v14 v15 wc => ∃ go : Nat, v14 = .slice (some ⟨go, 0, none⟩) n n ∧ v15 = .int .i64 0 ∧ Aside0 (Tbl w wc gm n n (n + 1) gs cap M) ∧ Aside0 (Mem w wc [(go, numsA (fillTo (fun i => fn (row M i) n) n 0), 3)]) ∧ Aside0 (∀ i, i < n → gs i ≠ go))
     case first =>
      go_wp2_with fail
      go_meet
      case rel => exact ⟨_, rfl, rfl, ⟨HT.out.step (below_alloc (Below.refl _ _) _)⟩, ⟨by rw [fillTo_zero]; exact ((Mem.start w).step HT.out.below).new rfl (blk_new _ _) (below_alloc (Below.refl _ _) _)⟩, ⟨fun i hi => by
       obtain ⟨cur, a, b⟩ := HT.out.rows i hi
       exact Nat.ne_of_lt (blk_lt a)⟩⟩
     case rest =>
     clear HT d1 d2
     obtain ⟨go, rfl, rfl, HT, HM, HNG⟩ := hcut
     clear hmk
     have HT0 := HT
     have HM0 := HM
     clear HT HM
     go_wp2_with fail
     go_loopg [15] n (fun d v15 w' => ∃ (i : Nat), v15 = .int .i64 (i : Int) ∧ Aside0 (i + d = n) ∧ Aside0 (Tbl w w' gm n n (n + 1) gs cap M) ∧ Aside0 (Mem w w' [(go, numsA (fillTo (fun i => fn (row M i) n) n i), 3)]))
     case atStart => exact ⟨0, rfl, ⟨Nat.zero_add _⟩, HT0, HM0⟩
     case round =>
      clear HT0 HM0
      obtain ⟨i, rfl, HK, HT, HM⟩ := hrel
      by_cases hi : i < n
      ·have HI := Aside0.mk hi
       have d1 : decide ((i : Int) < (n : Int)) = true := decide_eq_true (by omega)
       have d2 := decide_eq_true hi
       have d3 : (0 : Int) ≤ (i : Int) := by omega
       have d4 : (i : Int) < (n : Int) := by omega
       have d5 : wrap64 ((i : Int) + 1) = ((i + 1 : Nat) : Int) := by rw [IntWalk.wrap64_in _ (by have := HNS.out; omega)]; omega
       have d6 : (n : Int) < (n : Int) + 1 := by omega
       have d7 : n < n + 1 := by omega
       have c1 := HT.out.head hi
       have c2 := HT.out.cell hi d7
       have c3 : wr.cell? ⟨go, i, none⟩ = some (.int .i64 (fn (fillTo (fun i => fn (row M i) n) n i) i)) := (HM.out.cell i).trans (numsA_get (by rw [fillTo_length]; exact hi))
       have c4 := HM.out.frozen i
       clear hi
       go_wp2_with fail
       clear c1 c2 c3 c4
       go_roundg (n - (i + 1))
       case measure => have := HI.out; have := HK.out; omega
       case rel => exact ⟨i + 1, by first | exact congrArg _ d5 | go_num, ⟨by have := HK.out; have := HI.out; omega⟩, ⟨tbl_far HT.out HM.out HNG.out i _⟩, ⟨HM.out.put i _ (by rw [numsA_set, fillTo_step (fun i => fn (row M i) n) HI.out])⟩⟩
      ·obtain rfl : n = i := by have := HK.out; omega
       have d1 : decide ((n : Int) < (n : Int)) = false := by simp
       have d2 : decide (n < n) = false := by simp
       go_wp2_with fail
       go_ret2
       exact ⟨go, rfl, by rw [HM.out.head, fill_list], HM.out.geh, HM.out.below⟩
structure Thin (C cur : List Int) (i : Nat) : Prop where
 len : cur.length = C.length
 keep : ∀ j, j < C.length → fn C j ≠ 0 → fn cur j = fn C j
 rest : ∀ j, i ≤ j → j < C.length → fn cur j = fn C j
 rng : ∀ j, j < C.length → 0 ≤ fn cur j ∧ fn cur j ≤ 3
 few : (zerosTo cur i).length ≤ 4
theorem Thin.start {C : List Int} (h : ∀ e, e ∈ C → 0 ≤ e ∧ e ≤ 3) : Thin C C 0 := ⟨rfl, fun _ _ _ => rfl, fun _ _ _ => rfl, fun j hj => h _ (fn_mem hj), by simp [zerosTo]⟩
section
variable {C cur : List Int} {i : Nat}
theorem Thin.pass (h : Thin C cur i) (hi : i < C.length) (hz : fn cur i ≠ 0) : Thin C cur (i + 1) :=
 ⟨h.len, h.keep, fun j h1 h2 => h.rest j (by omega) h2, h.rng, by rw [zerosTo_succ, if_neg hz]; exact h.few⟩
theorem Thin.more (h : Thin C cur i) (hi : i < C.length) (hz : fn cur i = 0) (hf : (zerosTo cur i).length ≠ 4) : Thin C cur (i + 1) :=
 ⟨h.len, h.keep, fun j h1 h2 => h.rest j (by omega) h2, h.rng, by
  have := h.few
  rw [zerosTo_succ, if_pos hz, List.length_append, List.length_singleton]; omega⟩
theorem Thin.put (h : Thin C cur i) (hi : i < C.length) (hz : fn cur i = 0) {x : Int} (h1 : 1 ≤ x) (h3 : x ≤ 3) : Thin C (cur.set i x) (i + 1) ∧ zerosTo (cur.set i x) (i + 1) = zerosTo cur i := by
 have hl := h.len
 have hc : fn C i = fn cur i := (h.rest i (by omega) hi).symm
 have e : zerosTo (cur.set i x) (i + 1) = zerosTo cur i := by
  rw [zerosTo_succ, fn_set (by omega), if_pos rfl, if_neg (by omega), zerosTo_set (by omega) (Nat.le_refl _)]
 refine ⟨⟨by rw [List.length_set]; exact hl, fun j hj hne => ?_, fun j h1 h2 => ?_, fun j hj => ?_, by rw [e]; exact h.few⟩, e⟩
 ·rw [fn_set (by omega)]
  by_cases q : j = i
  ·subst q; exact absurd (by rw [hc]; exact hz) hne
  ·rw [if_neg q]; exact h.keep j hj hne
 ·rw [fn_set (by omega), if_neg (by omega)]
  exact h.rest j (by omega) h2
 ·rw [fn_set (by omega)]
  by_cases q : j = i
  ·rw [if_pos q]; omega
  ·rw [if_neg q]; exact h.rng j hj
theorem Thin.mem (h : Thin C cur i) : ∀ e, e ∈ cur → 0 ≤ e ∧ e ≤ 3 := fun e he => by
 obtain ⟨j, hj, rfl⟩ := mem_fn he
 exact h.rng j (by rw [← h.len]; exact hj)
theorem Thin.check {W H : Nat} {R : Bool} (h : Thin C cur C.length) (hc : checkErr W H R C = 0) : checkErr W H R cur = 0 := by
 obtain ⟨a1, a2, a3, a4, a5, a6, ⟨e, he, hne⟩, a8⟩ := check_parts hc
 have hl := h.len
 have hlen : C.length = W * H := by rw [← Int.natCast_mul] at a5; omega
 have h256 : C.length ≤ 256 := by have := Nat.mul_le_mul (show W ≤ 16 by omega) (show H ≤ 16 by omega); omega
 rw [Int.toNat_natCast, Int.toNat_natCast] at a8
 have hr := (loose_iff hlen h256).1 a8
 have hC : ∀ j, j < C.length → 0 ≤ fn C j := fun j hj => (a6 _ (fn_mem hj)).1
 have hr2 : ∀ j, (net W H R C).Reach j → (net W H R cur).Reach j := by
  intro j hj
  induction hj with
  | @el i hi hel =>
   refine .el hi ?_
   have hel' : 0 < fn C i := by simpa [net] using hel
   have hi' : i < C.length := by rw [hlen]; exact hi
   have := h.keep i hi' (by omega)
   simp [net, this, hel']
  | @step i j hi hM _ ih => exact .step hi hM ih
 have hlo : looseB W H R cur = false := (loose_iff (by omega) (by omega)).2 (fun j hj => hr2 j (hr j (by omega)))
 unfold checkErr
 rw [if_neg (by omega), if_neg (by rw [hl]; exact fun q => q a5), if_neg (fun ⟨x, hx, q⟩ => by have := h.mem x hx; omega), if_neg (fun q => by
  obtain ⟨j, hj, rfl⟩ := mem_fn he
  have h1 := h.keep j hj hne
  have h2 := q _ (fn_mem (C := cur) (i := j) (by omega))
  omega), Int.toNat_natCast, Int.toNat_natCast, if_neg (by rw [hlo]; simp)]
def lessOf (v : List Int) : List Int := v.map (fun x => Int.tmod x 1001)
theorem tmod_1001 (x : Int) : -1000 ≤ Int.tmod x 1001 ∧ Int.tmod x 1001 ≤ 1000 := by
 have hb : Int.tmod x 1001 < 1001 := Int.tmod_lt_of_pos x (by omega)
 rcases Int.le_total 0 x with q | q
 ·have := Int.tmod_nonneg 1001 q; omega
 ·have e : Int.tmod x 1001 = - Int.tmod (-x) 1001 := by rw [Int.neg_tmod]; omega
  have := Int.tmod_lt_of_pos (-x) (show (0 : Int) < 1001 by omega)
  omega
theorem lessOf_length (v : List Int) : (lessOf v).length = v.length := by simp [lessOf]
theorem lessOf_mem {v : List Int} {x : Int} (h : x ∈ lessOf v) : -1000 ≤ x ∧ x ≤ 1000 := by
 obtain ⟨y, _, rfl⟩ := List.mem_map.1 h
 exact tmod_1001 y
theorem less_err {W H : Int} {R : Bool} {C v : List Int} (h : voltErr W H R C v = 0) : voltErr W H R C (lessOf v) = 0 := by
 obtain ⟨h1, h2, h3⟩ := volt_parts h
 unfold voltErr
 rw [if_neg (by rw [h1]; simp), lessOf_length, if_neg (by omega), if_neg (fun ⟨x, hx, q⟩ => by have := lessOf_mem hx; omega)]
theorem fn_any {v : List Int} {B : Int} (hB : 0 ≤ B) (h : ∀ x, x ∈ v → -B ≤ x ∧ x ≤ B) (i : Nat) : -B ≤ fn v i ∧ fn v i ≤ B := by
 by_cases hi : i < v.length
 ·exact h _ (fn_mem hi)
 ·unfold fn
  rw [List.getD_eq_getElem?_getD, List.getElem?_eq_none (by omega)]
  show -B ≤ 0 ∧ (0 : Int) ≤ B
  omega
theorem netM_le3 {W H : Nat} (R : Bool) (hW : W ≤ 3) (i j : Nat) : netM W H R i j ≤ 6 := by
 have hm : ∀ q, q % W ≤ 2 ∨ W = 0 := fun q => by
  rcases Nat.eq_zero_or_pos W with e | e
  ·exact .inr e
  ·have := Nat.mod_lt q e; omega
 have hw : ∀ (x : Nat) (b : Bool), x ≤ 2 → wgt R x b ≤ 6 := fun x b hx => by
  unfold wgt
  split
  ·split <;> omega
  ·omega
 unfold netM
 split
 ·rename_i h
  have hW0 := (cell_at h.1).1
  have h1 := hm i
  have h2 := hm j
  repeat' split
  all_goals first | (exact hw _ _ (by omega)) | omega
 ·omega
theorem right_small {W H : Nat} {R : Bool} {C v : List Int} (hW : W ≤ 3) (hH : H ≤ 3) (hv : ∀ x, x ∈ v → -1000 ≤ x ∧ x ≤ 1000) (i : Nat) : -100000 ≤ rightOf W H R C v i ∧ rightOf W H R C v i ≤ 100000 := by
 have h := sum_abs (f := fun q => if 0 < fn C q then netM W H R i q * volt C v q else 0) (B := 6000) (fun q => by
  split
  ·have h1 := netM_le3 (H := H) R hW i q
   have h2 := netM_nonneg W H R i q
   have h3 : -1000 ≤ volt C v q ∧ volt C v q ≤ 1000 := fn_any (by omega) hv _
   have := mul_abs (x := netM W H R i q) (X := 6) (by omega) h3
   omega
  ·omega) (W * H)
 unfold rightOf
 have hWH := Nat.mul_le_mul hW hH
 omega
theorem exact_facts {W H : Nat} {R : Bool} {C v : List Int} (hW : W ≤ 3) (hH : H ≤ 3) (he : voltErr W H R C v = 0) (hv : ∀ x, x ∈ v → -1000 ≤ x ∧ x ≤ 1000) (hz : (zerosTo C (W * H)).length ≤ 4) (n : Nat) :
  ∃ l M', Fits (zerosTo C (W * H)).length (zerosTo C (W * H)).length 0 1 (augOf (zerosTo C (W * H)).length (matAt W H R (zerosTo C (W * H))) (listOf (zerosTo C (W * H)).length (fun k => rightOf W H R C v ((zerosTo C (W * H)).getD k 0)))) ∧
   elimRun (zerosTo C (W * H)).length 0 1 (augOf (zerosTo C (W * H)).length (matAt W H R (zerosTo C (W * H))) (listOf (zerosTo C (W * H)).length (fun k => rightOf W H R C v ((zerosTo C (W * H)).getD k 0)))) = (l, M') ∧ 1 ≤ l ∧ l ≤ 1000000 ∧
   ∀ i, i < (zerosTo C (W * H)).length → -400000000000 ≤ fn (row M' i) (zerosTo C (W * H)).length ∧ fn (row M' i) (zerosTo C (W * H)).length ≤ 400000000000 ∧
    fn ((solveN W H R C v 256 n).1.take C.length) ((zerosTo C (W * H)).getD i 0) * l ≤ fn (row M' i) (zerosTo C (W * H)).length ∧
    fn (row M' i) (zerosTo C (W * H)).length ≤ fn ((solveN W H R C v 256 n).2.1.take C.length) ((zerosTo C (W * H)).getD i 0) * l ∧
    (-1000000 ≤ fn ((solveN W H R C v 256 n).1.take C.length) ((zerosTo C (W * H)).getD i 0) ∧ fn ((solveN W H R C v 256 n).1.take C.length) ((zerosTo C (W * H)).getD i 0) ≤ 1000000) ∧
    (-1000000 ≤ fn ((solveN W H R C v 256 n).2.1.take C.length) ((zerosTo C (W * H)).getD i 0) ∧ fn ((solveN W H R C v 256 n).2.1.take C.length) ((zerosTo C (W * H)).getD i 0) ≤ 1000000) := by
 obtain ⟨W', H', eW, eH, _, _, h256, hck, hV⟩ := volted_of he
 obtain rfl : W = W' := by omega
 obtain rfl : H = H' := by omega
 have hl := hV.len
 have hp := solve_pair hV h256 n
 obtain ⟨a1, a2, a3, a4, a5, a6, ⟨e, hem, hne⟩, a8⟩ := check_parts hck
 have hC : ∀ i, i < W * H → 0 ≤ fn C i := fun i hi => (hV.elr i (by omega)).1
 have hchk : chkAt W H R (zerosTo C (W * H)) = true := chk_at (by omega) (by omega) (zerosTo_sub _ _) hz (fun q => by
  have hs : zerosTo C (W * H) = List.range (W * H) := (zerosTo_sub C (W * H)).eq_of_length (by rw [q, List.length_range])
  obtain ⟨j, hj, rfl⟩ := mem_fn hem
  have hmem : j ∈ zerosTo C (W * H) := by rw [hs, List.mem_range]; omega
  unfold zerosTo at hmem
  rw [List.mem_filter] at hmem
  exact hne (by simpa using hmem.2))
 obtain ⟨b1, l, M', b2, b3, b4, b5, b6, b7, b8⟩ := exact_end (b := listOf (zerosTo C (W * H)).length (fun k => rightOf W H R C v ((zerosTo C (W * H)).getD k 0))) hchk hz (fun q => by
  by_cases hq : q < (zerosTo C (W * H)).length
  ·rw [fn_listOf _ hq]
   exact right_small hW hH hv _
  ·unfold fn
   rw [List.getD_eq_getElem?_getD, List.getElem?_eq_none (by rw [listOf_length]; omega)]
   show (-100000 : Int) ≤ 0 ∧ (0 : Int) ≤ 100000
   omega)
 refine ⟨l, M', b1, b2, b3, b4, fun i hi => ⟨(b6 i hi).2.1, (b6 i hi).2.2, ?_, ?_, ?_⟩⟩
 ·have hz2 := zeros_lt hi
  have h2 := b7 (fun j => fn (solveN W H R C v 256 n).1 ((zerosTo C (W * H)).getD j 0)) (fun k hk => by
   rw [fn_listOf _ hk]
   exact low_right hl hC hp.low hp.low.1.el hk) i hi
  have hln := hp.low.1.len
  rw [fn_take (by omega)]
  exact h2
 ·have hz2 := zeros_lt hi
  have h2 := b8 (fun j => fn (solveN W H R C v 256 n).2.1 ((zerosTo C (W * H)).getD j 0)) (fun k hk => by
   rw [fn_listOf _ hk]
   exact high_right hl hC hp.high hp.high.1.el hk) i hi
  have hln := hp.high.1.len
  rw [fn_take (by omega)]
  exact h2
 ·have hz2 := zeros_lt hi
  have hr := solve_range hV h256 n (show (zerosTo C (W * H)).getD i 0 < C.length by omega)
  rw [fn_take (by omega), fn_take (by omega)]
  exact hr
end
end Go.Proofs.Ytndkkjpgnmahbaa.Print
end

section
namespace Go.Proofs.Ytndkkjpgnmahbaa.H
open Go.RowKit YtndkkjpgnmahbaaW.PrintWords YtndkkjpgnmahbaaW.PrintLast YtndkkjpgnmahbaaW.PrintMore Go.Proofs.Ytndkkjpgnmahbaa.Print
namespace Mem
variable {w W W1 : World} {l : List (Nat × Array Value × TypeId)} {g : Nat} {old new : Array Value} {t : TypeId}
theorem keepd (h : Mem w W ((g, old, t) :: l)) (hK : KeepBut W W1 g none) (hB : Below w.heap.size w W1) (hg : W1.heap[g]? = some (.cells new t (0, 0))) : Mem w W1 ((g, new, t) :: l) := by
 refine ⟨hB, fun p hp => ?_, fun p hp => ?_, ?_⟩
 ·rcases List.mem_cons.1 hp with rfl | hp
  ·exact hg
  ·have h1 := h.blk p (List.mem_cons_of_mem _ hp)
   rw [hK.2 p.1 (blk_lt h1) (Ne.symm (h.ne p hp)) (by simp)]
   exact h1
 ·rcases List.mem_cons.1 hp with rfl | hp
  ·exact h.geh
  ·exact h.ge p (List.mem_cons_of_mem _ hp)
 ·have a := h.apart
  simp only [List.pairwise_cons] at a ⊢
  exact a
end Mem
end Go.Proofs.Ytndkkjpgnmahbaa.H
namespace Go.Proofs.Ytndkkjpgnmahbaa.Print
open Go.RowKit YtndkkjpgnmahbaaW.PrintWords YtndkkjpgnmahbaaW.PrintLast YtndkkjpgnmahbaaW.PrintMore Ytndkkjpgnmahbaa.H Proofs.Field
section
variable {P : Program} {ops : Array Oper} {o : Oper} {a : Act} {Q : Exit → Act → World → Prop} {K : Act → World → Prop} {w W : World} {l : List (Nat × Array Value × TypeId)}
theorem new_step {N : Option Tmp} (hm : Mem w W l) (hw : Region.wanted o (yielded ops a.tmps) = true) (hN : o.dst = N) (t : TypeId) (ho : o.op = .alloc t) {cs : Array Value} {s b : Nat} (hi : (P.info? t).map (fun i => (i.zero, i.size, i.bytes)) = some (some (.agg cs), s, b))
  (h : ∀ g W1, Mem w W1 ((g, cs, t) :: l) → K (a.put N (.pointer (some ⟨g, 0, none⟩))) W1) : if Region.wanted o (yielded ops a.tmps) = true then Oper.wp P o a W K Q else K (a.put N undef) W := by
 subst hN
 obtain ⟨i, hi1, hi2, _, _⟩ := info_parts hi
 refine event_step (w1 := W.alloc (.cells cs t (0, 0))) hw ?_ (h _ _ (hm.new rfl (blk_new W _) (below_alloc (Below.refl _ _) _)))
 unfold execOp
 simp [ho, Instr.alloc, zeroValue, typeInfo, hi1, hi2, newVar, newRow, newObj, Value.cells, Sem.run_bind, Result.andThen]
 rfl
theorem store_step {N : Option Tmp} {g : Nat} {old cs : Array Value} {t : TypeId} (hm : Mem w W ((g, old, t) :: l)) (hw : Region.wanted o (yielded ops a.tmps) = true) (hN : o.dst = N) (ty : TypeId) (x y : Operand) (ho : o.op = .store ty x y)
  (hx : a.eval x = .pointer (some ⟨g, 0, none⟩)) (hy : a.eval y = .agg cs) {n : Nat} (hi : (P.info? ty).map (·.size) = some n) (hold : old.size = n) (hs : cs.size = n) (h1 : cs.all (·.oneCell') = true)
  (h : ∀ W1, Mem w W1 ((g, cs, t) :: l) → K (a.put N undef) W1) : if Region.wanted o (yielded ops a.tmps) = true then Oper.wp P o a W K Q else K (a.put N undef) W := by
 subst hN
 rw [if_pos hw]
 exact wp_store_row ty x y ho g cs hx hy t old hm.head (by rw [hi, hs]) (by rw [hold, hs]) h1 (h _ (hm.row cs))
end
theorem dice_is {w0 W : World} {g : Nat} {s : Int} {l : List (Nat × Array Value × TypeId)} (h : Mem w0 W ((g, #[.int .u64 s], 79) :: l)) : IsS79 w0 W g s := ⟨h.head, h.geh⟩
theorem dice_row {w0 W W1 : World} {g : Nat} {s s' : Int} {l : List (Nat × Array Value × TypeId)} {v : Value} {ok : Nat → Prop} {r : List Int} (h : Mem w0 W ((g, #[.int .u64 s], 79) :: l)) (hK : KeepBut W W1 g none) (hB : Below w0.heap.size w0 W1) (hI : IsS79 w0 W1 g s')
  (hR : Kd.R (Kd.int .i64) 3 W1 W.heap.size ok v r) (hp : 0 < r.length) : ∃ g2 c cur, v = .slice (some ⟨g2, 0, none⟩) r.length c ∧ r.length ≤ c ∧ IsNums cur r ∧ Mem w0 W1 ((g2, cur, 3) :: (g, #[.int .u64 s'], 79) :: l) := by
 obtain ⟨g2, c, cur, rfl, a1, a2, a3, _, a5⟩ := R_mem hR hp
 have h1 := h.keepd hK hB hI.1
 refine ⟨g2, c, cur, rfl, a1, a5, h1.below, fun p hp => ?_, fun p hp => ?_, .cons (fun p hp => ?_) h1.apart⟩
 ·rcases List.mem_cons.1 hp with rfl | hp
  ·exact a2
  ·exact h1.blk p hp
 ·rcases List.mem_cons.1 hp with rfl | hp
  ·exact Nat.le_trans h.below.size a3
  ·exact h1.ge p hp
 ·have h3 : p.1 < W.heap.size := by
   rcases List.mem_cons.1 hp with rfl | hp
   ·exact blk_lt h.head
   ·exact blk_lt (h.blk p (List.mem_cons_of_mem _ hp))
  show g2 ≠ p.1
  omega
theorem plan_cells {W : World} {g : Nat} {Wd Hd : Int} {R : Bool} {A : Option Addr} {n c : Nat} (h : W.heap[g]? = some (.cells (planV Wd Hd R A n c) 24 (0, 0))) : W.cell? ⟨g, 0, none⟩ = some (.int .i64 Wd) ∧ W.cell? ⟨g, 1, none⟩ = some (.int .i64 Hd) ∧ W.cell? ⟨g, 2, none⟩ = some (.bool R) ∧ W.cell? ⟨g, 3, none⟩ = some (.slice A n c) :=
 ⟨(blk_cell h 0).trans rfl, (blk_cell h 1).trans rfl, (blk_cell h 2).trans rfl, (blk_cell h 3).trans rfl⟩
end Go.Proofs.Ytndkkjpgnmahbaa.Print
end

section
namespace Go.Proofs.Ytndkkjpgnmahbaa.Print
open Go.RowKit YtndkkjpgnmahbaaW.PrintWords YtndkkjpgnmahbaaW.PrintLast YtndkkjpgnmahbaaW.PrintMore Ytndkkjpgnmahbaa.H Proofs.Field
def thermionref01_beyond.f (a0 : Int) (a1 : Int) (a2 : Int) : Option (Bool) := if a0 < a1 then (some true) else (some (decide (a0 > a2)))
theorem thermionref01_beyond.calls (a0 : Int) (a1 : Int) (a2 : Int) (r : Bool) (w : World) (h : thermionref01_beyond.f a0 a1 a2 = some r) :
  Calls Try.prog 73 #[.int .i64 a0, .int .i64 a1, .int .i64 a2] w fun e w' => e = .returned (.bool r) ∧ Drawn0 w w' := by
 have H : (if a0 < a1 then (some true) else (some (decide (a0 > a2)))) = some r := h
 clear h
 by_cases c4 : a0 < a1
 ·rw [if_pos c4] at H
  have c4b0 := decide_eq_true c4
  clear c4
  obtain rfl := Option.some.inj H
  go_enter Try.func73, Try.ntmps73
  go_wp2
  go_ret
  exact ⟨by first | rfl | (simp; done) | (simp [*]; done), by repeat (first | exact Drawn0.refl _ | apply Drawn0.step)⟩
 ·rw [if_neg c4] at H
  have c4b0 := decide_eq_false c4
  clear c4
  obtain rfl := Option.some.inj H
  go_enter Try.func73, Try.ntmps73
  go_wp2
  go_ret
  exact ⟨by first | rfl | (simp; done) | (simp [*]; done), by repeat (first | exact Drawn0.refl _ | apply Drawn0.step)⟩
end Go.Proofs.Ytndkkjpgnmahbaa.Print
end
