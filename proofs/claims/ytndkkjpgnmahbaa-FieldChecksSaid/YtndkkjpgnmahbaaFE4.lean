/- Part 4 of the texts of a claim about Ytndkkjpgnmahbaa, put together by a program of this work: what the Go functions do, and that their calls do so. -/
import Derived.Test.YtndkkjpgnmahbaaFE3
import Derived.Test.YtndkkjpgnmahbaaFE2
section
namespace Go.Proofs.Field
theorem mem_netM {W H : Nat} {R : Bool} {i : Nat} (hi : i < W * H) {p : Nat × Int} (hp : p ∈ nbs W H R i) : p.2 = netM W H R i p.1 := by
 have hlt := (nbs_lt hi hp).1
 obtain ⟨hW, he, hx, hy⟩ := cell_at hi
 have hr := right_mod (W := W) (i := i) hW
 have hu := up_ge (W := W) (i := i) hW
 unfold netM
 rw [if_pos ⟨hi, hlt⟩]
 unfold nbs at hp
 rcases List.mem_append.1 hp with hp | hp
 ·split at hp
  ·rename_i h
   obtain rfl := List.mem_singleton.1 hp
   obtain ⟨h1, h2⟩ := left_col h
   show wgt R (i % W - 1) false = _
   rw [if_neg (by omega), if_pos ⟨by omega, h⟩, h1]
  ·simp at hp
 rcases List.mem_append.1 hp with hp | hp
 ·split at hp
  ·rename_i h
   obtain rfl := List.mem_singleton.1 hp
   rw [if_pos ⟨rfl, hr.2 h⟩]
  ·simp at hp
 rcases List.mem_append.1 hp with hp | hp
 ·split at hp
  ·rename_i h
   obtain rfl := List.mem_singleton.1 hp
   have hWi := hu.1 h
   have hm : (i - W) % W = i % W := by
    have := Nat.add_mod_right (i - W) W
    rw [show i - W + W = i by omega] at this
    exact this.symm
   show wgt R (i % W) true = _
   have n2 : ¬ (i = i - W + 1 ∧ 0 < i % W) := fun q => by
    have : W = 1 := by omega
    subst this
    have := Nat.mod_one i
    omega
   rw [if_neg (by omega), if_neg n2, if_neg (by omega), if_pos (by omega), hm]
  ·simp at hp
 ·split at hp
  ·rename_i h
   obtain rfl := List.mem_singleton.1 hp
   show wgt R (i % W) true = _
   have n1 : ¬ (i + W = i + 1 ∧ 0 < (i + W) % W) := fun q => by
    have : W = 1 := by omega
    subst this
    have := Nat.mod_one (i + 1)
    omega
   rw [if_neg n1, if_neg (by omega), if_pos rfl]
  ·simp at hp
theorem netM_none {W H : Nat} {R : Bool} {i j : Nat} (hi : i < W * H) (h : ∀ p, p ∈ nbs W H R i → p.1 ≠ j) : netM W H R i j = 0 := by
 by_cases hj : j < W * H
 ·have h1 := under_net (R := R) hi (fun k => if k = j then 1 else 0)
  have h2 : under (fun k => if k = j then 1 else 0) (nbs W H R i) = under (fun _ => 0) (nbs W H R i) := under_congr (fun p hp => if_neg (h p hp))
  rw [h2, sumTo_congr (g := fun k => if k = j then netM W H R i j else 0) (fun k _ => by
   by_cases q : k = j
   ·subst q; rw [if_pos rfl, if_pos rfl]; omega
   ·rw [if_neg q, if_neg q]; omega), sumTo_one _ j hj] at h1
  rw [← h1]
  unfold under
  generalize nbs W H R i = l
  clear h h1 h2
  induction l with
  | nil => rfl
  | cons p l ih => rw [List.map_cons, List.sum_cons, ih]; simp
 ·unfold netM
  rw [if_neg (fun q => hj q.2)]
def weightOf (W H : Int) (R : Bool) (C : List Int) (a b : Int) : Int :=
 if checkErr W H R C ≠ 0 ∨ a < 0 ∨ (C.length : Int) ≤ a ∨ b < 0 then 0 else netM W.toNat H.toNat R a.toNat b.toNat
end Go.Proofs.Field
namespace Go.Proofs.Ytndkkjpgnmahbaa.Print
open Go.RowKit Go.Proofs.YtndkkjpgnmahbaaW.PrintWords Go.Proofs.YtndkkjpgnmahbaaW.PrintLast Go.Proofs.YtndkkjpgnmahbaaW.PrintMore Go.Proofs.Ytndkkjpgnmahbaa.H Go.Proofs.Field
attribute [local go_sem] Oper.semAt_some
attribute [local go_sem] max2_int min2_int max_two min_two max_three min_three max_four min_four
set_option linter.unusedVariables false
set_option linter.unusedSimpArgs false
def field_Weight.f (W H : Int) (R : Bool) (C : List Int) (a b : Int) : Option (Int) := some (weightOf W H R C a b)
theorem results_cell_int {fn : Func} {p : Tmp} (h : fn.results = #[.cell p 3]) (tmps : Array Value) (w : World) (g : Nat) (v : Int) (hp : tmps.getD p undef = .pointer (some ⟨g, 0, none⟩)) (hc : w.cell? ⟨g, 0, none⟩ = some (.int .i64 v)) :
  (results fn tmps).run Try.prog w = .ok (.int .i64 v) w := by
 have e : tmps[p]?.getD undef = .pointer (some ⟨g, 0, none⟩) := by simpa using hp
 have hu := Try.underlying3
 simp only [results, h]
 simp [e, asAddr]
 go_simp
def WI (w : World) (g6 g5 : Nat) (b : Int) (N : Prop) (B gi gq : Nat) (ci cq : Array Value) (V : World) : Prop :=
 Below w.heap.size w V ∧ V.heap[g6]? = some (.cells #[.int .i64 0] 3 (0, 0)) ∧ V.heap[g5]? = some (.cells #[.int .i64 b] 3 (0, 0)) ∧ N ∧ B ≤ V.heap.size ∧ V.heap[gi]? = some (.cells ci 3 (0, 0)) ∧ V.heap[gq]? = some (.cells cq 24 (0, 0))
def WX (w : World) (g6 : Nat) (r : Int) (B : Nat) (V : World) : Prop := Below w.heap.size w V ∧ V.heap[g6]? = some (.cells #[.int .i64 r] 3 (0, 0)) ∧ B ≤ V.heap.size
set_option maxHeartbeats 6400000 in
set_option maxRecDepth 100000 in
theorem field_Weight.calls (W H : Int) (R : Bool) (A : Option Addr) (c : Nat) (C : List Int) (a1 : Int) (a2 : Int) (r : Int) (w : World) (hr : Kd.C (Kd.int .i64) w A C.length C) (hc : C.length ≤ c) (h : field_Weight.f W H R C a1 a2 = some r) :
  Calls Try.prog 63 #[.agg (planV W H R A C.length c), .int .i64 a1, .int .i64 a2] w fun e w' => e = .returned (.int .i64 r) ∧ Below w.heap.size w w' := by
 have HRES : Aside0 (r = weightOf W H R C a1 a2) := ⟨(Option.some.inj h).symm⟩
 have HR := Aside0.mk hr
 have HCC := Aside0.mk hc
 have HM := Aside0.mk (Mem.start w)
 have hu24 := Try.underlying24
 have hu22 := Try.underlying22
 have HCK : Aside0 (∀ V : World, Below w.heap.size w V → Calls Try.prog 39 #[.agg (planV W H R A C.length c)] V fun e w' => e = .returned (.int .i64 (checkErr W H R C)) ∧ Below V.heap.size V w') := ⟨fun V hb => field_Check.calls W H R A c C (checkErr W H R C) V (Kd.C_below hr hb) hc (by unfold field_Check.f; exact rfl)⟩
 clear hr h
 by_cases g1 : checkErr W H R C ≠ 0
 ·have HRES : Aside0 (r = 0) := ⟨by rw [HRES.out, weightOf, if_pos (.inl g1)]⟩
  have b1 : (checkErr W H R C != 0) = true := bne_iff_ne.mpr g1
  generalize checkErr W H R C = E at HCK b1
  clear g1
  refine (callsIn_wide (n := 5)).1 (callsIn_of_wp_marks Try.func63 rfl trivial ?_)
  simp only [Try.ntmps63, List.size_toArray, List.length_cons, List.length_nil, Nat.reduceAdd, Nat.reduceSub, Array.replicate_succ, Array.replicate_zero, List.push_toArray, List.append_toArray, List.nil_append, List.cons_append]
  refine wpIn_wide.2 ?_
  go_wp2_with (first
   | ((with_reducible refine gate_dst (N := 3) rfl ?_); refine ev_box HM.out rfl 24 (.tmp 0) rfl (cs := planV W H R A C.length c) rfl ?_; intro gp w1 hm1 hq1; clear hq1; have HM1 := Aside0.mk hm1; clear hm1 HM)
   | ((with_reducible refine gate_dst (N := 5) rfl ?_); refine ev_box1 HM1.out rfl 3 (.tmp 2) rfl rfl rfl ?_; intro g5 w2 hm2 hq2; clear hq2; have HM2 := Aside0.mk hm2; clear hm2 HM1)
   | ((with_reducible refine gate_dst (N := 6) rfl ?_); refine ev_var HM2.out rfl 3 rfl info3 rfl ?_; intro g6 w3 hm3 hq3; clear hq3; have HM3 := Aside0.mk hm3; clear hm3 HM2)
   | ((with_reducible refine gate_dst (N := 9) rfl ?_); refine ev_load HM3.out.third rfl 24 (.tmp 3) rfl rfl _ Try.underlying24 rfl size24 rfl ?_)
   | (go_at_call 39; refine (HCK.out _ HM3.out.below).mono ?_; rintro e w4 ⟨rfl, hb4⟩; have HM4 := Aside0.mk (HM3.out.step hb4); clear hb4 HM3; have q3 : w4.cell? ⟨gp, 3, none⟩ = some (.slice A C.length c) := (blk_cell HM4.out.third 3).trans rfl; have q6 : w4.cell? ⟨g6, 0, none⟩ = some (.int .i64 0) := (HM4.out.cell 0).trans rfl; have f6 := HM4.out.frozen 0))
  have HM5 := Aside0.mk (HM4.out.put 0 (.int .i64 0) rfl)
  generalize w4.setCell ⟨g6, 0, none⟩ (.int .i64 0) = w5 at HM5 ⊢
  refine ret_marks HM5.out.below.size (Marks.nil _ _) (fun W' hs => ⟨_, results_cell_int rfl _ _ g6 0 rfl (hs.cell ((HM5.out.cell 0).trans rfl)), ?_, HM5.out.below.trans hs.below⟩)
  rw [HRES.out]
 have g1' : checkErr W H R C = 0 := Classical.byContradiction g1
 obtain ⟨W', H', hW', hH', hW, hH, hN, hl⟩ : ∃ W' H' : Nat, W = W' ∧ H = H' ∧ W' ≤ 16 ∧ H' ≤ 16 ∧ C.length ≤ 256 ∧ C.length = W' * H' := by
  obtain ⟨x1, x2, x3, x4, x5, _⟩ := check_parts g1'
  obtain ⟨W', rfl⟩ : ∃ W' : Nat, W = W' := ⟨W.toNat, by omega⟩
  obtain ⟨H', rfl⟩ : ∃ H' : Nat, H = H' := ⟨H.toNat, by omega⟩
  have hlen : C.length = W' * H' := by rw [← Int.natCast_mul] at x5; omega
  exact ⟨W', H', rfl, rfl, by omega, by omega, by have := Nat.mul_le_mul (show W' ≤ 16 by omega) (show H' ≤ 16 by omega); omega, hlen⟩
 subst hW' hH'
 have HLL := Aside0.mk hl
 clear hl
 have HE0 : Aside0 (field_Check.f (W' : Int) (H' : Int) R C = some 0) := ⟨by unfold field_Check.f; rw [g1']⟩
 clear HCK
 by_cases g2 : a1 < 0
 ·have HRES : Aside0 (r = 0) := ⟨by rw [HRES.out, weightOf, if_pos (.inr (.inl g2))]⟩
  have b1 := decide_eq_true g2
  clear g1 g1' g2
  refine (callsIn_wide (n := 5)).1 (callsIn_of_wp_marks Try.func63 rfl trivial ?_)
  simp only [Try.ntmps63, List.size_toArray, List.length_cons, List.length_nil, Nat.reduceAdd, Nat.reduceSub, Array.replicate_succ, Array.replicate_zero, List.push_toArray, List.append_toArray, List.nil_append, List.cons_append]
  refine wpIn_wide.2 ?_
  go_wp2_with (first
   | ((with_reducible refine gate_dst (N := 3) rfl ?_); refine ev_box HM.out rfl 24 (.tmp 0) rfl (cs := planV (W' : Int) (H' : Int) R A C.length c) rfl ?_; intro gp w1 hm1 hq1; clear hq1; have HM1 := Aside0.mk hm1; clear hm1 HM)
   | ((with_reducible refine gate_dst (N := 5) rfl ?_); refine ev_box1 HM1.out rfl 3 (.tmp 2) rfl rfl rfl ?_; intro g5 w2 hm2 hq2; clear hq2; have HM2 := Aside0.mk hm2; clear hm2 HM1)
   | ((with_reducible refine gate_dst (N := 6) rfl ?_); refine ev_var HM2.out rfl 3 rfl info3 rfl ?_; intro g6 w3 hm3 hq3; clear hq3; have HM3 := Aside0.mk hm3; clear hm3 HM2)
   | ((with_reducible refine gate_dst (N := 9) rfl ?_); refine ev_load HM3.out.third rfl 24 (.tmp 3) rfl rfl _ Try.underlying24 rfl size24 rfl ?_)
   | (go_at_call 39; refine (field_Check.calls (W' : Int) (H' : Int) R A c C 0 _ (Kd.C_below HR.out HM3.out.below) HCC.out HE0.out).mono ?_; rintro e w4 ⟨rfl, hb4⟩; have HM4 := Aside0.mk (HM3.out.step hb4); clear hb4 HM3; have q3 : w4.cell? ⟨gp, 3, none⟩ = some (.slice A C.length c) := (blk_cell HM4.out.third 3).trans rfl; have q6 : w4.cell? ⟨g6, 0, none⟩ = some (.int .i64 0) := (HM4.out.cell 0).trans rfl; have f6 := HM4.out.frozen 0))
  have HM5 := Aside0.mk (HM4.out.put 0 (.int .i64 0) rfl)
  generalize w4.setCell ⟨g6, 0, none⟩ (.int .i64 0) = w5 at HM5 ⊢
  refine ret_marks HM5.out.below.size (Marks.nil _ _) (fun W' hs => ⟨_, results_cell_int rfl _ _ g6 0 rfl (hs.cell ((HM5.out.cell 0).trans rfl)), ?_, HM5.out.below.trans hs.below⟩)
  rw [HRES.out]
 have b2 := decide_eq_false g2
 by_cases g3 : (C.length : Int) ≤ a1
 ·have HRES : Aside0 (r = 0) := ⟨by rw [HRES.out, weightOf, if_pos (.inr (.inr (.inl g3)))]⟩
  have b1 := decide_eq_true g3
  clear g1 g1' g2
  refine (callsIn_wide (n := 5)).1 (callsIn_of_wp_marks Try.func63 rfl trivial ?_)
  simp only [Try.ntmps63, List.size_toArray, List.length_cons, List.length_nil, Nat.reduceAdd, Nat.reduceSub, Array.replicate_succ, Array.replicate_zero, List.push_toArray, List.append_toArray, List.nil_append, List.cons_append]
  refine wpIn_wide.2 ?_
  go_wp2_with (first
   | ((with_reducible refine gate_dst (N := 3) rfl ?_); refine ev_box HM.out rfl 24 (.tmp 0) rfl (cs := planV (W' : Int) (H' : Int) R A C.length c) rfl ?_; intro gp w1 hm1 hq1; clear hq1; have HM1 := Aside0.mk hm1; clear hm1 HM)
   | ((with_reducible refine gate_dst (N := 5) rfl ?_); refine ev_box1 HM1.out rfl 3 (.tmp 2) rfl rfl rfl ?_; intro g5 w2 hm2 hq2; clear hq2; have HM2 := Aside0.mk hm2; clear hm2 HM1)
   | ((with_reducible refine gate_dst (N := 6) rfl ?_); refine ev_var HM2.out rfl 3 rfl info3 rfl ?_; intro g6 w3 hm3 hq3; clear hq3; have HM3 := Aside0.mk hm3; clear hm3 HM2)
   | ((with_reducible refine gate_dst (N := 9) rfl ?_); refine ev_load HM3.out.third rfl 24 (.tmp 3) rfl rfl _ Try.underlying24 rfl size24 rfl ?_)
   | (go_at_call 39; refine (field_Check.calls (W' : Int) (H' : Int) R A c C 0 _ (Kd.C_below HR.out HM3.out.below) HCC.out HE0.out).mono ?_; rintro e w4 ⟨rfl, hb4⟩; have HM4 := Aside0.mk (HM3.out.step hb4); clear hb4 HM3; have q3 : w4.cell? ⟨gp, 3, none⟩ = some (.slice A C.length c) := (blk_cell HM4.out.third 3).trans rfl; have q6 : w4.cell? ⟨g6, 0, none⟩ = some (.int .i64 0) := (HM4.out.cell 0).trans rfl; have f6 := HM4.out.frozen 0))
  have HM5 := Aside0.mk (HM4.out.put 0 (.int .i64 0) rfl)
  generalize w4.setCell ⟨g6, 0, none⟩ (.int .i64 0) = w5 at HM5 ⊢
  refine ret_marks HM5.out.below.size (Marks.nil _ _) (fun W' hs => ⟨_, results_cell_int rfl _ _ g6 0 rfl (hs.cell ((HM5.out.cell 0).trans rfl)), ?_, HM5.out.below.trans hs.below⟩)
  rw [HRES.out]
 obtain ⟨i, rfl⟩ : ∃ i : Nat, a1 = i := ⟨a1.toNat, by omega⟩
 have HI : Aside0 (i < W' * H') := ⟨by have := HLL.out; omega⟩
 have b3 : decide ((i : Int) ≥ (C.length : Int)) = false := decide_eq_false (by omega)
 have b3' : decide (C.length ≤ i) = false := decide_eq_false (by omega)
 have HRES2 : Aside0 ((∀ p, p ∈ nbs W' H' R i → (p.1 : Int) = a2 → r = p.2) ∧ ((∀ p, p ∈ nbs W' H' R i → (p.1 : Int) ≠ a2) → r = 0)) := ⟨by
  have h1 := HRES.out
  unfold weightOf at h1
  by_cases q : a2 < 0
  ·rw [if_pos (.inr (.inr (.inr q)))] at h1
   exact ⟨fun p _ e => by omega, fun _ => h1⟩
  ·rw [if_neg (by omega), Int.toNat_natCast, Int.toNat_natCast, Int.toNat_natCast] at h1
   obtain ⟨j, rfl⟩ : ∃ j : Nat, a2 = j := ⟨a2.toNat, by omega⟩
   rw [Int.toNat_natCast] at h1
   refine ⟨fun p hp e => ?_, fun hn => ?_⟩
   ·have e' : p.1 = j := by omega
    rw [h1, ← e', mem_netM HI.out hp]
   ·rw [h1, netM_none HI.out (fun p hp e => hn p hp (by omega))]⟩
 have HWH := Aside0.mk (And.intro hW hH)
 clear g1 g1' g2 g3 HRES hW hH hN
 refine (callsIn_wide (n := 5)).1 (callsIn_of_wp_marks Try.func63 rfl trivial ?_)
 simp only [Try.ntmps63, List.size_toArray, List.length_cons, List.length_nil, Nat.reduceAdd, Nat.reduceSub, Array.replicate_succ, Array.replicate_zero, List.push_toArray, List.append_toArray, List.nil_append, List.cons_append]
 refine wpIn_wide.2 ?_
 go_wp2_with (first
  | ((with_reducible refine gate_dst (N := 3) rfl ?_); refine ev_box HM.out rfl 24 (.tmp 0) rfl (cs := planV (W' : Int) (H' : Int) R A C.length c) rfl ?_; intro gp w1 hm1 hq1; clear hq1; have HM1 := Aside0.mk hm1; clear hm1 HM)
  | ((with_reducible refine gate_dst (N := 5) rfl ?_); refine ev_box1 HM1.out rfl 3 (.tmp 2) rfl rfl rfl ?_; intro g5 w2 hm2 hq2; clear hq2; have HM2 := Aside0.mk hm2; clear hm2 HM1)
  | ((with_reducible refine gate_dst (N := 6) rfl ?_); refine ev_var HM2.out rfl 3 rfl info3 rfl ?_; intro g6 w3 hm3 hq3; clear hq3; have HM3 := Aside0.mk hm3; clear hm3 HM2)
  | ((with_reducible refine gate_dst (N := 9) rfl ?_); refine ev_load HM3.out.third rfl 24 (.tmp 3) rfl rfl _ Try.underlying24 rfl size24 rfl ?_)
  | (go_at_call 39; refine (field_Check.calls (W' : Int) (H' : Int) R A c C 0 _ (Kd.C_below HR.out HM3.out.below) HCC.out HE0.out).mono ?_; rintro e w4 ⟨rfl, hb4⟩; have HM4 := Aside0.mk (HM3.out.step hb4); clear hb4 HM3; have q3 : w4.cell? ⟨gp, 3, none⟩ = some (.slice A C.length c) := (blk_cell HM4.out.third 3).trans rfl; have q6 : w4.cell? ⟨g6, 0, none⟩ = some (.int .i64 0) := (HM4.out.cell 0).trans rfl; have f6 := HM4.out.frozen 0)
  | ((with_reducible refine gate_dst (N := 23) rfl ?_); refine ev_load HM4.out.third rfl 24 (.tmp 3) rfl rfl _ Try.underlying24 rfl size24 rfl ?_)
  | (go_at_call 78; refine (near_calls _ _ _ _ _ _ _ _).mono ?_; rintro e w6 ⟨gp2, gi2, rfl, hM6, hz6, hgp2, hgi2⟩; have HM6 := Aside0.mk (HM4.out.step hM6.below); have HBX := Aside0.mk (And.intro hM6.head hM6.second); have HGG : Aside0 (g6 < w4.heap.size ∧ g5 < w4.heap.size ∧ gi2 = w4.heap.size + 1 ∧ gp2 = w4.heap.size ∧ w4.heap.size ≤ w6.heap.size) := ⟨⟨blk_lt HM4.out.head, blk_lt HM4.out.second, hgi2, hgp2, hM6.below.size⟩⟩; clear hM6 hz6 hgp2 hgi2 HM4 q3 q6 f6))
 rename_i Ka hKa
 have HKa := Aside0.mk hKa
 clear hKa
 refine (wpIn_wide (n := 5)).1 ?_
 have HBase : Aside0 (w.heap.size ≤ w6.heap.size) := ⟨HM6.out.below.size⟩
 have HGB : Aside0 (gi2 < w6.heap.size ∧ gp2 < w6.heap.size) := ⟨⟨blk_lt HBX.out.1, blk_lt HBX.out.2⟩⟩
 refine wpIn_rangeFunc_ownG rfl (by decide) (gf := 98) (lb := #[.pointer (some ⟨gi2, 0, none⟩), .pointer (some ⟨gp2, 0, none⟩)]) rfl trivial (enters_of Try.func98 (by kernel_rfl) rfl)
  (near1_stops 4 W' H' R A C.length c i gi2 gp2 HI.out HWH.out.1 HWH.out.2 w6 HBX.out) (fun h k => ⟨k.1.trans h.1, k.2.trans h.2⟩) (fun V l o o' hl ho _ _ => ⟨World.putObj_heap_other (by have := HGB.out.1; omega), World.putObj_heap_other (by have := HGB.out.2; omega)⟩) (Below.refl _ _) (fun _ => rfl)
  (fun pre V => WI w g6 g5 a2 (∀ y, y ∈ pre.map (·.1) → (y.1 : Int) ≠ a2) w6.heap.size gi2 gp2 #[.int .i64 i] (planV W' H' R A C.length c) V)
  (fun cd pre V => cd = .ret ∧ WX w g6 r w6.heap.size V) ?hI ?hIx ?h0 (fun x => { tmps := List.toArray (.agg (planV (W' : Int) (H' : Int) R A C.length c) :: .int .i64 (i : Int) :: .int .i64 a2 :: .pointer (some ⟨gp, 0, none⟩) :: undef :: .pointer (some ⟨g5, 0, none⟩) :: .pointer (some ⟨g6, 0, none⟩) :: .int .i64 x.1.1 :: .int .i64 x.1.2 :: .agg (planV (W' : Int) (H' : Int) R A C.length c) :: .int .i64 0 :: .bool false :: .bool false :: .int .i64 (i : Int) :: .bool false :: .bool false :: .bool false :: .int .i64 (i : Int) :: .pointer (some ⟨gp, 3, none⟩) :: .slice A C.length c :: .int .i64 (C.length : Int) :: .bool false :: .bool false :: .agg (planV (W' : Int) (H' : Int) R A C.length c) :: .int .i64 (i : Int) :: .func (.func 98) #[] #[.pointer (some ⟨gi2, 0, none⟩), .pointer (some ⟨gp2, 0, none⟩)] :: .int .i64 x.1.1 :: .int .i64 x.1.2 :: undef :: undef :: undef :: undef :: []), defers := [] }) ?assign ?body ?done ?stop
 case hI =>
  rintro pre V V' row ⟨h1, h2, h3, h4, h5, h6, h7⟩ hg hr
  have ht : Turn w6.heap.size V V' row := ⟨hg, hr⟩
  exact ⟨ht.below h1 HBase.out (Nat.le_trans HBase.out h5), ht.heap h2, ht.heap h3, h4, Nat.le_trans h5 hg.size, ht.heap h6, ht.heap h7⟩
 case hIx =>
  rintro cd pre V V' row ⟨h0, h1, h2, h5⟩ hg hr
  have ht : Turn w6.heap.size V V' row := ⟨hg, hr⟩
  exact ⟨h0, ht.below h1 HBase.out (Nat.le_trans HBase.out h5), ht.heap h2, Nat.le_trans h5 hg.size⟩
 case h0 => exact ⟨HM6.out.below, HM6.out.head, HM6.out.second, fun y hy => by simp at hy, Nat.le_refl _, HBX.out.1, HBX.out.2⟩
 case assign =>
  intro l x V K hK
  gi_wp2
  exact hK
 case body =>
  rintro l pre x V ⟨h1, h2, h3, h4, h5, h6, h7⟩ hlt
  have HX2 := Aside0.mk (HRES2.out.1 x.1 x.2)
  obtain ⟨kx, hkx⟩ : ∃ kx, x.1.1 = kx := ⟨_, rfl⟩
  obtain ⟨wx, hwx⟩ : ∃ wx, x.1.2 = wx := ⟨_, rfl⟩
  show Code.wpIn (Fence.wide.inRound l) (5 - 1 - 1) Try.prog _ (ownPostG w6.heap.size (Boxes gi2 gp2) _ _ (pre ++ [x]) V) _ _
  have HKX := Aside0.mk hkx
  rw [hkx, hwx] at HX2 ⊢
  have e1 : V.cell? ⟨g5, 0, none⟩ = some (.int .i64 a2) := (blk_cell h3 0).trans rfl
  have e2 : V.cell? ⟨g6, 0, none⟩ = some (.int .i64 0) := (blk_cell h2 0).trans rfl
  have f2 := blk_frozen h2 0
  have HVV := Aside0.mk (And.intro h1 (And.intro h2 (And.intro h3 (And.intro h4 (And.intro h5 (And.intro h6 h7))))))
  clear h1 h2 h3 h4 h5 h6 h7 hlt hkx hwx
  by_cases q : (kx : Int) = a2
  ·have HQ : Aside0 (r = wx) := ⟨HX2.out q⟩
   have q1 : ((kx : Int) == a2) = true := beq_iff_eq.mpr q
   have HGN : Aside0 (w.heap.size ≤ g6) := ⟨HM6.out.geh⟩
   clear q HX2
   gi_wp2
   refine ⟨(KeepsOthers.setCell _ _ _).from _, rfl, below_set HVV.out.1 HGN.out, by rw [blk_set HVV.out.2.1 0, HQ.out]; rfl, Nat.le_trans HVV.out.2.2.2.2.1 (KeepsOthers.setCell V ⟨g6, 0, none⟩ (.int .i64 wx)).size⟩
  ·have q1 : ((kx : Int) == a2) = false := beq_eq_false_iff_ne.mpr q
   have HQ : Aside0 ((kx : Int) ≠ a2) := ⟨q⟩
   clear q HX2
   gi_wp2
   obtain ⟨h1, h2, h3, h4, h5, h6, h7⟩ := HVV.out
   refine ⟨KeepsFrom.refl _ _, ⟨rfl, rfl⟩, h1, h2, h3, fun y hy => ?_, h5, h6, h7⟩
   rw [List.map_append, List.map_singleton] at hy
   rcases List.mem_append.1 hy with hy | hy
   ·exact h4 y hy
   ·rw [List.mem_singleton.1 hy, HKX.out]
    exact HQ.out
 case done =>
  rintro D xs V hD hxs ⟨h1, h2, h3, h4, h5, _⟩ hK
  have HR0 : Aside0 (r = 0) := ⟨HRES2.out.2 (fun p hp => h4 p (by rw [hxs]; exact hp))⟩
  have HV := Aside0.mk (And.intro h1 h2)
  have HMV := Aside0.mk ((Marks.nil w.heap.size w6).push (Marks.nil w.heap.size V) HBase.out hD hK)
  have e2 : V.cell? ⟨g6, 0, none⟩ = some (.int .i64 0) := (blk_cell h2 0).trans rfl
  have f2 := blk_frozen h2 0
  have HGN : Aside0 (w.heap.size ≤ g6) := ⟨HM6.out.geh⟩
  clear h1 h2 h3 h4 h5 hK hD hxs
  refine HKa.out _ _ ?_
  clear HKa
  go_wp2_with fail
  refine ret_marks (Nat.le_trans HV.out.1.size (KeepsOthers.setCell V ⟨g6, 0, none⟩ (.int .i64 0)).size) (HMV.out.others (KeepsOthers.setCell _ _ _)) (fun W' hs => ⟨_, results_cell_int rfl _ _ g6 0 rfl (hs.cell (by rw [blk_cell (cs := #[.int .i64 0]) (by rw [blk_set HV.out.2 0]; rfl) 0]; rfl)), ?_, (below_set HV.out.1 HGN.out).trans hs.below⟩)
  rw [HR0.out]
 case stop =>
  rintro D cd pre V hD _ ⟨rfl, h1, h2, h5⟩ hK
  have HMV := Aside0.mk ((Marks.nil w.heap.size w6).push (Marks.nil w.heap.size V) HBase.out hD hK)
  refine wpIn_ret ?_
  (try simp only [Exit.inBlock, Exit.then])
  refine ret_marks (a := { tmps := _, defers := _ }) h1.size HMV.out (fun W' hs => ⟨_, results_cell_int rfl _ _ g6 r rfl (hs.cell ((blk_cell h2 0).trans rfl)), rfl, h1.trans hs.below⟩)
end Go.Proofs.Ytndkkjpgnmahbaa.Print
end

section
namespace Go.Proofs.Ytndkkjpgnmahbaa.Print
open Go.RowKit Go.Proofs.YtndkkjpgnmahbaaW.PrintWords Go.Proofs.YtndkkjpgnmahbaaW.PrintLast Go.Proofs.YtndkkjpgnmahbaaW.PrintMore Go.Proofs.Ytndkkjpgnmahbaa.H Go.Proofs.Field
attribute [local go_sem] Oper.semAt_some
attribute [local go_sem] max2_int min2_int max_two min_two max_three min_three max_four min_four
set_option linter.unusedVariables false
set_option linter.unusedSimpArgs false
def chargeF.T14 : Bool × List (List Nat × List Nat) := (true, [([], []), ([0], [0]), ([], []), ([1, 2], [1, 2]), ([3], [3]), ([], []), ([4, 5], [4, 5])])
def chargeF.B14 : List Nat := [0, 1, 0, 7, 15, 0, 63]
theorem chargeF.tab14 : rtab .any (opsOf Try.f30 14) = chargeF.T14 := by kernel_rfl
theorem chargeF.bits14 : waitsOk chargeF.T14.2 chargeF.B14 = true := by kernel_rfl
def chargeF.T15 : Bool × List (List Nat × List Nat) := (true, [([], []), ([0], [0]), ([], []), ([], []), ([], []), ([4], [4]), ([3, 5], [3, 5]), ([6], [6]), ([], []), ([8], [8]), ([], []), ([9, 10], [9, 10]), ([11], [11]), ([7, 12], [7, 12]), ([2, 13], [2, 13]), ([1, 14], [1, 14]), ([0, 1, 2, 3, 4, 5, 6, 7, 8, 9, 10, 11, 12, 13, 14, 15], []), ([16, 15, 0, 1, 2, 3, 4, 5, 6, 7, 8, 9, 10, 11, 12, 13, 14, 15], [15, 16])])
def chargeF.B15 : List Nat := [0, 1, 0, 0, 0, 16, 56, 120, 0, 256, 0, 1792, 3840, 8184, 16380, 32767, 65535, 131071]
theorem chargeF.tab15 : rtab .any (opsOf Try.f30 15) = chargeF.T15 := by kernel_rfl
theorem chargeF.bits15 : waitsOk chargeF.T15.2 chargeF.B15 = true := by kernel_rfl
def chargeF.T16 : Bool × List (List Nat × List Nat) := (true, [([], []), ([0], [0]), ([], []), ([], []), ([], []), ([4], [4]), ([3, 5], [3, 5]), ([6], [6]), ([], []), ([8], [8]), ([], []), ([9, 10], [9, 10]), ([11], [11]), ([7, 12], [7, 12]), ([2, 13], [2, 13]), ([1, 14], [1, 14]), ([0, 1, 2, 3, 4, 5, 6, 7, 8, 9, 10, 11, 12, 13, 14, 15], []), ([16, 15, 0, 1, 2, 3, 4, 5, 6, 7, 8, 9, 10, 11, 12, 13, 14, 15], [15, 16])])
def chargeF.B16 : List Nat := [0, 1, 0, 0, 0, 16, 56, 120, 0, 256, 0, 1792, 3840, 8184, 16380, 32767, 65535, 131071]
theorem chargeF.tab16 : rtab .any (opsOf Try.f30 16) = chargeF.T16 := by kernel_rfl
theorem chargeF.bits16 : waitsOk chargeF.T16.2 chargeF.B16 = true := by kernel_rfl
theorem info42 : (Try.prog.info? 42).map (fun i => (i.zero, i.size, i.bytes)) = some (some (.agg #[.int .i64 0, .int .i64 0]), 2, 16) := by kernel_rfl
theorem size42 : (Try.prog.info? 42).map (·.size) = some 2 := by kernel_rfl
structure CI (wS W : World) (g10 g12 : Nat) (v0 v1 : Value) (r3 : Int) (r4 : Bool) (L M : Int) : Prop where
 below : Below wS.heap.size wS W
 s : W.heap[g10]? = some (.cells #[v0, v1, .int .i64 r3, .bool r4] 33 (0, 0))
 r : W.heap[g12]? = some (.cells #[.int .i64 L, .int .i64 M] 42 (0, 0))
 g120 : wS.heap.size ≤ g12
namespace CI
variable {wS W W1 : World} {g10 g12 : Nat} {v0 v1 : Value} {r3 : Int} {r4 : Bool} {L M : Int}
theorem step (h : CI wS W g10 g12 v0 v1 r3 r4 L M) (hb : Below W.heap.size W W1) : CI wS W1 g10 g12 v0 v1 r3 r4 L M :=
 ⟨below_step h.below hb, blk_below h.s hb, blk_below h.r hb, h.g120⟩
theorem turn {B : Nat} {row : Option Nat} (h : CI wS W g10 g12 v0 v1 r3 r4 L M) (ht : Turn B W W1 row) (hB : wS.heap.size ≤ B) : CI wS W1 g10 g12 v0 v1 r3 r4 L M :=
 ⟨ht.below h.below hB h.below.size, ht.heap h.s, ht.heap h.r, h.g120⟩
theorem put0 (h : CI wS W g10 g12 v0 v1 r3 r4 L M) (L' : Int) : CI wS (W.setCell ⟨g12, 0, none⟩ (.int .i64 L')) g10 g12 v0 v1 r3 r4 L' M :=
 ⟨below_set h.below h.g120, blk_far h.s (p := ⟨g12, 0, none⟩) (blk_ne h.s h.r (by decide)) _, by rw [blk_set h.r 0]; rfl, h.g120⟩
theorem put1 (h : CI wS W g10 g12 v0 v1 r3 r4 L M) (M' : Int) : CI wS (W.setCell ⟨g12, 1, none⟩ (.int .i64 M')) g10 g12 v0 v1 r3 r4 L M' :=
 ⟨below_set h.below h.g120, blk_far h.s (p := ⟨g12, 1, none⟩) (blk_ne h.s h.r (by decide)) _, by rw [blk_set h.r 1]; rfl, h.g120⟩
end CI
def CJ (w wS : World) (g10 g12 : Nat) (v0 v1 : Value) (r3 : Int) (r4 : Bool) (L M : Int) (B : Nat) (ds : List Deferred) (gi gq : Nat) (ci cq : Array Value) (V : World) : Prop :=
 CI wS V g10 g12 v0 v1 r3 r4 L M ∧ MarksTo w.heap.size B V ds ∧ B ≤ V.heap.size ∧ V.heap[gi]? = some (.cells ci 3 (0, 0)) ∧ V.heap[gq]? = some (.cells cq 24 (0, 0))
namespace CJ
variable {w wS : World} {g10 g12 : Nat} {v0 v1 : Value} {r3 : Int} {r4 : Bool} {L M : Int} {B : Nat} {ds : List Deferred} {gi gq : Nat} {ci cq : Array Value} {V V1 : World}
theorem step (h : CJ w wS g10 g12 v0 v1 r3 r4 L M B ds gi gq ci cq V) (hb : Below V.heap.size V V1) : CJ w wS g10 g12 v0 v1 r3 r4 L M B ds gi gq ci cq V1 :=
 ⟨h.1.step hb, h.2.1.others (below_others hb), Nat.le_trans h.2.2.1 hb.size, blk_below h.2.2.2.1 hb, blk_below h.2.2.2.2 hb⟩
theorem put0 (h : CJ w wS g10 g12 v0 v1 r3 r4 L M B ds gi gq ci cq V) (L' : Int) : CJ w wS g10 g12 v0 v1 r3 r4 L' M B ds gi gq ci cq (V.setCell ⟨g12, 0, none⟩ (.int .i64 L')) :=
 ⟨h.1.put0 L', h.2.1.others (KeepsOthers.setCell _ _ _), Nat.le_trans h.2.2.1 (KeepsOthers.setCell V ⟨g12, 0, none⟩ (.int .i64 L')).size, blk_far (p := ⟨g12, 0, none⟩) h.2.2.2.1 (blk_ne h.2.2.2.1 h.1.r (by decide)) _, blk_far (p := ⟨g12, 0, none⟩) h.2.2.2.2 (blk_ne h.2.2.2.2 h.1.r (by decide)) _⟩
theorem put1 (h : CJ w wS g10 g12 v0 v1 r3 r4 L M B ds gi gq ci cq V) (M' : Int) : CJ w wS g10 g12 v0 v1 r3 r4 L M' B ds gi gq ci cq (V.setCell ⟨g12, 1, none⟩ (.int .i64 M')) :=
 ⟨h.1.put1 M', h.2.1.others (KeepsOthers.setCell _ _ _), Nat.le_trans h.2.2.1 (KeepsOthers.setCell V ⟨g12, 1, none⟩ (.int .i64 M')).size, blk_far (p := ⟨g12, 1, none⟩) h.2.2.2.1 (blk_ne h.2.2.2.1 h.1.r (by decide)) _, blk_far (p := ⟨g12, 1, none⟩) h.2.2.2.2 (blk_ne h.2.2.2.2 h.1.r (by decide)) _⟩
end CJ
theorem below_row {w W : World} {g : Nat} {cs : Array Value} (h : Below w.heap.size w W) (hg : w.heap.size ≤ g) : Below w.heap.size w (W.setRow g cs) :=
 ⟨h.os, h.tape, h.output, by rw [size_setRow]; exact h.size, fun i hi => by rw [setRow_other _ g i _ (by omega)]; exact h.block i hi⟩
set_option maxHeartbeats 6400000 in
set_option maxRecDepth 100000 in
theorem field_Charge.calls (W H : Int) (R : Bool) (A : Option Addr) (c : Nat) (C : List Int) (A1 : Option Addr) (c1 : Nat) (volts : List Int) (a2 : Int) (a3 : Int) (x1 : Int) (x2 : Int) (x3 : Int) (w : World) (hr : Kd.C (Kd.int .i64) w A C.length C) (hc : C.length ≤ c) (hr1 : Kd.C (Kd.int .i64) w A1 volts.length volts) (hc1 : volts.length ≤ c1)
  (h : field_Charge.f W H R C volts a2 a3 = some (x1, x2, x3)) :
  Calls Try.prog 30 #[.agg (planV W H R A C.length c), .slice A1 volts.length c1, .int .i64 a2, .int .i64 a3] w fun e w' => e = .returned (.tuple #[.agg #[.int .i64 x1, .int .i64 x2], .int .i64 x3]) ∧ Below w.heap.size w w' := by
 have HR := Aside0.mk hr
 have HC := Aside0.mk hc
 have HR1 := Aside0.mk hr1
 have HC1 := Aside0.mk hc1
 have HM := Aside0.mk (Mem.start w)
 have hu24 := Try.underlying24
 have hu22 := Try.underlying22
 have hu33 := Try.underlying33
 have hu42 := Try.underlying42
 have hlen : (C.length : Int) ≤ 9223372036854775807 := by have := (Kd.reads_of_C (enc := Value.int .i64) (d := (0 : Int)) (h1 := fun _ => rfl) hr).2.1; omega
 clear hr hc hr1 hc1
 unfold field_Charge.f at h
 have h0 := Option.bind_eq_some_iff.1 h
 clear h
 obtain ⟨⟨r1, r2, r3, r4, r5⟩, hs, h⟩ := h0
 have HS := Aside0.mk hs
 by_cases g0 : r5 ≠ 0
 ·rw [if_pos g0] at h
  simp only [Option.some.injEq, Prod.mk.injEq] at h
  obtain ⟨rfl, rfl, rfl⟩ := h
  have g1 : (r5 != 0) = true := bne_iff_ne.mpr g0
  clear g0 hs
  refine (callsIn_wide (n := 5)).1 (callsIn_of_wp_marks Try.func30 rfl trivial ?_)
  simp only [Try.ntmps30, List.size_toArray, List.length_cons, List.length_nil, Nat.reduceAdd, Nat.reduceSub, Array.replicate_succ, Array.replicate_zero, List.push_toArray, List.append_toArray, List.nil_append, List.cons_append]
  refine wpIn_wide.2 ?_
  go_wp2_with (first
   | ((with_reducible refine gate_dst (N := 4) rfl ?_); refine ev_box HM.out rfl 24 (.tmp 0) rfl (cs := planV W H R A C.length c) rfl ?_; intro gp w1 hm1 hq1; clear hq1; have HM1 := Aside0.mk hm1; clear hm1 HM)
   | ((with_reducible refine gate_dst (N := 5) rfl ?_); refine ev_box1 HM1.out rfl 22 (.tmp 1) rfl rfl rfl ?_; intro g5 w2 hm2 hq2; clear hq2; have HM2 := Aside0.mk hm2; clear hm2 HM1)
   | ((with_reducible refine gate_dst (N := 7) rfl ?_); refine ev_box1 HM2.out rfl 3 (.tmp 3) rfl rfl rfl ?_; intro g7 w3 hm3 hq3; clear hq3; have HM3 := Aside0.mk hm3; clear hm3 HM2)
   | ((with_reducible refine gate_dst (N := 8) rfl ?_); refine ev_new HM3.out rfl 42 rfl info42 ?_; intro g8 w4 hm4 hq4; clear hq4; have HM4 := Aside0.mk hm4; clear hm4 HM3; have q5 : w4.cell? ⟨g5, 0, none⟩ = some (.slice A1 volts.length c1) := (blk_cell HM4.out.third 0).trans rfl)
   | ((with_reducible refine gate_dst (N := 18) rfl ?_); refine ev_load HM4.out.drop.third rfl 24 (.tmp 4) rfl rfl _ Try.underlying24 rfl size24 rfl ?_)
   | (go_at_call 25; refine (field_Solve.calls W H R A c C A1 c1 volts _ r1 r2 r3 r4 _ _ (Kd.C_below HR.out HM4.out.below) HC.out (Kd.C_below HR1.out HM4.out.below) HC1.out HS.out).mono ?_; rintro e w5 ⟨v0, v1, rfl, hv0, hv1, hb5⟩; obtain ⟨A7, c7, rfl⟩ := Kd.R_slice hv0; obtain ⟨A8, c8, rfl⟩ := Kd.R_slice hv1; have HV0 := Aside0.mk (Kd.R_reads' hv0); have HV1 := Aside0.mk (Kd.R_reads' hv1); have HM5 := Aside0.mk (HM4.out.step hb5); clear hb5 HM4 hv0 hv1 q5)
   | ((with_reducible refine gate_dst (N := 10) rfl ?_); refine ev_new HM5.out rfl 33 rfl info33 ?_; intro g10 w6 hm6 hq6; have HBS0 := Aside0.mk hq6; clear hq6; have HM50 := Aside0.mk hm6; clear hm6)
   | ((with_reducible refine gate_store (t := 33) (p := 10) rfl ?_); refine ev_store HM50.out rfl 33 (.tmp 10) (.tmp 22) rfl rfl (cs := #[.slice A7 r1.length c7, .slice A8 r2.length c8, .int .i64 r3, .bool r4]) rfl size33 rfl rfl (by simp [Value.oneCell']) ?_; intro w7 hm7 hq7; clear hq7; have HM6 := Aside0.mk hm7; clear hm7 HM50; have q7 : w7.cell? ⟨g7, 0, none⟩ = some (.int .i64 a3) := (blk_cell HM6.out.third 0).trans rfl)
   | ((with_reducible refine gate_store (t := 42) (p := 8) rfl ?_); refine ev_storeB HM6.out.second rfl 42 (.tmp 8) (.tmp 26) rfl rfl rfl size42 rfl rfl (by simp [Value.oneCell']) ?_))
  exact ret_marks (by rw [size_setRow]; exact HM6.out.below.size) (Marks.nil _ _) (fun W' hq => ⟨_, results_row_tmp rfl _ _ g8 42 _ (0, 0) _ rfl (hq.cells _ _ (setRow_heap _ _ _ _ _ _ HM6.out.second) rfl) hu42 rfl (by rw [size42]; rfl), rfl, (below_row HM6.out.below HM6.out.drop.geh).trans hq.below⟩)
 obtain rfl : r5 = 0 := Classical.byContradiction g0
 replace h : (if (0 : Int) ≠ 0 then some (0, 0, 0) else if hasB C a3 = false then some (0, 0, 7) else some (chTo W.toNat H.toNat R C a3 (fn volts (a3.toNat - 1)) r2 C.length, chTo W.toNat H.toNat R C a3 (fn volts (a3.toNat - 1)) r1 C.length, 0)) = some (x1, x2, x3) := h
 obtain ⟨W', H', N, rfl, rfl, rfl, hN2, hW, hH, hN, hV, e1, e2, e3, e4⟩ := solve_good hs
 have HHAS := Aside0.mk (has_eq (W' : Int) (H' : Int) R C a3 (by omega) 0)
 rw [if_neg (by simp)] at h
 by_cases g1 : hasB C a3 = false
 ·rw [if_pos g1] at h
  simp only [Option.some.injEq, Prod.mk.injEq] at h
  obtain ⟨rfl, rfl, rfl⟩ := h
  rw [g1] at HHAS
  clear g0 hs g1 hN2 hW hH hN hV e1 e2 e3 e4
  refine (callsIn_wide (n := 5)).1 (callsIn_of_wp_marks Try.func30 rfl trivial ?_)
  simp only [Try.ntmps30, List.size_toArray, List.length_cons, List.length_nil, Nat.reduceAdd, Nat.reduceSub, Array.replicate_succ, Array.replicate_zero, List.push_toArray, List.append_toArray, List.nil_append, List.cons_append]
  refine wpIn_wide.2 ?_
  go_wp2_with (first
   | ((with_reducible refine gate_dst (N := 4) rfl ?_); refine ev_box HM.out rfl 24 (.tmp 0) rfl (cs := planV (W' : Int) (H' : Int) R A C.length c) rfl ?_; intro gp w1 hm1 hq1; clear hq1; have HM1 := Aside0.mk hm1; clear hm1 HM)
   | ((with_reducible refine gate_dst (N := 5) rfl ?_); refine ev_box1 HM1.out rfl 22 (.tmp 1) rfl rfl rfl ?_; intro g5 w2 hm2 hq2; clear hq2; have HM2 := Aside0.mk hm2; clear hm2 HM1)
   | ((with_reducible refine gate_dst (N := 7) rfl ?_); refine ev_box1 HM2.out rfl 3 (.tmp 3) rfl rfl rfl ?_; intro g7 w3 hm3 hq3; clear hq3; have HM3 := Aside0.mk hm3; clear hm3 HM2)
   | ((with_reducible refine gate_dst (N := 8) rfl ?_); refine ev_new HM3.out rfl 42 rfl info42 ?_; intro g8 w4 hm4 hq4; clear hq4; have HM4 := Aside0.mk hm4; clear hm4 HM3; have q5 : w4.cell? ⟨g5, 0, none⟩ = some (.slice A1 volts.length c1) := (blk_cell HM4.out.third 0).trans rfl)
   | ((with_reducible refine gate_dst (N := 18) rfl ?_); refine ev_load HM4.out.drop.third rfl 24 (.tmp 4) rfl rfl _ Try.underlying24 rfl size24 rfl ?_)
   | (go_at_call 25; refine (field_Solve.calls (W' : Int) (H' : Int) R A c C A1 c1 volts _ r1 r2 r3 r4 _ _ (Kd.C_below HR.out HM4.out.below) HC.out (Kd.C_below HR1.out HM4.out.below) HC1.out HS.out).mono ?_; rintro e w5 ⟨v0, v1, rfl, hv0, hv1, hb5⟩; obtain ⟨A7, c7, rfl⟩ := Kd.R_slice hv0; obtain ⟨A8, c8, rfl⟩ := Kd.R_slice hv1; have HV0 := Aside0.mk (Kd.R_reads' hv0); have HV1 := Aside0.mk (Kd.R_reads' hv1); have HM5 := Aside0.mk (HM4.out.step hb5); clear hb5 HM4 hv0 hv1 q5)
   | ((with_reducible refine gate_dst (N := 10) rfl ?_); refine ev_new HM5.out rfl 33 rfl info33 ?_; intro g10 w6 hm6 hq6; have HBS0 := Aside0.mk hq6; clear hq6; have HM50 := Aside0.mk hm6; clear hm6)
   | ((with_reducible refine gate_store (t := 33) (p := 10) rfl ?_); refine ev_store HM50.out rfl 33 (.tmp 10) (.tmp 22) rfl rfl (cs := #[.slice A7 r1.length c7, .slice A8 r2.length c8, .int .i64 r3, .bool r4]) rfl size33 rfl rfl (by simp [Value.oneCell']) ?_; intro w7 hm7 hq7; clear hq7; have HM6 := Aside0.mk hm7; clear hm7 HM50; have q7 : w7.cell? ⟨g7, 0, none⟩ = some (.int .i64 a3) := (blk_cell HM6.out.third 0).trans rfl)
   | ((with_reducible refine gate_dst (N := 28) rfl ?_); refine ev_load HM6.out.drop.drop.third rfl 24 (.tmp 4) rfl rfl _ Try.underlying24 rfl size24 rfl ?_)
   | (go_at_call 77; refine (field_has.calls _ (W' : Int) (H' : Int) R A c C _ _ _ (Kd.C_below HR.out HM6.out.below) HC.out HHAS.out).mono ?_; rintro e w8 ⟨rfl, hb8⟩; have HM7 := Aside0.mk (HM6.out.step hb8); clear hb8 HM6 q7)
   | ((with_reducible refine gate_store (t := 42) (p := 8) rfl ?_); refine ev_storeB HM7.out.second rfl 42 (.tmp 8) (.tmp 32) rfl rfl rfl size42 rfl rfl (by simp [Value.oneCell']) ?_))
  exact ret_marks (by rw [size_setRow]; exact HM7.out.below.size) (Marks.nil _ _) (fun W' hq => ⟨_, results_row_tmp rfl _ _ g8 42 _ (0, 0) _ rfl (hq.cells _ _ (setRow_heap _ _ _ _ _ _ HM7.out.second) rfl) hu42 rfl (by rw [size42]; rfl), rfl, (below_row HM7.out.below HM7.out.drop.geh).trans hq.below⟩)
 rw [if_neg g1] at h
 have g1' : hasB C a3 = true := by simpa using g1
 rw [g1'] at HHAS
 obtain ⟨n, rfl⟩ : ∃ n : Nat, a3 = (n : Int) + 1 := ⟨(a3 - 1).toNat, by
  unfold hasB at g1'
  rw [Bool.and_eq_true, decide_eq_true_eq] at g1'
  omega⟩
 have hel : (n : Int) + 1 ∈ C := by
  unfold hasB at g1'
  rw [Bool.and_eq_true, List.contains_iff_mem] at g1'
  exact g1'.2
 obtain ⟨i0, hi0, hce⟩ := mem_fn hel
 have hvl := hV.vlen i0 hi0
 rw [hce] at hvl
 have hub := volt_range hV hi0 (by rw [hce]; omega)
 have huv : volt C volts i0 = fn volts n := by unfold volt; rw [hce, show ((n : Int) + 1).toNat - 1 = n by omega]
 rw [huv] at hub
 have HUB := Aside0.mk hub
 obtain ⟨adv, ev, hcv⟩ := at_natM HR1.out n (by omega)
 rw [show volts.getD n 0 = fn volts n from rfl] at hcv
 have HNV : Aside0 (n < volts.length) := ⟨by omega⟩
 have HRNG : Aside0 (∀ j, j < W' * H' → (-1000000 ≤ fn r1 j ∧ fn r1 j ≤ 1000000) ∧ (-1000000 ≤ fn r2 j ∧ fn r2 j ≤ 1000000)) := ⟨fun j hj => by
  have hj' : j < C.length := by rw [hV.len]; exact hj
  have h5 := solve_range hV hN N hj'
  rw [← e1, ← e2, fn_take hj', fn_take hj']
  exact h5⟩
 have l1 : r1.length = C.length := by rw [← e1, List.length_take, (solve_pair hV hN N).low.1.len]; omega
 have l2 : r2.length = C.length := by rw [← e2, List.length_take, (solve_pair hV hN N).high.1.len]; omega
 have HEQ : Aside0 (chTo W' H' R C ((n : Int) + 1) (fn volts n) r2 C.length = x1 ∧ chTo W' H' R C ((n : Int) + 1) (fn volts n) r1 C.length = x2 ∧ (0 : Int) = x3) := ⟨by
  rw [Int.toNat_natCast, Int.toNat_natCast, show ((n : Int) + 1).toNat - 1 = n by omega] at h
  simpa only [Option.some.injEq, Prod.mk.injEq] using h⟩
 have HLEN : Aside0 (C.length = W' * H' ∧ W' ≤ 16 ∧ H' ≤ 16 ∧ C.length ≤ 256) := ⟨⟨hV.len, hW, hH, hN⟩⟩
 have HL12 : Aside0 (r1.length = C.length ∧ r2.length = C.length) := ⟨⟨l1, l2⟩⟩
 have b1 : (C.length : Int) ≤ 256 := by omega
 have k1 : (0 : Int) ≤ (n : Int) := by omega
 have k2 : (n : Int) < (volts.length : Int) := by omega
 have n1 : IntKind.i64.wrap ((n : Int) + 1 - 1) = (n : Int) := by rw [Int.add_sub_cancel]; exact IntWalk.i64_in _ (by have := (Kd.reads_of_C (enc := Value.int .i64) (d := (0 : Int)) (h1 := fun _ => rfl) HR1.out).2.1; omega)
 have n2 : IntKind.i64.wrap (n : Int) = (n : Int) := IntWalk.i64_in _ (by have := (Kd.reads_of_C (enc := Value.int .i64) (d := (0 : Int)) (h1 := fun _ => rfl) HR1.out).2.1; omega)
 obtain ⟨u, hu⟩ : ∃ u, fn volts n = u := ⟨_, rfl⟩
 rw [hu] at HUB HEQ hcv
 have HCV := Aside0.mk (And.intro ev hcv)
 clear hs g0 g1 g1' h hN2 hW hH hN hV e1 e2 e3 e4 hel hi0 hce hvl hub huv ev hcv hu l1 l2 i0
 refine (callsIn_wide (n := 5)).1 (callsIn_of_wp_marks Try.func30 rfl trivial ?_)
 simp only [Try.ntmps30, List.size_toArray, List.length_cons, List.length_nil, Nat.reduceAdd, Nat.reduceSub, Array.replicate_succ, Array.replicate_zero, List.push_toArray, List.append_toArray, List.nil_append, List.cons_append]
 refine wpIn_wide.2 ?_
 go_wp2_with (first
  | ((with_reducible refine gate_dst (N := 4) rfl ?_); refine ev_box HM.out rfl 24 (.tmp 0) rfl (cs := planV (W' : Int) (H' : Int) R A C.length c) rfl ?_; intro gp w1 hm1 hq1; clear hq1; have HM1 := Aside0.mk hm1; clear hm1 HM)
  | ((with_reducible refine gate_dst (N := 5) rfl ?_); refine ev_box1 HM1.out rfl 22 (.tmp 1) rfl rfl rfl ?_; intro g5 w2 hm2 hq2; clear hq2; have HM2 := Aside0.mk hm2; clear hm2 HM1)
  | ((with_reducible refine gate_dst (N := 7) rfl ?_); refine ev_box1 HM2.out rfl 3 (.tmp 3) rfl rfl rfl ?_; intro g7 w3 hm3 hq3; clear hq3; have HM3 := Aside0.mk hm3; clear hm3 HM2)
  | ((with_reducible refine gate_dst (N := 8) rfl ?_); refine ev_new HM3.out rfl 42 rfl info42 ?_; intro g8 w4 hm4 hq4; clear hq4; have HM4 := Aside0.mk hm4; clear hm4 HM3; have q5 : w4.cell? ⟨g5, 0, none⟩ = some (.slice A1 volts.length c1) := (blk_cell HM4.out.third 0).trans rfl)
  | ((with_reducible refine gate_dst (N := 18) rfl ?_); refine ev_load HM4.out.drop.third rfl 24 (.tmp 4) rfl rfl _ Try.underlying24 rfl size24 rfl ?_)
  | (go_at_call 25; refine (field_Solve.calls (W' : Int) (H' : Int) R A c C A1 c1 volts _ r1 r2 r3 r4 _ _ (Kd.C_below HR.out HM4.out.below) HC.out (Kd.C_below HR1.out HM4.out.below) HC1.out HS.out).mono ?_; rintro e w5 ⟨v0, v1, rfl, hv0, hv1, hb5⟩; obtain ⟨A7, c7, rfl⟩ := Kd.R_slice hv0; obtain ⟨A8, c8, rfl⟩ := Kd.R_slice hv1; have HV0 := Aside0.mk (Kd.R_reads' hv0); have HV1 := Aside0.mk (Kd.R_reads' hv1); have HM5 := Aside0.mk (HM4.out.step hb5); have HN5 := Aside0.mk (Mem.start w5); clear hb5 HM4 hv0 hv1 q5)
  | ((with_reducible refine gate_dst (N := 10) rfl ?_); refine ev_new HN5.out rfl 33 rfl info33 ?_; intro g10 w6 hm6 hq6; clear hq6; have HN50 := Aside0.mk hm6; clear hm6 HN5)
  | ((with_reducible refine gate_store (t := 33) (p := 10) rfl ?_); refine ev_store HN50.out rfl 33 (.tmp 10) (.tmp 22) rfl rfl (cs := #[.slice A7 r1.length c7, .slice A8 r2.length c8, .int .i64 r3, .bool r4]) rfl size33 rfl rfl (by simp [Value.oneCell']) ?_; intro w7 hm7 hq7; clear hq7; have HN6 := Aside0.mk hm7; clear hm7 HN50; have q7 : w7.cell? ⟨g7, 0, none⟩ = some (.int .i64 ((n : Int) + 1)) := (blk_cell (blk_below HM5.out.second HN6.out.below) 0).trans rfl)
  | ((with_reducible refine gate_dst (N := 28) rfl ?_); refine ev_load (blk_below HM5.out.drop.third HN6.out.below) rfl 24 (.tmp 4) rfl rfl _ Try.underlying24 rfl size24 rfl ?_)
  | (go_at_call 77; refine (field_has.calls _ (W' : Int) (H' : Int) R A c C _ _ _ (Kd.C_below HR.out (below_step HM5.out.below HN6.out.below)) HC.out HHAS.out).mono ?_; rintro e w8 ⟨rfl, hb8⟩; have HN7 := Aside0.mk (HN6.out.step hb8); clear hb8 HN6 q7)
  | ((with_reducible refine gate_dst (N := 12) rfl ?_); refine ev_new HN7.out rfl 42 rfl info42 ?_; intro g12 w9 hm9 hq9; clear hq9; have HN8 := Aside0.mk hm9; clear hm9 HN7; have q3 : w9.cell? ⟨gp, 3, none⟩ = some (.slice A C.length c) := (blk_cell (blk_below HM5.out.drop.third HN8.out.below) 3).trans rfl))
 rename_i Ka hKa
 have HKa := Aside0.mk hKa
 clear hKa
 have HCI0 : Aside0 (CI w5 w9 g10 g12 (.slice A7 r1.length c7) (.slice A8 r2.length c8) r3 r4 (chTo W' H' R C ((n : Int) + 1) u r2 0) (chTo W' H' R C ((n : Int) + 1) u r1 0)) := ⟨⟨HN8.out.below, HN8.out.second, HN8.out.head, HN8.out.geh⟩⟩
 have HG10 : Aside0 (w5.heap.size ≤ g10) := ⟨HN8.out.drop.geh⟩
 clear HN8 q3
 have HE5 : Aside0 (w5.heap[gp]? = some (.cells (planV (W' : Int) (H' : Int) R A C.length c) 24 (0, 0)) ∧ w5.heap[g5]? = some (.cells #[.slice A1 volts.length c1] 22 (0, 0)) ∧ w5.heap[g7]? = some (.cells #[.int .i64 ((n : Int) + 1)] 3 (0, 0)) ∧ w5.heap[g8]? = some (.cells #[.int .i64 0, .int .i64 0] 42 (0, 0)) ∧ w.heap.size ≤ g8 ∧ Below w.heap.size w w5) := ⟨⟨HM5.out.drop.third, HM5.out.third, HM5.out.second, HM5.out.head, HM5.out.geh, HM5.out.below⟩⟩
 clear HM5
 refine (wpIn_wide (n := 5)).1 ?_
 refine loop_ghost (fun k a' Wz => ∃ (i : Nat) (ds : List Deferred), a' = (fun (zs : Nat → Value) => ({ tmps := List.toArray (zs 0 :: zs 1 :: zs 2 :: zs 3 :: .pointer (some ⟨gp, 0, none⟩) :: .pointer (some ⟨g5, 0, none⟩) :: zs 6 :: .pointer (some ⟨g7, 0, none⟩) :: .pointer (some ⟨g8, 0, none⟩) :: zs 9 :: .pointer (some ⟨g10, 0, none⟩) :: zs 11 :: .pointer (some ⟨g12, 0, none⟩) :: zs 13 :: zs 14 :: zs 15 :: zs 16 :: zs 17 :: zs 18 :: zs 19 :: zs 20 :: zs 21 :: zs 22 :: zs 23 :: zs 24 :: zs 25 :: zs 26 :: zs 27 :: zs 28 :: zs 29 :: zs 30 :: zs 31 :: zs 32 :: zs 33 :: .slice A C.length c :: .int .i64 (C.length : Int) :: .int .i64 (i : Int) :: zs 37 :: zs 38 :: zs 39 :: zs 40 :: zs 41 :: zs 42 :: zs 43 :: zs 44 :: zs 45 :: zs 46 :: zs 47 :: zs 48 :: zs 49 :: zs 50 :: zs 51 :: zs 52 :: zs 53 :: zs 54 :: zs 55 :: zs 56 :: zs 57 :: zs 58 :: zs 59 :: zs 60 :: zs 61 :: zs 62 :: zs 63 :: zs 64 :: zs 65 :: zs 66 :: zs 67 :: zs 68 :: zs 69 :: zs 70 :: zs 71 :: zs 72 :: zs 73 :: zs 74 :: zs 75 :: zs 76 :: zs 77 :: zs 78 :: zs 79 :: zs 80 :: zs 81 :: zs 82 :: zs 83 :: zs 84 :: zs 85 :: zs 86 :: zs 87 :: zs 88 :: zs 89 :: zs 90 :: zs 91 :: []), defers := ds } : Act)) (fun q => a'.tmps.getD q undef) ∧ Aside0 (i + k = C.length) ∧ Aside0 (Marks w.heap.size Wz ds) ∧ Aside0 (CI w5 Wz g10 g12 (.slice A7 r1.length c7) (.slice A8 r2.length c8) r3 r4 (chTo W' H' R C ((n : Int) + 1) u r2 i) (chTo W' H' R C ((n : Int) + 1) u r1 i))) C.length ?_ ?_
 ·exact ⟨0, [], rfl, ⟨by omega⟩, ⟨Marks.nil _ _⟩, HCI0⟩
 clear HCI0
 rintro k a1 W1 ⟨i, ds, ha, HK, HMK, HCI⟩
 generalize (fun q => a1.tmps.getD q undef) = zs at ha
 replace ha : a1 = ({ tmps := List.toArray (zs 0 :: zs 1 :: zs 2 :: zs 3 :: .pointer (some ⟨gp, 0, none⟩) :: .pointer (some ⟨g5, 0, none⟩) :: zs 6 :: .pointer (some ⟨g7, 0, none⟩) :: .pointer (some ⟨g8, 0, none⟩) :: zs 9 :: .pointer (some ⟨g10, 0, none⟩) :: zs 11 :: .pointer (some ⟨g12, 0, none⟩) :: zs 13 :: zs 14 :: zs 15 :: zs 16 :: zs 17 :: zs 18 :: zs 19 :: zs 20 :: zs 21 :: zs 22 :: zs 23 :: zs 24 :: zs 25 :: zs 26 :: zs 27 :: zs 28 :: zs 29 :: zs 30 :: zs 31 :: zs 32 :: zs 33 :: .slice A C.length c :: .int .i64 (C.length : Int) :: .int .i64 (i : Int) :: zs 37 :: zs 38 :: zs 39 :: zs 40 :: zs 41 :: zs 42 :: zs 43 :: zs 44 :: zs 45 :: zs 46 :: zs 47 :: zs 48 :: zs 49 :: zs 50 :: zs 51 :: zs 52 :: zs 53 :: zs 54 :: zs 55 :: zs 56 :: zs 57 :: zs 58 :: zs 59 :: zs 60 :: zs 61 :: zs 62 :: zs 63 :: zs 64 :: zs 65 :: zs 66 :: zs 67 :: zs 68 :: zs 69 :: zs 70 :: zs 71 :: zs 72 :: zs 73 :: zs 74 :: zs 75 :: zs 76 :: zs 77 :: zs 78 :: zs 79 :: zs 80 :: zs 81 :: zs 82 :: zs 83 :: zs 84 :: zs 85 :: zs 86 :: zs 87 :: zs 88 :: zs 89 :: zs 90 :: zs 91 :: []), defers := ds } : Act) := ha
 subst ha
 by_cases hi : i < C.length
 rotate_left
 ·obtain rfl : i = C.length := by have := HK.out; omega
  clear hi
  refine wpIn_wide.2 ?_
  have hlt : decide ((C.length : Int) < (C.length : Int)) = false := decide_eq_false (by omega)
  rw [HEQ.out.1, HEQ.out.2.1] at HCI
  go_wp2_with fail
  refine HKa.out _ _ ?_
  go_wp2_with (first
   | ((with_reducible refine gate_dst (N := 91) rfl ?_); refine ev_load HCI.out.r rfl 42 (.tmp 12) rfl rfl _ Try.underlying42 rfl size42 rfl ?_)
   | ((with_reducible refine gate_store (t := 42) (p := 8) rfl ?_); refine ev_storeB (blk_below HE5.out.2.2.2.1 HCI.out.below) rfl 42 (.tmp 8) (.tmp 91) rfl rfl rfl size42 rfl rfl (by simp [Value.oneCell']) ?_))
  exact ret_marks (by rw [size_setRow]; exact Nat.le_trans HE5.out.2.2.2.2.2.size HCI.out.below.size) (HMK.out.keep (fun q o _ ho hcs => by rw [setRow_other _ _ _ _ (fun e => by rw [e, blk_below HE5.out.2.2.2.1 HCI.out.below] at ho; cases ho; cases hcs)]; exact ho)) (fun W' hq => ⟨_, results_row_tmp rfl _ _ g8 42 _ (0, 0) _ rfl (hq.cells _ _ (setRow_heap _ _ _ _ _ _ (blk_below HE5.out.2.2.2.1 HCI.out.below)) rfl) hu42 rfl (by rw [size42]; rfl), by rw [← HEQ.out.2.2]; rfl, (below_row (below_step HE5.out.2.2.2.2.2 HCI.out.below) HE5.out.2.2.2.2.1).trans hq.below⟩)
 have HI := Aside0.mk hi
 obtain ⟨ad, e0, hx⟩ := at_natM (Kd.C_below HR.out (below_step HE5.out.2.2.2.2.2 HCI.out.below)) i hi
 cases e0
 have i1 : (0 : Int) ≤ (i : Int) := by omega
 have i2 : (i : Int) < (C.length : Int) := by omega
 have i3 : (i : Int) < 256 := by omega
 have q7 : W1.cell? ⟨g7, 0, none⟩ = some (.int .i64 ((n : Int) + 1)) := (blk_cell (blk_below HE5.out.2.2.1 HCI.out.below) 0).trans rfl
 obtain ⟨X, hX⟩ : ∃ X, C.getD i 0 = X := ⟨_, rfl⟩
 rw [hX] at hx
 have HX2 : Aside0 (fn C i = X) := ⟨hX⟩
 clear hX hi
 by_cases q : X = (n : Int) + 1
 rotate_left
 ·have hg : (X != (n : Int) + 1) = true := bne_iff_ne.mpr q
  have HN : Aside0 (∀ b, chTo W' H' R C ((n : Int) + 1) u b (i + 1) = chTo W' H' R C ((n : Int) + 1) u b i) := ⟨fun b => by rw [chTo, HX2.out, if_neg q]; omega⟩
  clear q
  refine wpIn_wide.2 ?_
  go_wp2_with fail
  exact ⟨k - 1, by have := HK.out; have := HI.out; omega, i + 1, ds, rfl, ⟨by have := HK.out; have := HI.out; omega⟩, HMK, ⟨by rw [HN.out, HN.out]; exact HCI.out⟩⟩
 have hg : (X != (n : Int) + 1) = false := by rw [q]; simp
 have HNX : Aside0 (∀ b, chTo W' H' R C ((n : Int) + 1) u b (i + 1) = chTo W' H' R C ((n : Int) + 1) u b i + chSum C ((n : Int) + 1) u b (nbs W' H' R i)) := ⟨fun b => by rw [chTo, HX2.out, if_pos q]⟩
 have HCB : Aside0 (∀ b, (∀ j, j < W' * H' → -1000000 ≤ fn b j ∧ fn b j ≤ 1000000) → -256000000 * (i : Int) ≤ chTo W' H' R C ((n : Int) + 1) u b i ∧ chTo W' H' R C ((n : Int) + 1) u b i ≤ 256000000 * (i : Int)) := ⟨fun b hb => chTo_bound HUB.out HLEN.out.2.1 hb i (by have := HI.out; have := HLEN.out.1; omega)⟩
 have HBL := HCB.out r2 (fun j hj => (HRNG.out j hj).2)
 have HBM := HCB.out r1 (fun j hj => (HRNG.out j hj).1)
 have HN2' := HNX.out r2
 have HN1' := HNX.out r1
 have HEND : Aside0 (∀ L M, L = chTo W' H' R C ((n : Int) + 1) u r2 i + chSum C ((n : Int) + 1) u r2 (nbs W' H' R i) → M = chTo W' H' R C ((n : Int) + 1) u r1 i + chSum C ((n : Int) + 1) u r1 (nbs W' H' R i) → L = chTo W' H' R C ((n : Int) + 1) u r2 (i + 1) ∧ M = chTo W' H' R C ((n : Int) + 1) u r1 (i + 1)) := ⟨fun L M h1 h2 => ⟨h1.trans HN2'.symm, h2.trans HN1'.symm⟩⟩
 clear HN2' HN1' HNX HCB q
 generalize chTo W' H' R C ((n : Int) + 1) u r2 i = L at HCI HBL HEND
 generalize chTo W' H' R C ((n : Int) + 1) u r1 i = M at HCI HBM HEND
 have HBLM := Aside0.mk (And.intro HBL HBM)
 clear HBL HBM
 refine wpIn_wide.2 ?_
 go_wp2_with (first
  | ((with_reducible refine gate_dst (N := 44) rfl ?_); refine ev_load (blk_below HE5.out.1 HCI.out.below) rfl 24 (.tmp 4) rfl rfl _ Try.underlying24 rfl size24 rfl ?_)
  | (go_at_call 78; refine (near_calls _ _ _ _ _ _ _ _).mono ?_; rintro e w6 ⟨gp2, gi2, rfl, hM6, hz6, hgp2, hgi2⟩; have HS6 := Aside0.mk (HCI.out.step hM6.below); have HMK6 := Aside0.mk ((HMK.out.others (below_others hM6.below)).to); have HBX := Aside0.mk (And.intro hM6.head hM6.second); clear hM6 hz6 hgp2 hgi2 HCI HMK q7 hx))
 rename_i Kb hKb
 have HKb := Aside0.mk hKb
 clear hKb
 refine (wpIn_wide (n := 5)).1 ?_
 have HBase : Aside0 (w5.heap.size ≤ w6.heap.size ∧ w.heap.size ≤ w6.heap.size) := ⟨⟨HS6.out.below.size, Nat.le_trans HE5.out.2.2.2.2.2.size HS6.out.below.size⟩⟩
 have HGB : Aside0 (gi2 < w6.heap.size ∧ gp2 < w6.heap.size) := ⟨⟨blk_lt HBX.out.1, blk_lt HBX.out.2⟩⟩
 refine wpIn_rangeFunc_ownG rfl (by decide) (gf := 98) (lb := #[.pointer (some ⟨gi2, 0, none⟩), .pointer (some ⟨gp2, 0, none⟩)]) rfl trivial (enters_of Try.func98 (by kernel_rfl) rfl)
  (near1_stops 4 W' H' R (some ad) C.length c i gi2 gp2 (by rw [← HLEN.out.1]; exact HI.out) HLEN.out.2.1 HLEN.out.2.2.1 w6 HBX.out) (fun h k => ⟨k.1.trans h.1, k.2.trans h.2⟩) (fun V l o o' hl ho _ _ => ⟨World.putObj_heap_other (by have := HGB.out.1; omega), World.putObj_heap_other (by have := HGB.out.2; omega)⟩) (Below.refl _ _) (fun _ => rfl)
  (fun pre V => CJ w w5 g10 g12 (.slice A7 r1.length c7) (.slice A8 r2.length c8) r3 r4 (L + chSum C ((n : Int) + 1) u r2 (pre.map (·.1))) (M + chSum C ((n : Int) + 1) u r1 (pre.map (·.1))) w6.heap.size ds gi2 gp2 #[.int .i64 i] (planV W' H' R (some ad) C.length c) V)
  (fun _ _ _ => False) ?hI ?hIx ?h0 (fun x => { tmps := List.toArray (zs 0 :: zs 1 :: zs 2 :: zs 3 :: .pointer (some ⟨gp, 0, none⟩) :: .pointer (some ⟨g5, 0, none⟩) :: zs 6 :: .pointer (some ⟨g7, 0, none⟩) :: .pointer (some ⟨g8, 0, none⟩) :: zs 9 :: .pointer (some ⟨g10, 0, none⟩) :: zs 11 :: .pointer (some ⟨g12, 0, none⟩) :: .int .i64 (i : Int) :: .int .i64 X :: .int .i64 x.1.1 :: .int .i64 x.1.2 :: zs 17 :: zs 18 :: zs 19 :: zs 20 :: zs 21 :: zs 22 :: zs 23 :: zs 24 :: zs 25 :: zs 26 :: zs 27 :: zs 28 :: zs 29 :: zs 30 :: zs 31 :: zs 32 :: zs 33 :: .slice (some ad) C.length c :: .int .i64 (C.length : Int) :: .int .i64 (i : Int) :: .bool true :: .int .i64 (i : Int) :: .pointer (some (ad.add i)) :: .int .i64 X :: .int .i64 X :: .int .i64 ((n : Int) + 1) :: .bool false :: .agg (planV (W' : Int) (H' : Int) R (some ad) C.length c) :: .int .i64 (i : Int) :: .func (.func 98) #[] #[.pointer (some ⟨gi2, 0, none⟩), .pointer (some ⟨gp2, 0, none⟩)] :: .int .i64 x.1.1 :: .int .i64 x.1.2 :: zs 49 :: zs 50 :: zs 51 :: zs 52 :: zs 53 :: zs 54 :: zs 55 :: zs 56 :: zs 57 :: zs 58 :: zs 59 :: zs 60 :: zs 61 :: zs 62 :: zs 63 :: zs 64 :: zs 65 :: zs 66 :: zs 67 :: zs 68 :: zs 69 :: zs 70 :: zs 71 :: zs 72 :: zs 73 :: zs 74 :: zs 75 :: zs 76 :: zs 77 :: zs 78 :: zs 79 :: zs 80 :: zs 81 :: zs 82 :: zs 83 :: zs 84 :: zs 85 :: zs 86 :: zs 87 :: zs 88 :: zs 89 :: zs 90 :: zs 91 :: []), defers := [] }) ?assign ?body ?done ?stop
 case hI =>
  rintro pre V V' row ⟨h1, h4, h5, h6, h7⟩ hg hr
  have ht : Turn w6.heap.size V V' row := ⟨hg, hr⟩
  exact ⟨h1.turn ht HBase.out.1, h4.turn ht h5, Nat.le_trans h5 hg.size, ht.heap h6, ht.heap h7⟩
 case hIx =>
  intro _ _ _ _ _ h
  exact h.elim
 case h0 => exact ⟨by rw [List.map_nil]; show CI _ _ _ _ _ _ _ _ (L + 0) (M + 0); rw [Int.add_zero, Int.add_zero]; exact HS6.out, HMK6.out, Nat.le_refl _, HBX.out.1, HBX.out.2⟩
 case assign =>
  intro l x V K hK
  gi_wp2
  exact hK
 case body =>
  rintro l pre x V hcj hlt
  have hnb := nbs_lt (by rw [← HLEN.out.1]; exact HI.out) x.2
  have hw12 := hnb.2.2.2 HLEN.out.2.1
  have hpre : ∀ p, p ∈ pre.map (·.1) → p.1 < W' * H' ∧ 1 ≤ p.2 ∧ p.2 ≤ 32 := fun p hp => by
   obtain ⟨y, _, rfl⟩ := List.mem_map.1 hp
   have h8 := nbs_lt (by rw [← HLEN.out.1]; exact HI.out) y.2
   exact ⟨h8.1, h8.2.2.1, h8.2.2.2 HLEN.out.2.1⟩
  have hb2 := chSum_bound (C := C) (e := (n : Int) + 1) (b := r2) HUB.out (l := pre.map (·.1)) (fun p hp => ⟨(HRNG.out _ (hpre p hp).1).2, (hpre p hp).2⟩)
  have hb1 := chSum_bound (C := C) (e := (n : Int) + 1) (b := r1) HUB.out (l := pre.map (·.1)) (fun p hp => ⟨(HRNG.out _ (hpre p hp).1).1, (hpre p hp).2⟩)
  rw [List.length_map] at hb1 hb2
  have hr2 := (HRNG.out _ hnb.1).2
  have hr1 := (HRNG.out _ hnb.1).1
  have ho2 := chOne_bound (C := C) (e := (n : Int) + 1) (b := r2) (p := x.1) HUB.out hr2 ⟨hnb.2.2.1, hw12⟩
  have ho1 := chOne_bound (C := C) (e := (n : Int) + 1) (b := r1) (p := x.1) HUB.out hr1 ⟨hnb.2.2.1, hw12⟩
  have HUN : Aside0 (∀ b, chSum C ((n : Int) + 1) u b ((pre ++ [x]).map (·.1)) = chSum C ((n : Int) + 1) u b (pre.map (·.1)) + chOne C ((n : Int) + 1) u b x.1) := ⟨fun b => by rw [List.map_append, List.map_singleton, chSum_snoc]⟩
  have HU2 := HUN.out r2
  have HU1 := HUN.out r1
  have hkC : x.1.1 < C.length := by rw [HLEN.out.1]; exact hnb.1
  have hO2 : chOne C ((n : Int) + 1) u r2 x.1 = if fn C x.1.1 = (n : Int) + 1 then 0 else x.1.2 * (u - fn r2 x.1.1) := rfl
  have hO1 : chOne C ((n : Int) + 1) u r1 x.1 = if fn C x.1.1 = (n : Int) + 1 then 0 else x.1.2 * (u - fn r1 x.1.1) := rfl
  generalize chOne C ((n : Int) + 1) u r2 x.1 = O2 at HU2 hO2 ho2
  generalize chOne C ((n : Int) + 1) u r1 x.1 = O1 at HU1 hO1 ho1
  generalize chSum C ((n : Int) + 1) u r2 (pre.map (·.1)) = P2 at HU2 hb2 hcj
  generalize chSum C ((n : Int) + 1) u r1 (pre.map (·.1)) = P1 at HU1 hb1 hcj
  have HU12 := Aside0.mk (And.intro HU1 HU2)
  have hw11 := hnb.2.2.1
  clear HU1 HU2 HUN hpre hnb
  show Code.wpIn (Fence.wide.inRound l) (5 - 1 - 1) Try.prog _ (ownPostG w6.heap.size (Boxes gi2 gp2) _ _ (pre ++ [x]) V) _ _
  obtain ⟨kx, hkx⟩ : ∃ kx, x.1.1 = kx := ⟨_, rfl⟩
  obtain ⟨wx, hwx⟩ : ∃ wx, x.1.2 = wx := ⟨_, rfl⟩
  rw [hkx] at hkC hO1 hO2 hr1 hr2
  rw [hwx] at hO1 hO2 hw11 hw12
  rw [hkx, hwx]
  clear hkx hwx
  have hsz : -128000000000 ≤ L + P2 ∧ L + P2 ≤ 128000000000 ∧ -128000000000 ≤ M + P1 ∧ M + P1 ≤ 128000000000 := by
   have h1 := HBLM.out
   have h2 := HI.out
   have h3 := HLEN.out.2.2.2
   omega
  clear hb1 hb2 hlt
  obtain ⟨adk, ek, hck0⟩ := at_natM HR.out kx hkC
  cases ek
  obtain ⟨ad7, e7, hc70⟩ := at_natM HV0.out.2.2 kx (by rw [HL12.out.1]; exact hkC)
  cases e7
  obtain ⟨ad8, e8, hc80⟩ := at_natM HV1.out.2.2 kx (by rw [HL12.out.2]; exact hkC)
  cases e8
  rw [show r1.getD kx 0 = fn r1 kx from rfl] at hc70
  rw [show r2.getD kx 0 = fn r2 kx from rfl] at hc80
  obtain ⟨Y, hY⟩ : ∃ Y, C.getD kx 0 = Y := ⟨_, rfl⟩
  rw [hY] at hck0
  rw [show fn C kx = Y from hY] at hO1 hO2
  obtain ⟨hi1, hhi⟩ : ∃ z, fn r2 kx = z := ⟨_, rfl⟩
  obtain ⟨lo1, hlo⟩ : ∃ z, fn r1 kx = z := ⟨_, rfl⟩
  rw [hhi] at hc80 hr2 hO2
  rw [hlo] at hc70 hr1 hO1
  obtain ⟨evv, hcv0⟩ := HCV.out
  subst evv
  have HCELLS : Aside0 (∀ V' : World, Below w5.heap.size w5 V' → V'.cell? ⟨gp, 3, none⟩ = some (.slice (some ad) C.length c) ∧ V'.cell? (ad.add kx) = some (.int .i64 Y) ∧ V'.cell? ⟨g7, 0, none⟩ = some (.int .i64 ((n : Int) + 1)) ∧ V'.cell? ⟨g5, 0, none⟩ = some (.slice (some adv) volts.length c1) ∧ V'.cell? (adv.add n) = some (.int .i64 u) ∧ V'.cell? (ad7.add kx) = some (.int .i64 lo1) ∧ V'.cell? (ad8.add kx) = some (.int .i64 hi1)) := ⟨fun V' hb => ⟨(blk_cell (blk_below HE5.out.1 hb) 3).trans rfl, pw_cell_below (below_step HE5.out.2.2.2.2.2 hb) hck0, (blk_cell (blk_below HE5.out.2.2.1 hb) 0).trans rfl, (blk_cell (blk_below HE5.out.2.1 hb) 0).trans rfl, pw_cell_below (below_step HE5.out.2.2.2.2.2 hb) hcv0, pw_cell_below hb hc70, pw_cell_below hb hc80⟩⟩
  obtain ⟨t1, t2, t3, _⟩ := HCELLS.out V hcj.1.below
  have k3 : (0 : Int) ≤ (kx : Int) := by omega
  have k4 : (kx : Int) < (C.length : Int) := by omega
  have HKR : Aside0 ((kx : Int) < (r1.length : Int) ∧ (kx : Int) < (r2.length : Int)) := ⟨by have := HL12.out; omega⟩
  have HCJ := Aside0.mk hcj
  clear hck0 hc70 hc80 hcv0 hY hhi hlo hcj hkC
  by_cases qy : Y = (n : Int) + 1
  ·have q1 : (Y != (n : Int) + 1) = false := by rw [qy]; simp
   rw [if_pos qy] at hO1 hO2
   have HO := Aside0.mk (And.intro hO1 hO2)
   clear qy hO1 hO2 ho1 ho2 hr1 hr2 hw11 hw12 hsz
   refine wpIn_block (wpIn_seq_k (fun K hK => ?_))
   have HK1 := Aside0.mk hK
   clear hK
   have HBd := Aside0.mk (below_drew1 (Below.refl V.heap.size V))
   refine startIn_ (r := some l) (n := 5 - 1 - 1) (m := 7) (S := fun w' => w'.cell? ⟨gp, 3, none⟩ = some (.slice (some ad) C.length c) ∧ w'.cell? (ad.add kx) = some (.int .i64 Y) ∧ w'.cell? ⟨g7, 0, none⟩ = some (.int .i64 ((n : Int) + 1))) (ds := []) #[false, false, false, false, false, false, false] (by kernel_rfl) (by kernel_rfl) (then_out (block_out ownG_out)) rfl rfl ⟨t1, t2, t3⟩ (fun hHeld => ?_); refine with_tabW chargeF.tab14 chargeF.bits14 (fun HT_ HW_ => ?_)
   generalize V.drew = wd at HBd hHeld  ⊢
   refine pure_ (i := 0) (N := some 49) (v := ?_) (a' := ?_) (bS 7 1) rfl rfl (any_of HT_.out (by kernel_rfl)) (fun _ _ _ h => h) (Or.inl ⟨by rfl, ?_⟩) ?_ ?_; rotate_left; (· intro w'; go_simp; with_reducible rfl); rotate_left; (· simp only [Act.put, sT, sZ, sS, i64_w, i32_w]; rfl)
   refine pure_ (i := 2) (N := some 51) (v := ?_) (a' := ?_) (bS 7 5) rfl rfl (any_of HT_.out (by kernel_rfl)) (fun _ _ _ h => h) (Or.inl ⟨by rfl, ?_⟩) ?_ ?_; rotate_left; (· intro w'; go_simp; with_reducible rfl); rotate_left; (· simp only [Act.put, sT, sZ, sS, i64_w, i32_w]; rfl)
   refine take_ (i := 1) (N := some 50) (v := ?_) (a' := ?_) (bS 7 7) rfl rfl (take_ofW HT_.out HW_.out (by kernel_rfl)) (fun _ _ _ h => h) (Or.inl ⟨by rfl, ?_⟩) hHeld ?_ ?_; rotate_left; (· rintro w' ⟨s0, s1, s2⟩; go_simp; with_reducible rfl); rotate_left; (· simp only [Act.put, sT, sZ, sS, i64_w, i32_w]; rfl)
   refine pure_ (i := 3) (N := some 52) (v := ?_) (a' := ?_) (bS 7 15) rfl rfl (any_of HT_.out (by kernel_rfl)) (fun _ _ _ h => h) (Or.inl ⟨by rfl, ?_⟩) ?_ ?_; rotate_left; (· intro w'; go_simp; with_reducible rfl); rotate_left; (· simp only [Act.put, sT, sZ, sS, i64_w, i32_w]; rfl)
   refine take_ (i := 4) (N := some 53) (v := ?_) (a' := ?_) (bS 7 31) rfl rfl (take_ofW HT_.out HW_.out (by kernel_rfl)) (fun _ _ _ h => h) (Or.inl ⟨by rfl, ?_⟩) hHeld ?_ ?_; rotate_left; (· rintro w' ⟨s0, s1, s2⟩; go_simp; with_reducible rfl); rotate_left; (· simp only [Act.put, sT, sZ, sS, i64_w, i32_w]; rfl)
   refine take_ (i := 5) (N := some 54) (v := ?_) (a' := ?_) (bS 7 63) rfl rfl (take_ofW HT_.out HW_.out (by kernel_rfl)) (fun _ _ _ h => h) (Or.inl ⟨by rfl, ?_⟩) hHeld ?_ ?_; rotate_left; (· rintro w' ⟨s0, s1, s2⟩; go_simp; with_reducible rfl); rotate_left; (· simp only [Act.put, sT, sZ, sS, i64_w, i32_w]; rfl)
   refine pure_ (i := 6) (N := some 55) (v := ?_) (a' := ?_) (bS 7 127) rfl rfl (any_of HT_.out (by kernel_rfl)) (fun _ _ _ h => h) (Or.inl ⟨by rfl, ?_⟩) ?_ ?_; rotate_left; (· intro w'; go_simp; with_reducible rfl); rotate_left; (· simp only [Act.put, sT, sZ, sS, i64_w, i32_w]; rfl)
   refine done_ (done_of HT_.out (by kernel_rfl)) ?_
   clear hHeld HT_ HW_
   refine HK1.out _ _ (wpIn_cond_false rfl (wpIn_skip ?_))
   have HCJ2 := Aside0.mk (HCJ.out.step HBd.out)
   exact ⟨(below_others HBd.out).from _, ⟨HCJ2.out.2.2.2.1.trans HCJ.out.2.2.2.1.symm, HCJ2.out.2.2.2.2.trans HCJ.out.2.2.2.2.symm⟩, by show CJ w w5 g10 g12 (.slice (some ad7) r1.length c7) (.slice (some ad8) r2.length c8) r3 r4 (L + chSum C ((n : Int) + 1) u r2 ((pre ++ [x]).map (·.1))) (M + chSum C ((n : Int) + 1) u r1 ((pre ++ [x]).map (·.1))) w6.heap.size ds gi2 gp2 #[.int .i64 i] (planV W' H' R (some ad) C.length c) wd; rw [HU12.out.1, HU12.out.2, HO.out.1, HO.out.2, Int.add_zero, Int.add_zero]; exact HCJ2.out⟩
  ·have q1 : (Y != (n : Int) + 1) = true := bne_iff_ne.mpr qy
   rw [if_neg qy] at hO1 hO2
   clear qy
   obtain ⟨d2, hd2⟩ : ∃ d, u - hi1 = d := ⟨_, rfl⟩
   obtain ⟨d1, hd1⟩ : ∃ d, u - lo1 = d := ⟨_, rfl⟩
   rw [hd2] at hO2
   rw [hd1] at hO1
   have m2 : IntKind.i64.wrap (u - hi1) = d2 := by rw [hd2]; exact IntWalk.i64_in _ (by have := HUB.out; omega)
   have m1 : IntKind.i64.wrap (u - lo1) = d1 := by rw [hd1]; exact IntWalk.i64_in _ (by have := HUB.out; omega)
   have p2 : IntKind.i64.wrap (wx * d2) = O2 := by rw [← hO2]; exact IntWalk.i64_in _ (by omega)
   have p1 : IntKind.i64.wrap (wx * d1) = O1 := by rw [← hO1]; exact IntWalk.i64_in _ (by omega)
   obtain ⟨L2, hL2⟩ : ∃ z, L + P2 = z := ⟨_, rfl⟩
   obtain ⟨M2, hM2⟩ : ∃ z, M + P1 = z := ⟨_, rfl⟩
   rw [hL2, hM2] at HCJ hsz
   have s2 : IntKind.i64.wrap (L2 + O2) = L2 + O2 := IntWalk.i64_in _ (by omega)
   have s1 : IntKind.i64.wrap (M2 + O1) = M2 + O1 := IntWalk.i64_in _ (by omega)
   have HLM : Aside0 (L + (P2 + O2) = L2 + O2 ∧ M + (P1 + O1) = M2 + O1) := ⟨by omega⟩
   clear hd1 hd2 hO1 hO2 ho1 ho2 hr1 hr2 hw11 hw12 hL2 hM2 hsz
   refine wpIn_block (wpIn_seq_k (fun K hK => ?_))
   have HK1 := Aside0.mk hK
   clear hK
   have HBd := Aside0.mk (below_drew1 (Below.refl V.heap.size V))
   refine startIn_ (r := some l) (n := 5 - 1 - 1) (m := 7) (S := fun w' => w'.cell? ⟨gp, 3, none⟩ = some (.slice (some ad) C.length c) ∧ w'.cell? (ad.add kx) = some (.int .i64 Y) ∧ w'.cell? ⟨g7, 0, none⟩ = some (.int .i64 ((n : Int) + 1))) (ds := []) #[false, false, false, false, false, false, false] (by kernel_rfl) (by kernel_rfl) (then_out (block_out ownG_out)) rfl rfl ⟨t1, t2, t3⟩ (fun hHeld => ?_); refine with_tabW chargeF.tab14 chargeF.bits14 (fun HT_ HW_ => ?_)
   generalize V.drew = wd at HBd hHeld  ⊢
   refine pure_ (i := 0) (N := some 49) (v := ?_) (a' := ?_) (bS 7 1) rfl rfl (any_of HT_.out (by kernel_rfl)) (fun _ _ _ h => h) (Or.inl ⟨by rfl, ?_⟩) ?_ ?_; rotate_left; (· intro w'; go_simp; with_reducible rfl); rotate_left; (· simp only [Act.put, sT, sZ, sS, i64_w, i32_w]; rfl)
   refine pure_ (i := 2) (N := some 51) (v := ?_) (a' := ?_) (bS 7 5) rfl rfl (any_of HT_.out (by kernel_rfl)) (fun _ _ _ h => h) (Or.inl ⟨by rfl, ?_⟩) ?_ ?_; rotate_left; (· intro w'; go_simp; with_reducible rfl); rotate_left; (· simp only [Act.put, sT, sZ, sS, i64_w, i32_w]; rfl)
   refine take_ (i := 1) (N := some 50) (v := ?_) (a' := ?_) (bS 7 7) rfl rfl (take_ofW HT_.out HW_.out (by kernel_rfl)) (fun _ _ _ h => h) (Or.inl ⟨by rfl, ?_⟩) hHeld ?_ ?_; rotate_left; (· rintro w' ⟨s0, s1, s2⟩; go_simp; with_reducible rfl); rotate_left; (· simp only [Act.put, sT, sZ, sS, i64_w, i32_w]; rfl)
   refine pure_ (i := 3) (N := some 52) (v := ?_) (a' := ?_) (bS 7 15) rfl rfl (any_of HT_.out (by kernel_rfl)) (fun _ _ _ h => h) (Or.inl ⟨by rfl, ?_⟩) ?_ ?_; rotate_left; (· intro w'; go_simp; with_reducible rfl); rotate_left; (· simp only [Act.put, sT, sZ, sS, i64_w, i32_w]; rfl)
   refine take_ (i := 4) (N := some 53) (v := ?_) (a' := ?_) (bS 7 31) rfl rfl (take_ofW HT_.out HW_.out (by kernel_rfl)) (fun _ _ _ h => h) (Or.inl ⟨by rfl, ?_⟩) hHeld ?_ ?_; rotate_left; (· rintro w' ⟨s0, s1, s2⟩; go_simp; with_reducible rfl); rotate_left; (· simp only [Act.put, sT, sZ, sS, i64_w, i32_w]; rfl)
   refine take_ (i := 5) (N := some 54) (v := ?_) (a' := ?_) (bS 7 63) rfl rfl (take_ofW HT_.out HW_.out (by kernel_rfl)) (fun _ _ _ h => h) (Or.inl ⟨by rfl, ?_⟩) hHeld ?_ ?_; rotate_left; (· rintro w' ⟨s0, s1, s2⟩; go_simp; with_reducible rfl); rotate_left; (· simp only [Act.put, sT, sZ, sS, i64_w, i32_w]; rfl)
   refine pure_ (i := 6) (N := some 55) (v := ?_) (a' := ?_) (bS 7 127) rfl rfl (any_of HT_.out (by kernel_rfl)) (fun _ _ _ h => h) (Or.inl ⟨by rfl, ?_⟩) ?_ ?_; rotate_left; (· intro w'; go_simp; with_reducible rfl); rotate_left; (· simp only [Act.put, sT, sZ, sS, i64_w, i32_w]; rfl)
   refine done_ (done_of HT_.out (by kernel_rfl)) ?_
   clear hHeld HT_ HW_
   refine HK1.out _ _ (wpIn_cond_true rfl ?_)
   clear HK1
   have HCJ2 := Aside0.mk (HCJ.out.step HBd.out)
   have HKO := Aside0.mk (below_others HBd.out)
   refine wpIn_seq_k (fun K2 hK2 => ?_)
   have HK2 := Aside0.mk hK2
   clear hK2 t1 t2 t3 HBd
   obtain ⟨_, _, u1, u2, u3, u4, u5⟩ := HCELLS.out wd HCJ2.out.1.below
   have u6 : wd.cell? ⟨g12, 0, none⟩ = some (.int .i64 L2) := (blk_cell HCJ2.out.1.r 0).trans rfl
   have u7 : wd.cell? ⟨g10, 1, none⟩ = some (.slice (some ad8) r2.length c8) := (blk_cell HCJ2.out.1.s 1).trans rfl
   have k5 := HKR.out.2
   have HBwe := Aside0.mk (below_drew1 (Below.refl wd.heap.size wd))
   refine startIn_ (r := some l) (n := 5 - 1 - 1) (m := 18) (S := fun w' => w'.cell? ⟨g12, 0, none⟩ = some (.int .i64 L2) ∧ w'.cell? ⟨g5, 0, none⟩ = some (.slice (some adv) volts.length c1) ∧ w'.cell? ⟨g7, 0, none⟩ = some (.int .i64 ((n : Int) + 1)) ∧ w'.cell? (adv.add n) = some (.int .i64 u) ∧ w'.cell? ⟨g10, 1, none⟩ = some (.slice (some ad8) r2.length c8) ∧ w'.cell? (ad8.add kx) = some (.int .i64 hi1)) (ds := [17]) #[false, false, false, false, false, false, false, false, false, false, false, false, false, false, false, false, false, false] (by kernel_rfl) (by kernel_rfl) (then_out (block_out ownG_out)) rfl rfl ⟨u6, u2, u1, u3, u7, u5⟩ (fun hHeld => ?_); refine with_tabW chargeF.tab15 chargeF.bits15 (fun HT_ HW_ => ?_)
   generalize wd.drew = we at HBwe hHeld  ⊢
   refine pure_ (i := 0) (N := some 56) (v := ?_) (a' := ?_) (bS 18 1) rfl rfl (any_of HT_.out (by kernel_rfl)) (fun _ _ _ h => h) (Or.inl ⟨by rfl, ?_⟩) ?_ ?_; rotate_left; (· intro w'; go_simp; with_reducible rfl); rotate_left; (· simp only [Act.put, sT, sZ, sS, i64_w, i32_w]; rfl)
   refine pure_ (i := 2) (N := some 58) (v := ?_) (a' := ?_) (bS 18 5) rfl rfl (any_of HT_.out (by kernel_rfl)) (fun _ _ _ h => h) (Or.inl ⟨by rfl, ?_⟩) ?_ ?_; rotate_left; (· intro w'; go_simp; with_reducible rfl); rotate_left; (· simp only [Act.put, sT, sZ, sS, i64_w, i32_w]; rfl)
   refine pure_ (i := 8) (N := some 64) (v := ?_) (a' := ?_) (bS 18 261) rfl rfl (any_of HT_.out (by kernel_rfl)) (fun _ _ _ h => h) (Or.inl ⟨by rfl, ?_⟩) ?_ ?_; rotate_left; (· intro w'; go_simp; with_reducible rfl); rotate_left; (· simp only [Act.put, sT, sZ, sS, i64_w, i32_w]; rfl)
   refine pure_ (i := 10) (N := some 66) (v := ?_) (a' := ?_) (bS 18 1285) rfl rfl (any_of HT_.out (by kernel_rfl)) (fun _ _ _ h => h) (Or.inl ⟨by rfl, ?_⟩) ?_ ?_; rotate_left; (· intro w'; go_simp; with_reducible rfl); rotate_left; (· simp only [Act.put, sT, sZ, sS, i64_w, i32_w]; rfl)
   refine take_ (i := 1) (N := some 57) (v := ?_) (a' := ?_) (bS 18 1287) rfl rfl (take_ofW HT_.out HW_.out (by kernel_rfl)) (fun _ _ _ h => h) (Or.inl ⟨by rfl, ?_⟩) hHeld ?_ ?_; rotate_left; (· rintro w' ⟨s0, s1, s2, s3, s4, s5⟩; go_simp; with_reducible rfl); rotate_left; (· simp only [Act.put, sT, sZ, sS, i64_w, i32_w]; rfl)
   refine take_ (i := 3) (N := some 59) (v := ?_) (a' := ?_) (bS 18 1295) rfl rfl (take_ofW HT_.out HW_.out (by kernel_rfl)) (fun _ _ _ h => h) (Or.inl ⟨by rfl, ?_⟩) hHeld ?_ ?_; rotate_left; (· rintro w' ⟨s0, s1, s2, s3, s4, s5⟩; go_simp; with_reducible rfl); rotate_left; (· simp only [Act.put, sT, sZ, sS, i64_w, i32_w]; rfl)
   refine take_ (i := 4) (N := some 60) (v := ?_) (a' := ?_) (bS 18 1311) rfl rfl (take_ofW HT_.out HW_.out (by kernel_rfl)) (fun _ _ _ h => h) (Or.inl ⟨by rfl, ?_⟩) hHeld ?_ ?_; rotate_left; (· rintro w' ⟨s0, s1, s2, s3, s4, s5⟩; go_simp; with_reducible rfl); rotate_left; (· simp only [Act.put, sT, sZ, sS, i64_w, i32_w]; rfl)
   refine pure_ (i := 5) (N := some 61) (v := ?_) (a' := ?_) (bS 18 1343) rfl rfl (any_of HT_.out (by kernel_rfl)) (fun _ _ _ h => h) (Or.inl ⟨by rfl, ?_⟩) ?_ ?_; rotate_left; (· intro w'; go_simp; with_reducible rfl); rotate_left; (· simp only [Act.put, sT, sZ, sS, i64_w, i32_w]; rfl)
   refine pure_ (i := 6) (N := some 62) (v := ?_) (a' := ?_) (bS 18 1407) rfl rfl (any_of HT_.out (by kernel_rfl)) (fun _ _ _ h => h) (Or.inl ⟨by rfl, ?_⟩) ?_ ?_; rotate_left; (· intro w'; go_simp; with_reducible rfl); rotate_left; (· simp only [Act.put, sT, sZ, sS, i64_w, i32_w]; rfl)
   refine take_ (i := 7) (N := some 63) (v := ?_) (a' := ?_) (bS 18 1535) rfl rfl (take_ofW HT_.out HW_.out (by kernel_rfl)) (fun _ _ _ h => h) (Or.inl ⟨by rfl, ?_⟩) hHeld ?_ ?_; rotate_left; (· rintro w' ⟨s0, s1, s2, s3, s4, s5⟩; go_simp; with_reducible rfl); rotate_left; (· simp only [Act.put, sT, sZ, sS, i64_w, i32_w]; rfl)
   refine take_ (i := 9) (N := some 65) (v := ?_) (a' := ?_) (bS 18 2047) rfl rfl (take_ofW HT_.out HW_.out (by kernel_rfl)) (fun _ _ _ h => h) (Or.inl ⟨by rfl, ?_⟩) hHeld ?_ ?_; rotate_left; (· rintro w' ⟨s0, s1, s2, s3, s4, s5⟩; go_simp; with_reducible rfl); rotate_left; (· simp only [Act.put, sT, sZ, sS, i64_w, i32_w]; rfl)
   refine pure_ (i := 11) (N := some 67) (v := ?_) (a' := ?_) (bS 18 4095) rfl rfl (any_of HT_.out (by kernel_rfl)) (fun _ _ _ h => h) (Or.inl ⟨by rfl, ?_⟩) ?_ ?_; rotate_left; (· intro w'; go_simp; with_reducible rfl); rotate_left; (· simp only [Act.put, sT, sZ, sS, i64_w, i32_w]; rfl)
   refine take_ (i := 12) (N := some 68) (v := ?_) (a' := ?_) (bS 18 8191) rfl rfl (take_ofW HT_.out HW_.out (by kernel_rfl)) (fun _ _ _ h => h) (Or.inl ⟨by rfl, ?_⟩) hHeld ?_ ?_; rotate_left; (· rintro w' ⟨s0, s1, s2, s3, s4, s5⟩; go_simp; with_reducible rfl); rotate_left; (· simp only [Act.put, sT, sZ, sS, i64_w, i32_w]; rfl)
   refine pure_ (i := 13) (N := some 69) (v := ?_) (a' := ?_) (bS 18 16383) rfl rfl (any_of HT_.out (by kernel_rfl)) (fun _ _ _ h => h) (Or.inl ⟨by rfl, ?_⟩) ?_ ?_; rotate_left; (· intro w'; go_simp; with_reducible rfl); rotate_left; (· simp only [Act.put, sT, sZ, sS, i64_w, i32_w]; rfl)
   refine pure_ (i := 14) (N := some 70) (v := ?_) (a' := ?_) (bS 18 32767) rfl rfl (any_of HT_.out (by kernel_rfl)) (fun _ _ _ h => h) (Or.inl ⟨by rfl, ?_⟩) ?_ ?_; rotate_left; (· intro w'; go_simp; with_reducible rfl); rotate_left; (· simp only [Act.put, sT, sZ, sS, i64_w, i32_w]; rfl)
   refine pure_ (i := 15) (N := some 71) (v := ?_) (a' := ?_) (bS 18 65535) rfl rfl (any_of HT_.out (by kernel_rfl)) (fun _ _ _ h => h) (Or.inl ⟨by rfl, ?_⟩) ?_ ?_; rotate_left; (· intro w'; go_simp; with_reducible rfl); rotate_left; (· simp only [Act.put, sT, sZ, sS, i64_w, i32_w]; rfl)
   refine pure_ (i := 16) (N := some 72) (v := ?_) (a' := ?_) (bS 18 131071) rfl rfl (any_of HT_.out (by kernel_rfl)) (fun _ _ _ h => h) (Or.inl ⟨by rfl, ?_⟩) ?_ ?_; rotate_left; (· intro w'; go_simp; with_reducible rfl); rotate_left; (· simp only [Act.put, sT, sZ, sS, i64_w, i32_w]; rfl)
   have HCJ3 := Aside0.mk (HCJ2.out.step HBwe.out)
   have HKO2 := Aside0.mk (HKO.out.trans (below_others HBwe.out))
   have v6 : we.cell? ⟨g12, 0, none⟩ = some (.int .i64 L2) := (blk_cell HCJ3.out.1.r 0).trans rfl
   have w6' := blk_frozen HCJ3.out.1.r 0
   clear u1 u2 u3 u4 u5 u6 u7 k5 HBwe HCJ2 HKO hHeld
   refine last_ (i := 17) (N := none) (bS 18 262143) rfl rfl (by kernel_rfl) (by decide) (fun K hK => ?_)
   go_simp
   refine hK.out _ _ ?_
   refine done_ (by kernel_rfl) ?_
   clear hK K HT_ HW_ v6 w6'
   refine HK2.out _ _ ?_
   clear HK2
   have HCJ4 := Aside0.mk (HCJ3.out.put0 (L2 + O2))
   have HKO3 := Aside0.mk (HKO2.out.trans (KeepsOthers.setCell _ ⟨g12, 0, none⟩ (.int .i64 (L2 + O2))))
   clear HCJ3 HKO2
   generalize we.setCell ⟨g12, 0, none⟩ (.int .i64 (L2 + O2)) = W8 at HCJ4 HKO3 ⊢
   obtain ⟨_, _, u1, u2, u3, u4, u5⟩ := HCELLS.out W8 HCJ4.out.1.below
   have u6 : W8.cell? ⟨g12, 1, none⟩ = some (.int .i64 M2) := (blk_cell HCJ4.out.1.r 1).trans rfl
   have u7 : W8.cell? ⟨g10, 0, none⟩ = some (.slice (some ad7) r1.length c7) := (blk_cell HCJ4.out.1.s 0).trans rfl
   have k5 := HKR.out.1
   have HBwf := Aside0.mk (below_drew1 (Below.refl W8.heap.size W8))
   refine startIn_ (r := some l) (n := 5 - 1 - 1) (m := 18) (S := fun w' => w'.cell? ⟨g12, 1, none⟩ = some (.int .i64 M2) ∧ w'.cell? ⟨g5, 0, none⟩ = some (.slice (some adv) volts.length c1) ∧ w'.cell? ⟨g7, 0, none⟩ = some (.int .i64 ((n : Int) + 1)) ∧ w'.cell? (adv.add n) = some (.int .i64 u) ∧ w'.cell? ⟨g10, 0, none⟩ = some (.slice (some ad7) r1.length c7) ∧ w'.cell? (ad7.add kx) = some (.int .i64 lo1)) (ds := [17]) #[false, false, false, false, false, false, false, false, false, false, false, false, false, false, false, false, false, false] (by kernel_rfl) (by kernel_rfl) (block_out ownG_out) rfl rfl ⟨u6, u2, u1, u3, u7, u4⟩ (fun hHeld => ?_); refine with_tabW chargeF.tab16 chargeF.bits16 (fun HT_ HW_ => ?_)
   generalize W8.drew = wf at HBwf hHeld  ⊢
   refine pure_ (i := 0) (N := some 73) (v := ?_) (a' := ?_) (bS 18 1) rfl rfl (any_of HT_.out (by kernel_rfl)) (fun _ _ _ h => h) (Or.inl ⟨by rfl, ?_⟩) ?_ ?_; rotate_left; (· intro w'; go_simp; with_reducible rfl); rotate_left; (· simp only [Act.put, sT, sZ, sS, i64_w, i32_w]; rfl)
   refine pure_ (i := 2) (N := some 75) (v := ?_) (a' := ?_) (bS 18 5) rfl rfl (any_of HT_.out (by kernel_rfl)) (fun _ _ _ h => h) (Or.inl ⟨by rfl, ?_⟩) ?_ ?_; rotate_left; (· intro w'; go_simp; with_reducible rfl); rotate_left; (· simp only [Act.put, sT, sZ, sS, i64_w, i32_w]; rfl)
   refine pure_ (i := 8) (N := some 81) (v := ?_) (a' := ?_) (bS 18 261) rfl rfl (any_of HT_.out (by kernel_rfl)) (fun _ _ _ h => h) (Or.inl ⟨by rfl, ?_⟩) ?_ ?_; rotate_left; (· intro w'; go_simp; with_reducible rfl); rotate_left; (· simp only [Act.put, sT, sZ, sS, i64_w, i32_w]; rfl)
   refine pure_ (i := 10) (N := some 83) (v := ?_) (a' := ?_) (bS 18 1285) rfl rfl (any_of HT_.out (by kernel_rfl)) (fun _ _ _ h => h) (Or.inl ⟨by rfl, ?_⟩) ?_ ?_; rotate_left; (· intro w'; go_simp; with_reducible rfl); rotate_left; (· simp only [Act.put, sT, sZ, sS, i64_w, i32_w]; rfl)
   refine take_ (i := 1) (N := some 74) (v := ?_) (a' := ?_) (bS 18 1287) rfl rfl (take_ofW HT_.out HW_.out (by kernel_rfl)) (fun _ _ _ h => h) (Or.inl ⟨by rfl, ?_⟩) hHeld ?_ ?_; rotate_left; (· rintro w' ⟨s0, s1, s2, s3, s4, s5⟩; go_simp; with_reducible rfl); rotate_left; (· simp only [Act.put, sT, sZ, sS, i64_w, i32_w]; rfl)
   refine take_ (i := 3) (N := some 76) (v := ?_) (a' := ?_) (bS 18 1295) rfl rfl (take_ofW HT_.out HW_.out (by kernel_rfl)) (fun _ _ _ h => h) (Or.inl ⟨by rfl, ?_⟩) hHeld ?_ ?_; rotate_left; (· rintro w' ⟨s0, s1, s2, s3, s4, s5⟩; go_simp; with_reducible rfl); rotate_left; (· simp only [Act.put, sT, sZ, sS, i64_w, i32_w]; rfl)
   refine take_ (i := 4) (N := some 77) (v := ?_) (a' := ?_) (bS 18 1311) rfl rfl (take_ofW HT_.out HW_.out (by kernel_rfl)) (fun _ _ _ h => h) (Or.inl ⟨by rfl, ?_⟩) hHeld ?_ ?_; rotate_left; (· rintro w' ⟨s0, s1, s2, s3, s4, s5⟩; go_simp; with_reducible rfl); rotate_left; (· simp only [Act.put, sT, sZ, sS, i64_w, i32_w]; rfl)
   refine pure_ (i := 5) (N := some 78) (v := ?_) (a' := ?_) (bS 18 1343) rfl rfl (any_of HT_.out (by kernel_rfl)) (fun _ _ _ h => h) (Or.inl ⟨by rfl, ?_⟩) ?_ ?_; rotate_left; (· intro w'; go_simp; with_reducible rfl); rotate_left; (· simp only [Act.put, sT, sZ, sS, i64_w, i32_w]; rfl)
   refine pure_ (i := 6) (N := some 79) (v := ?_) (a' := ?_) (bS 18 1407) rfl rfl (any_of HT_.out (by kernel_rfl)) (fun _ _ _ h => h) (Or.inl ⟨by rfl, ?_⟩) ?_ ?_; rotate_left; (· intro w'; go_simp; with_reducible rfl); rotate_left; (· simp only [Act.put, sT, sZ, sS, i64_w, i32_w]; rfl)
   refine take_ (i := 7) (N := some 80) (v := ?_) (a' := ?_) (bS 18 1535) rfl rfl (take_ofW HT_.out HW_.out (by kernel_rfl)) (fun _ _ _ h => h) (Or.inl ⟨by rfl, ?_⟩) hHeld ?_ ?_; rotate_left; (· rintro w' ⟨s0, s1, s2, s3, s4, s5⟩; go_simp; with_reducible rfl); rotate_left; (· simp only [Act.put, sT, sZ, sS, i64_w, i32_w]; rfl)
   refine take_ (i := 9) (N := some 82) (v := ?_) (a' := ?_) (bS 18 2047) rfl rfl (take_ofW HT_.out HW_.out (by kernel_rfl)) (fun _ _ _ h => h) (Or.inl ⟨by rfl, ?_⟩) hHeld ?_ ?_; rotate_left; (· rintro w' ⟨s0, s1, s2, s3, s4, s5⟩; go_simp; with_reducible rfl); rotate_left; (· simp only [Act.put, sT, sZ, sS, i64_w, i32_w]; rfl)
   refine pure_ (i := 11) (N := some 84) (v := ?_) (a' := ?_) (bS 18 4095) rfl rfl (any_of HT_.out (by kernel_rfl)) (fun _ _ _ h => h) (Or.inl ⟨by rfl, ?_⟩) ?_ ?_; rotate_left; (· intro w'; go_simp; with_reducible rfl); rotate_left; (· simp only [Act.put, sT, sZ, sS, i64_w, i32_w]; rfl)
   refine take_ (i := 12) (N := some 85) (v := ?_) (a' := ?_) (bS 18 8191) rfl rfl (take_ofW HT_.out HW_.out (by kernel_rfl)) (fun _ _ _ h => h) (Or.inl ⟨by rfl, ?_⟩) hHeld ?_ ?_; rotate_left; (· rintro w' ⟨s0, s1, s2, s3, s4, s5⟩; go_simp; with_reducible rfl); rotate_left; (· simp only [Act.put, sT, sZ, sS, i64_w, i32_w]; rfl)
   refine pure_ (i := 13) (N := some 86) (v := ?_) (a' := ?_) (bS 18 16383) rfl rfl (any_of HT_.out (by kernel_rfl)) (fun _ _ _ h => h) (Or.inl ⟨by rfl, ?_⟩) ?_ ?_; rotate_left; (· intro w'; go_simp; with_reducible rfl); rotate_left; (· simp only [Act.put, sT, sZ, sS, i64_w, i32_w]; rfl)
   refine pure_ (i := 14) (N := some 87) (v := ?_) (a' := ?_) (bS 18 32767) rfl rfl (any_of HT_.out (by kernel_rfl)) (fun _ _ _ h => h) (Or.inl ⟨by rfl, ?_⟩) ?_ ?_; rotate_left; (· intro w'; go_simp; with_reducible rfl); rotate_left; (· simp only [Act.put, sT, sZ, sS, i64_w, i32_w]; rfl)
   refine pure_ (i := 15) (N := some 88) (v := ?_) (a' := ?_) (bS 18 65535) rfl rfl (any_of HT_.out (by kernel_rfl)) (fun _ _ _ h => h) (Or.inl ⟨by rfl, ?_⟩) ?_ ?_; rotate_left; (· intro w'; go_simp; with_reducible rfl); rotate_left; (· simp only [Act.put, sT, sZ, sS, i64_w, i32_w]; rfl)
   refine pure_ (i := 16) (N := some 89) (v := ?_) (a' := ?_) (bS 18 131071) rfl rfl (any_of HT_.out (by kernel_rfl)) (fun _ _ _ h => h) (Or.inl ⟨by rfl, ?_⟩) ?_ ?_; rotate_left; (· intro w'; go_simp; with_reducible rfl); rotate_left; (· simp only [Act.put, sT, sZ, sS, i64_w, i32_w]; rfl)
   have HCJ5 := Aside0.mk (HCJ4.out.step HBwf.out)
   have HKO4 := Aside0.mk (HKO3.out.trans (below_others HBwf.out))
   have v6 : wf.cell? ⟨g12, 1, none⟩ = some (.int .i64 M2) := (blk_cell HCJ5.out.1.r 1).trans rfl
   have w6' := blk_frozen HCJ5.out.1.r 1
   clear u1 u2 u3 u4 u5 u6 u7 k5 HBwf HCJ4 HKO3 hHeld
   refine last_ (i := 17) (N := none) (bS 18 262143) rfl rfl (by kernel_rfl) (by decide) (fun K hK => ?_)
   go_simp
   refine hK.out _ _ ?_
   refine done_ (by kernel_rfl) ?_
   clear hK K HT_ HW_ v6 w6'
   have HCJ6 := Aside0.mk (HCJ5.out.put1 (M2 + O1))
   have HKO5 := Aside0.mk (HKO4.out.trans (KeepsOthers.setCell _ ⟨g12, 1, none⟩ (.int .i64 (M2 + O1))))
   exact ⟨HKO5.out.from _, ⟨HCJ6.out.2.2.2.1.trans HCJ.out.2.2.2.1.symm, HCJ6.out.2.2.2.2.trans HCJ.out.2.2.2.2.symm⟩, by show CJ w w5 g10 g12 (.slice (some ad7) r1.length c7) (.slice (some ad8) r2.length c8) r3 r4 (L + chSum C ((n : Int) + 1) u r2 ((pre ++ [x]).map (·.1))) (M + chSum C ((n : Int) + 1) u r1 ((pre ++ [x]).map (·.1))) w6.heap.size ds gi2 gp2 #[.int .i64 i] (planV W' H' R (some ad) C.length c) _; rw [HU12.out.1, HU12.out.2, HLM.out.1, HLM.out.2]; exact HCJ6.out⟩
 case done =>
  rintro D xs V hD hxs ⟨h1, h4, h5, _⟩ hK
  have HMV := Aside0.mk (h4.push HBase.out.2 hD hK)
  rw [hxs] at h1
  obtain ⟨eL, eM⟩ := HEND.out _ _ rfl rfl
  rw [eL, eM] at h1
  have HV := Aside0.mk h1
  clear h1 h4 h5 hK hD hxs eL eM
  refine HKb.out _ _ ?_
  clear HKb
  go_wp2_with fail
  exact ⟨k - 1, by have := HK.out; have := HI.out; omega, i + 1, _, rfl, ⟨by have := HK.out; have := HI.out; omega⟩, HMV, HV⟩
 case stop =>
  rintro D cd pre V _ _ h _
  exact h.elim
end Go.Proofs.Ytndkkjpgnmahbaa.Print
end

section
namespace Go.Proofs.Ytndkkjpgnmahbaa.Print
open Go.RowKit Go.Proofs.YtndkkjpgnmahbaaW.PrintWords Go.Proofs.YtndkkjpgnmahbaaW.PrintLast Go.Proofs.YtndkkjpgnmahbaaW.PrintMore Go.Proofs.Ytndkkjpgnmahbaa.H Go.Proofs.Field
attribute [local go_sem] max2_int min2_int max_two min_two max_three min_three max_four min_four
set_option linter.unusedVariables false
set_option linter.unusedSimpArgs false
def planF.T9 : Bool × List (List Nat × List Nat) := (true, [([], []), ([0], [0]), ([], []), ([2], [2]), ([3], [3]), ([4], [4]), ([5], [5]), ([1, 0, 1, 2, 3, 4, 5, 6], [1]), ([7, 6, 0, 1, 2, 3, 4, 5, 6], [6, 7])])
def planF.B9 : List Nat := [0, 1, 0, 4, 12, 28, 60, 127, 255]
theorem planF.tab9 : rtab .any (opsOf Try.f22 9) = planF.T9 := by kernel_rfl
theorem planF.bits9 : waitsOk planF.T9.2 planF.B9 = true := by kernel_rfl
structure PS (w0 w W : World) (g : Nat) (s : Int) (g6 : Nat) : Prop where
 dice : IsS79 w0 W g s
 old : Below w0.heap.size w0 W
 kb : KeepBut w W g none
 z : W.heap[g6]? = some (.cells #[.int .i64 0, .int .i64 0, .bool false, .slice none 0 0] 24 (0, 0))
 g60 : w.heap.size ≤ g6
 gw : g < w.heap.size
 ww : w0.heap.size ≤ w.heap.size
theorem PS.call {w0 w W W1 : World} {g : Nat} {s s1 : Int} {g6 : Nat} (h : PS w0 w W g s g6) (h1 : IsS79 w0 W1 g s1) (h2 : Below w0.heap.size w0 W1) (h3 : KeepBut W W1 g none) : PS w0 w W1 g s1 g6 :=
 ⟨h1, h2, h.kb.trans h3 (.inl rfl), h3.blk h.z (by have := h.gw; have := h.g60; omega) (by simp), h.g60, h.gw, h.ww⟩
theorem PS.below {w0 w W W1 : World} {g : Nat} {s : Int} {g6 : Nat} (h : PS w0 w W g s g6) (hb : Below W.heap.size W W1) : PS w0 w W1 g s g6 :=
 ⟨h.dice.below hb, below_step h.old hb, h.kb.trans (KeepBut.of_below hb g none) (.inl rfl), blk_below h.z hb, h.g60, h.gw, h.ww⟩
structure PT (w0 w W : World) (g : Nat) (s : Int) (g6 g7 : Nat) (a b : Value) (r : Bool) (v : Value) (D : List Int) : Prop where
 ps : PS w0 w W g s g6
 pl : W.heap[g7]? = some (.cells #[a, b, .bool r, v] 24 (0, 0))
 r : Kd.R (Kd.int .i64) 3 W w.heap.size (fun _ => True) v D
 g70 : w.heap.size ≤ g7
 ne : g6 ≠ g7
namespace PT
variable {w0 w W W1 : World} {g : Nat} {s s1 : Int} {g6 g7 : Nat} {a b : Value} {r : Bool} {v : Value} {D : List Int}
theorem call (h : PT w0 w W g s g6 g7 a b r v D) (h1 : IsS79 w0 W1 g s1) (h2 : Below w0.heap.size w0 W1) (h3 : KeepBut W W1 g none) : PT w0 w W1 g s1 g6 g7 a b r v D := by
 have hgw := h.ps.gw
 refine ⟨h.ps.call h1 h2 h3, h3.blk h.pl (by have := h.g70; omega) (by simp), ?_, h.g70, h.ne⟩
 have hb := Kd.R_base h.r
 have h4 : Kd.R (Kd.int .i64) 3 W w.heap.size (fun k => True ∧ k ≠ g) v D := Kd.R_types h.r h.ps.dice.1 (by decide)
 exact Kd.R_mono (Kd.R_keep h4 h3 (fun k hk => hk.2)) (fun _ _ => trivial)
theorem below (h : PT w0 w W g s g6 g7 a b r v D) (hb : Below W.heap.size W W1) : PT w0 w W1 g s g6 g7 a b r v D :=
 ⟨h.ps.below hb, blk_below h.pl hb, Kd.R_below h.r hb, h.g70, h.ne⟩
theorem set0 {gv c : Nat} (h : PT w0 w W g s g6 g7 a b r (.slice (some ⟨gv, 0, none⟩) D.length c) D) (m : Int) : PT w0 w (W.setCell ⟨gv, 0, none⟩ (.int .i64 m)) g s g6 g7 a b r (.slice (some ⟨gv, 0, none⟩) D.length c) (D.set 0 m) := by
 obtain ⟨h1, h2⟩ := Kd.R_put h.r (0 : Int) m
 rw [show (0 : Int).toNat = 0 from rfl] at h1 h2
 have n1 := Kd.R_ne h.r h.ps.dice.1 (by decide)
 have n2 := Kd.R_ne h.r h.ps.z (by decide)
 have n3 := Kd.R_ne h.r h.pl (by decide)
 have hb := Kd.R_base h.r gv rfl
 have hww := h.ps.ww
 exact ⟨⟨h.ps.dice.grown h2 n1, h.ps.old.grown h2 h.ps.old.size (fun k e => by cases e; omega), h.ps.kb.trans (KeepBut.of_grown h2 g) (.inr ⟨gv, rfl, hb⟩), blk_grown h.ps.z h2 n2, h.ps.g60, h.ps.gw, hww⟩, blk_grown h.pl h2 n3, h1, h.g70, h.ne⟩
theorem put (h : PT w0 w W g s g6 g7 a b r v D) {v1 : Value} {D1 : List Int} (hg : W.grownBy W1 v.ownBlock) (hR : Kd.R (Kd.int .i64) 3 W1 w.heap.size (fun _ => True) v1 D1) : PT w0 w (W1.setCell ⟨g7, 3, none⟩ v1) g s g6 g7 a b r v1 D1 := by
 have n1 := Kd.R_ne h.r h.ps.dice.1 (by decide)
 have n2 := Kd.R_ne h.r h.ps.z (by decide)
 have n3 := Kd.R_ne h.r h.pl (by decide)
 have d1 := h.ps.dice.grown hg n1
 have z1 := blk_grown h.ps.z hg n2
 have p1 := blk_grown h.pl hg n3
 have hb := Kd.R_base h.r
 have o1 : Below w0.heap.size w0 W1 := h.ps.old.grown hg h.ps.old.size (fun k e => by have := hb k e; have := h.ps.ww; omega)
 have k1 : KeepBut w W1 g none := h.ps.kb.trans (KeepBut.of_grown hg g) (by
  cases e : v.ownBlock with
  | none => exact .inl rfl
  | some k => exact .inr ⟨k, rfl, hb k e⟩)
 have hgw := h.ps.gw
 have h7 := h.g70
 have hww := h.ps.ww
 exact ⟨⟨⟨blk_far (p := ⟨g7, 3, none⟩) d1.1 (show g ≠ g7 by omega) _, d1.2⟩, below_set o1 (by omega), keep_far k1 h7 _, blk_far (p := ⟨g7, 3, none⟩) z1 h.ne _, h.ps.g60, hgw, hww⟩, by rw [blk_set p1 3]; rfl, Kd.R_set hR p1 (by decide) 3 v1, h7, h.ne⟩
end PT
set_option maxHeartbeats 6400000 in
set_option maxRecDepth 100000 in
theorem thermionkit_PlanOf.calls (g : Nat) (s0_0 : Int) (a1 : Int) (a2 : Int) (r1 : Int) (r2 : Int) (r3 : Bool) (r4 : List Int) (r5 : Int) (w0 w : World) (hI : IsS79 w0 w g s0_0) (hB : Below w0.heap.size w0 w) (h : thermionkit_PlanOf.f s0_0 a1 a2 = some (r1, r2, r3, r4, r5)) :
  Calls Try.prog 22 #[.pointer (some ⟨g, 0, none⟩), .int .i64 a1, .int .i64 a2] w fun e w' => ∃ v3_ : Value, e = .returned (.agg #[.int .i64 r1, .int .i64 r2, .bool r3, v3_]) ∧ Kd.R (Kd.int .i64) 3 w' w.heap.size (fun _ => True) v3_ r4 ∧ IsS79 w0 w' g r5 ∧ Below w0.heap.size w0 w' ∧ KeepBut w w' g none := by
 unfold thermionkit_PlanOf.f at h
 by_cases q : 1 ≤ a1 ∧ a1 ≤ 16 ∧ 1 ≤ a2 ∧ a2 ≤ 16
 rotate_left
 ·rw [if_neg q] at h; exact absurd h (by simp)
 rw [if_pos q] at h
 simp only [Option.some.injEq, Prod.mk.injEq] at h
 obtain ⟨e1, e2, e3, e4, e5⟩ := h
 have hW := dBtw_eq s0_0 1 a1 q.1 (by omega) (by omega)
 have hH := dBtw_eq (dBtw s0_0 1 a1).2 1 a2 q.2.2.1 (by omega) (by omega)
 have hR := dOne_eq (dBtw (dBtw s0_0 1 a1).2 1 a2).2 2 (by omega) (by omega)
 rw [e1] at hW e4 e5
 rw [e2] at hH e4 e5
 rw [e3] at hR
 generalize (dBtw s0_0 1 a1).2 = s1 at *
 generalize (dBtw s1 1 a2).2 = s2 at *
 generalize (dOne s2 2).2 = s3 at *
 have HW := Aside0.mk hW
 have HH := Aside0.mk hH
 have HR := Aside0.mk hR
 obtain ⟨W', rfl⟩ : ∃ W' : Nat, r1 = W' := ⟨r1.toNat, by omega⟩
 obtain ⟨H', rfl⟩ : ∃ H' : Nat, r2 = H' := ⟨r2.toNat, by omega⟩
 rw [Int.toNat_natCast, Int.toNat_natCast] at e4 e5
 obtain ⟨N, hN⟩ : ∃ N, W' * H' = N := ⟨_, rfl⟩
 rw [hN] at e4 e5
 have HX : Aside0 (W' * H' = N ∧ 0 < W' ∧ 0 < N ∧ N ≤ 256) := ⟨hN, by omega, by rw [← hN]; exact Nat.mul_pos (by omega) (by omega), by have := Nat.mul_le_mul (show W' ≤ 16 by omega) (show H' ≤ 16 by omega); omega⟩
 have nm : IntKind.i64.wrap ((W' : Int) * (H' : Int)) = (N : Int) := by rw [← Int.natCast_mul, hN]; exact IntWalk.i64_in _ (by have := HX.out; omega)
 have HE := Aside0.mk (And.intro e4 e5)
 have HI := Aside0.mk hI
 have HB := Aside0.mk hB
 have HM := Aside0.mk (Mem.start w)
 have HGW := Aside0.mk (blk_lt hI.1)
 have hu24 := Try.underlying24
 have hu22 := Try.underlying22
 clear e1 e2 e3 e4 e5 hW hH hR hN hI hB q
 go_enter Try.func22, Try.ntmps22
 go_wp2_with (first
  | ((with_reducible refine gate_dst (N := 6) rfl ?_); refine ev_new HM.out rfl 24 rfl info24 ?_; intro g6 wa hm1 hq1; have HP := Aside0.mk (PS.mk (HI.out.below hq1) (below_step HB.out hq1) (KeepBut.of_below hq1 g none) hm1.head hm1.geh HGW.out HB.out.size); clear hm1 hq1 HM)
  | (go_at_call 32; refine (thermionkit_Dice_Between.calls g s0_0 1 a1 _ _ w0 _ HP.out.dice HP.out.old HW.out.1).mono ?_; rintro e wb ⟨rfl, hd, ho, hk⟩; have HP2 := Aside0.mk (HP.out.call hd ho hk); clear hd ho hk HP)
  | (go_at_call 32; refine (thermionkit_Dice_Between.calls g s1 1 a2 _ _ w0 _ HP2.out.dice HP2.out.old HH.out.1).mono ?_; rintro e wb2 ⟨rfl, hd, ho, hk⟩; have HP3 := Aside0.mk (HP2.out.call hd ho hk); clear hd ho hk HP2)
  | (go_at_call 66; refine (thermionkit_Dice_One.calls g s2 2 _ _ w0 _ HP3.out.dice HP3.out.old HR.out).mono ?_; rintro e wc ⟨rfl, hd, ho, hk⟩; have HP4 := Aside0.mk (HP3.out.call hd ho hk); have HM4 := Aside0.mk (Mem.start wc); clear hd ho hk HP3)
  | ((with_reducible refine gate_dst (N := 7) rfl ?_); refine ev_new HM4.out rfl 24 rfl info24 ?_; intro g7 wd hm1 hq1; have HM5 := Aside0.mk hm1; have HNE : Aside0 (g6 ≠ g7 ∧ w.heap.size ≤ g7) := ⟨by have h1 := blk_lt HP4.out.z; have h2 := hm1.geh; omega, Nat.le_trans HP4.out.kb.1 hm1.geh⟩; clear hm1 hq1 HM4)
  | ((with_reducible refine gate_store (t := 24) (p := 7) rfl ?_); refine ev_store HM5.out rfl 24 (.tmp 7) (.tmp 18) rfl rfl (cs := #[.int .i64 (W' : Int), .int .i64 (H' : Int), .bool r3, .slice none 0 0]) rfl size24 rfl rfl (by simp [Value.oneCell']) ?_; intro we hm2 hq2; clear hq2; have HT0 : Aside0 (PT w0 w we g s3 g6 g7 (.int .i64 (W' : Int)) (.int .i64 (H' : Int)) r3 (.slice none 0 0) []) := ⟨⟨HP4.out.below hm2.below, hm2.head, Kd.R_nil _ _ _ _ _, HNE.out.2, HNE.out.1⟩⟩; clear hm2 HM5 HP4))
 go_loopg [8] N (fun k v8 w' => ∃ (i : Nat) (v : Value), v8 = .int .i64 (i : Int) ∧ Aside0 (i + k = N) ∧ Aside0 (PT w0 w w' g (cellsTo s3 i).2 g6 g7 (.int .i64 (W' : Int)) (.int .i64 (H' : Int)) r3 v (cellsTo s3 i).1))
 case atStart => exact ⟨0, _, rfl, ⟨by omega⟩, HT0⟩
 case round =>
  clear HT0
  obtain ⟨i, v, rfl, HK, HT⟩ := hrel
  have c0 : wr.cell? ⟨g7, 0, none⟩ = some (.int .i64 (W' : Int)) := (blk_cell HT.out.pl 0).trans rfl
  have c1 : wr.cell? ⟨g7, 1, none⟩ = some (.int .i64 (H' : Int)) := (blk_cell HT.out.pl 1).trans rfl
  by_cases hi : i < N
  ·have hlt : decide (i < N) = true := decide_eq_true hi
   have HI2 := Aside0.mk hi
   have i2 : i < 256 := by have := HX.out; omega
   have HLD : Aside0 ((cellsTo s3 i).1.length = i) := ⟨cellsTo_length s3 i⟩
   have HST : Aside0 (cellsTo s3 (i + 1) = ((cellsTo s3 i).1 ++ [(cellStep (cellsTo s3 i).2).1], (cellStep (cellsTo s3 i).2).2)) := ⟨rfl⟩
   generalize (cellsTo s3 i).2 = s at HT HST
   generalize (cellsTo s3 i).1 = D at HT HST HLD
   have HO := Aside0.mk (dOne_eq s 3 (by omega) (by omega))
   have HCS : Aside0 (cellStep s = if (dOne s 3).1 = true then dBtw (dOne s 3).2 1 3 else (0, (dOne s 3).2)) := ⟨rfl⟩
   have HBW := Aside0.mk (dBtw_eq (dOne s 3).2 1 3 (by omega) (by omega) (by omega)).1
   generalize dOne s 3 = o at HO HCS HBW
   obtain ⟨ob, os⟩ := o
   generalize dBtw os 1 3 = p at HCS HBW
   obtain ⟨pn, ps⟩ := p
   clear hi
   cases ob
   ·have HST2 : Aside0 (cellsTo s3 (i + 1) = (D ++ [0], os)) := ⟨by rw [HST.out, HCS.out]; rfl⟩
    clear HST HCS HBW
    go_wp2_with (first
     | (go_at_call 66; refine (thermionkit_Dice_One.calls g s 3 _ _ w0 _ HT.out.ps.dice HT.out.ps.old HO.out).mono ?_; rintro e wb ⟨rfl, hd, ho, hk⟩; have HT2 := Aside0.mk (HT.out.call hd ho hk); clear hd ho hk HT c0 c1; have c3 : wb.cell? ⟨g7, 3, none⟩ = some v := (blk_cell HT2.out.pl 3).trans rfl; have f3 := blk_frozen HT2.out.pl 3)
     | ((with_reducible refine gate_dst (N := 36) rfl ?_); refine Kd.R_append (Kd.int .i64) (w0 := wb) w.heap.size rfl (.tmp 33) (.tmp 35) 22 3 (.int .i64 0) 8 rfl Try.underlying22 info3 rfl (by decide) (by omega) v D 0 [.int .i64 0] (fun _ => True) (fun _ => False) rfl rfl rfl (fun _ hk => hk.elim) (fun _ _ => trivial) HT2.out.r (Below.refl _ _) HT2.out.ps.kb.1 (by have := HLD.out; omega) ?_; intro v1 w5 hR5 hB5 hg5 hat5; have HT3 := Aside0.mk (HT2.out.put hg5 hR5); have c4 : w5.cell? ⟨g7, 3, none⟩ = some v := (blk_cell (blk_grown HT2.out.pl hg5 (Kd.R_ne HT2.out.r HT2.out.pl (by decide))) 3).trans rfl; have f4 : w5.frozen? ⟨g7, 3, none⟩ = false := blk_frozen (blk_grown HT2.out.pl hg5 (Kd.R_ne HT2.out.r HT2.out.pl (by decide))) 3; obtain ⟨A5, c5, e5⟩ := Kd.R_slice hR5; rw [List.length_append, List.length_singleton] at e5; subst e5; clear hR5 hB5 hg5 hat5 c3 f3 HT2))
    go_roundg (N - (i + 1))
    case measure => have := HK.out; have := HI2.out; omega
    case rel => exact ⟨i + 1, _, by go_num, ⟨by have := HI2.out; omega⟩, ⟨by rw [HST2.out]; exact HT3.out⟩⟩
   ·have HST2 : Aside0 (cellsTo s3 (i + 1) = (D ++ [pn], ps)) := ⟨by rw [HST.out, HCS.out]; rfl⟩
    clear HST HCS
    go_wp2_with (first
     | (go_at_call 66; refine (thermionkit_Dice_One.calls g s 3 _ _ w0 _ HT.out.ps.dice HT.out.ps.old HO.out).mono ?_; rintro e wb1 ⟨rfl, hd, ho, hk⟩; have HT1 := Aside0.mk (HT.out.call hd ho hk); clear hd ho hk HT c0 c1)
     | (go_at_call 32; refine (thermionkit_Dice_Between.calls g os 1 3 _ _ w0 _ HT1.out.ps.dice HT1.out.ps.old HBW.out).mono ?_; rintro e wb ⟨rfl, hd, ho, hk⟩; have HT2 := Aside0.mk (HT1.out.call hd ho hk); clear hd ho hk HT1; have c3 : wb.cell? ⟨g7, 3, none⟩ = some v := (blk_cell HT2.out.pl 3).trans rfl; have f3 := blk_frozen HT2.out.pl 3)
     | ((with_reducible refine gate_dst (N := 36) rfl ?_); refine Kd.R_append (Kd.int .i64) (w0 := wb) w.heap.size rfl (.tmp 33) (.tmp 35) 22 3 (.int .i64 0) 8 rfl Try.underlying22 info3 rfl (by decide) (by omega) v D pn [.int .i64 pn] (fun _ => True) (fun _ => False) rfl rfl rfl (fun _ hk => hk.elim) (fun _ _ => trivial) HT2.out.r (Below.refl _ _) HT2.out.ps.kb.1 (by have := HLD.out; omega) ?_; intro v1 w5 hR5 hB5 hg5 hat5; have HT3 := Aside0.mk (HT2.out.put hg5 hR5); have c4 : w5.cell? ⟨g7, 3, none⟩ = some v := (blk_cell (blk_grown HT2.out.pl hg5 (Kd.R_ne HT2.out.r HT2.out.pl (by decide))) 3).trans rfl; have f4 : w5.frozen? ⟨g7, 3, none⟩ = false := blk_frozen (blk_grown HT2.out.pl hg5 (Kd.R_ne HT2.out.r HT2.out.pl (by decide))) 3; obtain ⟨A5, c5, e5⟩ := Kd.R_slice hR5; rw [List.length_append, List.length_singleton] at e5; subst e5; clear hR5 hB5 hg5 hat5 c3 f3 HT2))
    go_roundg (N - (i + 1))
    case measure => have := HK.out; have := HI2.out; omega
    case rel => exact ⟨i + 1, _, by go_num, ⟨by have := HI2.out; omega⟩, ⟨by rw [HST2.out]; exact HT3.out⟩⟩
  ·obtain rfl : i = N := by have := HK.out; omega
   have hlt : decide (i < i) = false := decide_eq_false (Nat.lt_irrefl _)
   clear hi
   have hlD := cellsTo_length s3 i
   obtain ⟨gv, cv, ev, hgv, _, _⟩ := Kd.R_form HT.out.r (by rw [hlD]; exact HX.out.2.2.1)
   subst ev
   have HHE : Aside0 (opened W' (firstOne (cellsTo s3 i).1) = r4 ∧ (cellsTo s3 i).2 = r5) := HE
   generalize (cellsTo s3 i).1 = D at HT HHE hlD hgv
   generalize (cellsTo s3 i).2 = sz at HT HHE
   have HLD := Aside0.mk hlD
   have l1 : (0 : Int) < (D.length : Int) := by have := HX.out; omega
   have l2 : 0 < D.length := by have := HX.out; omega
   clear hlD HE
   have cX : wr.cell? ⟨gv, 0, none⟩ = some (.int .i64 (D.getD 0 0)) := by
    have h1 := (Kd.R_cell (0 : Int) HT.out.r 0 (by omega) l1).1
    rw [show (0 : Int).toNat = 0 from rfl] at h1
    rw [h1]
    rfl
   have HFO : Aside0 (firstOne D = D.set 0 (if 1 < D.getD 0 0 then D.getD 0 0 else 1)) := ⟨by
    unfold firstOne
    rw [show max 1 (D.getD 0 0) = if 1 < D.getD 0 0 then D.getD 0 0 else 1 by split <;> omega]⟩
   generalize D.getD 0 0 = X at cX HFO
   have c3 : wr.cell? ⟨g7, 3, none⟩ = some (.slice (some ⟨gv, 0, none⟩) D.length cv) := (blk_cell HT.out.pl 3).trans rfl
   go_upto_region 9 with (fail)
   clear c0 c1 nm hlt
   have HBd := Aside0.mk (below_drew1 (Below.refl wr.heap.size wr))
   refine start_ (n := 9) (S := fun w' => w'.cell? ⟨g7, 3, none⟩ = some (.slice (some ⟨gv, 0, none⟩) D.length cv) ∧ w'.cell? ⟨gv, 0, none⟩ = some (.int .i64 X)) (ds := [8]) #[false, false, false, false, false, false, false, false, false] (by kernel_rfl) rfl rfl ⟨c3, cX⟩ (fun hHeld => ?_); refine with_tabW planF.tab9 planF.bits9 (fun HT_ HW_ => ?_)
   generalize wr.drew = wd at HBd hHeld  ⊢
   refine pure_ (i := 0) (N := some 38) (v := ?_) (a' := ?_) (bS 9 1) rfl rfl (any_of HT_.out (by kernel_rfl)) (fun _ _ _ h => h) (Or.inl ⟨by rfl, ?_⟩) ?_ ?_; rotate_left; (· intro w'; go_simp; with_reducible rfl); rotate_left; (· simp only [Act.put, sT, sZ, sS, i64_w, i32_w]; rfl)
   refine pure_ (i := 2) (N := some 40) (v := ?_) (a' := ?_) (bS 9 5) rfl rfl (any_of HT_.out (by kernel_rfl)) (fun _ _ _ h => h) (Or.inl ⟨by rfl, ?_⟩) ?_ ?_; rotate_left; (· intro w'; go_simp; with_reducible rfl); rotate_left; (· simp only [Act.put, sT, sZ, sS, i64_w, i32_w]; rfl)
   refine take_ (i := 1) (N := some 39) (v := ?_) (a' := ?_) (bS 9 7) rfl rfl (take_ofW HT_.out HW_.out (by kernel_rfl)) (fun _ _ _ h => h) (Or.inl ⟨by rfl, ?_⟩) hHeld ?_ ?_; rotate_left; (· rintro w' ⟨s0, s1⟩; go_simp; with_reducible rfl); rotate_left; (· simp only [Act.put, sT, sZ, sS, i64_w, i32_w]; rfl)
   refine take_ (i := 3) (N := some 41) (v := ?_) (a' := ?_) (bS 9 15) rfl rfl (take_ofW HT_.out HW_.out (by kernel_rfl)) (fun _ _ _ h => h) (Or.inl ⟨by rfl, ?_⟩) hHeld ?_ ?_; rotate_left; (· rintro w' ⟨s0, s1⟩; go_simp; with_reducible rfl); rotate_left; (· simp only [Act.put, sT, sZ, sS, i64_w, i32_w]; rfl)
   refine pure_ (i := 4) (N := some 42) (v := ?_) (a' := ?_) (bS 9 31) rfl rfl (any_of HT_.out (by kernel_rfl)) (fun _ _ _ h => h) (Or.inl ⟨by rfl, ?_⟩) ?_ ?_; rotate_left; (· intro w'; go_simp; with_reducible rfl); rotate_left; (· simp only [Act.put, sT, sZ, sS, i64_w, i32_w]; rfl)
   refine take_ (i := 5) (N := some 43) (v := ?_) (a' := ?_) (bS 9 63) rfl rfl (take_ofW HT_.out HW_.out (by kernel_rfl)) (fun _ _ _ h => h) (Or.inl ⟨by rfl, ?_⟩) hHeld ?_ ?_; rotate_left; (· rintro w' ⟨s0, s1⟩; go_simp; with_reducible rfl); rotate_left; (· simp only [Act.put, sT, sZ, sS, i64_w, i32_w]; rfl)
   refine pure_ (i := 6) (N := some 44) (v := ?_) (a' := ?_) (bS 9 127) rfl rfl (any_of HT_.out (by kernel_rfl)) (fun _ _ _ h => h) (Or.inl ⟨by rfl, ?_⟩) ?_ ?_; rotate_left; (· intro w'; go_simp; with_reducible rfl); rotate_left; (· simp only [Act.put, sT, sZ, sS, i64_w, i32_w]; rfl)
   refine pure_ (i := 7) (N := some 45) (v := ?_) (a' := ?_) (bS 9 255) rfl rfl (any_of HT_.out (by kernel_rfl)) (fun _ _ _ h => h) (Or.inl ⟨by rfl, ?_⟩) ?_ ?_; rotate_left; (· intro w'; go_simp; with_reducible rfl); rotate_left; (· simp only [Act.put, sT, sZ, sS, i64_w, i32_w]; rfl)
   obtain ⟨m, hm⟩ : ∃ m, (if 1 < X then X else (1 : Int)) = m := ⟨_, rfl⟩
   rw [hm] at HFO ⊢
   clear hm
   have HT2 := Aside0.mk (HT.out.below HBd.out)
   have cX2 : wd.cell? ⟨gv, 0, none⟩ = some (.int .i64 X) := hHeld.2
   have fX2 : wd.frozen? ⟨gv, 0, none⟩ = false := (Kd.R_cell (0 : Int) HT2.out.r 0 (by omega) l1).2
   clear HT HBd cX c3 hHeld
   refine last_ (i := 8) (N := none) (bS 9 511) rfl rfl (by kernel_rfl) (by decide) (fun K hK => ?_)
   go_simp
   refine hK.out _ _ ?_
   refine done_ (by kernel_rfl) ?_
   clear hK K HT_ HW_ cX2 fX2
   have HT3 := Aside0.mk (HT2.out.set0 m)
   rw [← HFO.out] at HT3
   clear HT2
   generalize wd.setCell ⟨gv, 0, none⟩ (.int .i64 m) = w8 at HT3 ⊢
   have HLF : Aside0 ((firstOne D).length = D.length) := ⟨by unfold firstOne; rw [List.length_set]⟩
   have HCALL : Aside0 (Calls Try.prog 67 #[.agg (planV (W' : Int) (H' : Int) r3 (some ⟨gv, 0, none⟩) D.length cv)] w8 fun e w' => e = .returned (.agg (planV (W' : Int) (H' : Int) r3 (some ⟨gv, 0, none⟩) D.length cv)) ∧ Kd.R (Kd.int .i64) 3 w' w.heap.size (fun _ => True) (.slice (some ⟨gv, 0, none⟩) D.length cv) r4 ∧ w8.grownBy w' (some gv)) := ⟨by
    have h1 := opened_calls W' H' r3 gv cv w.heap.size (fun _ => True) (firstOne D) w8 (by rw [HLF.out]; exact HT3.out.r) (by rw [HLF.out, HLD.out, HX.out.1]) (by have := HX.out; have := HLF.out; have := HLD.out; omega) (by rw [HLF.out]; exact l2) HX.out.2.1
    rw [HHE.out.1, show r4.length = (firstOne D).length by rw [← HHE.out.1]; exact openTo_length _ _ _, HLF.out] at h1
    exact h1⟩
   go_wp2_with (first
    | ((with_reducible refine gate_dst (N := 46) rfl ?_); refine ev_load HT3.out.pl rfl 24 (.tmp 7) rfl rfl _ Try.underlying24 rfl size24 rfl ?_)
    | (go_at_call 67; refine HCALL.out.mono ?_; rintro e w9 ⟨rfl, hR9, hg9⟩; have HR9 := Aside0.mk hR9; have HG9 := Aside0.mk hg9; have hz9 := blk_grown HT3.out.ps.z hg9 (fun e => by have h2 := Kd.R_ne HT3.out.r HT3.out.ps.z (by decide); exact h2 e); have HZ9 := Aside0.mk hz9; clear hR9 hg9 hz9 HCALL)
    | ((with_reducible refine gate_store (t := 24) (p := 6) rfl ?_); refine ev_storeB HZ9.out rfl 24 (.tmp 6) (.tmp 47) rfl rfl rfl size24 rfl rfl (by simp [Value.oneCell']) ?_))
   (try simp only [Exit.inBlock, Exit.then])
   have n1 := Kd.R_ne HT3.out.r HT3.out.ps.dice.1 (by decide)
   have d9 := HT3.out.ps.dice.grown HG9.out n1
   have o9 : Below w0.heap.size w0 w9 := HT3.out.ps.old.grown HG9.out HT3.out.ps.old.size (fun k e => by cases e; have := HT3.out.ps.ww; omega)
   have k9 : KeepBut w w9 g none := HT3.out.ps.kb.trans (KeepBut.of_grown HG9.out g) (.inr ⟨gv, rfl, hgv⟩)
   have h6 := HT3.out.ps.g60
   have hgw := HT3.out.ps.gw
   have hww := HT3.out.ps.ww
   refine bodyPost_ret (results_cell_row rfl _ _ g6 24 _ (0, 0) _ rfl (setRow_heap _ _ _ _ _ _ HZ9.out) hu24 rfl (by rw [size24]; rfl)) rfl ⟨_, rfl, Kd.R_mono (Kd.R_step (Kd.R_types HR9.out HZ9.out (by decide)) (fun k hk _ => setRow_other _ _ _ _ hk.2)) (fun _ _ => trivial), ?_, below_row o9 (by omega), ?_⟩
   ·rw [← HHE.out.2]
    exact ⟨(setRow_other _ _ _ _ (show g ≠ g6 by omega)).trans d9.1, d9.2⟩
   ·exact ⟨by rw [size_setRow]; exact k9.1, fun k hk hne hr => by rw [setRow_other _ _ _ _ (show k ≠ g6 by omega)]; exact k9.2 k hk hne hr⟩
end Go.Proofs.Ytndkkjpgnmahbaa.Print
end

section
namespace Go.Proofs.Ytndkkjpgnmahbaa.Print
open Go.RowKit Go.Proofs.YtndkkjpgnmahbaaW.PrintWords Go.Proofs.YtndkkjpgnmahbaaW.PrintLast Go.Proofs.YtndkkjpgnmahbaaW.PrintMore
attribute [local go_sem] max2_int min2_int max_two min_two max_three min_three max_four min_four
set_option linter.unusedVariables false
set_option linter.unusedSimpArgs false
def thermionkit_Greatest.l0 : Nat → Int → Int → Int → Int → Bool → List Int → Option (Int)
 | 0, _, _, _, _, _, _ => none
 | k + 1, x3, x4, x336000, x336001, x336002, x336003 => if x4 < (x336003.length : Int) then (if 0 ≤ x4 then (thermionkit_Greatest.l0 k (mx x3 (rd x336003 x4)) (wrap64 (x4 + 1)) x336000 x336001 x336002 x336003) else (none)) else (some x3)
def thermionkit_Greatest.f (k : Nat) (a0_0 : Int) (a0_1 : Int) (a0_2 : Bool) (l0_3 : List Int) : Option (Int) := thermionkit_Greatest.l0 k 0 0 a0_0 a0_1 a0_2 l0_3
theorem thermionkit_Greatest.mono_l : ∀ k, (∀ y0 y1 y2 y3 y4 y5, LeO (thermionkit_Greatest.l0 k y0 y1 y2 y3 y4 y5) (thermionkit_Greatest.l0 (k + 1) y0 y1 y2 y3 y4 y5))
 | 0 => fun _ _ _ _ _ _ r h => by simp [thermionkit_Greatest.l0] at h
 | k + 1 => by
  have ih0 := thermionkit_Greatest.mono_l k
  ·intro y0 y1 y2 y3 y4 y5
   unfold thermionkit_Greatest.l0
   repeat' first
   | (with_reducible exact ih0 _ _ _ _ _ _)
   | (with_reducible exact LeO.refl _)
   | (with_reducible exact LeO.none _)
   | (with_reducible refine LeO.ite ?_ ?_)
   | (with_reducible refine LeO.bind ?_ (fun _ => ?_))
   | exact ih0 _ _ _ _ _ _
   | exact LeO.none _
   | refine LeO.ite ?_ ?_
   | refine LeO.bind ?_ (fun _ => ?_)
theorem thermionkit_Greatest.mono : ∀ a0 a1 a2 a3 k, LeO (thermionkit_Greatest.f k a0 a1 a2 a3) (thermionkit_Greatest.f (k + 1) a0 a1 a2 a3) := by
 intro a0 a1 a2 a3 k
 have ih0 := thermionkit_Greatest.mono_l k
 unfold thermionkit_Greatest.f
 repeat' first
   | (with_reducible exact ih0 _ _ _ _ _ _)
   | (with_reducible exact LeO.refl _)
   | (with_reducible exact LeO.none _)
   | (with_reducible refine LeO.ite ?_ ?_)
   | (with_reducible refine LeO.bind ?_ (fun _ => ?_))
   | exact ih0 _ _ _ _ _ _
   | exact LeO.none _
   | refine LeO.ite ?_ ?_
   | refine LeO.bind ?_ (fun _ => ?_)
def thermionkit_VoltsOf.l0 : Nat → List Int → Int → Int → Option (List Int × Int)
 | 0, _, _, _ => none
 | k + 1, x5, x6, x1000 => if x6 < (x5.length : Int) then ((thermionkit_Dice_Between.f x1000 (-100) 100).bind fun bt342 => ((thermionkit_Dice_Between.f bt342.2 (-1000000) 1000000).bind fun bt344 => ((some (([0, bt342.1, bt344.1, 1000000] : List Int) : List Int)).bind fun y346 => ((thermionkit_Dice_Upto.f bt344.2 4).bind fun bt349 => (if 0 ≤ bt349.1 then (if bt349.1 < (y346.length : Int) then (if 0 ≤ x6 then (thermionkit_VoltsOf.l0 k (x5.set (x6 : Int).toNat (rd y346 bt349.1)) (wrap64 (x6 + 1)) bt349.2) else (none)) else (none)) else (none)))))) else (some (x5, x1000))
def thermionkit_VoltsOf.f (k : Nat) (s0_0 : Int) (a1_0 : Int) (a1_1 : Int) (a1_2 : Bool) (l1_3 : List Int) : Option (List Int × Int) := (thermionkit_Greatest.f k a1_0 a1_1 a1_2 l1_3).bind fun t338 => (if 0 ≤ (mn 8 t338) then (if (mn 8 t338 : Int).toNat ≤ 35184372088832 then (thermionkit_VoltsOf.l0 k (List.replicate (mn 8 t338 : Int).toNat 0) 0 s0_0) else (none)) else (none))
theorem thermionkit_VoltsOf.mono_l : ∀ k, (∀ y0 y1 y2, LeO (thermionkit_VoltsOf.l0 k y0 y1 y2) (thermionkit_VoltsOf.l0 (k + 1) y0 y1 y2))
 | 0 => fun _ _ _ r h => by simp [thermionkit_VoltsOf.l0] at h
 | k + 1 => by
  have ih0 := thermionkit_VoltsOf.mono_l k
  ·intro y0 y1 y2
   unfold thermionkit_VoltsOf.l0
   repeat' first
   | (with_reducible exact ih0 _ _ _)
   | (with_reducible exact thermionkit_Greatest.mono _ _ _ _ _)
   | (with_reducible exact LeO.refl _)
   | (with_reducible exact LeO.none _)
   | (with_reducible refine LeO.ite ?_ ?_)
   | (with_reducible refine LeO.bind ?_ (fun _ => ?_))
   | exact ih0 _ _ _
   | exact thermionkit_Greatest.mono _ _ _ _ _
   | exact LeO.none _
   | refine LeO.ite ?_ ?_
   | refine LeO.bind ?_ (fun _ => ?_)
theorem thermionkit_VoltsOf.mono : ∀ a0 a1 a2 a3 a4 k, LeO (thermionkit_VoltsOf.f k a0 a1 a2 a3 a4) (thermionkit_VoltsOf.f (k + 1) a0 a1 a2 a3 a4) := by
 intro a0 a1 a2 a3 a4 k
 have ih0 := thermionkit_VoltsOf.mono_l k
 unfold thermionkit_VoltsOf.f
 repeat' first
   | (with_reducible exact ih0 _ _ _)
   | (with_reducible exact thermionkit_Greatest.mono _ _ _ _ _)
   | (with_reducible exact LeO.refl _)
   | (with_reducible exact LeO.none _)
   | (with_reducible refine LeO.ite ?_ ?_)
   | (with_reducible refine LeO.bind ?_ (fun _ => ?_))
   | exact ih0 _ _ _
   | exact thermionkit_Greatest.mono _ _ _ _ _
   | exact LeO.none _
   | refine LeO.ite ?_ ?_
   | refine LeO.bind ?_ (fun _ => ?_)
def thermionkit_Mod.f (a0 : Int) (a1 : Int) : Option (Int) := if a1 < 1 then (some 0) else (if a1 = 0 then (none) else (if (Int.tmod a0 a1) < 0 then (some (wrap64 ((Int.tmod a0 a1) + a1))) else (some (Int.tmod a0 a1))))
set_option maxHeartbeats 8000000 in
set_option maxRecDepth 100000 in
theorem thermionkit_Mod.calls (a0 : Int) (a1 : Int) (r : Int) (w : World) (h : thermionkit_Mod.f a0 a1 = some r) :
  Calls Try.prog 28 #[.int .i64 a0, .int .i64 a1] w fun e w' => e = .returned (.int .i64 r) ∧ Drawn0 w w' := by
 have H : (if a1 < 1 then (some 0) else (if a1 = 0 then (none) else (if (Int.tmod a0 a1) < 0 then (some (wrap64 ((Int.tmod a0 a1) + a1))) else (some (Int.tmod a0 a1))))) = some r := h
 clear h
 by_cases c3 : a1 < 1
 ·rw [if_pos c3] at H
  have c3b0 := decide_eq_true c3
  clear c3
  obtain rfl := Option.some.inj H
  go_enter Try.func28, Try.ntmps28
  go_wp2
  go_ret
  exact ⟨by first | rfl | (simp; done) | (simp [*]; done), by repeat (first | exact Drawn0.refl _ | apply Drawn0.step)⟩
 ·rw [if_neg c3] at H
  have c3b0 := decide_eq_false c3
  clear c3
  by_cases c4 : a1 = 0
  ·rw [if_pos c4] at H
   exact absurd H (by simp)
  ·rw [if_neg c4] at H
   have c4b0 : (a1 == 0) = false := beq_eq_false_iff_ne.mpr c4
   have c4b1 : (a1 != 0) = true := bne_iff_ne.mpr c4
   by_cases c5 : (Int.tmod a0 a1) < 0
   ·rw [if_pos c5] at H
    have c5b0 := decide_eq_true c5
    clear c5
    obtain rfl := Option.some.inj H
    go_enter Try.func28, Try.ntmps28
    go_wp2
    go_ret
    exact ⟨by first | rfl | (simp; done) | (simp [*]; done), by repeat (first | exact Drawn0.refl _ | apply Drawn0.step)⟩
   ·rw [if_neg c5] at H
    have c5b0 := decide_eq_false c5
    clear c5
    obtain rfl := Option.some.inj H
    go_enter Try.func28, Try.ntmps28
    go_wp2
    go_ret
    exact ⟨by first | rfl | (simp; done) | (simp [*]; done), by repeat (first | exact Drawn0.refl _ | apply Drawn0.step)⟩
def thermionkit_Same.l0 : Nat → List Int → List Int → Int → Option (Bool)
 | 0, _, _, _ => none
 | k + 1, x0, x1, x5 => if x5 < (x0.length : Int) then (if 0 ≤ x5 then (if x5 < (x1.length : Int) then (if (rd x0 x5) = (rd x1 x5) then (thermionkit_Same.l0 k x0 x1 (wrap64 (x5 + 1))) else (some false)) else (none)) else (none)) else (some true)
def thermionkit_Same.f (k : Nat) (l0 : List Int) (l1 : List Int) : Option (Bool) := if (l0.length : Int) = (l1.length : Int) then (thermionkit_Same.l0 k l0 l1 0) else (some false)
theorem thermionkit_Same.mono_l : ∀ k, (∀ y0 y1 y2, LeO (thermionkit_Same.l0 k y0 y1 y2) (thermionkit_Same.l0 (k + 1) y0 y1 y2))
 | 0 => fun _ _ _ r h => by simp [thermionkit_Same.l0] at h
 | k + 1 => by
  have ih0 := thermionkit_Same.mono_l k
  ·intro y0 y1 y2
   unfold thermionkit_Same.l0
   repeat' first
   | (with_reducible exact ih0 _ _ _)
   | (with_reducible exact LeO.refl _)
   | (with_reducible exact LeO.none _)
   | (with_reducible refine LeO.ite ?_ ?_)
   | (with_reducible refine LeO.bind ?_ (fun _ => ?_))
   | exact ih0 _ _ _
   | exact LeO.none _
   | refine LeO.ite ?_ ?_
   | refine LeO.bind ?_ (fun _ => ?_)
theorem thermionkit_Same.mono : ∀ a0 a1 k, LeO (thermionkit_Same.f k a0 a1) (thermionkit_Same.f (k + 1) a0 a1) := by
 intro a0 a1 k
 have ih0 := thermionkit_Same.mono_l k
 unfold thermionkit_Same.f
 repeat' first
   | (with_reducible exact ih0 _ _ _)
   | (with_reducible exact LeO.refl _)
   | (with_reducible exact LeO.none _)
   | (with_reducible refine LeO.ite ?_ ?_)
   | (with_reducible refine LeO.bind ?_ (fun _ => ?_))
   | exact ih0 _ _ _
   | exact LeO.none _
   | refine LeO.ite ?_ ?_
   | refine LeO.bind ?_ (fun _ => ?_)
set_option maxHeartbeats 8000000 in
set_option maxRecDepth 100000 in
theorem thermionkit_Same.calls (k : Nat) (A0 : Option Addr) (c0 : Nat) (l0 : List Int) (A1 : Option Addr) (c1 : Nat) (l1 : List Int) (r : Bool) (w : World) (hr0 : Kd.C (Kd.int .i64) w A0 l0.length l0) (hc0 : l0.length ≤ c0) (hr1 : Kd.C (Kd.int .i64) w A1 l1.length l1) (hc1 : l1.length ≤ c1) (h : thermionkit_Same.f k l0 l1 = some r) :
  Calls Try.prog 43 #[.slice A0 l0.length c0, .slice A1 l1.length c1] w fun e w' => e = .returned (.bool r) ∧ Drawn0 w w' := by
 have HR0 := Aside0.mk hr0
 have HC0 := Aside0.mk hc0
 clear hr0 hc0
 have HR1 := Aside0.mk hr1
 have HC1 := Aside0.mk hc1
 clear hr1 hc1
 have H : (if (l0.length : Int) = (l1.length : Int) then (thermionkit_Same.l0 k l0 l1 0) else (some false)) = some r := h
 clear h
 by_cases c3 : (l0.length : Int) = (l1.length : Int)
 ·rw [if_pos c3] at H
  have c3b0 : ((l0.length : Int) == (l1.length : Int)) = true := beq_iff_eq.mpr c3
  have c3b1 : ((l0.length : Int) != (l1.length : Int)) = false := bne_eq_false_iff_eq.mpr c3
  have c3b2 : (l0.length == l1.length) = true := by first | simpa using c3 | (simp at c3 ⊢; omega)
  clear c3
  have H' := Aside0.mk H
  clear H
  go_enter Try.func43, Try.ntmps43
  go_wp2
  repeat (go_quiet (fail); try go_wp2)
  go_loopg [5] k (fun kq v5 w' => ∃ (x5_1 : Int), v5 = .int .i64 x5_1 ∧ Aside0 (thermionkit_Same.l0 kq l0 l1 x5_1 = some r) ∧ Aside0 (kq ≤ k) ∧ Drawn0 w w')
  case atStart => exact ⟨(0), (by first | rfl | (simp; done) | (simp [*]; done)), H', ⟨Nat.le_refl _⟩, by repeat (first | exact Drawn0.refl _ | apply Drawn0.step)⟩
  case round =>
   clear H'
   try clear c1
   try clear p2
   try clear c3
   try clear c3b0
   try clear c3b1
   try clear c3b2
   obtain ⟨x5_1, rfl, HA, HK1, ⟨m1, rfl⟩⟩ := hrel
   cases gk with
   | zero => exact absurd HA.out (by simp [thermionkit_Same.l0])
   | succ k1 =>
    have H := HA.out
    clear HA
    simp only [thermionkit_Same.l0] at H
    by_cases c4 : x5_1 < (l0.length : Int)
    ·rw [if_pos c4] at H
     have c4b0 := decide_eq_true c4
     clear c4
     by_cases c5 : 0 ≤ x5_1
     ·rw [if_pos c5] at H
      have c5b0 := decide_eq_true c5
      clear c5
      by_cases c6 : x5_1 < (l1.length : Int)
      ·rw [if_pos c6] at H
       have c6b0 := decide_eq_true c6
       clear c6
       by_cases c7 : (rd l0 x5_1) = (rd l1 x5_1)
       ·rw [if_pos c7] at H
        have c7b0 : ((rd l0 x5_1) == (rd l1 x5_1)) = true := beq_iff_eq.mpr c7
        have c7b1 : ((rd l0 x5_1) != (rd l1 x5_1)) = false := bne_eq_false_iff_eq.mpr c7
        clear c7
        have H' := Aside0.mk H
        clear H
        have p117 : 0 ≤ (x5_1 : Int) := of_decide_eq_true (by first | (with_reducible assumption) | assumption)
        have q117 : x5_1 < (l0.length : Int) := of_decide_eq_true (by first | (with_reducible assumption) | assumption)
        obtain ⟨ad117, e117, hx117_0⟩ := Kd.at_int HR0.out x5_1 p117 q117
        cases e117
        replace p117 := eq_true p117
        replace q117 := eq_true q117
        have p118 : 0 ≤ (x5_1 : Int) := of_decide_eq_true (by first | (with_reducible assumption) | assumption)
        have q118 : x5_1 < (l1.length : Int) := of_decide_eq_true (by first | (with_reducible assumption) | assumption)
        obtain ⟨ad118, e118, hx118_0⟩ := Kd.at_int HR1.out x5_1 p118 q118
        cases e118
        replace p118 := eq_true p118
        replace q118 := eq_true q118
        go_wp2
        repeat (go_quiet (fail); try go_wp2)
        go_roundg k1
        case measure => have := HK1.out; omega
        case rel => exact ⟨(wrap64 (x5_1 + 1)), (by first | rfl | (simp; done) | (simp [*]; done)), H', ⟨by have := HK1.out; omega⟩, by repeat (first | exact Drawn0.refl _ | apply Drawn0.step)⟩
       ·rw [if_neg c7] at H
        have c7b0 : ((rd l0 x5_1) == (rd l1 x5_1)) = false := beq_eq_false_iff_ne.mpr c7
        have c7b1 : ((rd l0 x5_1) != (rd l1 x5_1)) = true := bne_iff_ne.mpr c7
        obtain rfl := Option.some.inj H
        have p117 : 0 ≤ (x5_1 : Int) := of_decide_eq_true (by first | (with_reducible assumption) | assumption)
        have q117 : x5_1 < (l0.length : Int) := of_decide_eq_true (by first | (with_reducible assumption) | assumption)
        obtain ⟨ad117, e117, hx117_0⟩ := Kd.at_int HR0.out x5_1 p117 q117
        cases e117
        replace p117 := eq_true p117
        replace q117 := eq_true q117
        have p118 : 0 ≤ (x5_1 : Int) := of_decide_eq_true (by first | (with_reducible assumption) | assumption)
        have q118 : x5_1 < (l1.length : Int) := of_decide_eq_true (by first | (with_reducible assumption) | assumption)
        obtain ⟨ad118, e118, hx118_0⟩ := Kd.at_int HR1.out x5_1 p118 q118
        cases e118
        replace p118 := eq_true p118
        replace q118 := eq_true q118
        go_wp2
        repeat (go_quiet (fail); try go_wp2)
        go_ret
        exact ⟨by first | rfl | (simp; done) | (simp [*]; done), by repeat (first | exact Drawn0.refl _ | apply Drawn0.step)⟩
      ·rw [if_neg c6] at H
       exact absurd H (by simp)
     ·rw [if_neg c5] at H
      exact absurd H (by simp)
    ·rw [if_neg c4] at H
     have c4b0 := decide_eq_false c4
     clear c4
     obtain rfl := Option.some.inj H
     go_wp2
     repeat (go_quiet (fail); try go_wp2)
     go_ret
     exact ⟨by first | rfl | (simp; done) | (simp [*]; done), by repeat (first | exact Drawn0.refl _ | apply Drawn0.step)⟩
 ·rw [if_neg c3] at H
  have c3b0 : ((l0.length : Int) == (l1.length : Int)) = false := beq_eq_false_iff_ne.mpr c3
  have c3b1 : ((l0.length : Int) != (l1.length : Int)) = true := bne_iff_ne.mpr c3
  have c3b2 : (l0.length == l1.length) = false := by first | simpa using c3 | (simp at c3 ⊢; omega)
  obtain rfl := Option.some.inj H
  go_enter Try.func43, Try.ntmps43
  go_wp2
  repeat (go_quiet (fail); try go_wp2)
  go_ret
  exact ⟨by first | rfl | (simp; done) | (simp [*]; done), by repeat (first | exact Drawn0.refl _ | apply Drawn0.step)⟩

end Go.Proofs.Ytndkkjpgnmahbaa.Print
end

section
namespace Go.Proofs.Ytndkkjpgnmahbaa.Print
open Go.RowKit Go.Proofs.YtndkkjpgnmahbaaW.PrintWords Go.Proofs.YtndkkjpgnmahbaaW.PrintLast Go.Proofs.YtndkkjpgnmahbaaW.PrintMore Go.Proofs.Field
set_option linter.unusedVariables false
theorem mx_max (x y : Int) : mx x y = max x y := by unfold mx; split <;> omega
theorem greatest_go (W H : Int) (R : Bool) (C : List Int) (hl : C.length ≤ 1000000) : ∀ (d i : Nat) (x : Int), i + d = C.length → thermionkit_Greatest.l0 (d + 1) x (i : Int) W H R C = some ((C.drop i).foldl max x)
  | 0, i, x, hi => by
    rw [thermionkit_Greatest.l0, if_neg (by omega), List.drop_eq_nil_of_le (by omega)]
    rfl
  | d + 1, i, x, hi => by
    have hil : i < C.length := by omega
    have hw : wrap64 ((i : Int) + 1) = ((i + 1 : Nat) : Int) := by rw [IntWalk.wrap64_in _ (by omega)]; omega
    rw [thermionkit_Greatest.l0, if_pos (by omega), if_pos (by omega), hw, greatest_go W H R C hl d (i + 1) _ (by omega), List.drop_eq_getElem_cons hil, List.foldl_cons, mx_max, rd_natc C i hil]
theorem foldl_max_zero {C : List Int} (h : ∀ e, e ∈ C → 0 ≤ e) (hne : C ≠ []) : C.foldl max 0 = maxOf C := by
  cases C with
  | nil => exact absurd rfl hne
  | cons x l =>
    rw [List.foldl_cons]
    have := h x List.mem_cons_self
    rw [show max 0 x = x by omega]
    rfl
theorem greatest_eq (W H : Int) (R : Bool) {C : List Int} (hl : C.length ≤ 1000000) (h : ∀ e, e ∈ C → 0 ≤ e) (hne : C ≠ []) : thermionkit_Greatest.f (C.length + 1) W H R C = some (maxOf C) := by
  have h1 := greatest_go W H R C hl C.length 0 0 (by omega)
  rw [List.drop_zero, foldl_max_zero h hne] at h1
  exact h1
def OkV (x : List Int) : Prop := ∀ v, v ∈ x → -1000000 ≤ v ∧ v ≤ 1000000
theorem obind {α β : Type} {o : Option α} {a : α} {f : α → Option β} (h : o = some a) : o.bind f = f a := by rw [h]; rfl
theorem volts_step (d i : Nat) (x : List Int) (s r1 s1 r2 s2 r3 s3 : Int) (L : List Int) (hL : ([0, r1, r2, 1000000] : List Int) = L) (hLl : (L.length : Int) = 4) (c1 : 0 ≤ r3) (c2 : r3 < 4) (h : i < x.length) 
   (h1 : thermionkit_Dice_Between.f s (-100) 100 = some (r1, s1)) (h2 : thermionkit_Dice_Between.f s1 (-1000000) 1000000 = some (r2, s2)) (h3 : thermionkit_Dice_Upto.f s2 4 = some (r3, s3)) (hw : wrap64 ((i : Int) + 1) = ((i + 1 : Nat) : Int)) :
   thermionkit_VoltsOf.l0 (d + 1) x (i : Int) s = thermionkit_VoltsOf.l0 d (x.set i (rd L r3)) ((i + 1 : Nat) : Int) s3 := by
    rw [thermionkit_VoltsOf.l0, if_pos (by omega), obind h1, obind h2, obind (show some _ = some L by rw [hL]), obind h3]
    rw [if_pos c1, if_pos (by omega), if_pos (by omega), Int.toNat_natCast, hw]
theorem volts_go : ∀ (d i : Nat) (x : List Int) (s : Int), i + d = x.length → x.length ≤ 100 → OkV x → ∃ x' s', thermionkit_VoltsOf.l0 (d + 1) x (i : Int) s = some (x', s') ∧ x'.length = x.length ∧ OkV x' := by
  intro d
  induction d with
  | zero =>
    intro i x s hi hl hx
    refine ⟨x, s, ?_, rfl, hx⟩
    rw [thermionkit_VoltsOf.l0, if_neg (by omega)]
  | succ d ih =>
    intro i x s hi hl hx
    have hw : wrap64 ((i : Int) + 1) = ((i + 1 : Nat) : Int) := by rw [IntWalk.wrap64_in _ (by omega)]; omega
    obtain ⟨r1, h1, a1, a2⟩ := between_eq s (-100) 100 (by omega) (by omega) (by omega)
    obtain ⟨s1, e1⟩ : ∃ s1, nextWord s = s1 := ⟨_, rfl⟩
    rw [e1] at h1
    obtain ⟨r2, h2, b1, b2⟩ := between_eq s1 (-1000000) 1000000 (by omega) (by omega) (by omega)
    obtain ⟨s2, e2⟩ : ∃ s2, nextWord s1 = s2 := ⟨_, rfl⟩
    rw [e2] at h2
    obtain ⟨r3, h3, c1, c2⟩ := upto_eq s2 4 (by omega) (by omega)
    obtain ⟨s3, e3⟩ : ∃ s3, nextWord s2 = s3 := ⟨_, rfl⟩
    rw [e3] at h3
    clear e1 e2 e3
    obtain ⟨L, hL⟩ : ∃ L : List Int, ([0, r1, r2, 1000000] : List Int) = L := ⟨_, rfl⟩
    have hLl : (L.length : Int) = 4 := by rw [← hL]; rfl
    have hv : -1000000 ≤ rd L r3 ∧ rd L r3 ≤ 1000000 := by
      rw [← hL]
      rcases (show r3 = 0 ∨ r3 = 1 ∨ r3 = 2 ∨ r3 = 3 by omega) with rfl | rfl | rfl | rfl
      · exact ⟨by show (-1000000 : Int) ≤ 0; omega, by show (0 : Int) ≤ 1000000; omega⟩
      · exact ⟨by show -1000000 ≤ r1; omega, by show r1 ≤ 1000000; omega⟩
      · exact ⟨b1, b2⟩
      · exact ⟨by show (-1000000 : Int) ≤ 1000000; omega, by show (1000000 : Int) ≤ 1000000; omega⟩
    obtain ⟨x', s', e, e1, e2⟩ := ih (i + 1) (x.set i (rd L r3)) s3 (by rw [List.length_set]; omega) (by rw [List.length_set]; exact hl) (fun v hv' => by
      rcases mem_set hv' with rfl | hv'
      · exact hv
      · exact hx v hv')
    refine ⟨x', s', ?_, by rw [e1, List.length_set], e2⟩
    rw [volts_step (d + 1) i x s r1 s1 r2 s2 r3 s3 L hL hLl c1 c2 (by omega) h1 h2 h3 hw]
    exact e
theorem volts_fine {s W H : Int} {R : Bool} {C : List Int} (hC : checkErr W H R C = 0) (h3 : ∀ e, e ∈ C → 0 ≤ e ∧ e ≤ 3) (hl : C.length ≤ 256) : ∃ k volts s', (∀ k', k ≤ k' → thermionkit_VoltsOf.f k' s W H R C = some (volts, s')) ∧ voltErr W H R C volts = 0 ∧ volts.length ≤ 3 := by
  have hne := check_ne hC
  have hmx := h3 _ (maxOf_mem hne)
  obtain ⟨m, hm⟩ : ∃ m : Nat, maxOf C = m := ⟨(maxOf C).toNat, by omega⟩
  obtain ⟨volts, s', e, e1, e2⟩ := volts_go m 0 (List.replicate m 0) s (by simp) (by rw [List.length_replicate]; omega) (fun v hv => by
    have := List.eq_of_mem_replicate hv
    subst this
    omega)
  rw [List.length_replicate] at e1
  have hg := greatest_eq W H R (C := C) (by omega) (fun x hx => (h3 x hx).1) hne
  have hf : thermionkit_VoltsOf.f (C.length + 100) s W H R C = some (volts, s') := by
    unfold thermionkit_VoltsOf.f
    rw [obind (at_rounds (fun k => thermionkit_Greatest.mono W H R C k) (show C.length + 1 ≤ C.length + 100 by omega) hg)]
    have hmn : mn 8 (maxOf C) = (m : Int) := by rw [hm]; unfold mn; split <;> omega
    rw [hmn, if_pos (by omega), Int.toNat_natCast, if_pos (by omega)]
    exact at_rounds (g := fun k => thermionkit_VoltsOf.l0 k (List.replicate m 0) 0 s) (fun k => thermionkit_VoltsOf.mono_l k _ _ _) (show m + 1 ≤ C.length + 100 by omega) e
  refine ⟨C.length + 100, volts, s', fun k' hk => at_rounds (fun k => thermionkit_VoltsOf.mono s W H R C k) hk hf, ?_, by omega⟩
  unfold voltErr
  rw [if_neg (by rw [hC]; simp), if_neg (by rw [e1, hm]; simp), if_neg (by
    rintro ⟨v, hv, hb⟩
    have := e2 v hv
    omega)]
end Go.Proofs.Ytndkkjpgnmahbaa.Print
end

section
namespace Go.Proofs.Ytndkkjpgnmahbaa.Print
open Go.RowKit Go.Proofs.YtndkkjpgnmahbaaW.PrintWords Go.Proofs.YtndkkjpgnmahbaaW.PrintLast Go.Proofs.YtndkkjpgnmahbaaW.PrintMore
attribute [local go_sem] max2_int min2_int max_two min_two max_three min_three max_four min_four
set_option linter.unusedVariables false
set_option linter.unusedSimpArgs false
theorem eqA42 (d : Nat) (w : World) (x0 y0 : Int) (x1 y1 : Int) :
  (Op.equalIn (d + 2) 42 (.agg #[.int .i64 x0, .int .i64 x1]) (.agg #[.int .i64 y0, .int .i64 y1])).run Try.prog w = .ok (x0 == y0 && (x1 == y1)) w := by
 refine eqA_of Try.underlying42 (by kernel_rfl) ?_
 refine eqf_cons (by rfl) (by go_simp; rfl) (by go_simp; rfl) (by go_simp) ?_
 exact eqf_last (by rfl) (by go_simp; rfl) (by go_simp; rfl) (by go_simp)
def thermionlaw01_line.f  : Option (Int × Int × Bool × List Int) := some (5, 1, false, (([1, 0, 0, 0, 2] : List Int)))
set_option maxHeartbeats 8000000 in
set_option maxRecDepth 100000 in
theorem thermionlaw01_line.calls  (r1 : Int) (r2 : Int) (r3 : Bool) (r4 : List Int) (w : World) (h : thermionlaw01_line.f  = some (r1, r2, r3, r4)) :
  Calls Try.prog 62 #[] w fun e w' => ∃ v3_ : Value, e = .returned (.agg #[.int .i64 r1, .int .i64 r2, .bool r3, v3_]) ∧ Kd.R (Kd.int .i64) 3 w' w.heap.size (fun _ => True) v3_ r4 ∧ Below w.heap.size w w' := by
 have hu24 := Try.underlying24
 have HB := Aside0.mk (Below.refl w.heap.size w)
 have H : (some (5, 1, false, (([1, 0, 0, 0, 2] : List Int)))) = some (r1, r2, r3, r4) := h
 clear h
 obtain ⟨y120, hy120⟩ : ∃ y_ : List Int, y_ = (([1, 0, 0, 0, 2] : List Int)) := ⟨_, rfl⟩
 replace H : (some (5, 1, false, y120)) = some (r1, r2, r3, r4) := by first | (rw [hy120]; with_reducible exact H) | (have H2_ := (Option.bind_some _ _).symm.trans H; rw [hy120]; with_reducible exact H2_) | (have H2_ := (Option.bind_some _ _).symm.trans H; with_reducible exact H2_) | with_reducible exact H | (rw [hy120]; exact H) | exact H
 have Ny120 := Aside0.mk hy120
 clear hy120
 simp only [Option.some.injEq, Prod.mk.injEq] at H
 obtain ⟨rfl, rfl, rfl, rfl⟩ := H
 go_enter Try.func62, Try.ntmps62
 go_wp2_with (first | ((with_reducible refine gate_dst (N := 0) rfl ?_); refine box_event ?hg (N := 0) ?hd (cs := #[.int .i64 0, .int .i64 0, .bool false, .slice none 0 0]) (t := 24) ?hr ?_; (case hd => rfl); (case hg => rfl); (case hr => first | (go_simp; done) | (go_simp; rfl)); intro gb119 hg w1 hbox hb; have n0_ := Aside0.mk (below_step (by repeat (first | (with_reducible first | exact HB.out | apply below_alloc | apply pw_below_drewN | apply below_drew1) | exact HB.out)) hb); have n1_ := Aside0.mk (hbox); have n2_ := Aside0.mk ((by rw [hg]; exact (below_size (by repeat (first | (with_reducible first | exact HB.out | apply below_alloc | apply pw_below_drewN | apply below_drew1) | exact HB.out))) : w.heap.size ≤ gb119)); have n3_ := Aside0.mk ((by rw [hg]; exact (below_size (by repeat (first | (with_reducible first | exact HB.out | apply below_alloc | apply pw_below_drewN | apply below_drew1) | exact HB.out))) : w.heap.size ≤ gb119)); clear HB; have HB := n0_; have BK119 := n1_; have GW119 := n2_; have GE119 := n3_; clear n0_ n1_ n2_ n3_; clear hb hbox hg) | ((with_reducible refine gate_dst (N := 1) rfl ?_); refine Kd.R_lit (Kd.int .i64) _ 3 ?hg (N := 1) ?hd (xs := ([1, 0, 0, 0, 2] : List Int)) (inner := [.int .i64 1, .int .i64 0, .int .i64 0, .int .i64 0, .int .i64 2]) (ok := fun _ => True) (okp := fun _ => True) ?hr ?hp (fun _ hk => hk) trivial (Below.refl _ _) (Nat.le_refl _) (by simp) ?_; (case hd => rfl); (case hg => rfl); (case hr => first | (go_simp; done) | (go_simp; rfl)); (case hp => exact (Reps.one (show Kd.M (Kd.int .i64) _ _ _ 1 [.int .i64 1] from rfl) (Reps.one (show Kd.M (Kd.int .i64) _ _ _ 0 [.int .i64 0] from rfl) (Reps.one (show Kd.M (Kd.int .i64) _ _ _ 0 [.int .i64 0] from rfl) (Reps.one (show Kd.M (Kd.int .i64) _ _ _ 0 [.int .i64 0] from rfl) (Reps.one (show Kd.M (Kd.int .i64) _ _ _ 2 [.int .i64 2] from rfl) (Reps.none _ _))))))); intro v121 w2 ho3 hb hg_ hnew_; clear hg_ hnew_; (first | rw [← Ny120.out] at ho3 | (simp only [Int.reduceToNat] at ho3; rw [← Ny120.out] at ho3)); have n0_ := Aside0.mk (Kd.R_lower ho3 (below_size (by repeat (first | (with_reducible first | exact HB.out | apply below_alloc | apply pw_below_drewN | apply below_drew1 | refine below_set ?_ GE119.out) | exact HB.out)))); have n1_ := Aside0.mk (blk_below (g := gb119) (o := .cells #[.int .i64 0, .int .i64 0, .bool false, .slice none 0 0] 24 (0, 0)) (by (with_reducible repeat (first | refine blk_drewN ?_ _ | refine blk_drew ?_ | refine blk_alloc ?_ _)); exact BK119.out) hb); have n2_ := Aside0.mk (below_step (by repeat (first | (with_reducible first | exact HB.out | apply below_alloc | apply pw_below_drewN | apply below_drew1 | refine below_set ?_ GE119.out) | exact HB.out)) hb); clear BK119; clear HB; have HO122 := n0_; have BK119 := n1_; have HB := n2_; clear n0_ n1_ n2_; clear hb ho3; obtain ⟨Ao4, co4, eo4⟩ := Kd.R_slice HO122.out; subst eo4; have hcz5_0 : w2.cell? ⟨gb119, 0, none⟩ = some (.int .i64 0) := (blk_cell BK119.out 0).trans rfl; have hcz5_1 : w2.cell? ⟨gb119, 1, none⟩ = some (.int .i64 0) := (blk_cell BK119.out 1).trans rfl; have hcz5_2 : w2.cell? ⟨gb119, 2, none⟩ = some (.bool false) := (blk_cell BK119.out 2).trans rfl; have hcz5_3 : w2.cell? ⟨gb119, 3, none⟩ = some (.slice none 0 0) := (blk_cell BK119.out 3).trans rfl; have hfz5_0 := blk_frozen BK119.out 0; have hfz5_1 := blk_frozen BK119.out 1; have hfz5_2 := blk_frozen BK119.out 2; have hfz5_3 := blk_frozen BK119.out 3))
 refine bodyPost_ret (results_cell_row rfl _ _ gb119 24 #[.int .i64 5, .int .i64 1, .bool false, .slice Ao4 y120.length co4] (0, 0) _ rfl (by (with_reducible repeat (first | refine blk_drewN ?_ _ | refine blk_drew ?_ | refine blk_alloc ?_ _)); refine blk_put (cs := #[.int .i64 5, .int .i64 1, .bool false, .slice none 0 0]) ?_ 3 _ rfl; (with_reducible repeat (first | refine blk_drewN ?_ _ | refine blk_drew ?_ | refine blk_alloc ?_ _)); refine blk_put (cs := #[.int .i64 5, .int .i64 1, .bool false, .slice none 0 0]) ?_ 2 _ rfl; (with_reducible repeat (first | refine blk_drewN ?_ _ | refine blk_drew ?_ | refine blk_alloc ?_ _)); refine blk_put (cs := #[.int .i64 5, .int .i64 0, .bool false, .slice none 0 0]) ?_ 1 _ rfl; (with_reducible repeat (first | refine blk_drewN ?_ _ | refine blk_drew ?_ | refine blk_alloc ?_ _)); refine blk_put (cs := #[.int .i64 0, .int .i64 0, .bool false, .slice none 0 0]) ?_ 0 _ rfl; (with_reducible repeat (first | refine blk_drewN ?_ _ | refine blk_drew ?_ | refine blk_alloc ?_ _)); exact BK119.out) Try.underlying24 rfl (by kernel_rfl)) rfl ?_
 exact ⟨_, by first | rfl | (simp [errW_none, errW_some] <;> rfl) | (simp [*, errW_none, errW_some] <;> rfl), by (with_reducible repeat (first | apply Kd.R_alloc | apply Kd.R_drewN | apply Kd.R_drew)); exact Kd.R_mono (Kd.R_far (p := ⟨gb119, 3, none⟩) (Kd.R_far (p := ⟨gb119, 2, none⟩) (Kd.R_far (p := ⟨gb119, 1, none⟩) (Kd.R_far (p := ⟨gb119, 0, none⟩) (Kd.R_types HO122.out BK119.out (by decide)) (fun _ hk => hk.2) (.int .i64 5)) (fun _ hk => hk.2) (.int .i64 1)) (fun _ hk => hk.2) (.bool false)) (fun _ hk => hk.2) (.slice Ao4 y120.length co4)) (fun _ hk => trivial), by repeat (first | (with_reducible first | exact HB.out | apply below_alloc | apply pw_below_drewN | apply below_drew1 | refine below_set ?_ GE119.out) | exact HB.out)⟩
end Go.Proofs.Ytndkkjpgnmahbaa.Print
end

section
namespace Go.Proofs.Ytndkkjpgnmahbaa.Print
open Go.RowKit Go.Proofs.YtndkkjpgnmahbaaW.PrintWords Go.Proofs.YtndkkjpgnmahbaaW.PrintLast Go.Proofs.YtndkkjpgnmahbaaW.PrintMore Go.Proofs.Ytndkkjpgnmahbaa.H Go.Proofs.Field
attribute [local go_sem] max2_int min2_int max_two min_two max_three min_three max_four min_four
set_option linter.unusedVariables false
set_option linter.unusedSimpArgs false
def thermionlaw01_ring.f : Option (Int × Int × Bool × List Int) := (thermionlaw01_line.f).bind fun bt124 => (some (bt124.1, bt124.2.1, true, bt124.2.2.2))
set_option maxHeartbeats 1600000 in
set_option maxRecDepth 100000 in
theorem thermionlaw01_ring.calls (r1 : Int) (r2 : Int) (r3 : Bool) (r4 : List Int) (w : World) (h : thermionlaw01_ring.f = some (r1, r2, r3, r4)) :
 Calls Try.prog 64 #[] w fun e w' => ∃ v3_ : Value, e = .returned (.agg #[.int .i64 r1, .int .i64 r2, .bool r3, v3_]) ∧ Kd.R (Kd.int .i64) 3 w' w.heap.size (fun _ => True) v3_ r4 ∧ Below w.heap.size w w' := by
 have HM := Aside0.mk (Mem.start w)
 have hu24 := Try.underlying24
 obtain ⟨⟨t1, t2, t3, t4⟩, hl, hh⟩ := Option.bind_eq_some_iff.1 h
 simp only [Option.some.injEq, Prod.mk.injEq] at hh
 obtain ⟨rfl, rfl, rfl, rfl⟩ := hh
 have HL := Aside0.mk hl
 clear h hl
 have HCL : Aside0 (∀ V : World, Calls Try.prog 62 #[] V fun e w' => ∃ v3_ : Value, e = .returned (.agg #[.int .i64 t1, .int .i64 t2, .bool t3, v3_]) ∧ Kd.R (Kd.int .i64) 3 w' V.heap.size (fun _ => True) v3_ t4 ∧ Below V.heap.size V w') := ⟨fun V => thermionlaw01_line.calls t1 t2 t3 t4 V HL.out⟩
 clear HL
 go_enter Try.func64, Try.ntmps64
 go_upto_region 3 with (first
  | ((with_reducible refine gate_dst (N := 0) rfl ?_); refine ev_new HM.out rfl 24 rfl info24 ?_; intro g0 w1 hm1 hq1; clear hq1; have HM1 := Aside0.mk hm1; clear hm1 HM)
  | (go_at_call 62; refine (HCL.out _).mono ?_; rintro e w2 ⟨v3, rfl, hv, hb⟩; obtain ⟨A7, c7, rfl⟩ := Kd.R_slice hv; have HV := Aside0.mk (Kd.R_lower hv HM1.out.below.size); have HM2 := Aside0.mk (HM1.out.step hb); clear hv hb HM1)
  | ((with_reducible refine gate_dst (N := 1) rfl ?_); refine ev_new HM2.out rfl 24 rfl info24 ?_; intro g1 w3 hm3 hq3; have HV2 := Aside0.mk (Kd.R_below HV.out hq3); clear hq3 HV; have HM3 := Aside0.mk hm3; clear hm3 HM2)
  | ((with_reducible refine gate_store (t := 24) (p := 1) rfl ?_); refine ev_storeB HM3.out.head rfl 24 (.tmp 1) (.tmp 2) rfl rfl (cs := #[.int .i64 t1, .int .i64 t2, .bool t3, .slice A7 t4.length c7]) rfl size24 rfl rfl (by simp [Value.oneCell']) ?_; have HM4 := Aside0.mk (HM3.out.row #[.int .i64 t1, .int .i64 t2, .bool t3, .slice A7 t4.length c7]); have HV3 := Aside0.mk (Kd.R_mono (Kd.R_step (Kd.R_types HV2.out HM3.out.head (by decide)) (w1 := w3.setRow g1 #[.int .i64 t1, .int .i64 t2, .bool t3, .slice A7 t4.length c7]) (fun k hk _ => setRow_other _ _ _ _ hk.2)) (fun _ hk => hk.1)); clear HM3 HV2; generalize w3.setRow g1 _ = w4 at HM4 HV3 ⊢; have c2 : w4.cell? ⟨g1, 2, none⟩ = some (.bool t3) := (HM4.out.cell 2).trans rfl; have f2 := HM4.out.frozen 2))
 have HM5 := Aside0.mk (HM4.out.put 2 (.bool true) (cs' := #[.int .i64 t1, .int .i64 t2, .bool true, .slice A7 t4.length c7]) rfl)
 have HV4 := Aside0.mk (Kd.R_set HV3.out HM4.out.head (by decide) 2 (.bool true))
 clear HM4 HV3 c2 f2
 generalize w4.setCell ⟨g1, 2, none⟩ (.bool true) = w5 at HM5 HV4 ⊢
 go_wp2_with (first
  | ((with_reducible refine gate_dst (N := 4) rfl ?_); refine ev_load HM5.out.head rfl 24 (.tmp 1) rfl rfl _ Try.underlying24 rfl size24 rfl ?_)
  | ((with_reducible refine gate_store (t := 24) (p := 0) rfl ?_); refine ev_storeB HM5.out.second rfl 24 (.tmp 0) (.tmp 4) rfl rfl rfl size24 rfl rfl (by simp [Value.oneCell']) ?_))
 (try simp only [Exit.inBlock, Exit.then])
 refine bodyPost_ret (results_cell_row rfl _ _ g0 24 _ (0, 0) _ rfl (setRow_heap _ _ _ _ _ _ HM5.out.second) hu24 rfl (by rw [size24]; rfl)) rfl ⟨_, rfl, Kd.R_mono (Kd.R_step (Kd.R_types HV4.out HM5.out.second (by decide)) (fun k hk _ => setRow_other _ _ _ _ hk.2)) (fun _ _ => trivial), ?_⟩
 have hb := HM5.out.below
 exact ⟨hb.os, hb.tape, hb.output, by rw [size_setRow]; exact hb.size, fun i hi => by rw [setRow_other _ g0 i _ (by have := HM5.out.drop.geh; omega)]; exact hb.block i hi⟩
end Go.Proofs.Ytndkkjpgnmahbaa.Print
end

section
namespace Go.Proofs.Ytndkkjpgnmahbaa.H
open Go.RowKit Go.Proofs.YtndkkjpgnmahbaaW.PrintWords Go.Proofs.YtndkkjpgnmahbaaW.PrintLast Go.Proofs.YtndkkjpgnmahbaaW.PrintMore Go.Proofs.Ytndkkjpgnmahbaa.Print
namespace Mem
variable {w W W1 : World} {l : List (Nat × Array Value × TypeId)} {g g1 g2 : Nat} {cs c1 c2 : Array Value} {t t1 t2 : TypeId}
theorem add (h : Mem w W l) (hb : Below W.heap.size W W1) (hg : W1.heap[g]? = some (.cells cs t (0, 0))) (hge : W.heap.size ≤ g) : Mem w W1 ((g, cs, t) :: l) := by
 have h1 := h.step hb
 refine ⟨h1.below, fun p hp => ?_, fun p hp => ?_, .cons (fun p hp => ?_) h.apart⟩
 ·rcases List.mem_cons.1 hp with rfl | hp
  ·exact hg
  ·exact h1.blk p hp
 ·rcases List.mem_cons.1 hp with rfl | hp
  ·exact Nat.le_trans h.below.size hge
  ·exact h.ge p hp
 ·have := blk_lt (h.blk p hp)
  show g ≠ p.1
  omega
theorem add2 (h : Mem w W l) (hb : Below W.heap.size W W1) (hg1 : W1.heap[g1]? = some (.cells c1 t1 (0, 0))) (hge1 : W.heap.size ≤ g1) (hg2 : W1.heap[g2]? = some (.cells c2 t2 (0, 0))) (hge2 : W.heap.size ≤ g2) (hne : g2 ≠ g1) : Mem w W1 ((g2, c2, t2) :: (g1, c1, t1) :: l) := by
 have h1 := h.add hb hg1 hge1
 refine ⟨h1.below, fun p hp => ?_, fun p hp => ?_, .cons (fun p hp => ?_) h1.apart⟩
 ·rcases List.mem_cons.1 hp with rfl | hp
  ·exact hg2
  ·exact h1.blk p hp
 ·rcases List.mem_cons.1 hp with rfl | hp
  ·exact Nat.le_trans h.below.size hge2
  ·exact h1.ge p hp
 ·rcases List.mem_cons.1 hp with rfl | hp
  ·exact hne
  ·have := blk_lt (h.blk p hp)
   show g2 ≠ p.1
   omega
theorem blk4 {p1 p2 p3 : Nat × Array Value × TypeId} (h : Mem w W (p1 :: p2 :: p3 :: (g, cs, t) :: l)) : W.heap[g]? = some (.cells cs t (0, 0)) := h.blk (g, cs, t) (by simp)
theorem blk5 {p1 p2 p3 p4 : Nat × Array Value × TypeId} (h : Mem w W (p1 :: p2 :: p3 :: p4 :: (g, cs, t) :: l)) : W.heap[g]? = some (.cells cs t (0, 0)) := h.blk (g, cs, t) (by simp)
theorem blk7 {p1 p2 p3 p4 p5 p6 : Nat × Array Value × TypeId} (h : Mem w W (p1 :: p2 :: p3 :: p4 :: p5 :: p6 :: (g, cs, t) :: l)) : W.heap[g]? = some (.cells cs t (0, 0)) := h.blk (g, cs, t) (by simp)
end Mem
end Go.Proofs.Ytndkkjpgnmahbaa.H
namespace Go.Proofs.Ytndkkjpgnmahbaa.Print
open Go.RowKit Go.Proofs.YtndkkjpgnmahbaaW.PrintWords Go.Proofs.YtndkkjpgnmahbaaW.PrintLast Go.Proofs.YtndkkjpgnmahbaaW.PrintMore Go.Proofs.Ytndkkjpgnmahbaa.H Go.Proofs.Field
set_option linter.unusedVariables false
def IsNums (cur : Array Value) (l : List Int) : Prop := l.length ≤ 9223372036854775807 ∧ ∀ i, i < l.length → cur[i]? = some (.int .i64 (fn l i))
theorem R_mem {W : World} {base : Nat} {ok : Nat → Prop} {v : Value} {l : List Int} (h : Kd.R (Kd.int .i64) 3 W base ok v l) (hp : 0 < l.length) :
  ∃ g c cur, v = .slice (some ⟨g, 0, none⟩) l.length c ∧ l.length ≤ c ∧ W.heap[g]? = some (.cells cur 3 (0, 0)) ∧ base ≤ g ∧ ok g ∧ IsNums cur l := by
 obtain ⟨h0, inner, ⟨hl, ho⟩, hr⟩ := h
 rcases ho with ⟨rfl, hn⟩ | ⟨g, c, cur, rfl, hg, hh, hc, hm, hs, ht⟩
 ·omega
 ·refine ⟨g, c, cur, rfl, hc, hh, hg, h0 g rfl, by unfold maxLen at hm; omega, fun i hi => ?_⟩
  have h1 := hr.2 i (fn l i) (by
   unfold fn
   rw [List.getD_eq_getElem?_getD, List.getElem?_eq_getElem hi]
   rfl)
  have h2 : (inner.drop (i * 1)).take 1 = [Value.int .i64 (fn l i)] := h1
  have h3 : inner[i]? = some (Value.int .i64 (fn l i)) := by
   have h4 : ((inner.drop (i * 1)).take 1)[0]? = some (Value.int .i64 (fn l i)) := by rw [h2]; rfl
   rw [List.getElem?_take_of_lt (by omega), List.getElem?_drop] at h4
   simpa using h4
  rw [← ht, List.getElem?_take_of_lt (by show i < l.length * 1; omega), Array.getElem?_toList] at h3
  exact h3
theorem C_mem {W : World} {g : Nat} {cur : Array Value} {l : List Int} {t : TypeId} (hb : W.heap[g]? = some (.cells cur t (0, 0))) (hn : IsNums cur l) : Kd.C (Kd.int .i64) W (some ⟨g, 0, none⟩) l.length l := by
 refine Kd.C_of_reads (d := (0 : Int)) (h1 := fun _ => rfl) ⟨rfl, hn.1, fun _ => ⟨_, rfl, fun j hj => ?_⟩⟩
 have h1 := (blk_cell hb j).trans (hn.2 j hj)
 rw [show (⟨g, 0, none⟩ : Addr).add j = ⟨g, j, none⟩ by unfold Addr.add; split <;> simp_all]
 rw [h1]
 rfl
theorem IsNums.set {cur : Array Value} {l : List Int} (h : IsNums cur l) (i : Nat) (x : Int) : IsNums (cur.setIfInBounds i (.int .i64 x)) (l.set i x) := by
 refine ⟨by rw [List.length_set]; exact h.1, fun j hj => ?_⟩
 rw [List.length_set] at hj
 have h1 := h.2 j hj
 have hs : j < cur.size := (Array.getElem?_eq_some_iff.1 h1).1
 by_cases q : i = j
 ·subst q
  rw [Array.getElem?_setIfInBounds_self_of_lt hs, fn_set hj, if_pos rfl]
 ·rw [Array.getElem?_setIfInBounds_ne q, h1]
  congr 2
  unfold fn
  rw [List.getD_eq_getElem?_getD, List.getD_eq_getElem?_getD, List.getElem?_set_ne q]
theorem two_mem {W W1 : World} {w : World} {l : List (Nat × Array Value × TypeId)} {v0 v1 : Value} {r1 r2 : List Int} (hm : H.Mem w W l) (hb : Below W.heap.size W W1)
  (h1 : Kd.R (Kd.int .i64) 3 W1 W.heap.size (fun k => some k ≠ v1.ownBlock) v0 r1) (h2 : Kd.R (Kd.int .i64) 3 W1 W.heap.size (fun k => some k ≠ v0.ownBlock) v1 r2) (hp1 : 0 < r1.length) (hp2 : 0 < r2.length) :
  ∃ g1 c1 cur1 g2 c2 cur2, v0 = .slice (some ⟨g1, 0, none⟩) r1.length c1 ∧ v1 = .slice (some ⟨g2, 0, none⟩) r2.length c2 ∧ r1.length ≤ c1 ∧ r2.length ≤ c2 ∧ IsNums cur1 r1 ∧ IsNums cur2 r2 ∧ H.Mem w W1 ((g2, cur2, 3) :: (g1, cur1, 3) :: l) := by
 obtain ⟨g1, c1, cur1, rfl, a1, a2, a3, a4, a5⟩ := R_mem h1 hp1
 obtain ⟨g2, c2, cur2, rfl, b1, b2, b3, b4, b5⟩ := R_mem h2 hp2
 exact ⟨g1, c1, cur1, g2, c2, cur2, rfl, rfl, a1, b1, a5, b5, hm.add2 hb a2 a3 b2 b3 (fun e => b4 (by subst e; rfl))⟩
theorem one_mem {W W1 : World} {w : World} {l : List (Nat × Array Value × TypeId)} {v : Value} {ok : Nat → Prop} {r : List Int} (hm : H.Mem w W l) (hb : Below W.heap.size W W1) (h : Kd.R (Kd.int .i64) 3 W1 W.heap.size ok v r) (hp : 0 < r.length) :
  ∃ g c cur, v = .slice (some ⟨g, 0, none⟩) r.length c ∧ r.length ≤ c ∧ IsNums cur r ∧ H.Mem w W1 ((g, cur, 3) :: l) := by
 obtain ⟨g, c, cur, rfl, a1, a2, a3, a4, a5⟩ := R_mem h hp
 exact ⟨g, c, cur, rfl, a1, a5, hm.add hb a2 a3⟩
section
variable {P : Program} {ops : Array Oper} {rest : List Oper} {o : Oper} {a : Act} {Q : Exit → Act → World → Prop} {w W : World} {l : List (Nat × Array Value × TypeId)}
theorem ev_lit (hm : Mem w W l) (hgd : o.guard = none) (inner : List Value) (n : Nat) (e : TypeId)
  (hrun : (execOp a.eval o).run P W = .ok (.value (.slice (some ⟨W.heap.size, 0, none⟩) n n)) (W.alloc (.cells inner.toArray e)))
  (h : ∀ g W1, Mem w W1 ((g, inner.toArray, e) :: l) → Below W.heap.size W W1 → wpList P ops Q rest (a.put o.dst (.slice (some ⟨g, 0, none⟩) n n)) W1) : wpList P ops Q (o :: rest) a W :=
 Kd.event_run hgd hrun (h _ _ (hm.new rfl (blk_new W _) (below_alloc (Below.refl _ _) _)) (below_alloc (Below.refl _ _) _))
end
theorem isnums_map (l : List Int) (h : l.length ≤ 9223372036854775807) : IsNums (l.map (Value.int .i64)).toArray l := by
 refine ⟨h, fun i hi => ?_⟩
 rw [List.getElem?_toArray, List.getElem?_map, List.getElem?_eq_getElem hi]
 unfold fn
 rw [List.getD_eq_getElem?_getD, List.getElem?_eq_getElem hi]
 rfl
end Go.Proofs.Ytndkkjpgnmahbaa.Print
end

section
namespace Go.Proofs.Ytndkkjpgnmahbaa.Print
open Go.RowKit Go.Proofs.YtndkkjpgnmahbaaW.PrintWords Go.Proofs.YtndkkjpgnmahbaaW.PrintLast Go.Proofs.YtndkkjpgnmahbaaW.PrintMore Go.Proofs.Ytndkkjpgnmahbaa.H Go.Proofs.Field
attribute [local go_sem] max2_int min2_int max_two min_two max_three min_three max_four min_four
set_option linter.unusedVariables false
set_option linter.unusedSimpArgs false
attribute [local go_sem high] eqA42
def thermionlaw01_awake.f (k : Nat) : Option (Bool) := some true
theorem awake_solve : field_Solve.f 5 1 false ([1, 0, 0, 0, 2] : List Int) ([0, 100] : List Int) 1 = some (([0, 0, 0, 50, 100] : List Int), ([0, 50, 75, 88, 100] : List Int), 1, false, 0) := by kernel_rfl
theorem awake_charge : field_Charge.f 5 1 false ([1, 0, 0, 0, 2] : List Int) ([0, 100] : List Int) 1 2 = some (12, 50, 0) := by kernel_rfl
theorem awake_weight : field_Weight.f 5 1 true ([1, 0, 0, 0, 2] : List Int) 3 4 = some 8 := by kernel_rfl
theorem awake_same1 : thermionkit_Same.f 10 ([0, 0, 0, 50, 100] : List Int) ([0, 0, 0, 50, 100] : List Int) = some true := by kernel_rfl
theorem awake_same2 : thermionkit_Same.f 10 ([0, 50, 75, 88, 100] : List Int) ([0, 50, 75, 88, 100] : List Int) = some true := by kernel_rfl
set_option maxHeartbeats 3200000 in
set_option maxRecDepth 100000 in
theorem thermionlaw01_awake.calls (k : Nat)  (r : Bool) (w : World) (h : thermionlaw01_awake.f k  = some r) :
 Calls Try.prog 20 #[] w fun e w' => e = .returned (.bool r) ∧ Below w.heap.size w w' := by
 obtain rfl : true = r := Option.some.inj h
 have HM := Aside0.mk (Mem.start w)
 have hu24 := Try.underlying24
 have hu22 := Try.underlying22
 have hu33 := Try.underlying33
 have hu42 := Try.underlying42
 clear h
 go_enter Try.func20, Try.ntmps20
 go_wp2_with (first
  | (go_at_call 62; refine (thermionlaw01_line.calls 5 1 false ([1, 0, 0, 0, 2] : List Int) _ rfl).mono ?_; rintro e1 w1 ⟨v0, rfl, hR, hb⟩; obtain ⟨ga, cga, cuga, rfl, hc1, hn1, hm1⟩ := one_mem HM.out hb hR (by decide); have HNga := Aside0.mk (And.intro hn1 hc1); have HM1 := Aside0.mk hm1; clear hR hb hc1 hn1 hm1 HM)
  | ((with_reducible refine gate_dst (N := 7) rfl ?_); refine ev_lit HM1.out rfl [.int .i64 0, .int .i64 100] 2 3 ?hrl ?_; (case hrl => first | (go_simp; done) | (go_simp; rfl)); intro gb w2 hm1 hq1; have HM2 := Aside0.mk hm1; clear hm1 hq1 HM1)
  | (go_at_call 25; refine (field_Solve.calls 5 1 false (some ⟨ga, 0, none⟩) cga ([1, 0, 0, 0, 2] : List Int) (some ⟨gb, 0, none⟩) 2 ([0, 100] : List Int) 1 ([0, 0, 0, 50, 100] : List Int) ([0, 50, 75, 88, 100] : List Int) 1 false 0 _ (C_mem (HM2.out.second) HNga.out.1) HNga.out.2 (C_mem (HM2.out.head) (isnums_map [0, 100] (by decide))) (by decide) awake_solve).mono ?_; rintro e1 w3 ⟨v0, v1, rfl, hR1, hR2, hb⟩; obtain ⟨g1, c1, cu1, g2, c2, cu2, rfl, rfl, hc1, hc2, hn1, hn2, hm1⟩ := two_mem HM2.out hb hR1 hR2 (by decide) (by decide); have HNS := Aside0.mk (And.intro (And.intro hn1 hc1) (And.intro hn2 hc2)); have HM3 := Aside0.mk hm1; clear hR1 hR2 hb hc1 hc2 hn1 hn2 hm1 HNga HM2)
  | ((with_reducible refine gate_dst (N := 1) rfl ?_); refine ev_new HM3.out rfl 33 rfl info33 ?_; intro gf w4 hm1 hq1; have HM4 := Aside0.mk hm1; clear hm1 hq1 HM3)
  | ((with_reducible refine gate_store (t := 33) (p := 1) rfl ?_); refine ev_store HM4.out rfl 33 (.tmp 1) (.tmp 9) rfl rfl (cs := #[.slice (some ⟨g1, 0, none⟩) 5 c1, .slice (some ⟨g2, 0, none⟩) 5 c2, .int .i64 1, .bool false]) rfl size33 rfl rfl (by simp [Value.oneCell']) ?_; intro w5 hm1 hq1; have HM5 := Aside0.mk hm1; clear hm1 hq1 HM4)
  | (go_at_call 62; refine (thermionlaw01_line.calls 5 1 false ([1, 0, 0, 0, 2] : List Int) _ rfl).mono ?_; rintro e1 w6 ⟨v0, rfl, hR, hb⟩; obtain ⟨gc, cgc, cugc, rfl, hc1, hn1, hm1⟩ := one_mem HM5.out hb hR (by decide); have HNgc := Aside0.mk (And.intro hn1 hc1); have HM6 := Aside0.mk hm1; clear hR hb hc1 hn1 hm1 HM5)
  | ((with_reducible refine gate_dst (N := 13) rfl ?_); refine ev_lit HM6.out rfl [.int .i64 0, .int .i64 100] 2 3 ?hrl ?_; (case hrl => first | (go_simp; done) | (go_simp; rfl)); intro gd w7 hm1 hq1; have HM7 := Aside0.mk hm1; clear hm1 hq1 HM6)
  | (go_at_call 30; refine (field_Charge.calls 5 1 false (some ⟨gc, 0, none⟩) cgc ([1, 0, 0, 0, 2] : List Int) (some ⟨gd, 0, none⟩) 2 ([0, 100] : List Int) 1 2 12 50 0 _ (C_mem (HM7.out.second) HNgc.out.1) HNgc.out.2 (C_mem (HM7.out.head) (isnums_map [0, 100] (by decide))) (by decide) awake_charge).mono ?_; rintro e8 w8 ⟨rfl, hb⟩; have HM8 := Aside0.mk (HM7.out.step hb); clear hb HM7 HNgc)
  | ((with_reducible refine gate_dst (N := 3) rfl ?_); refine ev_new HM8.out rfl 42 rfl info42 ?_; intro gr w9 hm1 hq1; have HM9 := Aside0.mk hm1; clear hm1 hq1 HM8)
  | ((with_reducible refine gate_store (t := 42) (p := 3) rfl ?_); refine ev_store HM9.out rfl 42 (.tmp 3) (.tmp 15) rfl rfl (cs := #[.int .i64 12, .int .i64 50]) rfl size42 rfl rfl (by simp [Value.oneCell']) ?_; intro w10 hm1 hq1; have HM10 := Aside0.mk hm1; clear hm1 hq1 HM9; have q0 := (blk_cell HM10.out.blk4 0).trans rfl; have q1 := (blk_cell HM10.out.blk4 1).trans rfl)
  | ((with_reducible refine gate_dst (N := 26) rfl ?_); (try (refine gate_guard (by rfl) ?_; dsimp only)); refine ev_lit HM10.out rfl [.int .i64 0, .int .i64 0, .int .i64 0, .int .i64 50, .int .i64 100] 5 3 ?hrl ?_; (case hrl => first | (go_simp; done) | (go_simp; rfl)); intro ge w11 hm1 hq1; have HM11 := Aside0.mk hm1; clear hm1 hq1 HM10 q0 q1)
  | (go_at_call 43; refine (thermionkit_Same.calls 10 (some ⟨g1, 0, none⟩) c1 ([0, 0, 0, 50, 100] : List Int) (some ⟨ge, 0, none⟩) 5 ([0, 0, 0, 50, 100] : List Int) true _ (C_mem (HM11.out.blk7) HNS.out.1.1) HNS.out.1.2 (C_mem (HM11.out.head) (isnums_map ([0, 0, 0, 50, 100] : List Int) (by decide))) (by decide) awake_same1).mono ?_; rintro e12 w12 ⟨rfl, hb⟩; have HM12 := Aside0.mk (HM11.out.step hb.below); clear hb HM11 ; have HNT := Aside0.mk HNS.out.2; clear HNS; have q1 := (blk_cell HM12.out.blk5 1).trans rfl)
  | ((with_reducible refine gate_dst (N := 32) rfl ?_); (try (refine gate_guard (by rfl) ?_; dsimp only)); refine ev_lit HM12.out rfl [.int .i64 0, .int .i64 50, .int .i64 75, .int .i64 88, .int .i64 100] 5 3 ?hrl ?_; (case hrl => first | (go_simp; done) | (go_simp; rfl)); intro gg w13 hm1 hq1; have HM13 := Aside0.mk hm1; clear hm1 hq1 HM12 q1)
  | (go_at_call 43; refine (thermionkit_Same.calls 10 (some ⟨g2, 0, none⟩) c2 ([0, 50, 75, 88, 100] : List Int) (some ⟨gg, 0, none⟩) 5 ([0, 50, 75, 88, 100] : List Int) true _ (C_mem (HM13.out.blk7) HNT.out.1) HNT.out.2 (C_mem (HM13.out.head) (isnums_map ([0, 50, 75, 88, 100] : List Int) (by decide))) (by decide) awake_same2).mono ?_; rintro e14 w14 ⟨rfl, hb⟩; have HM14 := Aside0.mk (HM13.out.step hb.below); clear hb HM13 ; clear HNT; have q0 := (blk_cell HM14.out.third 0).trans rfl; have q1 := (blk_cell HM14.out.third 1).trans rfl)
  | (go_at_call 64; refine (thermionlaw01_ring.calls 5 1 true ([1, 0, 0, 0, 2] : List Int) _ rfl).mono ?_; rintro e1 w15 ⟨v0, rfl, hR, hb⟩; obtain ⟨gh, ch, ch2, rfl, hc1, hn1, hm1⟩ := one_mem HM14.out hb hR (by decide); have HNh := Aside0.mk (And.intro hn1 hc1); have HM15 := Aside0.mk hm1; clear hR hb hc1 hn1 hm1 q0 q1 HM14)
  | (go_at_call 63; refine (field_Weight.calls 5 1 true (some ⟨gh, 0, none⟩) ch ([1, 0, 0, 0, 2] : List Int) 3 4 8 _ (C_mem (HM15.out.head) HNh.out.1) HNh.out.2 awake_weight).mono ?_; rintro e16 w16 ⟨rfl, hb⟩; have HM16 := Aside0.mk (HM15.out.step hb); clear hb HM15 ))
 go_ret
 exact ⟨rfl, HM16.out.below⟩
end Go.Proofs.Ytndkkjpgnmahbaa.Print
end

section
namespace Go.Proofs.Ytndkkjpgnmahbaa.Print
open Go.RowKit Go.Proofs.YtndkkjpgnmahbaaW.PrintWords Go.Proofs.YtndkkjpgnmahbaaW.PrintLast Go.Proofs.YtndkkjpgnmahbaaW.PrintMore Go.Proofs.Field
set_option maxRecDepth 100000 in
theorem awake_true : thermionlaw01_awake.f 10 = some true := by kernel_rfl
end Go.Proofs.Ytndkkjpgnmahbaa.Print
end

section
namespace Go.Proofs.Ytndkkjpgnmahbaa.Print
open Go.RowKit Go.Proofs.YtndkkjpgnmahbaaW.PrintWords Go.Proofs.YtndkkjpgnmahbaaW.PrintLast Go.Proofs.YtndkkjpgnmahbaaW.PrintMore Go.Proofs.Field
set_option linter.unusedVariables false
theorem mod_eq (a m : Int) (h1 : 1 ≤ m) (h2 : m ≤ 4611686018427387904) : ∃ r : Nat, thermionkit_Mod.f a m = some (r : Int) ∧ (r : Int) < m := by
 have hb : Int.tmod a m < m := Int.tmod_lt_of_pos a (by omega)
 have hl : -m < Int.tmod a m := by
  rcases Int.le_total 0 a with q | q
  ·have := Int.tmod_nonneg m q; omega
  ·have e : Int.tmod a m = - Int.tmod (-a) m := by rw [Int.neg_tmod]; omega
   have := Int.tmod_lt_of_pos (-a) (show 0 < m by omega)
   omega
 unfold thermionkit_Mod.f
 rw [if_neg (by omega), if_neg (by omega)]
 obtain ⟨t, ht⟩ : ∃ t, Int.tmod a m = t := ⟨_, rfl⟩
 rw [ht] at hb hl ⊢
 by_cases q : t < 0
 ·rw [if_pos q, IntWalk.wrap64_in _ (by omega)]
  exact ⟨(t + m).toNat, by rw [show ((t + m).toNat : Int) = t + m by omega], by omega⟩
 ·rw [if_neg q]
  exact ⟨t.toNat, by rw [show (t.toNat : Int) = t by omega], by omega⟩
theorem dealt_plan (s a1 a2 : Int) (h1 : 1 ≤ a1 ∧ a1 ≤ 16) (h2 : 1 ≤ a2 ∧ a2 ≤ 16) : ∃ (W H : Nat) (R : Bool) (C : List Int) (s1 : Int), thermionkit_PlanOf.f s a1 a2 = some ((W : Int), (H : Int), R, C, s1) ∧ 1 ≤ W ∧ (W : Int) ≤ a1 ∧ 1 ≤ H ∧ (H : Int) ≤ a2 ∧ C.length = W * H ∧ C.length ≤ 256 ∧ (∀ e, e ∈ C → 0 ≤ e ∧ e ≤ 3) ∧ checkErr W H R C = 0 := by
 have h : ∃ W H R C r, thermionkit_PlanOf.f s a1 a2 = some (W, H, R, C, r) := by
  unfold thermionkit_PlanOf.f
  rw [if_pos ⟨h1.1, h1.2, h2.1, h2.2⟩]
  exact ⟨_, _, _, _, _, rfl⟩
 obtain ⟨W, H, R, C, r, h⟩ := h
 obtain ⟨a, b, c, d, e, f, g, i, j⟩ := planOf_fine h
 obtain ⟨W', rfl⟩ : ∃ W' : Nat, W = W' := ⟨W.toNat, by omega⟩
 obtain ⟨H', rfl⟩ : ∃ H' : Nat, H = H' := ⟨H.toNat, by omega⟩
 have hl : C.length = W' * H' := by rw [← Int.natCast_mul] at g; omega
 have h256 : C.length ≤ 256 := by have := Nat.mul_le_mul (show W' ≤ 16 by omega) (show H' ≤ 16 by omega); omega
 exact ⟨W', H', R, C, r, h, by omega, by omega, by omega, by omega, hl, h256, i, j⟩
structure Dealt (s a1 a2 : Int) (W H : Nat) (R : Bool) (C v : List Int) (s1 s2 : Int) : Prop where
 plan : thermionkit_PlanOf.f s a1 a2 = some ((W : Int), (H : Int), R, C, s1)
 volts : ∃ K, ∀ k, K ≤ k → thermionkit_VoltsOf.f k s1 (W : Int) (H : Int) R C = some (v, s2)
 W1 : 1 ≤ W
 W2 : (W : Int) ≤ a1
 H1 : 1 ≤ H
 H2 : (H : Int) ≤ a2
 W16 : W ≤ 16
 H16 : H ≤ 16
 len : C.length = W * H
 small : C.length ≤ 256
 cells : ∀ e, e ∈ C → 0 ≤ e ∧ e ≤ 3
 check : checkErr W H R C = 0
 verr : voltErr W H R C v = 0
 volted : Volted W H R C v
 vlen : v.length ≤ 3
theorem dealt (s a1 a2 : Int) (h1 : 1 ≤ a1 ∧ a1 ≤ 16) (h2 : 1 ≤ a2 ∧ a2 ≤ 16) : ∃ W H R C v s1 s2, Dealt s a1 a2 W H R C v s1 s2 := by
 obtain ⟨W, H, R, C, s1, h, b1, b2, b3, b4, hl, h256, hc, hck⟩ := dealt_plan s a1 a2 h1 h2
 obtain ⟨k, v, s2, hk, hv, hvl⟩ := volts_fine (s := s1) hck hc h256
 obtain ⟨W', H', eW, eH, _, _, _, _, hV⟩ := volted_of hv
 obtain rfl : W = W' := by omega
 obtain rfl : H = H' := by omega
 exact ⟨W, H, R, C, v, s1, s2, h, ⟨k, hk⟩, b1, b2, b3, b4, by omega, by omega, hl, h256, hc, hck, hv, hV, hvl⟩
theorem same_go (x : List Int) (hl : x.length ≤ 1000000) : ∀ (d i : Nat), i + d = x.length → thermionkit_Same.l0 (d + 1) x x (i : Int) = some true
 | 0, i, h => by rw [thermionkit_Same.l0, if_neg (by omega)]
 | d + 1, i, h => by
  have hw : wrap64 ((i : Int) + 1) = ((i + 1 : Nat) : Int) := by rw [IntWalk.wrap64_in _ (by omega)]; omega
  rw [thermionkit_Same.l0, if_pos (by omega), if_pos (by omega), if_pos (by omega), if_pos rfl, hw, same_go x hl d (i + 1) (by omega)]
theorem same_eq (x : List Int) (hl : x.length ≤ 1000000) : ∃ K, ∀ k, K ≤ k → thermionkit_Same.f k x x = some true :=
 Ev.of (g := fun k => thermionkit_Same.f k x x) (fun k => thermionkit_Same.mono x x k) (k := x.length + 1) (by
  unfold thermionkit_Same.f
  rw [if_pos rfl]
  exact same_go x hl x.length 0 (by omega))
end Go.Proofs.Ytndkkjpgnmahbaa.Print
end

section
namespace Go.Proofs.Ytndkkjpgnmahbaa.Print
open Go.RowKit Go.Proofs.YtndkkjpgnmahbaaW.PrintWords Go.Proofs.YtndkkjpgnmahbaaW.PrintLast Go.Proofs.YtndkkjpgnmahbaaW.PrintMore Go.Proofs.Ytndkkjpgnmahbaa.H Go.Proofs.Field
set_option linter.unusedVariables false
structure PW (w W : World) (g : Nat) (s : Int) (A : Option Addr) (c : Nat) (C : List Int) : Prop where
 old : Below w.heap.size w W
 dice : IsS79 w W g s
 row : Kd.R (Kd.int .i64) 3 W w.heap.size (fun k => k ≠ g) (.slice A C.length c) C
theorem PW.make {w W : World} {g base : Nat} {s : Int} {A : Option Addr} {c : Nat} {C : List Int} (hI : IsS79 w W g s) (hB : Below w.heap.size w W) (hR : Kd.R (Kd.int .i64) 3 W base (fun _ => True) (.slice A C.length c) C) (hb : w.heap.size ≤ base) : PW w W g s A c C :=
 ⟨hB, hI, Kd.R_mono (Kd.R_types (Kd.R_lower hR hb) hI.1 (by decide)) (fun k hk => hk.2)⟩
namespace PW
variable {w W W1 : World} {g : Nat} {s s1 : Int} {A : Option Addr} {c : Nat} {C : List Int}
theorem below (h : PW w W g s A c C) (hb : Below W.heap.size W W1) : PW w W1 g s A c C := ⟨below_step h.old hb, h.dice.below hb, Kd.R_below h.row hb⟩
theorem reads (h : PW w W g s A c C) : Kd.C (Kd.int .i64) W A C.length C := (Kd.R_reads' h.row).2.2
theorem cap (h : PW w W g s A c C) : C.length ≤ c := (Kd.R_reads' h.row).2.1
theorem far (h : PW w W g s A c C) : ∀ ad, A = some ad → 0 < C.length → ad.block ≠ g := fun ad e hp => by
 subst e
 obtain ⟨b, rfl⟩ := Kd.R_head h.row
 exact h.row.1 b rfl
end PW
structure LB (w W : World) (g6 : Nat) (Wd Hd : Int) (R : Bool) (A : Option Addr) (c : Nat) (C : List Int) (B : Option Addr) (d : Nat) (v : List Int) : Prop where
 old : Below w.heap.size w W
 plan : W.heap[g6]? = some (.cells (planV Wd Hd R A C.length c) 24 (0, 0))
 rc : Kd.C (Kd.int .i64) W A C.length C
 hc : C.length ≤ c
 rv : Kd.C (Kd.int .i64) W B v.length v
 hv : v.length ≤ d
theorem LB.make {w w2 W3 W : World} {g g6 base : Nat} {s : Int} {Wd Hd : Int} {R : Bool} {A : Option Addr} {c : Nat} {C : List Int} {B : Option Addr} {d : Nat} {v : List Int} (hp : PW w W3 g s A c C) (hm : Mem w2 W3 [(g6, planV Wd Hd R A C.length c, 24)])
  (hR : Kd.R (Kd.int .i64) 3 W base (fun _ => True) (.slice B v.length d) v) (hB : Below w.heap.size w W) (hK : KeepBut W3 W g none) : LB w W g6 Wd Hd R A c C B d v := by
 have h1 := Kd.R_reads' (Kd.R_keep hp.row hK (fun k hk => hk))
 have h2 := Kd.R_reads' hR
 exact ⟨hB, hK.blk hm.head (blk_ne hm.head hp.dice.1 (by decide)) (by simp), h1.2.2, h1.2.1, h2.2.2, h2.2.1⟩
namespace LB
variable {w W W1 : World} {g6 : Nat} {Wd Hd : Int} {R : Bool} {A : Option Addr} {c : Nat} {C : List Int} {B : Option Addr} {d : Nat} {v : List Int}
end LB
end Go.Proofs.Ytndkkjpgnmahbaa.Print
end

section
namespace Go.Proofs.Ytndkkjpgnmahbaa.Print
open Go.RowKit Go.Proofs.YtndkkjpgnmahbaaW.PrintWords Go.Proofs.YtndkkjpgnmahbaaW.PrintLast Go.Proofs.YtndkkjpgnmahbaaW.PrintMore Go.Proofs.Ytndkkjpgnmahbaa.H Go.Proofs.Field
set_option linter.unusedVariables false
theorem C_of_cells {V : World} {g : Nat} {b : List Int} {t : TypeId} (hV : V.heap[g]? = some (.cells (numsA b) t (0, 0))) (hb : b.length ≤ 1000000) : Kd.C (Kd.int .i64) V (some ⟨g, 0, none⟩) b.length b := by
 refine Kd.C_of_reads (d := (0 : Int)) (h1 := fun _ => rfl) ⟨rfl, by omega, fun _ => ⟨_, rfl, fun j hj => ?_⟩⟩
 have h1 := (blk_cell hV j).trans (numsA_get hj)
 rw [show (⟨g, 0, none⟩ : Addr).add j = ⟨g, j, none⟩ by unfold Addr.add; split <;> simp_all]
 rw [h1]
 rfl
structure Rows (W : World) (rs : List (Option Addr × List Int)) : Prop where
 all : ∀ p, p ∈ rs → Kd.C (Kd.int .i64) W p.1 p.2.length p.2
namespace Rows
variable {W W1 : World} {rs : List (Option Addr × List Int)}
theorem nil (W : World) : Rows W [] := ⟨fun p hp => by simp at hp⟩
theorem below (h : Rows W rs) (hb : Below W.heap.size W W1) : Rows W1 rs := ⟨fun p hp => Kd.C_below (h.all p hp) hb⟩
theorem cons (h : Rows W rs) {A : Option Addr} {l : List Int} (hC : Kd.C (Kd.int .i64) W A l.length l) : Rows W ((A, l) :: rs) := ⟨fun p hp => by
 rcases List.mem_cons.1 hp with rfl | hp
 ·exact hC
 ·exact h.all p hp⟩
end Rows
end Go.Proofs.Ytndkkjpgnmahbaa.Print
end

section
namespace Go.Proofs.Ytndkkjpgnmahbaa.Print
open Go.RowKit Go.Proofs.YtndkkjpgnmahbaaW.PrintWords Go.Proofs.YtndkkjpgnmahbaaW.PrintLast Go.Proofs.YtndkkjpgnmahbaaW.PrintMore
attribute [local go_sem] max2_int min2_int max_two min_two max_three min_three max_four min_four
set_option linter.unusedVariables false
set_option linter.unusedSimpArgs false
def thermionref01_has.l0 : Nat → Int → Int → Int → Int → Bool → List Int → Option (Bool)
 | 0, _, _, _, _, _, _ => none
 | k + 1, x1, x5, x291000, x291001, x291002, x291003 => if x5 < (x291003.length : Int) then (if x1 > 0 then (if 0 ≤ x5 then (if (rd x291003 x5) = x1 then (some true) else (thermionref01_has.l0 k x1 (wrap64 (x5 + 1)) x291000 x291001 x291002 x291003)) else (none)) else (thermionref01_has.l0 k x1 (wrap64 (x5 + 1)) x291000 x291001 x291002 x291003)) else (some false)
def thermionref01_has.f (k : Nat) (a0_0 : Int) (a0_1 : Int) (a0_2 : Bool) (l0_3 : List Int) (a1 : Int) : Option (Bool) := thermionref01_has.l0 k a1 0 a0_0 a0_1 a0_2 l0_3
set_option maxHeartbeats 8000000 in
set_option maxRecDepth 100000 in
theorem thermionref01_has.calls (k : Nat) (a0_0 : Int) (a0_1 : Int) (a0_2 : Bool) (A0_3 : Option Addr) (c0_3 : Nat) (l0_3 : List Int) (a1 : Int) (r : Bool) (w : World) (hr0_3 : Kd.C (Kd.int .i64) w A0_3 l0_3.length l0_3) (hc0_3 : l0_3.length ≤ c0_3) (h : thermionref01_has.f k a0_0 a0_1 a0_2 l0_3 a1 = some r) :
  Calls Try.prog 79 #[.agg #[.int .i64 a0_0, .int .i64 a0_1, .bool a0_2, .slice A0_3 l0_3.length c0_3], .int .i64 a1] w fun e w' => e = .returned (.bool r) ∧ Below w.heap.size w w' := by
 have hu24 := Try.underlying24
 have HR0_3 := Aside0.mk hr0_3
 have HC0_3 := Aside0.mk hc0_3
 clear hr0_3 hc0_3
 have HB := Aside0.mk (Below.refl w.heap.size w)
 have H : (thermionref01_has.l0 k a1 0 a0_0 a0_1 a0_2 l0_3) = some r := h
 clear h
 have H' := Aside0.mk H
 clear H
 go_enter Try.func79, Try.ntmps79
 go_wp2_with (first | ((with_reducible refine gate_dst (N := 2) rfl ?_); refine box_event ?hg (N := 2) ?hd (cs := #[.int .i64 a0_0, .int .i64 a0_1, .bool a0_2, .slice A0_3 l0_3.length c0_3]) (t := 24) ?hr ?_; (case hd => rfl); (case hg => rfl); (case hr => first | (go_simp; done) | (go_simp; rfl)); intro gb290 hg w3 hbox hb; have n0_ := Aside0.mk (below_step (by repeat (first | (with_reducible first | exact HB.out | apply below_alloc | apply pw_below_drewN | apply below_drew1) | exact HB.out)) hb); have n1_ := Aside0.mk (hbox); have n2_ := Aside0.mk ((by rw [hg]; exact (below_size (by repeat (first | (with_reducible first | exact HB.out | apply below_alloc | apply pw_below_drewN | apply below_drew1) | exact HB.out))) : w.heap.size ≤ gb290)); have n3_ := Aside0.mk ((by rw [hg]; exact (below_size (by repeat (first | (with_reducible first | exact HB.out | apply below_alloc | apply pw_below_drewN | apply below_drew1) | exact HB.out))) : w.heap.size ≤ gb290)); clear HB; have HB := n0_; have BK290 := n1_; have GW290 := n2_; have GE290 := n3_; clear n0_ n1_ n2_ n3_; clear hb hbox hg))
 go_loopg [5] k (fun kq v5 w' => ∃ (x5_1 : Int), v5 = .int .i64 x5_1 ∧ Aside0 (thermionref01_has.l0 kq a1 x5_1 a0_0 a0_1 a0_2 l0_3 = some r) ∧ Aside0 (kq ≤ k) ∧ Aside0 (w'.heap[gb290]? = some (.cells #[.int .i64 a0_0, .int .i64 a0_1, .bool a0_2, (.slice A0_3 l0_3.length c0_3)] 24 (0, 0))) ∧ Aside0 (Below w.heap.size w w'))
 case atStart => exact ⟨(0), (by first | rfl | (simp; done) | (simp [*]; done)), H', ⟨Nat.le_refl _⟩, ⟨by (with_reducible repeat (first | refine blk_drewN ?_ _ | refine blk_drew ?_ | refine blk_alloc ?_ _)); exact BK290.out⟩, ⟨by repeat (first | (with_reducible first | exact HB.out | apply below_alloc | apply pw_below_drewN | apply below_drew1 | refine below_set ?_ GE290.out) | exact HB.out)⟩⟩
 case round =>
  clear H'
  try clear p2
  obtain ⟨x5_1, rfl, HA, HK1, BK290, HB⟩ := hrel
  cases gk with
  | zero => exact absurd HA.out (by simp [thermionref01_has.l0])
  | succ k1 =>
   have H := HA.out
   clear HA
   simp only [thermionref01_has.l0] at H
   by_cases c4 : x5_1 < (l0_3.length : Int)
   ·rw [if_pos c4] at H
    have c4b0 := decide_eq_true c4
    clear c4
    by_cases c5 : a1 > 0
    ·rw [if_pos c5] at H
     have c5b0 := decide_eq_true c5
     clear c5
     by_cases c6 : 0 ≤ x5_1
     ·rw [if_pos c6] at H
      have c6b0 := decide_eq_true c6
      clear c6
      by_cases c7 : (rd l0_3 x5_1) = a1
      ·rw [if_pos c7] at H
       have c7b0 : ((rd l0_3 x5_1) == a1) = true := beq_iff_eq.mpr c7
       have c7b1 : ((rd l0_3 x5_1) != a1) = false := bne_eq_false_iff_eq.mpr c7
       clear c7
       obtain rfl := Option.some.inj H
       have hcz8_0 : wr.cell? ⟨gb290, 0, none⟩ = some (.int .i64 a0_0) := (blk_cell BK290.out 0).trans rfl
       have hcz8_1 : wr.cell? ⟨gb290, 1, none⟩ = some (.int .i64 a0_1) := (blk_cell BK290.out 1).trans rfl
       have hcz8_2 : wr.cell? ⟨gb290, 2, none⟩ = some (.bool a0_2) := (blk_cell BK290.out 2).trans rfl
       have hcz8_3 : wr.cell? ⟨gb290, 3, none⟩ = some (.slice A0_3 l0_3.length c0_3) := (blk_cell BK290.out 3).trans rfl
       have hfz8_0 := blk_frozen BK290.out 0
       have hfz8_1 := blk_frozen BK290.out 1
       have hfz8_2 := blk_frozen BK290.out 2
       have hfz8_3 := blk_frozen BK290.out 3
       have p291 : 0 ≤ (x5_1 : Int) := of_decide_eq_true (by first | (with_reducible assumption) | assumption)
       have q291 : x5_1 < (l0_3.length : Int) := of_decide_eq_true (by first | (with_reducible assumption) | assumption)
       obtain ⟨ad291, e291, hx291_0⟩ := Kd.at_int HR0_3.out x5_1 p291 q291
       cases e291
       replace hx291_0 := (HB.out.cell (World.block_lt_of_cell? w _ hx291_0)).trans hx291_0
       replace p291 := eq_true p291
       replace q291 := eq_true q291
       go_wp2
       go_ret
       exact ⟨by first | rfl | (simp [errW_none, errW_some] <;> rfl) | (simp [*, errW_none, errW_some] <;> rfl), by repeat (first | (with_reducible first | exact HB.out | apply below_alloc | apply pw_below_drewN | apply below_drew1 | refine below_set ?_ GE290.out) | exact HB.out)⟩
      ·rw [if_neg c7] at H
       have c7b0 : ((rd l0_3 x5_1) == a1) = false := beq_eq_false_iff_ne.mpr c7
       have c7b1 : ((rd l0_3 x5_1) != a1) = true := bne_iff_ne.mpr c7
       have H' := Aside0.mk H
       clear H
       have hcz9_0 : wr.cell? ⟨gb290, 0, none⟩ = some (.int .i64 a0_0) := (blk_cell BK290.out 0).trans rfl
       have hcz9_1 : wr.cell? ⟨gb290, 1, none⟩ = some (.int .i64 a0_1) := (blk_cell BK290.out 1).trans rfl
       have hcz9_2 : wr.cell? ⟨gb290, 2, none⟩ = some (.bool a0_2) := (blk_cell BK290.out 2).trans rfl
       have hcz9_3 : wr.cell? ⟨gb290, 3, none⟩ = some (.slice A0_3 l0_3.length c0_3) := (blk_cell BK290.out 3).trans rfl
       have hfz9_0 := blk_frozen BK290.out 0
       have hfz9_1 := blk_frozen BK290.out 1
       have hfz9_2 := blk_frozen BK290.out 2
       have hfz9_3 := blk_frozen BK290.out 3
       have p291 : 0 ≤ (x5_1 : Int) := of_decide_eq_true (by first | (with_reducible assumption) | assumption)
       have q291 : x5_1 < (l0_3.length : Int) := of_decide_eq_true (by first | (with_reducible assumption) | assumption)
       obtain ⟨ad291, e291, hx291_0⟩ := Kd.at_int HR0_3.out x5_1 p291 q291
       cases e291
       replace hx291_0 := (HB.out.cell (World.block_lt_of_cell? w _ hx291_0)).trans hx291_0
       replace p291 := eq_true p291
       replace q291 := eq_true q291
       go_wp2
       go_roundg k1
       case measure => have := HK1.out; omega
       case rel => exact ⟨(wrap64 (x5_1 + 1)), (by first | rfl | (simp; done) | (simp [*]; done)), H', ⟨by have := HK1.out; omega⟩, ⟨by (with_reducible repeat (first | refine blk_drewN ?_ _ | refine blk_drew ?_ | refine blk_alloc ?_ _)); exact BK290.out⟩, ⟨by repeat (first | (with_reducible first | exact HB.out | apply below_alloc | apply pw_below_drewN | apply below_drew1 | refine below_set ?_ GE290.out) | exact HB.out)⟩⟩
     ·rw [if_neg c6] at H
      exact absurd H (by simp)
    ·rw [if_neg c5] at H
     have c5b0 := decide_eq_false c5
     clear c5
     have H' := Aside0.mk H
     clear H
     have hcz10_0 : wr.cell? ⟨gb290, 0, none⟩ = some (.int .i64 a0_0) := (blk_cell BK290.out 0).trans rfl
     have hcz10_1 : wr.cell? ⟨gb290, 1, none⟩ = some (.int .i64 a0_1) := (blk_cell BK290.out 1).trans rfl
     have hcz10_2 : wr.cell? ⟨gb290, 2, none⟩ = some (.bool a0_2) := (blk_cell BK290.out 2).trans rfl
     have hcz10_3 : wr.cell? ⟨gb290, 3, none⟩ = some (.slice A0_3 l0_3.length c0_3) := (blk_cell BK290.out 3).trans rfl
     have hfz10_0 := blk_frozen BK290.out 0
     have hfz10_1 := blk_frozen BK290.out 1
     have hfz10_2 := blk_frozen BK290.out 2
     have hfz10_3 := blk_frozen BK290.out 3
     go_wp2
     go_roundg k1
     case measure => have := HK1.out; omega
     case rel => exact ⟨(wrap64 (x5_1 + 1)), (by first | rfl | (simp; done) | (simp [*]; done)), H', ⟨by have := HK1.out; omega⟩, ⟨by (with_reducible repeat (first | refine blk_drewN ?_ _ | refine blk_drew ?_ | refine blk_alloc ?_ _)); exact BK290.out⟩, ⟨by repeat (first | (with_reducible first | exact HB.out | apply below_alloc | apply pw_below_drewN | apply below_drew1 | refine below_set ?_ GE290.out) | exact HB.out)⟩⟩
   ·rw [if_neg c4] at H
    have c4b0 := decide_eq_false c4
    clear c4
    obtain rfl := Option.some.inj H
    have hcz11_0 : wr.cell? ⟨gb290, 0, none⟩ = some (.int .i64 a0_0) := (blk_cell BK290.out 0).trans rfl
    have hcz11_1 : wr.cell? ⟨gb290, 1, none⟩ = some (.int .i64 a0_1) := (blk_cell BK290.out 1).trans rfl
    have hcz11_2 : wr.cell? ⟨gb290, 2, none⟩ = some (.bool a0_2) := (blk_cell BK290.out 2).trans rfl
    have hcz11_3 : wr.cell? ⟨gb290, 3, none⟩ = some (.slice A0_3 l0_3.length c0_3) := (blk_cell BK290.out 3).trans rfl
    have hfz11_0 := blk_frozen BK290.out 0
    have hfz11_1 := blk_frozen BK290.out 1
    have hfz11_2 := blk_frozen BK290.out 2
    have hfz11_3 := blk_frozen BK290.out 3
    go_wp2
    go_ret
    exact ⟨by first | rfl | (simp [errW_none, errW_some] <;> rfl) | (simp [*, errW_none, errW_some] <;> rfl), by repeat (first | (with_reducible first | exact HB.out | apply below_alloc | apply pw_below_drewN | apply below_drew1 | refine below_set ?_ GE290.out) | exact HB.out)⟩
def thermionref01_beyond.f (a0 : Int) (a1 : Int) (a2 : Int) : Option (Bool) := if a0 < a1 then (some true) else (some (decide (a0 > a2)))
set_option maxHeartbeats 8000000 in
set_option maxRecDepth 100000 in
theorem thermionref01_beyond.calls (a0 : Int) (a1 : Int) (a2 : Int) (r : Bool) (w : World) (h : thermionref01_beyond.f a0 a1 a2 = some r) :
  Calls Try.prog 73 #[.int .i64 a0, .int .i64 a1, .int .i64 a2] w fun e w' => e = .returned (.bool r) ∧ Drawn0 w w' := by
 have H : (if a0 < a1 then (some true) else (some (decide (a0 > a2)))) = some r := h
 clear h
 by_cases c4 : a0 < a1
 ·rw [if_pos c4] at H
  have c4b0 := decide_eq_true c4
  clear c4
  obtain rfl := Option.some.inj H
  go_enter Try.func73, Try.ntmps73
  go_wp2
  go_ret
  exact ⟨by first | rfl | (simp; done) | (simp [*]; done), by repeat (first | exact Drawn0.refl _ | apply Drawn0.step)⟩
 ·rw [if_neg c4] at H
  have c4b0 := decide_eq_false c4
  clear c4
  obtain rfl := Option.some.inj H
  go_enter Try.func73, Try.ntmps73
  go_wp2
  go_ret
  exact ⟨by first | rfl | (simp; done) | (simp [*]; done), by repeat (first | exact Drawn0.refl _ | apply Drawn0.step)⟩
mutual
def thermionref01_weight.j0 : Nat → Int → Int → Bool → Int → Int → Bool → List Int → Option (Int)
 | 0, _, _, _, _, _, _, _ => none
 | k + 1, x1, x2, x23, x245000, x245001, x245002, x245003 => if x23 = true then (some 0) else (if x245000 = 0 then (none) else (if (mx x1 x2) = (wrap64 ((mn x1 x2) + 1)) then (thermionref01_weight.j1 k (mn x1 x2) (mx x1 x2) (Int.tmod (mn x1 x2) x245000) (decide ((Int.tmod (mx x1 x2) x245000) > 0)) x245000 x245001 x245002 x245003) else (thermionref01_weight.j1 k (mn x1 x2) (mx x1 x2) (Int.tmod (mn x1 x2) x245000) false x245000 x245001 x245002 x245003)))
def thermionref01_weight.j1 : Nat → Int → Int → Int → Bool → Int → Int → Bool → List Int → Option (Int)
 | 0, _, _, _, _, _, _, _, _ => none
 | k + 1, x1, x2, x8, x34, x245000, x245001, x245002, x245003 => if x34 = true then (if x245002 = true then (some (wrap64 (2 * (wrap64 (x8 + 1))))) else (some 1)) else (if x2 = (wrap64 (x1 + x245000)) then (if x245002 = true then (some (wrap64 ((wrap64 (2 * x8)) + 1))) else (some 1)) else (some 0))
end
def thermionref01_weight.f (k : Nat) (a0_0 : Int) (a0_1 : Int) (a0_2 : Bool) (l0_3 : List Int) (a1 : Int) (a2 : Int) : Option (Int) := (thermionref01_beyond.f a1 0 (wrap64 ((wrap64 (a0_0 * a0_1)) - 1))).bind fun t245 => (if t245 = true then (thermionref01_weight.j0 k a1 a2 true a0_0 a0_1 a0_2 l0_3) else ((thermionref01_beyond.f a2 0 (wrap64 ((wrap64 (a0_0 * a0_1)) - 1))).bind fun t246 => (thermionref01_weight.j0 k a1 a2 t246 a0_0 a0_1 a0_2 l0_3)))
set_option maxHeartbeats 8000000 in
set_option maxRecDepth 100000 in
theorem thermionref01_weight.calls (k : Nat) (a0_0 : Int) (a0_1 : Int) (a0_2 : Bool) (A0_3 : Option Addr) (c0_3 : Nat) (l0_3 : List Int) (a1 : Int) (a2 : Int) (r : Int) (w : World) (hr0_3 : Kd.C (Kd.int .i64) w A0_3 l0_3.length l0_3) (hc0_3 : l0_3.length ≤ c0_3) (h : thermionref01_weight.f k a0_0 a0_1 a0_2 l0_3 a1 a2 = some r) :
  Calls Try.prog 81 #[.agg #[.int .i64 a0_0, .int .i64 a0_1, .bool a0_2, .slice A0_3 l0_3.length c0_3], .int .i64 a1, .int .i64 a2] w fun e w' => e = .returned (.int .i64 r) ∧ Below w.heap.size w w' := by
 have hu24 := Try.underlying24
 have HR0_3 := Aside0.mk hr0_3
 have HC0_3 := Aside0.mk hc0_3
 clear hr0_3 hc0_3
 have HB := Aside0.mk (Below.refl w.heap.size w)
 have H : ((thermionref01_beyond.f a1 0 (wrap64 ((wrap64 (a0_0 * a0_1)) - 1))).bind fun t245 => (if t245 = true then (thermionref01_weight.j0 k a1 a2 true a0_0 a0_1 a0_2 l0_3) else ((thermionref01_beyond.f a2 0 (wrap64 ((wrap64 (a0_0 * a0_1)) - 1))).bind fun t246 => (thermionref01_weight.j0 k a1 a2 t246 a0_0 a0_1 a0_2 l0_3)))) = some r := h
 clear h
 have HC4 := Aside0.mk H
 clear H
 go_enter Try.func81, Try.ntmps81
 go_upto_region 2 with (first | ((with_reducible refine gate_dst (N := 3) rfl ?_); refine box_event ?hg (N := 3) ?hd (cs := #[.int .i64 a0_0, .int .i64 a0_1, .bool a0_2, .slice A0_3 l0_3.length c0_3]) (t := 24) ?hr ?_; (case hd => rfl); (case hg => rfl); (case hr => first | (go_simp; done) | (go_simp; rfl)); intro gb244 hg w5 hbox hb; have n0_ := Aside0.mk (below_step (by repeat (first | (with_reducible first | exact HB.out | apply below_alloc | apply pw_below_drewN | apply below_drew1) | exact HB.out)) hb); have n1_ := Aside0.mk (hbox); have n2_ := Aside0.mk ((by rw [hg]; exact (below_size (by repeat (first | (with_reducible first | exact HB.out | apply below_alloc | apply pw_below_drewN | apply below_drew1) | exact HB.out))) : w.heap.size ≤ gb244)); have n3_ := Aside0.mk ((by rw [hg]; exact (below_size (by repeat (first | (with_reducible first | exact HB.out | apply below_alloc | apply pw_below_drewN | apply below_drew1) | exact HB.out))) : w.heap.size ≤ gb244)); clear HB; have HB := n0_; have BK244 := n1_; have GW244 := n2_; have GE244 := n3_; clear n0_ n1_ n2_ n3_; clear hb hbox hg; have hcz6_0 : w5.cell? ⟨gb244, 0, none⟩ = some (.int .i64 a0_0) := (blk_cell BK244.out 0).trans rfl; have hcz6_1 : w5.cell? ⟨gb244, 1, none⟩ = some (.int .i64 a0_1) := (blk_cell BK244.out 1).trans rfl; have hcz6_2 : w5.cell? ⟨gb244, 2, none⟩ = some (.bool a0_2) := (blk_cell BK244.out 2).trans rfl; have hcz6_3 : w5.cell? ⟨gb244, 3, none⟩ = some (.slice A0_3 l0_3.length c0_3) := (blk_cell BK244.out 3).trans rfl; have hfz6_0 := blk_frozen BK244.out 0; have hfz6_1 := blk_frozen BK244.out 1; have hfz6_2 := blk_frozen BK244.out 2; have hfz6_3 := blk_frozen BK244.out 3))
 (try simp only [Act.put, List.setIfInBounds_toArray, List.set_cons_zero, List.set_cons_succ])
 go_cut [23] (fun v23 wc => ∃ (kq : Nat) (x23_3 : Bool), v23 = .bool x23_3 ∧ Aside0 (thermionref01_weight.j0 kq a1 a2 x23_3 a0_0 a0_1 a0_2 l0_3 = some r) ∧ Aside0 (kq ≤ k) ∧ Aside0 (wc.heap[gb244]? = some (.cells #[.int .i64 a0_0, .int .i64 a0_1, .bool a0_2, (.slice A0_3 l0_3.length c0_3)] 24 (0, 0))) ∧ Aside0 (Below w.heap.size w wc))
 case first =>
  have H := HC4.out
  clear HC4
  replace H := Option.bind_eq_some_iff.mp H
  obtain ⟨t245, A70, H⟩ := H
  replace H : (if t245 = true then (thermionref01_weight.j0 k a1 a2 true a0_0 a0_1 a0_2 l0_3) else ((thermionref01_beyond.f a2 0 (wrap64 ((wrap64 (a0_0 * a0_1)) - 1))).bind fun t246 => (thermionref01_weight.j0 k a1 a2 t246 a0_0 a0_1 a0_2 l0_3))) = some r := H
  have A7 := Aside0.mk A70
  clear A70
  by_cases c8 : t245 = true
  ·subst c8
   have H1 : (thermionref01_weight.j0 k a1 a2 true a0_0 a0_1 a0_2 l0_3) = some r := by rw [if_pos rfl] at H; exact H
   clear H
   have H := H1
   clear H1
   have H' := Aside0.mk H
   clear H
   go_wp2_with (first | ((with_reducible refine gate_callee (f := 73) rfl ?_); refine goesL_ (some 17) rfl rfl Try.func73 (by kernel_rfl) rfl #[.int .i64 a1, .int .i64 0, .int .i64 (wrap64 ((wrap64 (a0_0 * a0_1)) - 1))] rfl (by (try simp only [List.map_toArray, List.map_cons, List.map_nil]); first | done | rfl | (simp only [List.length_drop, List.length_take]; rfl)) ?_; (with_reducible refine (thermionref01_beyond.calls a1 0 (wrap64 ((wrap64 (a0_0 * a0_1)) - 1)) true _ A7.out).mono ?_); rintro e w' ⟨rfl, ⟨nd, rfl⟩⟩; refine ⟨_, rfl, ?_⟩))
   go_meet
   case rel => exact ⟨_, (true), (by first | rfl | (simp; done) | (simp [*]; done)), H', ⟨by first | omega | exact Nat.le_refl _⟩, ⟨by (with_reducible repeat (first | refine blk_drewN ?_ _ | refine blk_drew ?_ | refine blk_alloc ?_ _)); exact BK244.out⟩, ⟨by repeat (first | (with_reducible first | exact HB.out | apply below_alloc | apply pw_below_drewN | apply below_drew1 | refine below_set ?_ GE244.out) | exact HB.out)⟩⟩
  ·replace c8 := Bool.eq_false_iff.mpr c8
   subst c8
   have H1 : ((thermionref01_beyond.f a2 0 (wrap64 ((wrap64 (a0_0 * a0_1)) - 1))).bind fun t246 => (thermionref01_weight.j0 k a1 a2 t246 a0_0 a0_1 a0_2 l0_3)) = some r := by rw [if_neg (show ¬ (false = true) by decide)] at H; exact H
   clear H
   have H := H1
   clear H1
   replace H := Option.bind_eq_some_iff.mp H
   obtain ⟨t246, A90, H⟩ := H
   replace H : (thermionref01_weight.j0 k a1 a2 t246 a0_0 a0_1 a0_2 l0_3) = some r := H
   have A9 := Aside0.mk A90
   clear A90
   have H' := Aside0.mk H
   clear H
   go_wp2_with (first | ((with_reducible refine gate_callee (f := 73) rfl ?_); refine goesL_ (some 17) rfl rfl Try.func73 (by kernel_rfl) rfl #[.int .i64 a1, .int .i64 0, .int .i64 (wrap64 ((wrap64 (a0_0 * a0_1)) - 1))] rfl (by (try simp only [List.map_toArray, List.map_cons, List.map_nil]); first | done | rfl | (simp only [List.length_drop, List.length_take]; rfl)) ?_; (with_reducible refine (thermionref01_beyond.calls a1 0 (wrap64 ((wrap64 (a0_0 * a0_1)) - 1)) false _ A7.out).mono ?_); rintro e w' ⟨rfl, ⟨nd, rfl⟩⟩; refine ⟨_, rfl, ?_⟩) | (go_at_call 73; (with_reducible refine (thermionref01_beyond.calls a2 0 (wrap64 ((wrap64 (a0_0 * a0_1)) - 1)) t246 _ A9.out).mono ?_); rintro e w' ⟨rfl, ⟨nd, rfl⟩⟩))
   go_meet
   case rel => exact ⟨_, (t246), (by first | rfl | (simp; done) | (simp [*]; done)), H', ⟨by first | omega | exact Nat.le_refl _⟩, ⟨by (with_reducible repeat (first | refine blk_drewN ?_ _ | refine blk_drew ?_ | refine blk_alloc ?_ _)); exact BK244.out⟩, ⟨by repeat (first | (with_reducible first | exact HB.out | apply below_alloc | apply pw_below_drewN | apply below_drew1 | refine below_set ?_ GE244.out) | exact HB.out)⟩⟩
 case rest =>
  clear HC4
  try clear p2
  try clear p6
  try clear c7
  try clear c8
  try clear hcz6_0
  try clear hcz6_1
  try clear hcz6_2
  try clear hcz6_3
  try clear hfz6_0
  try clear hfz6_1
  try clear hfz6_2
  try clear hfz6_3
  obtain ⟨kq, x23_3, rfl, HA, HJ3, BK244, HB⟩ := hcut
  cases kq with
  | zero => exact absurd HA.out (by simp [thermionref01_weight.j0])
  | succ kj3 =>
   have H := HA.out
   clear HA
   simp only [thermionref01_weight.j0] at H
   by_cases c10 : x23_3 = true
   ·subst c10
    have H1 : (some 0) = some r := by rw [if_pos rfl] at H; exact H
    clear H
    have H := H1
    clear H1
    obtain rfl := Option.some.inj H
    go_wp2
    go_ret
    exact ⟨by first | rfl | (simp [errW_none, errW_some] <;> rfl) | (simp [*, errW_none, errW_some] <;> rfl), by repeat (first | (with_reducible first | exact HB.out | apply below_alloc | apply pw_below_drewN | apply below_drew1 | refine below_set ?_ GE244.out) | exact HB.out)⟩
   ·replace c10 := Bool.eq_false_iff.mpr c10
    subst c10
    have H1 : (if a0_0 = 0 then (none) else (if (mx a1 a2) = (wrap64 ((mn a1 a2) + 1)) then (thermionref01_weight.j1 kj3 (mn a1 a2) (mx a1 a2) (Int.tmod (mn a1 a2) a0_0) (decide ((Int.tmod (mx a1 a2) a0_0) > 0)) a0_0 a0_1 a0_2 l0_3) else (thermionref01_weight.j1 kj3 (mn a1 a2) (mx a1 a2) (Int.tmod (mn a1 a2) a0_0) false a0_0 a0_1 a0_2 l0_3))) = some r := by rw [if_neg (show ¬ (false = true) by decide)] at H; exact H
    clear H
    have H := H1
    clear H1
    obtain ⟨ji11, hji11⟩ : ∃ j_ : Int, (mn a1 a2) = j_ := ⟨_, rfl⟩
    replace H : (if a0_0 = 0 then (none) else (if (mx a1 a2) = (wrap64 ((ji11) + 1)) then (thermionref01_weight.j1 kj3 ji11 (mx a1 a2) (Int.tmod (ji11) a0_0) (decide ((Int.tmod (mx a1 a2) a0_0) > 0)) a0_0 a0_1 a0_2 l0_3) else (thermionref01_weight.j1 kj3 ji11 (mx a1 a2) (Int.tmod (ji11) a0_0) false a0_0 a0_1 a0_2 l0_3))) = some r := by first | (rw [hji11] at H; exact H) | (simp only [hji11] at H ⊢; exact H)
    have hji11_ : (if a2 < a1 then a2 else a1) = ji11 := hji11
    obtain ⟨ji12, hji12⟩ : ∃ j_ : Int, (mx a1 a2) = j_ := ⟨_, rfl⟩
    replace H : (if a0_0 = 0 then (none) else (if (ji12) = (wrap64 ((ji11) + 1)) then (thermionref01_weight.j1 kj3 ji11 ji12 (Int.tmod (ji11) a0_0) (decide ((Int.tmod (ji12) a0_0) > 0)) a0_0 a0_1 a0_2 l0_3) else (thermionref01_weight.j1 kj3 ji11 ji12 (Int.tmod (ji11) a0_0) false a0_0 a0_1 a0_2 l0_3))) = some r := by first | (rw [hji12] at H; exact H) | (simp only [hji12] at H ⊢; exact H)
    have hji12_ : (if a1 < a2 then a2 else a1) = ji12 := hji12
    by_cases c13 : a0_0 = 0
    ·rw [if_pos c13] at H
     exact absurd H (by simp)
    ·rw [if_neg c13] at H
     have c13b0 : (a0_0 == 0) = false := beq_eq_false_iff_ne.mpr c13
     have c13b1 : (a0_0 != 0) = true := bne_iff_ne.mpr c13
     have HC14 := Aside0.mk H
     clear H
     have hcz15_0 : wc.cell? ⟨gb244, 0, none⟩ = some (.int .i64 a0_0) := (blk_cell BK244.out 0).trans rfl
     have hcz15_1 : wc.cell? ⟨gb244, 1, none⟩ = some (.int .i64 a0_1) := (blk_cell BK244.out 1).trans rfl
     have hcz15_2 : wc.cell? ⟨gb244, 2, none⟩ = some (.bool a0_2) := (blk_cell BK244.out 2).trans rfl
     have hcz15_3 : wc.cell? ⟨gb244, 3, none⟩ = some (.slice A0_3 l0_3.length c0_3) := (blk_cell BK244.out 3).trans rfl
     have hfz15_0 := blk_frozen BK244.out 0
     have hfz15_1 := blk_frozen BK244.out 1
     have hfz15_2 := blk_frozen BK244.out 2
     have hfz15_3 := blk_frozen BK244.out 3
     go_upto_region 6 with (fail)
     go_cut [34] (fun v34 wc => ∃ (kq : Nat) (x34_13 : Bool), v34 = .bool x34_13 ∧ Aside0 (thermionref01_weight.j1 kq ji11 ji12 (Int.tmod (ji11) a0_0) x34_13 a0_0 a0_1 a0_2 l0_3 = some r) ∧ Aside0 (kq ≤ kj3) ∧ Aside0 (wc.heap[gb244]? = some (.cells #[.int .i64 a0_0, .int .i64 a0_1, .bool a0_2, (.slice A0_3 l0_3.length c0_3)] 24 (0, 0))) ∧ Aside0 (Below w.heap.size w wc))
     case first =>
      have H := HC14.out
      clear HC14
      by_cases c16 : (ji12) = (wrap64 ((ji11) + 1))
      ·rw [if_pos c16] at H
       have c16b0 : ((ji12) == (wrap64 ((ji11) + 1))) = true := beq_iff_eq.mpr c16
       have c16b1 : ((ji12) != (wrap64 ((ji11) + 1))) = false := bne_eq_false_iff_eq.mpr c16
       clear c16
       (first | rw [c16b0] | (simp only [i64_w, i32_w]; rw [c16b0]) | skip)
       have H' := Aside0.mk H
       clear H
       have hcz17_0 : wc.cell? ⟨gb244, 0, none⟩ = some (.int .i64 a0_0) := (blk_cell BK244.out 0).trans rfl
       have hcz17_1 : wc.cell? ⟨gb244, 1, none⟩ = some (.int .i64 a0_1) := (blk_cell BK244.out 1).trans rfl
       have hcz17_2 : wc.cell? ⟨gb244, 2, none⟩ = some (.bool a0_2) := (blk_cell BK244.out 2).trans rfl
       have hcz17_3 : wc.cell? ⟨gb244, 3, none⟩ = some (.slice A0_3 l0_3.length c0_3) := (blk_cell BK244.out 3).trans rfl
       have hfz17_0 := blk_frozen BK244.out 0
       have hfz17_1 := blk_frozen BK244.out 1
       have hfz17_2 := blk_frozen BK244.out 2
       have hfz17_3 := blk_frozen BK244.out 3
       go_wp2
       go_meet
       case rel => exact ⟨_, (decide ((Int.tmod (ji12) a0_0) > 0)), (by first | rfl | (simp; done) | (simp only [← hji12] <;> (first | rfl | simp)) | (simp [*]; done)), H', ⟨by have := HJ3.out; first | omega | exact Nat.le_refl _⟩, ⟨by (with_reducible repeat (first | refine blk_drewN ?_ _ | refine blk_drew ?_ | refine blk_alloc ?_ _)); exact BK244.out⟩, ⟨by repeat (first | (with_reducible first | exact HB.out | apply below_alloc | apply pw_below_drewN | apply below_drew1 | refine below_set ?_ GE244.out) | exact HB.out)⟩⟩
      ·rw [if_neg c16] at H
       have c16b0 : ((ji12) == (wrap64 ((ji11) + 1))) = false := beq_eq_false_iff_ne.mpr c16
       have c16b1 : ((ji12) != (wrap64 ((ji11) + 1))) = true := bne_iff_ne.mpr c16
       (first | rw [c16b0] | (simp only [i64_w, i32_w]; rw [c16b0]) | skip)
       have H' := Aside0.mk H
       clear H
       go_wp2
       go_meet
       case rel => exact ⟨_, (false), (by first | rfl | (simp; done) | (simp [*]; done)), H', ⟨by have := HJ3.out; first | omega | exact Nat.le_refl _⟩, ⟨by (with_reducible repeat (first | refine blk_drewN ?_ _ | refine blk_drew ?_ | refine blk_alloc ?_ _)); exact BK244.out⟩, ⟨by repeat (first | (with_reducible first | exact HB.out | apply below_alloc | apply pw_below_drewN | apply below_drew1 | refine below_set ?_ GE244.out) | exact HB.out)⟩⟩
     case rest =>
      clear HC14
      try clear c1
      try clear p2
      try clear p6
      try clear c7
      try clear c8
      try clear c10
      try clear c13
      try clear c13b0
      try clear c13b1
      try clear c16
      try clear c16b0
      try clear c16b1
      try clear hcz15_0
      try clear hcz15_1
      try clear hcz15_2
      try clear hcz15_3
      try clear hcz17_0
      try clear hcz17_1
      try clear hcz17_2
      try clear hcz17_3
      try clear hcz6_0
      try clear hcz6_1
      try clear hcz6_2
      try clear hcz6_3
      try clear hfz15_0
      try clear hfz15_1
      try clear hfz15_2
      try clear hfz15_3
      try clear hfz17_0
      try clear hfz17_1
      try clear hfz17_2
      try clear hfz17_3
      try clear hfz6_0
      try clear hfz6_1
      try clear hfz6_2
      try clear hfz6_3
      try clear p2
      try clear p6
      obtain ⟨kq, x34_13, rfl, HA, HJ13, BK244, HB⟩ := hcut
      cases kq with
      | zero => exact absurd HA.out (by simp [thermionref01_weight.j1])
      | succ kj13 =>
       have H := HA.out
       clear HA
       simp only [thermionref01_weight.j1] at H
       by_cases c18 : x34_13 = true
       ·subst c18
        have H1 : (if a0_2 = true then (some (wrap64 (2 * (wrap64 ((Int.tmod (ji11) a0_0) + 1))))) else (some 1)) = some r := by rw [if_pos rfl] at H; exact H
        clear H
        have H := H1
        clear H1
        by_cases c19 : a0_2 = true
        ·subst c19
         have H1 : (some (wrap64 (2 * (wrap64 ((Int.tmod (ji11) a0_0) + 1))))) = some r := by rw [if_pos rfl] at H; exact H
         clear H
         have H := H1
         clear H1
         obtain rfl := Option.some.inj H
         have hcz20_0 : wc.cell? ⟨gb244, 0, none⟩ = some (.int .i64 a0_0) := (blk_cell BK244.out 0).trans rfl
         have hcz20_1 : wc.cell? ⟨gb244, 1, none⟩ = some (.int .i64 a0_1) := (blk_cell BK244.out 1).trans rfl
         have hcz20_2 : wc.cell? ⟨gb244, 2, none⟩ = some (.bool true) := (blk_cell BK244.out 2).trans rfl
         have hcz20_3 : wc.cell? ⟨gb244, 3, none⟩ = some (.slice A0_3 l0_3.length c0_3) := (blk_cell BK244.out 3).trans rfl
         have hfz20_0 := blk_frozen BK244.out 0
         have hfz20_1 := blk_frozen BK244.out 1
         have hfz20_2 := blk_frozen BK244.out 2
         have hfz20_3 := blk_frozen BK244.out 3
         go_wp2
         go_ret
         exact ⟨by first | rfl | (simp [errW_none, errW_some] <;> rfl) | (simp only [← hji11, ← hji12]; first | rfl | (simp [errW_none, errW_some] <;> rfl)) | (simp [*, errW_none, errW_some] <;> rfl), by repeat (first | (with_reducible first | exact HB.out | apply below_alloc | apply pw_below_drewN | apply below_drew1 | refine below_set ?_ GE244.out) | exact HB.out)⟩
        ·replace c19 := Bool.eq_false_iff.mpr c19
         subst c19
         have H1 : (some 1) = some r := by rw [if_neg (show ¬ (false = true) by decide)] at H; exact H
         clear H
         have H := H1
         clear H1
         obtain rfl := Option.some.inj H
         have hcz21_0 : wc.cell? ⟨gb244, 0, none⟩ = some (.int .i64 a0_0) := (blk_cell BK244.out 0).trans rfl
         have hcz21_1 : wc.cell? ⟨gb244, 1, none⟩ = some (.int .i64 a0_1) := (blk_cell BK244.out 1).trans rfl
         have hcz21_2 : wc.cell? ⟨gb244, 2, none⟩ = some (.bool false) := (blk_cell BK244.out 2).trans rfl
         have hcz21_3 : wc.cell? ⟨gb244, 3, none⟩ = some (.slice A0_3 l0_3.length c0_3) := (blk_cell BK244.out 3).trans rfl
         have hfz21_0 := blk_frozen BK244.out 0
         have hfz21_1 := blk_frozen BK244.out 1
         have hfz21_2 := blk_frozen BK244.out 2
         have hfz21_3 := blk_frozen BK244.out 3
         go_wp2
         go_ret
         exact ⟨by first | rfl | (simp [errW_none, errW_some] <;> rfl) | (simp only [← hji11, ← hji12]; first | rfl | (simp [errW_none, errW_some] <;> rfl)) | (simp [*, errW_none, errW_some] <;> rfl), by repeat (first | (with_reducible first | exact HB.out | apply below_alloc | apply pw_below_drewN | apply below_drew1 | refine below_set ?_ GE244.out) | exact HB.out)⟩
       ·replace c18 := Bool.eq_false_iff.mpr c18
        subst c18
        have H1 : (if ji12 = (wrap64 (ji11 + a0_0)) then (if a0_2 = true then (some (wrap64 ((wrap64 (2 * (Int.tmod (ji11) a0_0))) + 1))) else (some 1)) else (some 0)) = some r := by rw [if_neg (show ¬ (false = true) by decide)] at H; exact H
        clear H
        have H := H1
        clear H1
        by_cases c22 : ji12 = (wrap64 (ji11 + a0_0))
        ·rw [if_pos c22] at H
         have c22b0 : (ji12 == (wrap64 (ji11 + a0_0))) = true := beq_iff_eq.mpr c22
         have c22b1 : (ji12 != (wrap64 (ji11 + a0_0))) = false := bne_eq_false_iff_eq.mpr c22
         clear c22
         by_cases c23 : a0_2 = true
         ·subst c23
          have H1 : (some (wrap64 ((wrap64 (2 * (Int.tmod (ji11) a0_0))) + 1))) = some r := by rw [if_pos rfl] at H; exact H
          clear H
          have H := H1
          clear H1
          obtain rfl := Option.some.inj H
          have hcz24_0 : wc.cell? ⟨gb244, 0, none⟩ = some (.int .i64 a0_0) := (blk_cell BK244.out 0).trans rfl
          have hcz24_1 : wc.cell? ⟨gb244, 1, none⟩ = some (.int .i64 a0_1) := (blk_cell BK244.out 1).trans rfl
          have hcz24_2 : wc.cell? ⟨gb244, 2, none⟩ = some (.bool true) := (blk_cell BK244.out 2).trans rfl
          have hcz24_3 : wc.cell? ⟨gb244, 3, none⟩ = some (.slice A0_3 l0_3.length c0_3) := (blk_cell BK244.out 3).trans rfl
          have hfz24_0 := blk_frozen BK244.out 0
          have hfz24_1 := blk_frozen BK244.out 1
          have hfz24_2 := blk_frozen BK244.out 2
          have hfz24_3 := blk_frozen BK244.out 3
          go_wp2
          go_ret
          exact ⟨by first | rfl | (simp [errW_none, errW_some] <;> rfl) | (simp only [← hji11, ← hji12]; first | rfl | (simp [errW_none, errW_some] <;> rfl)) | (simp [*, errW_none, errW_some] <;> rfl), by repeat (first | (with_reducible first | exact HB.out | apply below_alloc | apply pw_below_drewN | apply below_drew1 | refine below_set ?_ GE244.out) | exact HB.out)⟩
         ·replace c23 := Bool.eq_false_iff.mpr c23
          subst c23
          have H1 : (some 1) = some r := by rw [if_neg (show ¬ (false = true) by decide)] at H; exact H
          clear H
          have H := H1
          clear H1
          obtain rfl := Option.some.inj H
          have hcz25_0 : wc.cell? ⟨gb244, 0, none⟩ = some (.int .i64 a0_0) := (blk_cell BK244.out 0).trans rfl
          have hcz25_1 : wc.cell? ⟨gb244, 1, none⟩ = some (.int .i64 a0_1) := (blk_cell BK244.out 1).trans rfl
          have hcz25_2 : wc.cell? ⟨gb244, 2, none⟩ = some (.bool false) := (blk_cell BK244.out 2).trans rfl
          have hcz25_3 : wc.cell? ⟨gb244, 3, none⟩ = some (.slice A0_3 l0_3.length c0_3) := (blk_cell BK244.out 3).trans rfl
          have hfz25_0 := blk_frozen BK244.out 0
          have hfz25_1 := blk_frozen BK244.out 1
          have hfz25_2 := blk_frozen BK244.out 2
          have hfz25_3 := blk_frozen BK244.out 3
          go_wp2
          go_ret
          exact ⟨by first | rfl | (simp [errW_none, errW_some] <;> rfl) | (simp only [← hji11, ← hji12]; first | rfl | (simp [errW_none, errW_some] <;> rfl)) | (simp [*, errW_none, errW_some] <;> rfl), by repeat (first | (with_reducible first | exact HB.out | apply below_alloc | apply pw_below_drewN | apply below_drew1 | refine below_set ?_ GE244.out) | exact HB.out)⟩
        ·rw [if_neg c22] at H
         have c22b0 : (ji12 == (wrap64 (ji11 + a0_0))) = false := beq_eq_false_iff_ne.mpr c22
         have c22b1 : (ji12 != (wrap64 (ji11 + a0_0))) = true := bne_iff_ne.mpr c22
         obtain rfl := Option.some.inj H
         have hcz26_0 : wc.cell? ⟨gb244, 0, none⟩ = some (.int .i64 a0_0) := (blk_cell BK244.out 0).trans rfl
         have hcz26_1 : wc.cell? ⟨gb244, 1, none⟩ = some (.int .i64 a0_1) := (blk_cell BK244.out 1).trans rfl
         have hcz26_2 : wc.cell? ⟨gb244, 2, none⟩ = some (.bool a0_2) := (blk_cell BK244.out 2).trans rfl
         have hcz26_3 : wc.cell? ⟨gb244, 3, none⟩ = some (.slice A0_3 l0_3.length c0_3) := (blk_cell BK244.out 3).trans rfl
         have hfz26_0 := blk_frozen BK244.out 0
         have hfz26_1 := blk_frozen BK244.out 1
         have hfz26_2 := blk_frozen BK244.out 2
         have hfz26_3 := blk_frozen BK244.out 3
         go_wp2
         go_ret
         exact ⟨by first | rfl | (simp [errW_none, errW_some] <;> rfl) | (simp only [← hji11, ← hji12]; first | rfl | (simp [errW_none, errW_some] <;> rfl)) | (simp [*, errW_none, errW_some] <;> rfl), by repeat (first | (with_reducible first | exact HB.out | apply below_alloc | apply pw_below_drewN | apply below_drew1 | refine below_set ?_ GE244.out) | exact HB.out)⟩
mutual
def thermionref01_around.j0 : Nat → Int → List Int → Int → Int → Bool → List Int → Option (List Int)
 | 0, _, _, _, _, _, _ => none
 | k + 1, x1, x5, x248000, x248001, x248002, x248003 => thermionref01_around.l0 k x1 x5 ([] : List Int) 0 x248000 x248001 x248002 x248003
def thermionref01_around.l0 : Nat → Int → List Int → List Int → Int → Int → Int → Bool → List Int → Option (List Int)
 | 0, _, _, _, _, _, _, _, _ => none
 | k + 1, x1, x5, x6, x7, x248000, x248001, x248002, x248003 => if x7 < (x5.length : Int) then (if 0 ≤ x7 then ((thermionref01_weight.f k x248000 x248001 x248002 x248003 x1 (rd x5 x7)).bind fun t255 => (if t255 > 0 then (if x6.length < 17592186044416 then (thermionref01_around.l0 k x1 x5 (x6 ++ [rd x5 x7]) (wrap64 (x7 + 1)) x248000 x248001 x248002 x248003) else (none)) else (thermionref01_around.l0 k x1 x5 x6 (wrap64 (x7 + 1)) x248000 x248001 x248002 x248003))) else (none)) else (some x6)
end
def thermionref01_around.f (k : Nat) (a0_0 : Int) (a0_1 : Int) (a0_2 : Bool) (l0_3 : List Int) (a1 : Int) : Option (List Int) := if a0_0 = 1 then (thermionref01_around.j0 k a1 (([wrap64 (a1 - 1), wrap64 (a1 + 1)] : List Int)) a0_0 a0_1 a0_2 l0_3) else (thermionref01_around.j0 k a1 (([wrap64 (a1 - a0_0), wrap64 (a1 - 1), wrap64 (a1 + 1), wrap64 (a1 + a0_0)] : List Int)) a0_0 a0_1 a0_2 l0_3)
def thermionref01_around.T8 : Bool × List (List Nat × List Nat) := (true, [([], []), ([], []), ([], []), ([], []), ([2, 3], [2, 3]), ([4], [4]), ([0, 1, 5], [0, 1, 5]), ([6], [6])])
def thermionref01_around.B8 : List Nat := [0, 0, 0, 0, 12, 28, 63, 127]
theorem thermionref01_around.tab8 : rtab .any (opsOf Try.f100 8) = thermionref01_around.T8 := by kernel_rfl
theorem thermionref01_around.bits8 : waitsOk thermionref01_around.T8.2 thermionref01_around.B8 = true := by kernel_rfl
set_option maxHeartbeats 8000000 in
set_option maxRecDepth 100000 in
theorem thermionref01_around.calls (k : Nat) (a0_0 : Int) (a0_1 : Int) (a0_2 : Bool) (A0_3 : Option Addr) (c0_3 : Nat) (l0_3 : List Int) (a1 : Int) (r : List Int) (w : World) (hr0_3 : Kd.C (Kd.int .i64) w A0_3 l0_3.length l0_3) (hc0_3 : l0_3.length ≤ c0_3) (h : thermionref01_around.f k a0_0 a0_1 a0_2 l0_3 a1 = some r) :
  Calls Try.prog 100 #[.agg #[.int .i64 a0_0, .int .i64 a0_1, .bool a0_2, .slice A0_3 l0_3.length c0_3], .int .i64 a1] w fun e w' => ∃ v0_ : Value, e = .returned (v0_) ∧ Kd.R (Kd.int .i64) 3 w' w.heap.size (fun _ => True) v0_ r ∧ Below w.heap.size w w' := by
 have hu24 := Try.underlying24
 have HR0_3 := Aside0.mk hr0_3
 have HC0_3 := Aside0.mk hc0_3
 clear hr0_3 hc0_3
 have HB := Aside0.mk (Below.refl w.heap.size w)
 have H : (if a0_0 = 1 then (thermionref01_around.j0 k a1 (([wrap64 (a1 - 1), wrap64 (a1 + 1)] : List Int)) a0_0 a0_1 a0_2 l0_3) else (thermionref01_around.j0 k a1 (([wrap64 (a1 - a0_0), wrap64 (a1 - 1), wrap64 (a1 + 1), wrap64 (a1 + a0_0)] : List Int)) a0_0 a0_1 a0_2 l0_3)) = some r := h
 clear h
 obtain ⟨y248, hy248⟩ : ∃ y_ : List Int, y_ = (([wrap64 (a1 - a0_0), wrap64 (a1 - 1), wrap64 (a1 + 1), wrap64 (a1 + a0_0)] : List Int)) := ⟨_, rfl⟩
 replace H : (if a0_0 = 1 then (thermionref01_around.j0 k a1 (([wrap64 (a1 - 1), wrap64 (a1 + 1)] : List Int)) a0_0 a0_1 a0_2 l0_3) else (thermionref01_around.j0 k a1 y248 a0_0 a0_1 a0_2 l0_3)) = some r := by first | (rw [hy248]; with_reducible exact H) | (have H2_ := (Option.bind_some _ _).symm.trans H; rw [hy248]; with_reducible exact H2_) | (have H2_ := (Option.bind_some _ _).symm.trans H; with_reducible exact H2_) | with_reducible exact H | (rw [hy248]; exact H) | exact H
 have Ny248 := Aside0.mk hy248
 clear hy248
 have HC3 := Aside0.mk H
 clear H
 go_enter Try.func100, Try.ntmps100
 go_upto_if 23 with (first | ((with_reducible refine gate_dst (N := 2) rfl ?_); refine box_event ?hg (N := 2) ?hd (cs := #[.int .i64 a0_0, .int .i64 a0_1, .bool a0_2, .slice A0_3 l0_3.length c0_3]) (t := 24) ?hr ?_; (case hd => rfl); (case hg => rfl); (case hr => first | (go_simp; done) | (go_simp; rfl)); intro gb247 hg w4 hbox hb; have n0_ := Aside0.mk (below_step (by repeat (first | (with_reducible first | exact HB.out | apply below_alloc | apply pw_below_drewN | apply below_drew1) | exact HB.out)) hb); have n1_ := Aside0.mk (hbox); have n2_ := Aside0.mk ((by rw [hg]; exact (below_size (by repeat (first | (with_reducible first | exact HB.out | apply below_alloc | apply pw_below_drewN | apply below_drew1) | exact HB.out))) : w.heap.size ≤ gb247)); have n3_ := Aside0.mk ((by rw [hg]; exact (below_size (by repeat (first | (with_reducible first | exact HB.out | apply below_alloc | apply pw_below_drewN | apply below_drew1) | exact HB.out))) : w.heap.size ≤ gb247)); clear HB; have HB := n0_; have BK247 := n1_; have GW247 := n2_; have GE247 := n3_; clear n0_ n1_ n2_ n3_; clear hb hbox hg; have hcz5_0 : w4.cell? ⟨gb247, 0, none⟩ = some (.int .i64 a0_0) := (blk_cell BK247.out 0).trans rfl; have hcz5_1 : w4.cell? ⟨gb247, 1, none⟩ = some (.int .i64 a0_1) := (blk_cell BK247.out 1).trans rfl; have hcz5_2 : w4.cell? ⟨gb247, 2, none⟩ = some (.bool a0_2) := (blk_cell BK247.out 2).trans rfl; have hcz5_3 : w4.cell? ⟨gb247, 3, none⟩ = some (.slice A0_3 l0_3.length c0_3) := (blk_cell BK247.out 3).trans rfl; have hfz5_0 := blk_frozen BK247.out 0; have hfz5_1 := blk_frozen BK247.out 1; have hfz5_2 := blk_frozen BK247.out 2; have hfz5_3 := blk_frozen BK247.out 3) | ((with_reducible refine gate_dst (N := 20) rfl ?_); refine Kd.R_lit (Kd.int .i64) _ 3 ?hg (N := 20) ?hd (xs := ([wrap64 (a1 - a0_0), wrap64 (a1 - 1), wrap64 (a1 + 1), wrap64 (a1 + a0_0)] : List Int)) (inner := [.int .i64 (wrap64 (a1 - a0_0)), .int .i64 (wrap64 (a1 - 1)), .int .i64 (wrap64 (a1 + 1)), .int .i64 (wrap64 (a1 + a0_0))]) (ok := fun _ => True) (okp := fun _ => True) ?hr ?hp (fun _ hk => hk) trivial (Below.refl _ _) (Nat.le_refl _) (by simp) ?_; (case hd => rfl); (case hg => rfl); (case hr => first | (go_simp; done) | (go_simp; rfl)); (case hp => exact (Reps.one (show Kd.M (Kd.int .i64) _ _ _ (wrap64 (a1 - a0_0)) [.int .i64 (wrap64 (a1 - a0_0))] from rfl) (Reps.one (show Kd.M (Kd.int .i64) _ _ _ (wrap64 (a1 - 1)) [.int .i64 (wrap64 (a1 - 1))] from rfl) (Reps.one (show Kd.M (Kd.int .i64) _ _ _ (wrap64 (a1 + 1)) [.int .i64 (wrap64 (a1 + 1))] from rfl) (Reps.one (show Kd.M (Kd.int .i64) _ _ _ (wrap64 (a1 + a0_0)) [.int .i64 (wrap64 (a1 + a0_0))] from rfl) (Reps.none _ _)))))); intro v249 w6 ho7 hb hg_ hnew_; clear hg_ hnew_; (first | rw [← Ny248.out] at ho7 | (simp only [Int.reduceToNat] at ho7; rw [← Ny248.out] at ho7)); have n0_ := Aside0.mk (Kd.R_lower ho7 (below_size (by repeat (first | (with_reducible first | exact HB.out | apply below_alloc | apply pw_below_drewN | apply below_drew1 | refine below_set ?_ GE247.out) | exact HB.out)))); have n1_ := Aside0.mk (blk_below (g := gb247) (o := .cells #[.int .i64 a0_0, .int .i64 a0_1, .bool a0_2, .slice A0_3 l0_3.length c0_3] 24 (0, 0)) (by (with_reducible repeat (first | refine blk_drewN ?_ _ | refine blk_drew ?_ | refine blk_alloc ?_ _)); exact BK247.out) hb); have n2_ := Aside0.mk (below_step (by repeat (first | (with_reducible first | exact HB.out | apply below_alloc | apply pw_below_drewN | apply below_drew1 | refine below_set ?_ GE247.out) | exact HB.out)) hb); clear BK247; clear HB; have HO250 := n0_; have BK247 := n1_; have HB := n2_; clear n0_ n1_ n2_; clear hb ho7; have hcz8_0 : w6.cell? ⟨gb247, 0, none⟩ = some (.int .i64 a0_0) := (blk_cell BK247.out 0).trans rfl; have hcz8_1 : w6.cell? ⟨gb247, 1, none⟩ = some (.int .i64 a0_1) := (blk_cell BK247.out 1).trans rfl; have hcz8_2 : w6.cell? ⟨gb247, 2, none⟩ = some (.bool a0_2) := (blk_cell BK247.out 2).trans rfl; have hcz8_3 : w6.cell? ⟨gb247, 3, none⟩ = some (.slice A0_3 l0_3.length c0_3) := (blk_cell BK247.out 3).trans rfl; have hfz8_0 := blk_frozen BK247.out 0; have hfz8_1 := blk_frozen BK247.out 1; have hfz8_2 := blk_frozen BK247.out 2; have hfz8_3 := blk_frozen BK247.out 3))
 (try simp only [Act.put, List.setIfInBounds_toArray, List.set_cons_zero, List.set_cons_succ])
 go_cut [5] (fun v5 wc => ∃ (kq : Nat) (x5_2 : List Int), Aside0 (thermionref01_around.j0 kq a1 x5_2 a0_0 a0_1 a0_2 l0_3 = some r) ∧ Aside0 (kq ≤ k) ∧ Aside0 (Kd.R (Kd.int .i64) 3 wc w.heap.size (fun _ => True) v5 x5_2) ∧ Aside0 (wc.heap[gb247]? = some (.cells #[.int .i64 a0_0, .int .i64 a0_1, .bool a0_2, (.slice A0_3 l0_3.length c0_3)] 24 (0, 0))) ∧ Aside0 (Below w.heap.size w wc))
 case first =>
  have H := HC3.out
  clear HC3
  by_cases c9 : a0_0 = 1
  ·rw [if_pos c9] at H
   have c9b0 : (a0_0 == 1) = true := beq_iff_eq.mpr c9
   have c9b1 : (a0_0 != 1) = false := bne_eq_false_iff_eq.mpr c9
   clear c9
   (first | rw [c9b0] | (simp only [i64_w, i32_w]; rw [c9b0]) | skip)
   obtain ⟨y251, hy251⟩ : ∃ y_ : List Int, y_ = (([wrap64 (a1 - 1), wrap64 (a1 + 1)] : List Int)) := ⟨_, rfl⟩
   replace H : (thermionref01_around.j0 k a1 y251 a0_0 a0_1 a0_2 l0_3) = some r := by first | (rw [hy251]; with_reducible exact H) | (have H2_ := (Option.bind_some _ _).symm.trans H; rw [hy251]; with_reducible exact H2_) | (have H2_ := (Option.bind_some _ _).symm.trans H; with_reducible exact H2_) | with_reducible exact H | (rw [hy251]; exact H) | exact H
   have Ny251 := Aside0.mk hy251
   clear hy251
   have H' := Aside0.mk H
   clear H
   go_wp2_with (first | ((with_reducible refine gate_dst (N := 28) rfl ?_); refine Kd.R_lit (Kd.int .i64) _ 3 ?hg (N := 28) ?hd (xs := ([wrap64 (a1 - 1), wrap64 (a1 + 1)] : List Int)) (inner := [.int .i64 (wrap64 (a1 - 1)), .int .i64 (wrap64 (a1 + 1))]) (ok := fun _ => True) (okp := fun _ => True) ?hr ?hp (fun _ hk => hk) trivial (Below.refl _ _) (Nat.le_refl _) (by simp) ?_; (case hd => rfl); (case hg => rfl); (case hr => first | (go_simp; done) | (go_simp; rfl)); (case hp => exact (Reps.one (show Kd.M (Kd.int .i64) _ _ _ (wrap64 (a1 - 1)) [.int .i64 (wrap64 (a1 - 1))] from rfl) (Reps.one (show Kd.M (Kd.int .i64) _ _ _ (wrap64 (a1 + 1)) [.int .i64 (wrap64 (a1 + 1))] from rfl) (Reps.none _ _)))); intro v252 w10 ho11 hb hg_ hnew_; clear hg_ hnew_; (first | rw [← Ny251.out] at ho11 | (simp only [Int.reduceToNat] at ho11; rw [← Ny251.out] at ho11)); have n0_ := Aside0.mk (Kd.R_elder' (by (with_reducible repeat (first | apply Kd.R_alloc | apply Kd.R_drewN | apply Kd.R_drew)); exact HO250.out) (Kd.R_base ho11) hb); have n1_ := Aside0.mk (Kd.R_lower (Kd.R_new' ho11 (Kd.R_lt (by (with_reducible repeat (first | apply Kd.R_alloc | apply Kd.R_drewN | apply Kd.R_drew)); exact HO250.out))) (below_size (by repeat (first | (with_reducible first | exact HB.out | apply below_alloc | apply pw_below_drewN | apply below_drew1 | refine below_set ?_ GE247.out) | exact HB.out)))); have n2_ := Aside0.mk (blk_below (g := gb247) (o := .cells #[.int .i64 a0_0, .int .i64 a0_1, .bool a0_2, .slice A0_3 l0_3.length c0_3] 24 (0, 0)) (by (with_reducible repeat (first | refine blk_drewN ?_ _ | refine blk_drew ?_ | refine blk_alloc ?_ _)); exact BK247.out) hb); have n3_ := Aside0.mk (below_step (by repeat (first | (with_reducible first | exact HB.out | apply below_alloc | apply pw_below_drewN | apply below_drew1 | refine below_set ?_ GE247.out) | exact HB.out)) hb); clear HO250; clear BK247; clear HB; have HO250 := n0_; have HO253 := n1_; have BK247 := n2_; have HB := n3_; clear n0_ n1_ n2_ n3_; clear hb ho11))
   go_meet
   case rel => exact ⟨_, (y251), H', ⟨by first | omega | exact Nat.le_refl _⟩, ⟨by (with_reducible repeat (first | apply Kd.R_alloc | apply Kd.R_drewN | apply Kd.R_drew)); exact Kd.R_mono HO253.out (fun _ hk => trivial)⟩, ⟨by (with_reducible repeat (first | refine blk_drewN ?_ _ | refine blk_drew ?_ | refine blk_alloc ?_ _)); exact BK247.out⟩, ⟨by repeat (first | (with_reducible first | exact HB.out | apply below_alloc | apply pw_below_drewN | apply below_drew1 | refine below_set ?_ GE247.out) | exact HB.out)⟩⟩
  ·rw [if_neg c9] at H
   have c9b0 : (a0_0 == 1) = false := beq_eq_false_iff_ne.mpr c9
   have c9b1 : (a0_0 != 1) = true := bne_iff_ne.mpr c9
   (first | rw [c9b0] | (simp only [i64_w, i32_w]; rw [c9b0]) | skip)
   have H' := Aside0.mk H
   clear H
   go_wp2
   go_meet
   case rel => exact ⟨_, (y248), H', ⟨by first | omega | exact Nat.le_refl _⟩, ⟨by (with_reducible repeat (first | apply Kd.R_alloc | apply Kd.R_drewN | apply Kd.R_drew)); exact HO250.out⟩, ⟨by (with_reducible repeat (first | refine blk_drewN ?_ _ | refine blk_drew ?_ | refine blk_alloc ?_ _)); exact BK247.out⟩, ⟨by repeat (first | (with_reducible first | exact HB.out | apply below_alloc | apply pw_below_drewN | apply below_drew1 | refine below_set ?_ GE247.out) | exact HB.out)⟩⟩
 case rest =>
  clear HC3
  try clear c1
  try clear p2
  try clear p6
  try clear c9
  try clear c9b0
  try clear c9b1
  try clear c10
  try clear hcz5_0
  try clear hcz5_1
  try clear hcz5_2
  try clear hcz5_3
  try clear hcz8_0
  try clear hcz8_1
  try clear hcz8_2
  try clear hcz8_3
  try clear hfz5_0
  try clear hfz5_1
  try clear hfz5_2
  try clear hfz5_3
  try clear hfz8_0
  try clear hfz8_1
  try clear hfz8_2
  try clear hfz8_3
  obtain ⟨kq, x5_2, HA, HJ2, HO_5, BK247, HB⟩ := hcut
  cases kq with
  | zero => exact absurd HA.out (by simp [thermionref01_around.j0])
  | succ kj2 =>
   have H := HA.out
   clear HA
   simp only [thermionref01_around.j0] at H
   have H' := Aside0.mk H
   clear H
   go_wp2
   go_loopg [6, 7] kj2 (fun kq v6 v7 w' => ∃ (x6_2 : List Int) (x7_2 : Int), v7 = .int .i64 x7_2 ∧ Aside0 (thermionref01_around.l0 kq a1 x5_2 x6_2 x7_2 a0_0 a0_1 a0_2 l0_3 = some r) ∧ Aside0 (kq ≤ kj2) ∧ Aside0 (Kd.R (Kd.int .i64) 3 w' w.heap.size (fun k_ => some k_ ≠ (v6 : Value).ownBlock) u5 x5_2) ∧ Aside0 (Kd.R (Kd.int .i64) 3 w' w.heap.size (fun k_ => some k_ ≠ (u5 : Value).ownBlock) v6 x6_2) ∧ Aside0 (w'.heap[gb247]? = some (.cells #[.int .i64 a0_0, .int .i64 a0_1, .bool a0_2, (.slice A0_3 l0_3.length c0_3)] 24 (0, 0))) ∧ Aside0 (Below w.heap.size w w'))
   case atStart => exact ⟨(([] : List Int)), (0), (by first | rfl | (simp; done) | (simp [*]; done)), H', ⟨Nat.le_refl _⟩, ⟨by (with_reducible repeat (first | apply Kd.R_alloc | apply Kd.R_drewN | apply Kd.R_drew)); exact Kd.R_mono HO_5.out (fun _ hk => (by simp [Value.ownBlock]))⟩, ⟨by first | exact Kd.R_nil _ _ _ _ _ | exact Kd.N_nil _ _ _ _ _ | exact Kd.V_nil _ _ _ _ _ | exact Kd.Q_nil _ _ _ _ _ | exact Kd.S_nil _ _ _ _ _⟩, ⟨by (with_reducible repeat (first | refine blk_drewN ?_ _ | refine blk_drew ?_ | refine blk_alloc ?_ _)); exact BK247.out⟩, ⟨by repeat (first | (with_reducible first | exact HB.out | apply below_alloc | apply pw_below_drewN | apply below_drew1 | refine below_set ?_ GE247.out) | exact HB.out)⟩⟩
   case round =>
    clear H'
    try clear c1
    try clear p2
    try clear p6
    try clear c9
    try clear c9b0
    try clear c9b1
    try clear c10
    try clear hcz5_0
    try clear hcz5_1
    try clear hcz5_2
    try clear hcz5_3
    try clear hcz8_0
    try clear hcz8_1
    try clear hcz8_2
    try clear hcz8_3
    try clear hfz5_0
    try clear hfz5_1
    try clear hfz5_2
    try clear hfz5_3
    try clear hfz8_0
    try clear hfz8_1
    try clear hfz8_2
    try clear hfz8_3
    try clear p2
    try clear p6
    obtain ⟨x6_2, x7_2, rfl, HA, HK2, HO_5, HO_6, BK247, HB⟩ := hrel
    cases gk with
    | zero => exact absurd HA.out (by simp [thermionref01_around.l0])
    | succ k2 =>
     have H := HA.out
     clear HA
     simp only [thermionref01_around.l0] at H
     by_cases c12 : x7_2 < (x5_2.length : Int)
     ·rw [if_pos c12] at H
      have c12b0 := decide_eq_true c12
      clear c12
      by_cases c13 : 0 ≤ x7_2
      ·rw [if_pos c13] at H
       have c13b0 := decide_eq_true c13
       clear c13
       replace H := Option.bind_eq_some_iff.mp H
       obtain ⟨t255, A140, H⟩ := H
       replace H : (if t255 > 0 then (if x6_2.length < 17592186044416 then (thermionref01_around.l0 k2 a1 x5_2 (x6_2 ++ [rd x5_2 x7_2]) (wrap64 (x7_2 + 1)) a0_0 a0_1 a0_2 l0_3) else (none)) else (thermionref01_around.l0 k2 a1 x5_2 x6_2 (wrap64 (x7_2 + 1)) a0_0 a0_1 a0_2 l0_3)) = some r := H
       have A14 := Aside0.mk A140
       clear A140
       by_cases c15 : t255 > 0
       ·rw [if_pos c15] at H
        have c15b0 := decide_eq_true c15
        clear c15
        by_cases c16 : x6_2.length < 17592186044416
        ·rw [if_pos c16] at H
         have LMc16 := Aside0.mk c16
         clear c16
         obtain ⟨y257, hy257⟩ : ∃ y_ : List Int, y_ = (x6_2 ++ [rd x5_2 x7_2]) := ⟨_, rfl⟩
         replace H : (thermionref01_around.l0 k2 a1 x5_2 y257 (wrap64 (x7_2 + 1)) a0_0 a0_1 a0_2 l0_3) = some r := by first | (rw [hy257]; with_reducible exact H) | (have H2_ := (Option.bind_some _ _).symm.trans H; rw [hy257]; with_reducible exact H2_) | (have H2_ := (Option.bind_some _ _).symm.trans H; with_reducible exact H2_) | with_reducible exact H | (rw [hy257]; exact H) | exact H
         have Ny257 := Aside0.mk hy257
         clear hy257
         have H' := Aside0.mk H
         clear H
         obtain ⟨Ao17, co17, eo17⟩ := Kd.R_slice HO_5.out
         subst eo17
         try go_wp2
         have n0_ := Aside0.mk (Kd.R_drew HO_5.out)
         have n1_ := Aside0.mk (Kd.R_drew HO_6.out)
         have n2_ := Aside0.mk (blk_drew BK247.out)
         have n3_ := Aside0.mk (below_drew1 HB.out)
         clear HO_5 HO_6 BK247 HB
         have HO_5 := n0_
         have HO_6 := n1_
         have BK247 := n2_
         have HB := n3_
         clear n0_ n1_ n2_ n3_
         have p254 : 0 ≤ (x7_2 : Int) := of_decide_eq_true (by first | (with_reducible assumption) | assumption)
         have q254 : x7_2 < (x5_2.length : Int) := of_decide_eq_true (by first | (with_reducible assumption) | assumption)
         obtain ⟨ad254, e254, hx254_0⟩ := Kd.at_int (Kd.R_reads' HO_5.out).2.2 x7_2 p254 q254
         cases e254
         replace p254 := eq_true p254
         replace q254 := eq_true q254
         refine start_ (n := 8) (S := fun w' => w'.cell? ⟨gb247, 0, none⟩ = some (.int .i64 a0_0) ∧ w'.cell? ⟨gb247, 1, none⟩ = some (.int .i64 a0_1) ∧ w'.cell? ⟨gb247, 2, none⟩ = some (.bool a0_2) ∧ w'.cell? ⟨gb247, 3, none⟩ = some (.slice A0_3 l0_3.length c0_3) ∧ w'.cell? (ad254.add (x7_2).toNat) = some (.int .i64 (rd x5_2 x7_2))) (ds := []) #[false, false, false, false, false, false, false, false] (by kernel_rfl) rfl rfl ⟨(blk_cell BK247.out 0).trans rfl, (blk_cell BK247.out 1).trans rfl, (blk_cell BK247.out 2).trans rfl, (blk_cell BK247.out 3).trans rfl, hx254_0⟩ (fun hHeld => ?_); refine with_tabW thermionref01_around.tab8 thermionref01_around.bits8 (fun HT_ HW_ => ?_)
         generalize wr.drew = w18 at HO_5 HO_6 BK247 HB hx254_0 hHeld ⊢
         refine pure_ (i := 1) (N := some 36) (v := ?_) (a' := ?_) (bS 8 2) rfl rfl (any_of HT_.out (by kernel_rfl)) (fun _ _ _ h => h) (Or.inl ⟨by rfl, ?_⟩) ?_ ?_; rotate_left; (· intro w'; go_simp; with_reducible rfl); rotate_left; (· simp only [Act.put, sT, sZ, sS, i64_w, i32_w]; rfl)
         refine pure_ (i := 2) (N := some 37) (v := ?_) (a' := ?_) (bS 8 6) rfl rfl (any_of HT_.out (by kernel_rfl)) (fun _ _ _ h => h) (Or.inl ⟨by rfl, ?_⟩) ?_ ?_; rotate_left; (· intro w'; go_simp; with_reducible rfl); rotate_left; (· simp only [Act.put, sT, sZ, sS, i64_w, i32_w]; rfl)
         refine pure_ (i := 3) (N := some 38) (v := ?_) (a' := ?_) (bS 8 14) rfl rfl (any_of HT_.out (by kernel_rfl)) (fun _ _ _ h => h) (Or.inl ⟨by rfl, ?_⟩) ?_ ?_; rotate_left; (· intro w'; go_simp; with_reducible rfl); rotate_left; (· simp only [Act.put, sT, sZ, sS, i64_w, i32_w]; rfl)
         refine pure_ (i := 4) (N := some 39) (v := ?_) (a' := ?_) (bS 8 30) rfl rfl (any_of HT_.out (by kernel_rfl)) (fun _ _ _ h => h) (Or.inl ⟨by rfl, ?_⟩) ?_ ?_; rotate_left; (· intro w'; go_simp; with_reducible rfl); rotate_left; (· simp only [Act.put, sT, sZ, sS, i64_w, i32_w]; rfl)
         refine take_ (i := 0) (N := some 35) (v := ?_) (a' := ?_) (bS 8 31) rfl rfl (take_ofW HT_.out HW_.out (by kernel_rfl)) (fun _ _ _ h => h) (Or.inl ⟨by rfl, ?_⟩) hHeld ?_ ?_; rotate_left; (· rintro w' ⟨s0, s1, s2, s3, s4⟩; go_simp; with_reducible rfl); rotate_left; (· simp only [Act.put, sT, sZ, sS, i64_w, i32_w]; rfl)
         refine take_ (i := 5) (N := some 40) (v := ?_) (a' := ?_) (bS 8 63) rfl rfl (take_ofW HT_.out HW_.out (by kernel_rfl)) (fun _ _ _ h => h) (Or.inl ⟨by rfl, ?_⟩) hHeld ?_ ?_; rotate_left; (· rintro w' ⟨s0, s1, s2, s3, s4⟩; go_simp; with_reducible rfl); rotate_left; (· simp only [Act.put, sT, sZ, sS, i64_w, i32_w]; rfl)
         refine one_ (i := 6) (N := some 41) (bS 8 127) rfl rfl (one_of HT_.out (by kernel_rfl)) (by decide) (fun K hK => ?_)
         refine goes_ Try.func81 (by kernel_rfl) rfl #[.agg #[.int .i64 a0_0, .int .i64 a0_1, .bool a0_2, .slice A0_3 l0_3.length c0_3], .int .i64 a1, .int .i64 (rd x5_2 x7_2)] (by rfl) rfl rfl (by (try simp only [List.map_toArray, List.map_cons, List.map_nil]); first | done | rfl | (simp only [List.length_drop, List.length_take]; rfl)) ?_
         with_reducible refine (thermionref01_weight.calls k2 a0_0 a0_1 a0_2 _ _ l0_3 a1 (rd x5_2 x7_2) t255 _ ?side1 ?side2 A14.out).mono ?_
         (case side1 => repeat (first | exact (Kd.C_below HR0_3.out HB.out) | (with_reducible refine Kd.C_alloc ?_ _) | (with_reducible refine Kd.C_drewN ?_ _) | (with_reducible refine Kd.C_drew ?_)))
         (case side2 => exact HC0_3.out)
         rintro e w19 ⟨rfl, hb⟩
         have HS4_ := (hb.cell (World.block_lt_of_cell? _ _ (hHeld.2.2.2.2))).trans (hHeld.2.2.2.2)
         refine ⟨_, rfl, ?_⟩
         have n0_ := Aside0.mk (Kd.R_below (by (with_reducible repeat (first | apply Kd.R_alloc | apply Kd.R_drewN | apply Kd.R_drew)); exact HO_5.out) hb)
         have n1_ := Aside0.mk (Kd.R_below (by (with_reducible repeat (first | apply Kd.R_alloc | apply Kd.R_drewN | apply Kd.R_drew)); exact HO_6.out) hb)
         have n2_ := Aside0.mk (blk_below (g := gb247) (o := .cells #[.int .i64 a0_0, .int .i64 a0_1, .bool a0_2, .slice A0_3 l0_3.length c0_3] 24 (0, 0)) (by (with_reducible repeat (first | refine blk_drewN ?_ _ | refine blk_drew ?_ | refine blk_alloc ?_ _)); exact BK247.out) hb)
         have n3_ := Aside0.mk (below_step (by repeat (first | (with_reducible first | exact HB.out | apply below_alloc | apply pw_below_drewN | apply below_drew1 | refine below_set ?_ GE247.out) | exact HB.out)) hb)
         clear HO_5 HO_6 BK247 HB
         have HO_5 := n0_
         have HO_6 := n1_
         have BK247 := n2_
         have HB := n3_
         clear n0_ n1_ n2_ n3_
         (try clear hb)
         (try clear hb2)
         (try clear hk)
         (try clear hi)
         refine hK.out _ _ ⟨(blk_cell BK247.out 0).trans rfl, (blk_cell BK247.out 1).trans rfl, (blk_cell BK247.out 2).trans rfl, (blk_cell BK247.out 3).trans rfl, HS4_⟩ (fun hHeld => ?_)
         clear hK K
         refine norm_ (a' := ?_) ?_ ?_
         rotate_left
         ·show Act.put _ (some 41) _ = _
          simp only [Act.put, sT, sZ, sS, i64_w, i32_w]
          rfl
         refine pure_ (i := 7) (N := some 42) (v := ?_) (a' := ?_) (bS 8 255) rfl rfl (any_of HT_.out (by kernel_rfl)) (fun _ _ _ h => h) (Or.inl ⟨by rfl, ?_⟩) ?_ ?_; rotate_left; (· intro w'; go_simp; with_reducible rfl); rotate_left; (· simp only [Act.put, sT, sZ, sS, i64_w, i32_w]; rfl)
         refine done_ (done_of HT_.out (by kernel_rfl)) ?_
         have p256 : 0 ≤ (x7_2 : Int) := of_decide_eq_true (by first | (with_reducible assumption) | assumption)
         have q256 : x7_2 < (x5_2.length : Int) := of_decide_eq_true (by first | (with_reducible assumption) | assumption)
         obtain ⟨ad256, e256, hx256_0⟩ := Kd.at_int (Kd.R_reads' HO_5.out).2.2 x7_2 p256 q256
         obtain rfl : ad254 = ad256 := (by injection e256)
         replace p256 := eq_true p256
         replace q256 := eq_true q256
         try go_wp2_with (first | ((with_reducible refine gate_builtin (b := .append) (xs := #[.tmp 43, .tmp 48]) rfl ?_); at_builtin; refine Kd.R_append (Kd.int .i64) (w0 := w) w.heap.size rfl (.tmp 43) (.tmp 48) 22 3 (.int .i64 0) 8 rfl Try.underlying22 info3 rfl (by decide) (by omega) u6 x6_2 (rd x5_2 x7_2) [.int .i64 (rd x5_2 x7_2)] (fun k_ => some k_ ≠ (.slice (some ad254) x5_2.length co17 : Value).ownBlock) (fun _ => False) rfl rfl ?aP (fun _ hk => hk.elim) ?aF ?aO ?aB ?aS ?aL ?_; (case aP => exact rfl); (case aB => exact (by repeat (first | (with_reducible first | exact HB.out | apply below_alloc | apply pw_below_drewN | apply below_drew1 | refine below_set ?_ GE247.out) | exact HB.out))); (case aF => exact (fun k_ hk => Kd.fresh' (Kd.R_lt (by (with_reducible repeat (first | apply Kd.R_alloc | apply Kd.R_drewN | apply Kd.R_drew)); exact HO_5.out)) k_ hk)); (case aO => exact (by (with_reducible repeat (first | apply Kd.R_alloc | apply Kd.R_drewN | apply Kd.R_drew)); exact HO_6.out)); (case aS => exact (below_size (by repeat (first | (with_reducible first | exact HB.out | apply below_alloc | apply pw_below_drewN | apply below_drew1 | refine below_set ?_ GE247.out) | exact HB.out)))); (case aL => have := LMc16.out; omega); intro v258 w20 ho hb hg hat; rw [← Ny257.out] at ho; have n0_ := Aside0.mk (Kd.R_after (ok := (fun _ => True)) (by (with_reducible repeat (first | apply Kd.R_alloc | apply Kd.R_drewN | apply Kd.R_drew)); exact Kd.R_mono HO_5.out (fun _ hk => ⟨trivial, hk⟩)) hg hat); have n1_ := Aside0.mk (blk_grown (g := gb247) (o := .cells #[.int .i64 a0_0, .int .i64 a0_1, .bool a0_2, .slice A0_3 l0_3.length c0_3] 24 (0, 0)) (by (with_reducible repeat (first | refine blk_drewN ?_ _ | refine blk_drew ?_ | refine blk_alloc ?_ _)); exact BK247.out) hg (Kd.R_ne HO_6.out BK247.out (by decide))); have n2_ := Aside0.mk (hb); have n3_ := Aside0.mk (ho); clear HO_5; clear BK247; clear HB; clear HO_6; have HO_5 := n0_; have BK247 := n1_; have HB := n2_; have HO259 := n3_; clear n0_ n1_ n2_ n3_; clear ho hb hg hat))
         go_roundg k2
         case measure => have := HJ2.out; have := HK2.out; omega
         case rel => exact ⟨(y257), (wrap64 (x7_2 + 1)), (by first | rfl | (simp; done) | (simp [*]; done)), H', ⟨by have := HJ2.out; have := HK2.out; omega⟩, ⟨by (with_reducible repeat (first | apply Kd.R_alloc | apply Kd.R_drewN | apply Kd.R_drew)); exact Kd.R_mono HO_5.out (fun _ hk => hk.2)⟩, ⟨by (with_reducible repeat (first | apply Kd.R_alloc | apply Kd.R_drewN | apply Kd.R_drew)); exact HO259.out⟩, ⟨by (with_reducible repeat (first | refine blk_drewN ?_ _ | refine blk_drew ?_ | refine blk_alloc ?_ _)); exact BK247.out⟩, ⟨by repeat (first | (with_reducible first | exact HB.out | apply below_alloc | apply pw_below_drewN | apply below_drew1 | refine below_set ?_ GE247.out) | exact HB.out)⟩⟩
        ·rw [if_neg c16] at H
         exact absurd H (by simp)
       ·rw [if_neg c15] at H
        have c15b0 := decide_eq_false c15
        clear c15
        have H' := Aside0.mk H
        clear H
        obtain ⟨Ao21, co21, eo21⟩ := Kd.R_slice HO_5.out
        subst eo21
        try go_wp2
        have n0_ := Aside0.mk (Kd.R_drew HO_5.out)
        have n1_ := Aside0.mk (Kd.R_drew HO_6.out)
        have n2_ := Aside0.mk (blk_drew BK247.out)
        have n3_ := Aside0.mk (below_drew1 HB.out)
        clear HO_5 HO_6 BK247 HB
        have HO_5 := n0_
        have HO_6 := n1_
        have BK247 := n2_
        have HB := n3_
        clear n0_ n1_ n2_ n3_
        have p254 : 0 ≤ (x7_2 : Int) := of_decide_eq_true (by first | (with_reducible assumption) | assumption)
        have q254 : x7_2 < (x5_2.length : Int) := of_decide_eq_true (by first | (with_reducible assumption) | assumption)
        obtain ⟨ad254, e254, hx254_0⟩ := Kd.at_int (Kd.R_reads' HO_5.out).2.2 x7_2 p254 q254
        cases e254
        replace p254 := eq_true p254
        replace q254 := eq_true q254
        refine start_ (n := 8) (S := fun w' => w'.cell? ⟨gb247, 0, none⟩ = some (.int .i64 a0_0) ∧ w'.cell? ⟨gb247, 1, none⟩ = some (.int .i64 a0_1) ∧ w'.cell? ⟨gb247, 2, none⟩ = some (.bool a0_2) ∧ w'.cell? ⟨gb247, 3, none⟩ = some (.slice A0_3 l0_3.length c0_3) ∧ w'.cell? (ad254.add (x7_2).toNat) = some (.int .i64 (rd x5_2 x7_2))) (ds := []) #[false, false, false, false, false, false, false, false] (by kernel_rfl) rfl rfl ⟨(blk_cell BK247.out 0).trans rfl, (blk_cell BK247.out 1).trans rfl, (blk_cell BK247.out 2).trans rfl, (blk_cell BK247.out 3).trans rfl, hx254_0⟩ (fun hHeld => ?_); refine with_tabW thermionref01_around.tab8 thermionref01_around.bits8 (fun HT_ HW_ => ?_)
        generalize wr.drew = w22 at HO_5 HO_6 BK247 HB hx254_0 hHeld ⊢
        refine pure_ (i := 1) (N := some 36) (v := ?_) (a' := ?_) (bS 8 2) rfl rfl (any_of HT_.out (by kernel_rfl)) (fun _ _ _ h => h) (Or.inl ⟨by rfl, ?_⟩) ?_ ?_; rotate_left; (· intro w'; go_simp; with_reducible rfl); rotate_left; (· simp only [Act.put, sT, sZ, sS, i64_w, i32_w]; rfl)
        refine pure_ (i := 2) (N := some 37) (v := ?_) (a' := ?_) (bS 8 6) rfl rfl (any_of HT_.out (by kernel_rfl)) (fun _ _ _ h => h) (Or.inl ⟨by rfl, ?_⟩) ?_ ?_; rotate_left; (· intro w'; go_simp; with_reducible rfl); rotate_left; (· simp only [Act.put, sT, sZ, sS, i64_w, i32_w]; rfl)
        refine pure_ (i := 3) (N := some 38) (v := ?_) (a' := ?_) (bS 8 14) rfl rfl (any_of HT_.out (by kernel_rfl)) (fun _ _ _ h => h) (Or.inl ⟨by rfl, ?_⟩) ?_ ?_; rotate_left; (· intro w'; go_simp; with_reducible rfl); rotate_left; (· simp only [Act.put, sT, sZ, sS, i64_w, i32_w]; rfl)
        refine pure_ (i := 4) (N := some 39) (v := ?_) (a' := ?_) (bS 8 30) rfl rfl (any_of HT_.out (by kernel_rfl)) (fun _ _ _ h => h) (Or.inl ⟨by rfl, ?_⟩) ?_ ?_; rotate_left; (· intro w'; go_simp; with_reducible rfl); rotate_left; (· simp only [Act.put, sT, sZ, sS, i64_w, i32_w]; rfl)
        refine take_ (i := 0) (N := some 35) (v := ?_) (a' := ?_) (bS 8 31) rfl rfl (take_ofW HT_.out HW_.out (by kernel_rfl)) (fun _ _ _ h => h) (Or.inl ⟨by rfl, ?_⟩) hHeld ?_ ?_; rotate_left; (· rintro w' ⟨s0, s1, s2, s3, s4⟩; go_simp; with_reducible rfl); rotate_left; (· simp only [Act.put, sT, sZ, sS, i64_w, i32_w]; rfl)
        refine take_ (i := 5) (N := some 40) (v := ?_) (a' := ?_) (bS 8 63) rfl rfl (take_ofW HT_.out HW_.out (by kernel_rfl)) (fun _ _ _ h => h) (Or.inl ⟨by rfl, ?_⟩) hHeld ?_ ?_; rotate_left; (· rintro w' ⟨s0, s1, s2, s3, s4⟩; go_simp; with_reducible rfl); rotate_left; (· simp only [Act.put, sT, sZ, sS, i64_w, i32_w]; rfl)
        refine one_ (i := 6) (N := some 41) (bS 8 127) rfl rfl (one_of HT_.out (by kernel_rfl)) (by decide) (fun K hK => ?_)
        refine goes_ Try.func81 (by kernel_rfl) rfl #[.agg #[.int .i64 a0_0, .int .i64 a0_1, .bool a0_2, .slice A0_3 l0_3.length c0_3], .int .i64 a1, .int .i64 (rd x5_2 x7_2)] (by rfl) rfl rfl (by (try simp only [List.map_toArray, List.map_cons, List.map_nil]); first | done | rfl | (simp only [List.length_drop, List.length_take]; rfl)) ?_
        with_reducible refine (thermionref01_weight.calls k2 a0_0 a0_1 a0_2 _ _ l0_3 a1 (rd x5_2 x7_2) t255 _ ?side1 ?side2 A14.out).mono ?_
        (case side1 => repeat (first | exact (Kd.C_below HR0_3.out HB.out) | (with_reducible refine Kd.C_alloc ?_ _) | (with_reducible refine Kd.C_drewN ?_ _) | (with_reducible refine Kd.C_drew ?_)))
        (case side2 => exact HC0_3.out)
        rintro e w23 ⟨rfl, hb⟩
        have HS4_ := (hb.cell (World.block_lt_of_cell? _ _ (hHeld.2.2.2.2))).trans (hHeld.2.2.2.2)
        refine ⟨_, rfl, ?_⟩
        have n0_ := Aside0.mk (Kd.R_below (by (with_reducible repeat (first | apply Kd.R_alloc | apply Kd.R_drewN | apply Kd.R_drew)); exact HO_5.out) hb)
        have n1_ := Aside0.mk (Kd.R_below (by (with_reducible repeat (first | apply Kd.R_alloc | apply Kd.R_drewN | apply Kd.R_drew)); exact HO_6.out) hb)
        have n2_ := Aside0.mk (blk_below (g := gb247) (o := .cells #[.int .i64 a0_0, .int .i64 a0_1, .bool a0_2, .slice A0_3 l0_3.length c0_3] 24 (0, 0)) (by (with_reducible repeat (first | refine blk_drewN ?_ _ | refine blk_drew ?_ | refine blk_alloc ?_ _)); exact BK247.out) hb)
        have n3_ := Aside0.mk (below_step (by repeat (first | (with_reducible first | exact HB.out | apply below_alloc | apply pw_below_drewN | apply below_drew1 | refine below_set ?_ GE247.out) | exact HB.out)) hb)
        clear HO_5 HO_6 BK247 HB
        have HO_5 := n0_
        have HO_6 := n1_
        have BK247 := n2_
        have HB := n3_
        clear n0_ n1_ n2_ n3_
        (try clear hb)
        (try clear hb2)
        (try clear hk)
        (try clear hi)
        refine hK.out _ _ ⟨(blk_cell BK247.out 0).trans rfl, (blk_cell BK247.out 1).trans rfl, (blk_cell BK247.out 2).trans rfl, (blk_cell BK247.out 3).trans rfl, HS4_⟩ (fun hHeld => ?_)
        clear hK K
        refine norm_ (a' := ?_) ?_ ?_
        rotate_left
        ·show Act.put _ (some 41) _ = _
         simp only [Act.put, sT, sZ, sS, i64_w, i32_w]
         rfl
        refine pure_ (i := 7) (N := some 42) (v := ?_) (a' := ?_) (bS 8 255) rfl rfl (any_of HT_.out (by kernel_rfl)) (fun _ _ _ h => h) (Or.inl ⟨by rfl, ?_⟩) ?_ ?_; rotate_left; (· intro w'; go_simp; with_reducible rfl); rotate_left; (· simp only [Act.put, sT, sZ, sS, i64_w, i32_w]; rfl)
        refine done_ (done_of HT_.out (by kernel_rfl)) ?_
        try go_wp2
        go_roundg k2
        case measure => have := HJ2.out; have := HK2.out; omega
        case rel => exact ⟨(x6_2), (wrap64 (x7_2 + 1)), (by first | rfl | (simp; done) | (simp [*]; done)), H', ⟨by have := HJ2.out; have := HK2.out; omega⟩, ⟨by (with_reducible repeat (first | apply Kd.R_alloc | apply Kd.R_drewN | apply Kd.R_drew)); exact HO_5.out⟩, ⟨by (with_reducible repeat (first | apply Kd.R_alloc | apply Kd.R_drewN | apply Kd.R_drew)); exact HO_6.out⟩, ⟨by (with_reducible repeat (first | refine blk_drewN ?_ _ | refine blk_drew ?_ | refine blk_alloc ?_ _)); exact BK247.out⟩, ⟨by repeat (first | (with_reducible first | exact HB.out | apply below_alloc | apply pw_below_drewN | apply below_drew1 | refine below_set ?_ GE247.out) | exact HB.out)⟩⟩
      ·rw [if_neg c13] at H
       exact absurd H (by simp)
     ·rw [if_neg c12] at H
      have c12b0 := decide_eq_false c12
      clear c12
      obtain rfl := Option.some.inj H
      obtain ⟨Ao24, co24, eo24⟩ := Kd.R_slice HO_5.out
      subst eo24
      go_wp2
      go_ret
      exact ⟨_, by first | rfl | (simp [errW_none, errW_some] <;> rfl) | (simp [*, errW_none, errW_some] <;> rfl), by (with_reducible repeat (first | apply Kd.R_alloc | apply Kd.R_drewN | apply Kd.R_drew)); exact Kd.R_mono HO_6.out (fun _ hk => trivial), by repeat (first | (with_reducible first | exact HB.out | apply below_alloc | apply pw_below_drewN | apply below_drew1 | refine below_set ?_ GE247.out) | exact HB.out)⟩
mutual
def thermionref01_charge.l0 : Nat → List Int → Int → Int → Int → Int → Bool → List Int → List Int → List Int → Int → Bool → Int → Int → Option (Int × Int)
 | 0, _, _, _, _, _, _, _, _, _, _, _, _, _ => none
 | k + 1, x1, x3, x10, x440000, x440001, x440002, x440003, x441000, x441001, x441002, x441003, x443000, x443001 => if x10 < (x440003.length : Int) then (if 0 ≤ x10 then (if (rd x440003 x10) = x3 then ((thermionref01_around.f k x440000 x440001 x440002 x440003 x10).bind fun t444 => (thermionref01_charge.l1 k x1 x3 x10 t444 0 x440000 x440001 x440002 x440003 x441000 x441001 x441002 x441003 x443000 x443001)) else (thermionref01_charge.l0 k x1 x3 (wrap64 (x10 + 1)) x440000 x440001 x440002 x440003 x441000 x441001 x441002 x441003 x443000 x443001)) else (none)) else (some (x443000, x443001))
def thermionref01_charge.l1 : Nat → List Int → Int → Int → List Int → Int → Int → Int → Bool → List Int → List Int → List Int → Int → Bool → Int → Int → Option (Int × Int)
 | 0, _, _, _, _, _, _, _, _, _, _, _, _, _, _, _ => none
 | k + 1, x1, x3, x10, x11, x12, x440000, x440001, x440002, x440003, x441000, x441001, x441002, x441003, x443000, x443001 => if x12 < (x11.length : Int) then (if 0 ≤ x12 then (if 0 ≤ (rd x11 x12) then (if (rd x11 x12) < (x440003.length : Int) then (if (rd x440003 (rd x11 x12)) = x3 then (thermionref01_charge.l1 k x1 x3 x10 x11 (wrap64 (x12 + 1)) x440000 x440001 x440002 x440003 x441000 x441001 x441002 x441003 x443000 x443001) else ((thermionref01_weight.f k x440000 x440001 x440002 x440003 x10 (rd x11 x12)).bind fun t449 => (if 0 ≤ (wrap64 (x3 - 1)) then (if (wrap64 (x3 - 1)) < (x1.length : Int) then (if (rd x11 x12) < (x441001.length : Int) then ((thermionref01_weight.f k x440000 x440001 x440002 x440003 x10 (rd x11 x12)).bind fun t452 => (if (rd x11 x12) < (x441000.length : Int) then (thermionref01_charge.l1 k x1 x3 x10 x11 (wrap64 (x12 + 1)) x440000 x440001 x440002 x440003 x441000 x441001 x441002 x441003 (wrap64 (x443000 + (wrap64 (t449 * (wrap64 ((rd x1 (wrap64 (x3 - 1))) - (rd x441001 (rd x11 x12)))))))) (wrap64 (x443001 + (wrap64 (t452 * (wrap64 ((rd x1 (wrap64 (x3 - 1))) - (rd x441000 (rd x11 x12))))))))) else (none))) else (none)) else (none)) else (none)))) else (none)) else (none)) else (none)) else (thermionref01_charge.l0 k x1 x3 (wrap64 (x10 + 1)) x440000 x440001 x440002 x440003 x441000 x441001 x441002 x441003 x443000 x443001)
end
def thermionref01_charge.T12 : Bool × List (List Nat × List Nat) := (true, [([], []), ([0], [0]), ([], []), ([], []), ([], []), ([2, 3, 4], [2, 3, 4]), ([], []), ([], []), ([7], [7]), ([6, 8], [6, 8]), ([9], [9]), ([], []), ([11], [11]), ([], []), ([12, 13], [12, 13]), ([14], [14]), ([10, 15], [10, 15]), ([5, 16], [5, 16]), ([1, 17], [1, 17]), ([0, 1, 2, 3, 4, 5, 6, 7, 8, 9, 10, 11, 12, 13, 14, 15, 16, 17, 18], []), ([19, 18, 5, 0, 1, 2, 3, 4, 5, 6, 7, 8, 9, 10, 11, 12, 13, 14, 15, 16, 17, 18], [18, 19])])
def thermionref01_charge.B12 : List Nat := [0, 1, 0, 0, 0, 28, 0, 0, 128, 448, 960, 0, 2048, 0, 14336, 30720, 65472, 131068, 262143, 524287, 1048575]
theorem thermionref01_charge.tab12 : rtab .any (opsOf Try.f80 12) = thermionref01_charge.T12 := by kernel_rfl
theorem thermionref01_charge.bits12 : waitsOk thermionref01_charge.T12.2 thermionref01_charge.B12 = true := by kernel_rfl
def thermionref01_charge.T13 : Bool × List (List Nat × List Nat) := (true, [([], []), ([0], [0]), ([], []), ([], []), ([], []), ([2, 3, 4], [2, 3, 4]), ([], []), ([], []), ([7], [7]), ([6, 8], [6, 8]), ([9], [9]), ([], []), ([11], [11]), ([], []), ([12, 13], [12, 13]), ([14], [14]), ([10, 15], [10, 15]), ([5, 16], [5, 16]), ([1, 17], [1, 17]), ([0, 1, 2, 3, 4, 5, 6, 7, 8, 9, 10, 11, 12, 13, 14, 15, 16, 17, 18], []), ([19, 18, 5, 0, 1, 2, 3, 4, 5, 6, 7, 8, 9, 10, 11, 12, 13, 14, 15, 16, 17, 18], [18, 19])])
def thermionref01_charge.B13 : List Nat := [0, 1, 0, 0, 0, 28, 0, 0, 128, 448, 960, 0, 2048, 0, 14336, 30720, 65472, 131068, 262143, 524287, 1048575]
theorem thermionref01_charge.tab13 : rtab .any (opsOf Try.f80 13) = thermionref01_charge.T13 := by kernel_rfl
theorem thermionref01_charge.bits13 : waitsOk thermionref01_charge.T13.2 thermionref01_charge.B13 = true := by kernel_rfl
def thermionref01_sums.T6 : Bool × List (List Nat × List Nat) := (true, [([], []), ([], []), ([], []), ([], []), ([2, 3], [2, 3]), ([4], [4]), ([0, 1, 5], [0, 1, 5]), ([6, 6, 0, 1, 2, 3, 4, 5, 6], [6])])
def thermionref01_sums.B6 : List Nat := [0, 0, 0, 0, 12, 28, 63, 127]
theorem thermionref01_sums.tab6 : rtab .any (opsOf Try.f90 6) = thermionref01_sums.T6 := by kernel_rfl
theorem thermionref01_sums.bits6 : waitsOk thermionref01_sums.T6.2 thermionref01_sums.B6 = true := by kernel_rfl
end Go.Proofs.Ytndkkjpgnmahbaa.Print
end

section
namespace Go.Proofs.Ytndkkjpgnmahbaa.Print
open Go.RowKit Go.Proofs.YtndkkjpgnmahbaaW.PrintWords Go.Proofs.YtndkkjpgnmahbaaW.PrintLast Go.Proofs.YtndkkjpgnmahbaaW.PrintMore Go.Proofs.Field
set_option linter.unusedVariables false
theorem obnd {α β : Type} {o : Option α} {a : α} (h : o = some a) (f : α → Option β) : o.bind f = f a := by rw [h]; rfl
def wtR (W H : Nat) (R : Bool) (i : Nat) (c : Int) : Int := if 0 ≤ c ∧ c < ((W * H : Nat) : Int) then netM W H R i c.toNat else 0
theorem wt_of (W H : Nat) (R : Bool) (C : List Int) (k : Nat) (m M : Int) (hW : 1 ≤ W ∧ W ≤ 16) (h0 : 0 ≤ m) (h1 : m ≤ 100000) (hM0 : 0 ≤ M) (b : Bool) :
  thermionref01_weight.j1 (k + 1) m M (Int.tmod m W) b (W : Int) (H : Int) R C = some (if b = true then wgt R (m.toNat % W) false else if M = m + W then wgt R (m.toNat % W) true else 0) := by
 have e : Int.tmod m W = ((m.toNat % W : Nat) : Int) := by
  rw [Int.tmod_eq_emod_of_nonneg h0, Int.natCast_emod, Int.toNat_of_nonneg h0]
 have hl : m.toNat % W < W := Nat.mod_lt _ (by omega)
 have w1 : wrap64 (m + (W : Int)) = m + W := IntWalk.wrap64_in _ (by omega)
 have w2 : wrap64 (((m.toNat % W : Nat) : Int) + 1) = ((m.toNat % W : Nat) : Int) + 1 := IntWalk.wrap64_in _ (by omega)
 have w3 : wrap64 (2 * (((m.toNat % W : Nat) : Int) + 1)) = 2 * (((m.toNat % W : Nat) : Int) + 1) := IntWalk.wrap64_in _ (by omega)
 have w4 : wrap64 (2 * ((m.toNat % W : Nat) : Int)) = 2 * ((m.toNat % W : Nat) : Int) := IntWalk.wrap64_in _ (by omega)
 have w5 : wrap64 (2 * ((m.toNat % W : Nat) : Int) + 1) = 2 * ((m.toNat % W : Nat) : Int) + 1 := IntWalk.wrap64_in _ (by omega)
 rw [thermionref01_weight.j1, e, w1, w2, w3, w4, w5]
 unfold wgt
 cases b <;> cases R <;> simp only [if_true, if_false, Bool.false_eq_true] <;> (try split) <;> rfl
theorem weight_eq {W H : Nat} (hW : 1 ≤ W ∧ W ≤ 16) (hH : 1 ≤ H ∧ H ≤ 16) (R : Bool) (C : List Int) {i : Nat} (hi : i < W * H) (c : Int) (k : Nat) :
  thermionref01_weight.f (k + 2) (W : Int) (H : Int) R C (i : Int) c = some (wtR W H R i c) := by
 have hWH : W * H ≤ 256 := Nat.mul_le_mul hW.2 hH.2
 have hWH1 : 1 ≤ W * H := Nat.mul_pos hW.1 hH.1
 have w0 : wrap64 ((W : Int) * (H : Int)) = ((W * H : Nat) : Int) := by
  rw [← Int.natCast_mul]; exact IntWalk.wrap64_in _ (by omega)
 have w1 : wrap64 (((W * H : Nat) : Int) - 1) = ((W * H : Nat) : Int) - 1 := IntWalk.wrap64_in _ (by omega)
 generalize hn : W * H = n at w0 w1 hi hWH hWH1
 unfold thermionref01_weight.f wtR
 rw [w0, w1]
 have b1 : thermionref01_beyond.f (i : Int) 0 ((n : Int) - 1) = some false := by
  unfold thermionref01_beyond.f
  rw [if_neg (by omega), decide_eq_false (by omega)]
 rw [obnd b1, if_neg (by simp), hn]
 by_cases hc : 0 ≤ c ∧ c < (n : Int)
 ·have b2 : thermionref01_beyond.f c 0 ((n : Int) - 1) = some false := by
   unfold thermionref01_beyond.f
   rw [if_neg (by omega), decide_eq_false (by omega)]
  rw [obnd b2, if_pos hc]
  obtain ⟨j, rfl⟩ : ∃ j : Nat, c = (j : Int) := ⟨c.toNat, by omega⟩
  rw [Int.toNat_natCast, thermionref01_weight.j0, if_neg (by simp), if_neg (by omega)]
  have hj : j < n := by omega
  have key : ∀ (m M : Nat), m < n → M < n → m ≤ M → (if (M : Int) = wrap64 ((m : Int) + 1) then thermionref01_weight.j1 (k + 1) (m : Int) (M : Int) (Int.tmod (m : Int) W) (decide (Int.tmod (M : Int) W > 0)) (W : Int) (H : Int) R C else thermionref01_weight.j1 (k + 1) (m : Int) (M : Int) (Int.tmod (m : Int) W) false (W : Int) (H : Int) R C) = some (netM W H R m M) := by
   clear w0 w1 b1 b2 hc hi hj
   intro m M hm hM hle
   have g0 : (0 : Int) ≤ (m : Int) := by omega
   have g1 : (m : Int) ≤ 100000 := by omega
   have g2 : (0 : Int) ≤ (M : Int) := by omega
   have v1 : wrap64 ((m : Int) + 1) = (m : Int) + 1 := IntWalk.wrap64_in _ (by omega)
   have e : Int.tmod (M : Int) W = ((M % W : Nat) : Int) := by
    rw [Int.tmod_eq_emod_of_nonneg (by omega), Int.natCast_emod]
   rw [v1, e]
   obtain ⟨bb, hbb⟩ : ∃ bb, decide (((M % W : Nat) : Int) > 0) = bb := ⟨_, rfl⟩
   rw [hbb, wt_of W H R C k m M hW g0 g1 g2 bb, wt_of W H R C k m M hW g0 g1 g2 false, Int.toNat_natCast]
   unfold netM
   rw [hn, if_pos (show m < n ∧ M < n from ⟨hm, hM⟩)]
   by_cases a : M = m + 1
   ·rw [if_pos (show (M : Int) = (m : Int) + 1 by omega)]
    by_cases d : 0 < M % W
    ·rw [if_pos (by rw [← hbb]; exact decide_eq_true (by omega)), if_pos (show M = m + 1 ∧ 0 < M % W from ⟨a, d⟩)]
    ·rw [if_neg (by rw [← hbb, decide_eq_false (by omega)]; simp), if_neg (show ¬ (M = m + 1 ∧ 0 < M % W) from fun q => d q.2), if_neg (show ¬ (m = M + 1 ∧ 0 < m % W) by omega)]
     by_cases f : M = m + W
     ·rw [if_pos (show (M : Int) = (m : Int) + (W : Int) by omega), if_pos f]
     ·rw [if_neg (show ¬ (M : Int) = (m : Int) + (W : Int) by omega), if_neg f, if_neg (show ¬ m = M + W by omega)]
   ·rw [if_neg (show ¬ (M : Int) = (m : Int) + 1 by omega), if_neg (by simp), if_neg (show ¬ (M = m + 1 ∧ 0 < M % W) from fun q => a q.1), if_neg (show ¬ (m = M + 1 ∧ 0 < m % W) by omega)]
    by_cases f : M = m + W
    ·rw [if_pos (show (M : Int) = (m : Int) + (W : Int) by omega), if_pos f]
    ·rw [if_neg (show ¬ (M : Int) = (m : Int) + (W : Int) by omega), if_neg f, if_neg (show ¬ m = M + W by omega)]
  by_cases q : i ≤ j
  ·have e1 : mn (i : Int) (j : Int) = (i : Int) := by unfold mn; rw [if_neg (by omega)]
   have e2 : mx (i : Int) (j : Int) = (j : Int) := by unfold mx; split <;> omega
   rw [e1, e2]
   exact key i j hi hj q
  ·have e1 : mn (i : Int) (j : Int) = (j : Int) := by unfold mn; rw [if_pos (by omega)]
   have e2 : mx (i : Int) (j : Int) = (i : Int) := by unfold mx; rw [if_neg (by omega)]
   rw [e1, e2, netM_symm]
   exact key j i hj hi (by omega)
 ·have b2 : thermionref01_beyond.f c 0 ((n : Int) - 1) = some true := by
   unfold thermionref01_beyond.f
   by_cases q : c < 0
   ·rw [if_pos q]
   ·rw [if_neg q, decide_eq_true (by omega)]
  rw [obnd b2, if_neg hc, thermionref01_weight.j0, if_pos rfl]
section
variable {W H : Nat} {R : Bool} {C : List Int} {i : Nat}
def cand (W i : Nat) : List Int := if W = 1 then [(i : Int) - 1, (i : Int) + 1] else [(i : Int) - W, (i : Int) - 1, (i : Int) + 1, (i : Int) + W]
def aroundL (W H : Nat) (R : Bool) (i : Nat) : List Int := (cand W i).filter (fun c => decide (0 < wtR W H R i c))
theorem rd_at (l : List Int) (j : Nat) (h : j < l.length) : rd l (j : Int) = l[j] := by
 unfold rd
 rw [Int.toNat_natCast, List.getD_eq_getElem?_getD, List.getElem?_eq_getElem h]
 rfl
theorem around_go (hW : 1 ≤ W ∧ W ≤ 16) (hH : 1 ≤ H ∧ H ≤ 16) (hi : i < W * H) (l : List Int) (hl : l.length ≤ 100) : ∀ (d j : Nat) (acc : List Int) (k : Nat), j + d = l.length → acc.length ≤ j →
  thermionref01_around.l0 (k + d + 3) (i : Int) l acc (j : Int) (W : Int) (H : Int) R C = some (acc ++ (l.drop j).filter (fun c => decide (0 < wtR W H R i c)))
 | 0, j, acc, k, h, ha => by
  rw [show k + 0 + 3 = (k + 2) + 1 by omega, thermionref01_around.l0, if_neg (by omega), List.drop_eq_nil_of_le (by omega)]
  simp
 | d + 1, j, acc, k, h, ha => by
  have hj : j < l.length := by omega
  have hw : wrap64 ((j : Int) + 1) = ((j + 1 : Nat) : Int) := by rw [IntWalk.wrap64_in _ (by omega)]; omega
  rw [show k + (d + 1) + 3 = (k + d + 3) + 1 by omega, thermionref01_around.l0, if_pos (by omega), if_pos (by omega), rd_at l j hj, obnd (weight_eq hW hH R C hi l[j] (k + d + 1)), hw, List.drop_eq_getElem_cons hj, List.filter_cons]
  by_cases q : 0 < wtR W H R i l[j]
  ·rw [if_pos q, if_pos (by omega), around_go hW hH hi l hl d (j + 1) _ k (by omega) (by simp; omega), if_pos (by simpa using q)]
   simp
  ·rw [if_neg q, around_go hW hH hi l hl d (j + 1) _ k (by omega) (by omega), if_neg (by simpa using q)]
theorem around_eq (hW : 1 ≤ W ∧ W ≤ 16) (hH : 1 ≤ H ∧ H ≤ 16) (hi : i < W * H) (k : Nat) : thermionref01_around.f (k + 8) (W : Int) (H : Int) R C (i : Int) = some (aroundL W H R i) := by
 have hWH : W * H ≤ 256 := Nat.mul_le_mul hW.2 hH.2
 have v1 : wrap64 ((i : Int) - 1) = (i : Int) - 1 := IntWalk.wrap64_in _ (by omega)
 have v2 : wrap64 ((i : Int) + 1) = (i : Int) + 1 := IntWalk.wrap64_in _ (by omega)
 have v3 : wrap64 ((i : Int) - (W : Int)) = (i : Int) - W := IntWalk.wrap64_in _ (by omega)
 have v4 : wrap64 ((i : Int) + (W : Int)) = (i : Int) + W := IntWalk.wrap64_in _ (by omega)
 unfold thermionref01_around.f aroundL cand
 rw [v1, v2, v3, v4]
 by_cases q : W = 1
 ·rw [if_pos (show (W : Int) = 1 by omega), if_pos q, show k + 8 = (k + 7) + 1 by omega, thermionref01_around.j0]
  have := around_go (C := C) (R := R) hW hH hi [(i : Int) - 1, (i : Int) + 1] (by simp) 2 0 [] (k + 2) (by simp) (by simp)
  rw [show k + 2 + 2 + 3 = k + 7 by omega] at this
  exact this
 ·rw [if_neg (show ¬ (W : Int) = 1 by omega), if_neg q, show k + 8 = (k + 7) + 1 by omega, thermionref01_around.j0]
  have := around_go (C := C) (R := R) hW hH hi [(i : Int) - W, (i : Int) - 1, (i : Int) + 1, (i : Int) + W] (by simp) 4 0 [] k (by simp) (by simp)
  rw [show k + 4 + 3 = k + 7 by omega] at this
  exact this
theorem around_mem {c : Int} (h : c ∈ aroundL W H R i) : 0 < wtR W H R i c ∧ 0 ≤ c ∧ c < ((W * H : Nat) : Int) := by
 have h1 := (List.mem_filter.1 h).2
 have h2 : 0 < wtR W H R i c := by simpa using h1
 refine ⟨h2, ?_⟩
 unfold wtR at h2
 split at h2
 ·assumption
 ·omega
theorem around_len : (aroundL W H R i).length ≤ 4 := by
 refine Nat.le_trans (List.length_filter_le _ _) ?_
 unfold cand
 split <;> simp
end
section
variable {W H : Nat} {R : Bool} {C : List Int} {i : Nat}
end
end Go.Proofs.Ytndkkjpgnmahbaa.Print
end

section
namespace Go.Proofs.Ytndkkjpgnmahbaa.Print
open Go.RowKit Go.Proofs.YtndkkjpgnmahbaaW.PrintWords Go.Proofs.YtndkkjpgnmahbaaW.PrintLast Go.Proofs.YtndkkjpgnmahbaaW.PrintMore
attribute [local go_sem] max2_int min2_int max_two min_two max_three min_three max_four min_four
set_option linter.unusedVariables false
set_option linter.unusedSimpArgs false

end Go.Proofs.Ytndkkjpgnmahbaa.Print
end

section
namespace Go.Proofs.Ytndkkjpgnmahbaa.Print
open Go.RowKit Go.Proofs.YtndkkjpgnmahbaaW.PrintWords Go.Proofs.YtndkkjpgnmahbaaW.PrintLast Go.Proofs.YtndkkjpgnmahbaaW.PrintMore Go.Proofs.Ytndkkjpgnmahbaa.H Go.Proofs.Field
set_option linter.unusedVariables false
def Row4 (W : World) (base g c n : Nat) (l : List Int) : Prop := l.length = n ∧ Kd.R (Kd.int .i64) 3 W base (fun k => k = g) (.slice (some ⟨g, 0, none⟩) n c) l
namespace Row4
variable {W W1 : World} {base g c n : Nat} {l : List Int}
theorem below (h : Row4 W base g c n l) (hb : Below W.heap.size W W1) : Row4 W1 base g c n l := ⟨h.1, Kd.R_below h.2 hb⟩
theorem keep {g2 : Nat} (h : Row4 W base g c n l) (hk : KeepBut W W1 g2 none) (hne : g ≠ g2) : Row4 W1 base g c n l := ⟨h.1, Kd.R_keep h.2 hk (fun k e => by subst e; exact hne)⟩
theorem far (h : Row4 W base g c n l) {p : Addr} (hne : g ≠ p.block) (u : Value) : Row4 (W.setCell p u) base g c n l := ⟨h.1, Kd.R_far h.2 (fun k e => by subst e; exact hne) u⟩
theorem reads (h : Row4 W base g c n l) : Kd.C (Kd.int .i64) W (some ⟨g, 0, none⟩) l.length l ∧ n ≤ c := ⟨(Kd.R_reads' h.2).2.2, (Kd.R_reads' h.2).2.1⟩
theorem put (h : Row4 W base g c n l) (i : Nat) (x : Int) : Row4 (W.setCell ⟨g, i, none⟩ (.int .i64 x)) base g c n (l.set i x) := by
 obtain ⟨e, h⟩ := h
 refine ⟨by rw [List.length_set]; exact e, ?_⟩
 exact Kd.R_putn (enc := Value.int .i64) (h1 := fun _ => rfl) h (i : Int) x
theorem cell (h : Row4 W base g c n l) {i : Nat} (hi : i < n) : W.cell? ⟨g, i, none⟩ = some (.int .i64 (fn l i)) ∧ W.frozen? ⟨g, i, none⟩ = false := by
 exact Kd.R_celln (enc := Value.int .i64) (h1 := fun _ => rfl) (0 : Int) h.2 (i : Int) (by omega) (by omega)
theorem ge (h : Row4 W base g c n l) : base ≤ g := Kd.R_base h.2 g rfl
theorem lt (h : Row4 W base g c n l) : g < W.heap.size := Kd.R_lt h.2 g rfl
end Row4
end Go.Proofs.Ytndkkjpgnmahbaa.Print
end

section
namespace Go.Proofs.Field
structure SwOk (up : Bool) (W H : Nat) (R : Bool) (C : List Int) (b : List Int) : Prop where
 len : b.length = C.length
 range : ∀ i, i ≤ C.length → ∀ j, j < C.length → -1000000 ≤ fn (sweepTo up W H R C b i).1 j ∧ fn (sweepTo up W H R C b i).1 j ≤ 1000000
end Go.Proofs.Field
namespace Go.Proofs.Ytndkkjpgnmahbaa.Print
open Go.RowKit Go.Proofs.YtndkkjpgnmahbaaW.PrintWords Go.Proofs.YtndkkjpgnmahbaaW.PrintLast Go.Proofs.YtndkkjpgnmahbaaW.PrintMore Go.Proofs.Ytndkkjpgnmahbaa.H Go.Proofs.Field
set_option linter.unusedVariables false
structure RW (w0 w W : World) (gp gf : Nat) (pv fv : Array Value) (g1 c1 g2 c2 n : Nat) (lo hi : List Int) : Prop where
 old : Below w0.heap.size w0 W
 keep : KeepBut w W g1 (some g2)
 p : W.heap[gp]? = some (.cells pv 24 (0, 0))
 f : W.heap[gf]? = some (.cells fv 33 (0, 0))
 r1 : Row4 W w0.heap.size g1 c1 n lo
 r2 : Row4 W w0.heap.size g2 c2 n hi
 ne : g1 ≠ g2
 np : gp ≠ g1 ∧ gp ≠ g2 ∧ gf ≠ g1 ∧ gf ≠ g2
namespace RW
variable {w0 w W W1 : World} {gp gf : Nat} {pv fv : Array Value} {g1 c1 g2 c2 n : Nat} {lo hi : List Int}
theorem step (h : RW w0 w W gp gf pv fv g1 c1 g2 c2 n lo hi) (hb : Below W.heap.size W W1) : RW w0 w W1 gp gf pv fv g1 c1 g2 c2 n lo hi :=
 ⟨below_step h.old hb, h.keep.trans (KeepBut.of_below hb g1 (some g2)) (.inl rfl), blk_below h.p hb, blk_below h.f hb, h.r1.below hb, h.r2.below hb, h.ne, h.np⟩
theorem put1 (h : RW w0 w W gp gf pv fv g1 c1 g2 c2 n lo hi) (i : Nat) (x : Int) : RW w0 w (W.setCell ⟨g1, i, none⟩ (.int .i64 x)) gp gf pv fv g1 c1 g2 c2 n (lo.set i x) hi :=
 ⟨below_set h.old h.r1.ge, h.keep.set_ i _, blk_far (p := ⟨g1, i, none⟩) h.p h.np.1 _, blk_far (p := ⟨g1, i, none⟩) h.f h.np.2.2.1 _, h.r1.put i x, h.r2.far (p := ⟨g1, i, none⟩) h.ne.symm _, h.ne, h.np⟩
end RW
end Go.Proofs.Ytndkkjpgnmahbaa.Print
end

section
namespace Go.Proofs.Ytndkkjpgnmahbaa.Print
open Go.RowKit Go.Proofs.YtndkkjpgnmahbaaW.PrintWords Go.Proofs.YtndkkjpgnmahbaaW.PrintLast Go.Proofs.YtndkkjpgnmahbaaW.PrintMore Go.Proofs.Ytndkkjpgnmahbaa.H Go.Proofs.Field
attribute [local go_sem] max2_int min2_int max_two min_two max_three min_three max_four min_four
set_option linter.unusedVariables false
set_option linter.unusedSimpArgs false
end Go.Proofs.Ytndkkjpgnmahbaa.Print
end

section
namespace Go.Proofs.Field
section
variable {W H : Nat} {R : Bool} {C v : List Int}
end
end Go.Proofs.Field
namespace Go.Proofs.Ytndkkjpgnmahbaa.Print
open Go.RowKit Go.Proofs.YtndkkjpgnmahbaaW.PrintWords Go.Proofs.YtndkkjpgnmahbaaW.PrintLast Go.Proofs.YtndkkjpgnmahbaaW.PrintMore Go.Proofs.Field
set_option linter.unusedVariables false
end Go.Proofs.Ytndkkjpgnmahbaa.Print
end

section
namespace Go.Proofs.Ytndkkjpgnmahbaa.Print
open Go.RowKit Go.Proofs.YtndkkjpgnmahbaaW.PrintWords Go.Proofs.YtndkkjpgnmahbaaW.PrintLast Go.Proofs.YtndkkjpgnmahbaaW.PrintMore Go.Proofs.Ytndkkjpgnmahbaa.H Go.Proofs.Field
set_option linter.unusedVariables false
structure Two (W : World) (base : Nat) (vL vH : Value) (lo hi : List Int) : Prop where
 l : Kd.R (Kd.int .i64) 3 W base (fun k => some k ≠ vH.ownBlock) vL lo
 h : Kd.R (Kd.int .i64) 3 W base (fun k => some k ≠ vL.ownBlock) vH hi
theorem R_turn {W w1 : World} {base : Nat} {u v v1 : Value} {xs : List Int} (h : Kd.R (Kd.int .i64) 3 W base (fun k => some k ≠ v.ownBlock) u xs) (hg : W.grownBy w1 v.ownBlock) (hat : v1.ownBlock = v.ownBlock ∨ ∃ b, v1.ownBlock = some b ∧ W.heap.size ≤ b) : Kd.R (Kd.int .i64) 3 w1 base (fun k => some k ≠ v1.ownBlock) u xs :=
 Kd.R_mono (Kd.R_after (ok := fun _ => True) (Kd.R_mono h (fun k hk => ⟨trivial, hk⟩)) hg hat) (fun k hk => hk.2)
structure BS (w W : World) (g2 g4 g8 : Nat) (pv z4 fv : Array Value) (vL vH : Value) (lo hi : List Int) : Prop where
 below : Below w.heap.size w W
 p : W.heap[g2]? = some (.cells pv 24 (0, 0))
 o : W.heap[g4]? = some (.cells z4 33 (0, 0))
 f : W.heap[g8]? = some (.cells fv 33 (0, 0))
 t : Two W w.heap.size vL vH lo hi
 ne : g4 ≠ g8
 ge : w.heap.size ≤ g8 ∧ w.heap.size ≤ g4
namespace BS
variable {w W W1 : World} {g2 g4 g8 : Nat} {pv z4 fv : Array Value} {vL vH v1 : Value} {lo hi l2 : List Int}
theorem step (h : BS w W g2 g4 g8 pv z4 fv vL vH lo hi) (hb : Below W.heap.size W W1) : BS w W1 g2 g4 g8 pv z4 fv vL vH lo hi :=
 ⟨below_step h.below hb, blk_below h.p hb, blk_below h.o hb, blk_below h.f hb, ⟨Kd.R_below h.t.l hb, Kd.R_below h.t.h hb⟩, h.ne, h.ge⟩
theorem blkL (h : BS w W g2 g4 g8 pv z4 fv vL vH lo hi) (hg : W.grownBy W1 vL.ownBlock) {g : Nat} {cs : Array Value} {t : Nat} (hk : W.heap[g]? = some (.cells cs t (0, 0))) (ht : (3 : Nat) ≠ t) : W1.heap[g]? = some (.cells cs t (0, 0)) :=
 (hg.block g (blk_lt hk) (Kd.R_ne h.t.l hk ht)).trans hk
theorem growL (h : BS w W g2 g4 g8 pv z4 fv vL vH lo hi) (hR : Kd.R (Kd.int .i64) 3 W1 w.heap.size (fun k => some k ≠ vH.ownBlock) v1 l2) (hB : Below w.heap.size w W1) (hg : W.grownBy W1 vL.ownBlock) (hat : v1.ownBlock = vL.ownBlock ∨ ∃ b, v1.ownBlock = some b ∧ W.heap.size ≤ b) : BS w W1 g2 g4 g8 pv z4 fv v1 vH l2 hi :=
 ⟨hB, h.blkL hg h.p (by decide), h.blkL hg h.o (by decide), h.blkL hg h.f (by decide), ⟨hR, R_turn h.t.h hg hat⟩, h.ne, h.ge⟩
theorem put (h : BS w W g2 g4 g8 pv z4 fv vL vH lo hi) (i : Nat) (u : Value) {fv' : Array Value} (e : fv.setIfInBounds i u = fv') : BS w (W.setCell ⟨g8, i, none⟩ u) g2 g4 g8 pv z4 fv' vL vH lo hi := by
 subst e
 refine ⟨below_set h.below h.ge.1, blk_far (p := ⟨g8, i, none⟩) h.p (blk_ne h.p h.f (by decide)) _, blk_far (p := ⟨g8, i, none⟩) h.o h.ne _, ?_, ⟨?_, ?_⟩, h.ne, h.ge⟩
 ·rw [blk_set h.f i]
 ·exact Kd.R_mono (Kd.R_far (p := ⟨g8, i, none⟩) (Kd.R_types h.t.l h.f (by decide)) (fun k hk => hk.2) u) (fun k hk => hk.1)
 ·exact Kd.R_mono (Kd.R_far (p := ⟨g8, i, none⟩) (Kd.R_types h.t.h h.f (by decide)) (fun k hk => hk.2) u) (fun k hk => hk.1)
end BS
structure Lit1 (W : World) (g : Nat) (x : Int) (vL vH : Value) : Prop where
 b : W.heap[g]? = some (.cells #[.int .i64 x] 3 (0, 0))
 l : some g ≠ vL.ownBlock
 h : some g ≠ vH.ownBlock
theorem Lit1.reads {W : World} {g : Nat} {x : Int} {vL vH : Value} (h : Lit1 W g x vL vH) : Kd.C (Kd.int .i64) W (some ⟨g, 0, none⟩) 1 [x] := C_of_cells (b := [x]) h.b (by simp)
theorem Lit1.step {W W1 : World} {g : Nat} {x : Int} {vL vH : Value} (h : Lit1 W g x vL vH) (hb : Below W.heap.size W W1) : Lit1 W1 g x vL vH := ⟨blk_below h.b hb, h.l, h.h⟩
theorem Lit1.growL {W W1 : World} {g : Nat} {x : Int} {vL vH v1 : Value} (h : Lit1 W g x vL vH) (hg : W.grownBy W1 vL.ownBlock) (hat : v1.ownBlock = vL.ownBlock ∨ ∃ b, v1.ownBlock = some b ∧ W.heap.size ≤ b) : Lit1 W1 g x v1 vH :=
 ⟨(hg.block g (blk_lt h.b) h.l).trans h.b, by
  rcases hat with e | ⟨b, e, hb⟩
  ·rw [e]; exact h.l
  ·rw [e]; intro q; have := Option.some.inj q; have := blk_lt h.b; omega, h.h⟩
theorem Lit1.make {w W : World} {g2 g4 g8 : Nat} {pv z4 fv : Array Value} {vL vH : Value} {lo hi : List Int} (h : BS w W g2 g4 g8 pv z4 fv vL vH lo hi) (x : Int) : Lit1 (W.alloc (.cells #[.int .i64 x] 3)) W.heap.size x vL vH :=
 ⟨blk_new _ _, Kd.fresh' (Kd.R_lt h.t.l) _ (Nat.le_refl _), Kd.fresh' (Kd.R_lt h.t.h) _ (Nat.le_refl _)⟩
end Go.Proofs.Ytndkkjpgnmahbaa.Print
end

section
namespace Go.Proofs.Ytndkkjpgnmahbaa.Print
open Go.RowKit Go.Proofs.YtndkkjpgnmahbaaW.PrintWords Go.Proofs.YtndkkjpgnmahbaaW.PrintLast Go.Proofs.YtndkkjpgnmahbaaW.PrintMore Go.Proofs.Ytndkkjpgnmahbaa.H Go.Proofs.Field
attribute [local go_sem] max2_int min2_int max_two min_two max_three min_three max_four min_four
set_option linter.unusedVariables false
set_option linter.unusedSimpArgs false
def rbF.T6 : Bool × List (List Nat × List Nat) := (true, [([], []), ([], []), ([], []), ([2], [2]), ([], []), ([3, 4], [3, 4]), ([5], [5]), ([6], [6]), ([1, 7], [1, 7]), ([8], [8]), ([0, 9], [0, 9]), ([], []), ([], []), ([], []), ([13], [13]), ([], []), ([14, 15], [14, 15]), ([16], [16]), ([17], [17]), ([12, 18], [12, 18]), ([19], [19]), ([11, 20], [11, 20]), ([10, 0, 1, 2, 3, 4, 5, 6, 7, 8, 9, 10], [0, 10]), ([21, 22, 0, 1, 2, 3, 4, 5, 6, 7, 8, 9, 10, 11, 12, 13, 14, 15, 16, 17, 18, 19, 20, 21, 22], [11, 21])])
def rbF.B6 : List Nat := [0, 0, 0, 4, 0, 28, 60, 124, 254, 510, 1023, 0, 0, 0, 8192, 0, 57344, 122880, 253952, 520192, 1044480, 2095104, 2047, 8388607]
theorem rbF.tab6 : rtab .any (opsOf Try.f74 6) = rbF.T6 := by kernel_rfl
theorem rbF.bits6 : waitsOk rbF.T6.2 rbF.B6 = true := by kernel_rfl
def rbF.T13 : Bool × List (List Nat × List Nat) := (true, [([], []), ([], []), ([1], [1]), ([], []), ([2, 3], [2, 3]), ([4], [4]), ([5], [5]), ([0, 6], [0, 6]), ([7], [7]), ([], []), ([], []), ([10], [10]), ([], []), ([11, 12], [11, 12]), ([13], [13]), ([14], [14]), ([9, 15], [9, 15]), ([16], [16]), ([8, 0, 1, 2, 3, 4, 5, 6, 7, 8], [8]), ([17, 18, 0, 1, 2, 3, 4, 5, 6, 7, 8, 9, 10, 11, 12, 13, 14, 15, 16, 17, 18], [17])])
def rbF.B13 : List Nat := [0, 0, 2, 0, 14, 30, 62, 127, 255, 0, 0, 1024, 0, 7168, 15360, 31744, 65024, 130560, 511, 524287]
theorem rbF.tab13 : rtab .any (opsOf Try.f74 13) = rbF.T13 := by kernel_rfl
theorem rbF.bits13 : waitsOk rbF.T13.2 rbF.B13 = true := by kernel_rfl
def rbF.T14 : Bool × List (List Nat × List Nat) := (true, [([], []), ([0], [0]), ([], []), ([2], [2]), ([1, 3], [1, 3]), ([], []), ([5], [5]), ([], []), ([7], [7]), ([6, 8, 4], [6, 8]), ([0, 1, 2, 3, 4, 5, 6], []), ([10, 4, 9, 0, 1, 2, 3, 4, 5, 6], [4, 10]), ([0, 1, 2, 3, 4, 5, 6, 7, 8, 9, 10, 11], []), ([12, 9, 11, 0, 1, 2, 3, 4, 5, 6, 7, 8, 9, 10, 11], [9, 12])])
def rbF.B14 : List Nat := [0, 1, 0, 4, 15, 0, 32, 0, 128, 511, 127, 2047, 4095, 8191]
theorem rbF.tab14 : rtab .any (opsOf Try.f74 14) = rbF.T14 := by kernel_rfl
theorem rbF.bits14 : waitsOk rbF.T14.2 rbF.B14 = true := by kernel_rfl
theorem BS.row {w W : World} {g2 g4 g8 : Nat} {pv z4 fv : Array Value} {vL vH : Value} {lo hi : List Int} (h : BS w W g2 g4 g8 pv z4 fv vL vH lo hi) (cs : Array Value) : Two (W.setRow g4 cs) w.heap.size vL vH lo hi ∧ Below w.heap.size w (W.setRow g4 cs) := by
 refine ⟨⟨?_, ?_⟩, ?_⟩
 ·exact Kd.R_mono (Kd.R_step (Kd.R_types h.t.l h.o (by decide)) (fun k hk _ => setRow_other _ _ _ _ hk.2)) (fun k hk => hk.1)
 ·exact Kd.R_mono (Kd.R_step (Kd.R_types h.t.h h.o (by decide)) (fun k hk _ => setRow_other _ _ _ _ hk.2)) (fun k hk => hk.1)
 ·exact ⟨h.below.os, h.below.tape, h.below.output, by rw [size_setRow]; exact h.below.size, fun i hi => by rw [setRow_other _ g4 i _ (by have := h.ge.2; omega)]; exact h.below.block i hi⟩
end Go.Proofs.Ytndkkjpgnmahbaa.Print
end
