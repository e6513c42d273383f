/- Part 6 of the texts of a claim about Ytndkkjpgnmahbaa, put together by a program of this work: what the Go functions do, and that their calls do so. -/
import Derived.Test.YtndkkjpgnmahbaaFS2
import Derived.Test.YtndkkjpgnmahbaaFS5
import Derived.Test.YtndkkjpgnmahbaaFS4
import Derived.Test.YtndkkjpgnmahbaaFS3
set_option linter.unusedVariables false
set_option linter.unusedSimpArgs false
set_option maxRecDepth 100000
set_option maxHeartbeats 64000000
section
namespace Go.Proofs.Ytndkkjpgnmahbaa.Print
open Go.RowKit YtndkkjpgnmahbaaW.PrintWords YtndkkjpgnmahbaaW.PrintLast YtndkkjpgnmahbaaW.PrintMore Ytndkkjpgnmahbaa.H Proofs.Field
attribute [local go_sem] max2_int min2_int max_two min_two max_three min_three max_four min_four
mutual
def thermionref01_askable.l0 : Nat → List Int → Int → Int → Int → Bool → List Int → Option (Int)
 | 0, _, _, _, _, _, _ => none
 | k + 1, x2, x8, x532000, x532001, x532002, x532003 => if x8 < (x2.length : Int) then (if 0 ≤ x8 then ((thermionref01_has.f k x532000 x532001 x532002 x532003 (rd x2 x8)).bind fun t535 => (if t535 = true then (thermionref01_askable.l0 k x2 (wrap64 (x8 + 1)) x532000 x532001 x532002 x532003) else (some 7))) else (none)) else (thermionref01_askable.l1 k x2 0)
def thermionref01_askable.l1 : Nat → List Int → Int → Option (Int)
 | 0, _, _ => none
 | k + 1, x2, x9 => if x9 < (x2.length : Int) then (thermionref01_askable.l2 k x2 x9 0) else (some 0)
def thermionref01_askable.l2 : Nat → List Int → Int → Int → Option (Int)
 | 0, _, _, _ => none
 | k + 1, x2, x9, x10 => if x10 < x9 then (if 0 ≤ x9 then (if x9 < (x2.length : Int) then (if 0 ≤ x10 then (if x10 < (x2.length : Int) then (if (rd x2 x9) = (rd x2 x10) then (some 9) else (thermionref01_askable.l2 k x2 x9 (wrap64 (x10 + 1)))) else (none)) else (none)) else (none)) else (none)) else (thermionref01_askable.l1 k x2 (wrap64 (x9 + 1)))
end
def thermionref01_askable.f (k : Nat) (a0_0 : Int) (a0_1 : Int) (a0_2 : Bool) (l0_3 : List Int) (a1 : Int) (l2 : List Int) : Option (Int) := (thermionref01_Check.f k a0_0 a0_1 a0_2 l0_3).bind fun t532 => (if t532 = 0 then ((thermionref01_beyond.f a1 0 200).bind fun t533 => (if t533 = true then (some 2) else (thermionref01_askable.l0 k l2 0 a0_0 a0_1 a0_2 l0_3))) else (some t532))
def thermionref01_askable.T17 : Bool × List (List Nat × List Nat) := (true, [([], []), ([], []), ([0, 1], [0, 1]), ([2], [2]), ([], []), ([], []), ([4, 5], [4, 5]), ([6], [6]), ([3, 7], [3, 7])])
def thermionref01_askable.B17 : List Nat := [0, 0, 3, 7, 0, 0, 48, 112, 255]
theorem thermionref01_askable.tab17 : rtab .any (opsOf Try.f92 17) = thermionref01_askable.T17 := by kernel_rfl
theorem thermionref01_askable.bits17 : waitsOk thermionref01_askable.T17.2 thermionref01_askable.B17 = true := by kernel_rfl
theorem thermionref01_askable.calls (k : Nat) (a0_0 : Int) (a0_1 : Int) (a0_2 : Bool) (A0_3 : Option Addr) (c0_3 : Nat) (l0_3 : List Int) (a1 : Int) (A2 : Option Addr) (c2 : Nat) (l2 : List Int) (r : Int) (w : World) (hr0_3 : Kd.C (Kd.int .i64) w A0_3 l0_3.length l0_3) (hc0_3 : l0_3.length ≤ c0_3) (hr2 : Kd.C (Kd.int .i64) w A2 l2.length l2) (hc2 : l2.length ≤ c2) (h : thermionref01_askable.f k a0_0 a0_1 a0_2 l0_3 a1 l2 = some r) :
  Calls Try.prog 92 #[.agg #[.int .i64 a0_0, .int .i64 a0_1, .bool a0_2, .slice A0_3 l0_3.length c0_3], .int .i64 a1, .slice A2 l2.length c2] w fun e w' => e = .returned (.int .i64 r) ∧ Below w.heap.size w w' := by
 have hu24 := Try.underlying24
 have HR0_3 := Aside0.mk hr0_3
 have HC0_3 := Aside0.mk hc0_3
 clear hr0_3 hc0_3
 have HR2 := Aside0.mk hr2
 have HC2 := Aside0.mk hc2
 clear hr2 hc2
 have HB := Aside0.mk (Below.refl w.heap.size w)
 have H : ((thermionref01_Check.f k a0_0 a0_1 a0_2 l0_3).bind fun t532 => (if t532 = 0 then ((thermionref01_beyond.f a1 0 200).bind fun t533 => (if t533 = true then (some 2) else (thermionref01_askable.l0 k l2 0 a0_0 a0_1 a0_2 l0_3))) else (some t532))) = some r := h
 clear h
 obtain ⟨t532, A40, H⟩ := Option.bind_eq_some_iff.mp H
 have A4 := Aside0.mk A40
 clear A40
 by_cases c5 : t532 = 0
 ·rw [if_pos c5] at H
  obtain ⟨c5b0, c5b1⟩ := aEq c5
  clear c5
  obtain ⟨t533, A60, H⟩ := Option.bind_eq_some_iff.mp H
  have A6 := Aside0.mk A60
  clear A60
  by_cases c7 : t533 = true
  ·subst c7
   have H1 : (some 2) = some r := by rw [if_pos rfl] at H; exact H
   clear H
   have H := H1
   clear H1
   obtain rfl := Option.some.inj H
   go_enter Try.func92, Try.ntmps92
   go_wp2_with (first | ((with_reducible refine gate_dst (N := 3) rfl ?_); refine aBox 3 #[.int .i64 a0_0, .int .i64 a0_1, .bool a0_2, .slice A0_3 l0_3.length c0_3] 24 ?_; intro gb531 hg w8 hbox hb; have BK531 := Aside0.mk (hbox); have GW531 := aGe hg HB; have GE531 := aGe hg HB; replace HB := aBs HB hb; clear hb hbox hg; obtain ⟨⟨hcz9_0, hcz9_1, hcz9_2, hcz9_3⟩, hfz9_0, hfz9_1, hfz9_2, hfz9_3⟩ := aC4 BK531) | ((with_reducible refine gate_callee (f := 40) rfl ?_); refine goesL_ (some 12) rfl rfl Try.func40 (by kernel_rfl) rfl #[.agg #[.int .i64 a0_0, .int .i64 a0_1, .bool a0_2, .slice A0_3 l0_3.length c0_3]] rfl aA ?_; (with_reducible refine (thermionref01_Check.calls k a0_0 a0_1 a0_2 _ _ l0_3 t532 _ ?side1 ?side2 A4.out).mono ?_); (case side1 => exact aC HR0_3 HB); (case side2 => exact HC0_3.out); rintro e w10 ⟨rfl, hb⟩; refine ⟨_, rfl, ?_⟩; replace BK531 := aBb BK531 hb; replace HB := aBs HB hb; (try clear hb hk hi)) | ((with_reducible refine gate_callee (f := 73) rfl ?_); refine goesL_ (some 17) rfl rfl Try.func73 (by kernel_rfl) rfl #[.int .i64 a1, .int .i64 0, .int .i64 200] rfl aA ?_; (with_reducible refine (thermionref01_beyond.calls a1 0 200 true _ A6.out).mono ?_); rintro e w' ⟨rfl, ⟨nd, rfl⟩⟩; refine ⟨_, rfl, ?_⟩))
   go_ret
   exact ⟨by first | rfl | (simp [*] <;> rfl), (aBl HB).out⟩
  ·replace c7 := Bool.eq_false_iff.mpr c7
   subst c7
   have H1 : (thermionref01_askable.l0 k l2 0 a0_0 a0_1 a0_2 l0_3) = some r := by rw [if_neg (show ¬ (false = true) by decide)] at H; exact H
   clear H
   have H := H1
   clear H1
   have H' := Aside0.mk H
   clear H
   go_enter Try.func92, Try.ntmps92
   go_wp2_with (first | ((with_reducible refine gate_dst (N := 3) rfl ?_); refine aBox 3 #[.int .i64 a0_0, .int .i64 a0_1, .bool a0_2, .slice A0_3 l0_3.length c0_3] 24 ?_; intro gb531 hg w11 hbox hb; have BK531 := Aside0.mk (hbox); have GW531 := aGe hg HB; have GE531 := aGe hg HB; replace HB := aBs HB hb; clear hb hbox hg; obtain ⟨⟨hcz12_0, hcz12_1, hcz12_2, hcz12_3⟩, hfz12_0, hfz12_1, hfz12_2, hfz12_3⟩ := aC4 BK531) | ((with_reducible refine gate_callee (f := 40) rfl ?_); refine goesL_ (some 12) rfl rfl Try.func40 (by kernel_rfl) rfl #[.agg #[.int .i64 a0_0, .int .i64 a0_1, .bool a0_2, .slice A0_3 l0_3.length c0_3]] rfl aA ?_; (with_reducible refine (thermionref01_Check.calls k a0_0 a0_1 a0_2 _ _ l0_3 t532 _ ?side1 ?side2 A4.out).mono ?_); (case side1 => exact aC HR0_3 HB); (case side2 => exact HC0_3.out); rintro e w13 ⟨rfl, hb⟩; refine ⟨_, rfl, ?_⟩; replace BK531 := aBb BK531 hb; replace HB := aBs HB hb; (try clear hb hk hi)) | ((with_reducible refine gate_callee (f := 73) rfl ?_); refine goesL_ (some 17) rfl rfl Try.func73 (by kernel_rfl) rfl #[.int .i64 a1, .int .i64 0, .int .i64 200] rfl aA ?_; (with_reducible refine (thermionref01_beyond.calls a1 0 200 false _ A6.out).mono ?_); rintro e w' ⟨rfl, ⟨nd, rfl⟩⟩; refine ⟨_, rfl, ?_⟩))
   go_loopg [8] k (fun kq v8 w' => ∃ (x8_1 : Int), v8 = .int .i64 x8_1 ∧ Aside0 (thermionref01_askable.l0 kq l2 x8_1 a0_0 a0_1 a0_2 l0_3 = some r) ∧ Aside0 (kq ≤ k) ∧ Aside0 (w'.heap[gb531]? = some (.cells #[.int .i64 a0_0, .int .i64 a0_1, .bool a0_2, (.slice A0_3 l0_3.length c0_3)] 24 (0, 0))) ∧ Aside0 (Below w.heap.size w w'))
   case atStart => exact ⟨(0), aR, H', ⟨Nat.le_refl _⟩, aBk BK531, aBl HB⟩
   case round =>
    clear H'
    try clear c2; try clear c5; try clear c5b0; try clear c5b1; try clear c7; try clear hcz12_0; try clear hcz12_1; try clear hcz12_2; try clear hcz12_3; try clear hcz9_0; try clear hcz9_1; try clear hcz9_2; try clear hcz9_3; try clear hfz12_0; try clear hfz12_1; try clear hfz12_2; try clear hfz12_3; try clear hfz9_0; try clear hfz9_1; try clear hfz9_2; try clear hfz9_3
    obtain ⟨x8_1, rfl, HA, HK1, BK531, HB⟩ := hrel
    cases gk with
    | zero => exact absurd HA.out (by simp [thermionref01_askable.l0])
    | succ k1 =>
     have H := HA.out
     clear HA
     simp only [thermionref01_askable.l0] at H
     by_cases c14 : x8_1 < (l2.length : Int)
     ·rw [if_pos c14] at H
      have c14b0 := decide_eq_true c14
      clear c14
      by_cases c15 : 0 ≤ x8_1
      ·rw [if_pos c15] at H
       have c15b0 := decide_eq_true c15
       clear c15
       obtain ⟨t535, A160, H⟩ := Option.bind_eq_some_iff.mp H
       have A16 := Aside0.mk A160
       clear A160
       by_cases c17 : t535 = true
       ·subst c17
        have H1 : (thermionref01_askable.l0 k1 l2 (wrap64 (x8_1 + 1)) a0_0 a0_1 a0_2 l0_3) = some r := by rw [if_pos rfl] at H; exact H
        clear H
        have H := H1
        clear H1
        have H' := Aside0.mk H
        clear H
        try go_wp2
        have n0_ := Aside0.mk (blk_drew BK531.out)
        have n1_ := Aside0.mk (below_drew1 HB.out)
        clear BK531 HB
        have BK531 := n0_
        have HB := n1_
        clear n0_ n1_
        have p534 : 0 ≤ (x8_1 : Int) := aD
        have q534 : x8_1 < (l2.length : Int) := aD
        obtain ⟨ad534, e534, hx534_0⟩ := Kd.at_int HR2.out x8_1 p534 q534
        have hw534_0 := hx534_0
        cases e534
        replace hx534_0 := (HB.out.cell (World.block_lt_of_cell? w _ hx534_0)).trans hx534_0
        replace p534 := eq_true p534
        replace q534 := eq_true q534
        refine start_ (n := 7) (S := fun w' => w'.cell? ⟨gb531, 0, none⟩ = some (.int .i64 a0_0) ∧ w'.cell? ⟨gb531, 1, none⟩ = some (.int .i64 a0_1) ∧ w'.cell? ⟨gb531, 2, none⟩ = some (.bool a0_2) ∧ w'.cell? ⟨gb531, 3, none⟩ = some (.slice A0_3 l0_3.length c0_3) ∧ w'.cell? (ad534.add (x8_1).toNat) = some (.int .i64 (rd l2 x8_1))) (ds := []) #[false, false, false, false, false, false, false] (by kernel_rfl) rfl rfl ⟨(blk_cell BK531.out 0).trans rfl, (blk_cell BK531.out 1).trans rfl, (blk_cell BK531.out 2).trans rfl, (blk_cell BK531.out 3).trans rfl, ((HB.out.cell (World.block_lt_of_cell? w _ hw534_0)).trans hw534_0)⟩ (fun hHeld => ?_)
        generalize wr.drew = w18 at BK531 HB hx534_0 hHeld ⊢
        refine pv_ 1 25 (bS 7 2) ?_
        refine pv_ 2 26 (bS 7 6) ?_
        refine pv_ 3 27 (bS 7 14) ?_
        refine take_ (i := 0) (N := some 24) (v := ?_) (a' := ?_) (bS 7 15) rfl rfl (by kernel_rfl) (fun _ _ _ h => h) (Or.inl ⟨by rfl, ?_⟩) hHeld ?_ ?_; rotate_left; (· rintro w' ⟨s0, s1, s2, s3, s4⟩; go_simp; with_reducible rfl); rotate_left; (· simp only [Act.put, sT, sZ, sS, i64_w, i32_w]; rfl)
        refine take_ (i := 4) (N := some 28) (v := ?_) (a' := ?_) (bS 7 31) rfl rfl (by kernel_rfl) (fun _ _ _ h => h) (Or.inl ⟨by rfl, ?_⟩) hHeld ?_ ?_; rotate_left; (· rintro w' ⟨s0, s1, s2, s3, s4⟩; go_simp; with_reducible rfl); rotate_left; (· simp only [Act.put, sT, sZ, sS, i64_w, i32_w]; rfl)
        refine on_ 5 29 (bS 7 63) (fun K hK => ?_)
        refine goes_ Try.func79 (by kernel_rfl) rfl #[.agg #[.int .i64 a0_0, .int .i64 a0_1, .bool a0_2, .slice A0_3 l0_3.length c0_3], .int .i64 (rd l2 x8_1)] (by rfl) rfl rfl aA ?_
        with_reducible refine (thermionref01_has.calls k1 a0_0 a0_1 a0_2 _ _ l0_3 (rd l2 x8_1) true _ ?side1 ?side2 A16.out).mono ?_
        (case side1 => exact aC HR0_3 HB)
        (case side2 => exact HC0_3.out)
        rintro e w19 ⟨rfl, hb⟩
        refine ⟨_, rfl, ?_⟩
        have n0_ := aBb BK531 hb
        have n1_ := aBs HB hb
        clear BK531 HB
        have BK531 := n0_
        have HB := n1_
        clear n0_ n1_
        (try clear hb)
        (try clear hb2)
        (try clear hk)
        (try clear hi)
        refine hK.out _ _ ⟨(blk_cell BK531.out 0).trans rfl, (blk_cell BK531.out 1).trans rfl, (blk_cell BK531.out 2).trans rfl, (blk_cell BK531.out 3).trans rfl, ((HB.out.cell (World.block_lt_of_cell? w _ hw534_0)).trans hw534_0)⟩ (fun hHeld => ?_)
        clear hK K
        refine nm_ ?_
        refine pv_ 6 30 (bS 7 127) ?_
        refine done_ (by kernel_rfl) ?_
        try go_wp2
        go_roundg k1
        case measure => have := HK1.out; omega
        case rel => exact ⟨(wrap64 (x8_1 + 1)), aR, H', ⟨by have := HK1.out; omega⟩, aBk BK531, aBl HB⟩
       ·replace c17 := Bool.eq_false_iff.mpr c17
        subst c17
        have H1 : (some 7) = some r := by rw [if_neg (show ¬ (false = true) by decide)] at H; exact H
        clear H
        have H := H1
        clear H1
        obtain rfl := Option.some.inj H
        try go_wp2
        have n0_ := Aside0.mk (blk_drew BK531.out)
        have n1_ := Aside0.mk (below_drew1 HB.out)
        clear BK531 HB
        have BK531 := n0_
        have HB := n1_
        clear n0_ n1_
        have p534 : 0 ≤ (x8_1 : Int) := aD
        have q534 : x8_1 < (l2.length : Int) := aD
        obtain ⟨ad534, e534, hx534_0⟩ := Kd.at_int HR2.out x8_1 p534 q534
        have hw534_0 := hx534_0
        cases e534
        replace hx534_0 := (HB.out.cell (World.block_lt_of_cell? w _ hx534_0)).trans hx534_0
        replace p534 := eq_true p534
        replace q534 := eq_true q534
        refine start_ (n := 7) (S := fun w' => w'.cell? ⟨gb531, 0, none⟩ = some (.int .i64 a0_0) ∧ w'.cell? ⟨gb531, 1, none⟩ = some (.int .i64 a0_1) ∧ w'.cell? ⟨gb531, 2, none⟩ = some (.bool a0_2) ∧ w'.cell? ⟨gb531, 3, none⟩ = some (.slice A0_3 l0_3.length c0_3) ∧ w'.cell? (ad534.add (x8_1).toNat) = some (.int .i64 (rd l2 x8_1))) (ds := []) #[false, false, false, false, false, false, false] (by kernel_rfl) rfl rfl ⟨(blk_cell BK531.out 0).trans rfl, (blk_cell BK531.out 1).trans rfl, (blk_cell BK531.out 2).trans rfl, (blk_cell BK531.out 3).trans rfl, ((HB.out.cell (World.block_lt_of_cell? w _ hw534_0)).trans hw534_0)⟩ (fun hHeld => ?_)
        generalize wr.drew = w20 at BK531 HB hx534_0 hHeld ⊢
        refine pv_ 1 25 (bS 7 2) ?_
        refine pv_ 2 26 (bS 7 6) ?_
        refine pv_ 3 27 (bS 7 14) ?_
        refine take_ (i := 0) (N := some 24) (v := ?_) (a' := ?_) (bS 7 15) rfl rfl (by kernel_rfl) (fun _ _ _ h => h) (Or.inl ⟨by rfl, ?_⟩) hHeld ?_ ?_; rotate_left; (· rintro w' ⟨s0, s1, s2, s3, s4⟩; go_simp; with_reducible rfl); rotate_left; (· simp only [Act.put, sT, sZ, sS, i64_w, i32_w]; rfl)
        refine take_ (i := 4) (N := some 28) (v := ?_) (a' := ?_) (bS 7 31) rfl rfl (by kernel_rfl) (fun _ _ _ h => h) (Or.inl ⟨by rfl, ?_⟩) hHeld ?_ ?_; rotate_left; (· rintro w' ⟨s0, s1, s2, s3, s4⟩; go_simp; with_reducible rfl); rotate_left; (· simp only [Act.put, sT, sZ, sS, i64_w, i32_w]; rfl)
        refine on_ 5 29 (bS 7 63) (fun K hK => ?_)
        refine goes_ Try.func79 (by kernel_rfl) rfl #[.agg #[.int .i64 a0_0, .int .i64 a0_1, .bool a0_2, .slice A0_3 l0_3.length c0_3], .int .i64 (rd l2 x8_1)] (by rfl) rfl rfl aA ?_
        with_reducible refine (thermionref01_has.calls k1 a0_0 a0_1 a0_2 _ _ l0_3 (rd l2 x8_1) false _ ?side1 ?side2 A16.out).mono ?_
        (case side1 => exact aC HR0_3 HB)
        (case side2 => exact HC0_3.out)
        rintro e w21 ⟨rfl, hb⟩
        refine ⟨_, rfl, ?_⟩
        have n0_ := aBb BK531 hb
        have n1_ := aBs HB hb
        clear BK531 HB
        have BK531 := n0_
        have HB := n1_
        clear n0_ n1_
        (try clear hb)
        (try clear hb2)
        (try clear hk)
        (try clear hi)
        refine hK.out _ _ ⟨(blk_cell BK531.out 0).trans rfl, (blk_cell BK531.out 1).trans rfl, (blk_cell BK531.out 2).trans rfl, (blk_cell BK531.out 3).trans rfl, ((HB.out.cell (World.block_lt_of_cell? w _ hw534_0)).trans hw534_0)⟩ (fun hHeld => ?_)
        clear hK K
        refine nm_ ?_
        refine pv_ 6 30 (bS 7 127) ?_
        refine done_ (by kernel_rfl) ?_
        try go_wp2
        go_ret
        exact ⟨by first | rfl | (simp [*] <;> rfl), (aBl HB).out⟩
      ·rw [if_neg c15] at H
       exact absurd H (by simp)
     ·rw [if_neg c14] at H
      have c14b0 := decide_eq_false c14
      clear c14
      have H' := Aside0.mk H
      clear H
      go_wp2
      go_loopg [9] k1 (fun kq v9 w' => ∃ (x9_2 : Int), v9 = .int .i64 x9_2 ∧ Aside0 (thermionref01_askable.l1 kq l2 x9_2 = some r) ∧ Aside0 (kq ≤ k1) ∧ Aside0 (w'.heap[gb531]? = some (.cells #[.int .i64 a0_0, .int .i64 a0_1, .bool a0_2, (.slice A0_3 l0_3.length c0_3)] 24 (0, 0))) ∧ Aside0 (Below w.heap.size w w'))
      case atStart => exact ⟨(0), aR, H', ⟨Nat.le_refl _⟩, aBk BK531, aBl HB⟩
      case round =>
       clear H'
       try clear c2; try clear c5; try clear c5b0; try clear c5b1; try clear c7; try clear c14; try clear c14b0; try clear c15; try clear c15b0; try clear c17; try clear hcz12_0; try clear hcz12_1; try clear hcz12_2; try clear hcz12_3; try clear hcz9_0; try clear hcz9_1; try clear hcz9_2; try clear hcz9_3; try clear hfz12_0; try clear hfz12_1; try clear hfz12_2; try clear hfz12_3; try clear hfz9_0; try clear hfz9_1; try clear hfz9_2; try clear hfz9_3; try clear hx534_0; try clear p534; try clear q534
       obtain ⟨x9_2, rfl, HA, HK2, BK531, HB⟩ := hrel
       cases gk with
       | zero => exact absurd HA.out (by simp [thermionref01_askable.l1])
       | succ k2 =>
        have H := HA.out
        clear HA
        simp only [thermionref01_askable.l1] at H
        by_cases c22 : x9_2 < (l2.length : Int)
        ·rw [if_pos c22] at H
         have c22b0 := decide_eq_true c22
         clear c22
         have H' := Aside0.mk H
         clear H
         go_wp2
         go_loopg [10] k2 (fun kq v10 w' => ∃ (x10_3 : Int), v10 = .int .i64 x10_3 ∧ Aside0 (thermionref01_askable.l2 kq l2 x9_2 x10_3 = some r) ∧ Aside0 (kq ≤ k2) ∧ Aside0 (w'.heap[gb531]? = some (.cells #[.int .i64 a0_0, .int .i64 a0_1, .bool a0_2, (.slice A0_3 l0_3.length c0_3)] 24 (0, 0))) ∧ Aside0 (Below w.heap.size w w'))
         case atStart => exact ⟨(0), aR, H', ⟨Nat.le_refl _⟩, aBk BK531, aBl HB⟩
         case round =>
          clear H'
          try clear c2; try clear c5; try clear c5b0; try clear c5b1; try clear c7; try clear c14; try clear c14b0; try clear c15; try clear c15b0; try clear c17; try clear c22; try clear c22b0; try clear hcz12_0; try clear hcz12_1; try clear hcz12_2; try clear hcz12_3; try clear hcz9_0; try clear hcz9_1; try clear hcz9_2; try clear hcz9_3; try clear hfz12_0; try clear hfz12_1; try clear hfz12_2; try clear hfz12_3; try clear hfz9_0; try clear hfz9_1; try clear hfz9_2; try clear hfz9_3; try clear hx534_0; try clear p534; try clear q534
          obtain ⟨x10_3, rfl, HA, HK3, BK531, HB⟩ := hrel
          cases gk with
          | zero => exact absurd HA.out (by simp [thermionref01_askable.l2])
          | succ k3 =>
           have H := HA.out
           clear HA
           simp only [thermionref01_askable.l2] at H
           by_cases c23 : x10_3 < x9_2
           ·rw [if_pos c23] at H
            have c23b0 := decide_eq_true c23
            clear c23
            by_cases c24 : 0 ≤ x9_2
            ·rw [if_pos c24] at H
             have c24b0 := decide_eq_true c24
             clear c24
             by_cases c25 : x9_2 < (l2.length : Int)
             ·rw [if_pos c25] at H
              have c25b0 := decide_eq_true c25
              clear c25
              by_cases c26 : 0 ≤ x10_3
              ·rw [if_pos c26] at H
               have c26b0 := decide_eq_true c26
               clear c26
               by_cases c27 : x10_3 < (l2.length : Int)
               ·rw [if_pos c27] at H
                have c27b0 := decide_eq_true c27
                clear c27
                by_cases c28 : (rd l2 x9_2) = (rd l2 x10_3)
                ·rw [if_pos c28] at H
                 obtain ⟨c28b0, c28b1⟩ := aEq c28
                 clear c28
                 obtain rfl := Option.some.inj H
                 try go_wp2
                 have n0_ := Aside0.mk (blk_drew BK531.out)
                 have n1_ := Aside0.mk (below_drew1 HB.out)
                 clear BK531 HB
                 have BK531 := n0_
                 have HB := n1_
                 clear n0_ n1_
                 have p536 : 0 ≤ (x9_2 : Int) := aD
                 have q536 : x9_2 < (l2.length : Int) := aD
                 obtain ⟨ad536, e536, hx536_0⟩ := Kd.at_int HR2.out x9_2 p536 q536
                 have hw536_0 := hx536_0
                 cases e536
                 replace hx536_0 := (HB.out.cell (World.block_lt_of_cell? w _ hx536_0)).trans hx536_0
                 replace p536 := eq_true p536
                 replace q536 := eq_true q536
                 have p537 : 0 ≤ (x10_3 : Int) := aD
                 have q537 : x10_3 < (l2.length : Int) := aD
                 obtain ⟨ad537, e537, hx537_0⟩ := Kd.at_int HR2.out x10_3 p537 q537
                 have hw537_0 := hx537_0
                 obtain rfl : ad536 = ad537 := (by injection e537)
                 replace hx537_0 := (HB.out.cell (World.block_lt_of_cell? w _ hx537_0)).trans hx537_0
                 replace p537 := eq_true p537
                 replace q537 := eq_true q537
                 refine start_ (n := 9) (S := fun w' => w'.cell? (ad536.add (x9_2).toNat) = some (.int .i64 (rd l2 x9_2)) ∧ w'.cell? (ad536.add (x10_3).toNat) = some (.int .i64 (rd l2 x10_3))) (ds := []) #[false, false, false, false, false, false, false, false, false] (by kernel_rfl) rfl rfl ⟨((HB.out.cell (World.block_lt_of_cell? w _ hw536_0)).trans hw536_0), ((HB.out.cell (World.block_lt_of_cell? w _ hw537_0)).trans hw537_0)⟩ (fun hHeld => ?_); refine with_tabW thermionref01_askable.tab17 thermionref01_askable.bits17 (fun HT_ HW_ => ?_)
                 generalize wr.drew = w29 at BK531 HB hx536_0 hx537_0 hHeld ⊢
                 refine pu_ 0 42 (bS 9 1) HT_ ?_
                 refine pu_ 1 43 (bS 9 3) HT_ ?_
                 refine pu_ 2 44 (bS 9 7) HT_ ?_
                 refine pu_ 4 46 (bS 9 23) HT_ ?_
                 refine pu_ 5 47 (bS 9 55) HT_ ?_
                 refine pu_ 6 48 (bS 9 119) HT_ ?_
                 refine ta_ 3 45 (bS 9 127) HT_ HW_ hHeld ?_
                 refine ta_ 7 49 (bS 9 255) HT_ HW_ hHeld ?_
                 refine pu_ 8 50 (bS 9 511) HT_ ?_
                 refine done_ (done_of HT_.out (by kernel_rfl)) ?_
                 try go_wp2
                 go_ret
                 exact ⟨by first | rfl | (simp [*] <;> rfl), (aBl HB).out⟩
                ·rw [if_neg c28] at H
                 obtain ⟨c28b0, c28b1⟩ := aNe c28
                 have H' := Aside0.mk H
                 clear H
                 try go_wp2
                 have n0_ := Aside0.mk (blk_drew BK531.out)
                 have n1_ := Aside0.mk (below_drew1 HB.out)
                 clear BK531 HB
                 have BK531 := n0_
                 have HB := n1_
                 clear n0_ n1_
                 have p536 : 0 ≤ (x9_2 : Int) := aD
                 have q536 : x9_2 < (l2.length : Int) := aD
                 obtain ⟨ad536, e536, hx536_0⟩ := Kd.at_int HR2.out x9_2 p536 q536
                 have hw536_0 := hx536_0
                 cases e536
                 replace hx536_0 := (HB.out.cell (World.block_lt_of_cell? w _ hx536_0)).trans hx536_0
                 replace p536 := eq_true p536
                 replace q536 := eq_true q536
                 have p537 : 0 ≤ (x10_3 : Int) := aD
                 have q537 : x10_3 < (l2.length : Int) := aD
                 obtain ⟨ad537, e537, hx537_0⟩ := Kd.at_int HR2.out x10_3 p537 q537
                 have hw537_0 := hx537_0
                 obtain rfl : ad536 = ad537 := (by injection e537)
                 replace hx537_0 := (HB.out.cell (World.block_lt_of_cell? w _ hx537_0)).trans hx537_0
                 replace p537 := eq_true p537
                 replace q537 := eq_true q537
                 refine start_ (n := 9) (S := fun w' => w'.cell? (ad536.add (x9_2).toNat) = some (.int .i64 (rd l2 x9_2)) ∧ w'.cell? (ad536.add (x10_3).toNat) = some (.int .i64 (rd l2 x10_3))) (ds := []) #[false, false, false, false, false, false, false, false, false] (by kernel_rfl) rfl rfl ⟨((HB.out.cell (World.block_lt_of_cell? w _ hw536_0)).trans hw536_0), ((HB.out.cell (World.block_lt_of_cell? w _ hw537_0)).trans hw537_0)⟩ (fun hHeld => ?_); refine with_tabW thermionref01_askable.tab17 thermionref01_askable.bits17 (fun HT_ HW_ => ?_)
                 generalize wr.drew = w30 at BK531 HB hx536_0 hx537_0 hHeld ⊢
                 refine pu_ 0 42 (bS 9 1) HT_ ?_
                 refine pu_ 1 43 (bS 9 3) HT_ ?_
                 refine pu_ 2 44 (bS 9 7) HT_ ?_
                 refine pu_ 4 46 (bS 9 23) HT_ ?_
                 refine pu_ 5 47 (bS 9 55) HT_ ?_
                 refine pu_ 6 48 (bS 9 119) HT_ ?_
                 refine ta_ 3 45 (bS 9 127) HT_ HW_ hHeld ?_
                 refine ta_ 7 49 (bS 9 255) HT_ HW_ hHeld ?_
                 refine pu_ 8 50 (bS 9 511) HT_ ?_
                 refine done_ (done_of HT_.out (by kernel_rfl)) ?_
                 try go_wp2
                 go_roundg k3
                 case measure => have := HK1.out; have := HK2.out; have := HK3.out; omega
                 case rel => exact ⟨(wrap64 (x10_3 + 1)), aR, H', ⟨by have := HK1.out; have := HK2.out; have := HK3.out; omega⟩, aBk BK531, aBl HB⟩
               ·rw [if_neg c27] at H
                exact absurd H (by simp)
              ·rw [if_neg c26] at H
               exact absurd H (by simp)
             ·rw [if_neg c25] at H
              exact absurd H (by simp)
            ·rw [if_neg c24] at H
             exact absurd H (by simp)
           ·rw [if_neg c23] at H
            have c23b0 := decide_eq_false c23
            clear c23
            have H' := Aside0.mk H
            clear H
            go_wp2
            go_roundg k3
            case measure => have := HK1.out; have := HK2.out; have := HK3.out; omega
            case rel => exact ⟨(wrap64 (x9_2 + 1)), aR, H', ⟨by have := HK1.out; have := HK2.out; have := HK3.out; omega⟩, aBk BK531, aBl HB⟩
        ·rw [if_neg c22] at H
         have c22b0 := decide_eq_false c22
         clear c22
         obtain rfl := Option.some.inj H
         go_wp2
         go_ret
         exact ⟨by first | rfl | (simp [*] <;> rfl), (aBl HB).out⟩
 ·rw [if_neg c5] at H
  obtain ⟨c5b0, c5b1⟩ := aNe c5
  obtain rfl := Option.some.inj H
  go_enter Try.func92, Try.ntmps92
  go_wp2_with (first | ((with_reducible refine gate_dst (N := 3) rfl ?_); refine aBox 3 #[.int .i64 a0_0, .int .i64 a0_1, .bool a0_2, .slice A0_3 l0_3.length c0_3] 24 ?_; intro gb531 hg w31 hbox hb; have BK531 := Aside0.mk (hbox); have GW531 := aGe hg HB; have GE531 := aGe hg HB; replace HB := aBs HB hb; clear hb hbox hg; obtain ⟨⟨hcz32_0, hcz32_1, hcz32_2, hcz32_3⟩, hfz32_0, hfz32_1, hfz32_2, hfz32_3⟩ := aC4 BK531) | ((with_reducible refine gate_callee (f := 40) rfl ?_); refine goesL_ (some 12) rfl rfl Try.func40 (by kernel_rfl) rfl #[.agg #[.int .i64 a0_0, .int .i64 a0_1, .bool a0_2, .slice A0_3 l0_3.length c0_3]] rfl aA ?_; (with_reducible refine (thermionref01_Check.calls k a0_0 a0_1 a0_2 _ _ l0_3 t532 _ ?side1 ?side2 A4.out).mono ?_); (case side1 => exact aC HR0_3 HB); (case side2 => exact HC0_3.out); rintro e w33 ⟨rfl, hb⟩; refine ⟨_, rfl, ?_⟩; replace BK531 := aBb BK531 hb; replace HB := aBs HB hb; (try clear hb hk hi)))
  go_ret
  exact ⟨by first | rfl | (simp [*] <;> rfl), (aBl HB).out⟩
def thermionref01_influence.f (k : Nat) (a0_0 : Int) (a0_1 : Int) (a0_2 : Bool) (l0_3 : List Int) (a1 : Int) (a2 : Int) (a3 : Int) : Option (Int × Int) := (thermionref01_greatest.f k a0_0 a0_1 a0_2 l0_3).bind fun t540 => (if 0 ≤ t540 then (if (t540 : Int).toNat ≤ 35184372088832 then ((some (List.replicate (t540 : Int).toNat 0 : List Int)).bind fun y541 => (if 0 ≤ (wrap64 (a2 - 1)) then (if (wrap64 (a2 - 1)) < (y541.length : Int) then ((some (y541.set ((wrap64 (a2 - 1)) : Int).toNat 1000000 : List Int)).bind fun y544 => ((thermionref01_Solve.f a0_0 a0_1 a0_2 l0_3 y544 a1).bind fun bt545 => ((thermionref01_charge.f k a0_0 a0_1 a0_2 l0_3 y544 bt545.1 bt545.2.1 bt545.2.2.1 bt545.2.2.2.1 a3).bind fun bt555 => (some (wrap64 (-bt555.2), wrap64 (-bt555.1)))))) else (none)) else (none))) else (none)) else (none))
theorem thermionref01_influence.calls (k : Nat) (a0_0 : Int) (a0_1 : Int) (a0_2 : Bool) (A0_3 : Option Addr) (c0_3 : Nat) (l0_3 : List Int) (a1 : Int) (a2 : Int) (a3 : Int) (r1 : Int) (r2 : Int) (w : World) (hr0_3 : Kd.C (Kd.int .i64) w A0_3 l0_3.length l0_3) (hc0_3 : l0_3.length ≤ c0_3) (h : thermionref01_influence.f k a0_0 a0_1 a0_2 l0_3 a1 a2 a3 = some (r1, r2)) :
  Calls Try.prog 93 #[.agg #[.int .i64 a0_0, .int .i64 a0_1, .bool a0_2, .slice A0_3 l0_3.length c0_3], .int .i64 a1, .int .i64 a2, .int .i64 a3] w fun e w' => e = .returned (.agg #[.int .i64 r1, .int .i64 r2]) ∧ Below w.heap.size w w' := by
 have hu24 := Try.underlying24
 have hu42 := Try.underlying42
 have hu33 := Try.underlying33
 have HR0_3 := Aside0.mk hr0_3
 have HC0_3 := Aside0.mk hc0_3
 clear hr0_3 hc0_3
 have HB := Aside0.mk (Below.refl w.heap.size w)
 have H : ((thermionref01_greatest.f k a0_0 a0_1 a0_2 l0_3).bind fun t540 => (if 0 ≤ t540 then (if (t540 : Int).toNat ≤ 35184372088832 then ((some (List.replicate (t540 : Int).toNat 0 : List Int)).bind fun y541 => (if 0 ≤ (wrap64 (a2 - 1)) then (if (wrap64 (a2 - 1)) < (y541.length : Int) then ((some (y541.set ((wrap64 (a2 - 1)) : Int).toNat 1000000 : List Int)).bind fun y544 => ((thermionref01_Solve.f a0_0 a0_1 a0_2 l0_3 y544 a1).bind fun bt545 => ((thermionref01_charge.f k a0_0 a0_1 a0_2 l0_3 y544 bt545.1 bt545.2.1 bt545.2.2.1 bt545.2.2.2.1 a3).bind fun bt555 => (some (wrap64 (-bt555.2), wrap64 (-bt555.1)))))) else (none)) else (none))) else (none)) else (none))) = some (r1, r2) := h
 clear h
 obtain ⟨t540, A50, H⟩ := Option.bind_eq_some_iff.mp H
 have A5 := Aside0.mk A50
 clear A50
 by_cases c6 : 0 ≤ t540
 ·rw [if_pos c6] at H
  have c6b0 := eq_true c6
  have c6b1 := decide_eq_true c6
  clear c6
  by_cases c7 : (t540 : Int).toNat ≤ 35184372088832
  ·rw [if_pos c7] at H
   have c7b0 := eq_true c7
   have c7b1 := decide_eq_true c7
   clear c7
   obtain ⟨y541, hy541⟩ : ∃ y_ : List Int, y_ = (List.replicate (t540 : Int).toNat 0) := ⟨_, rfl⟩
   replace H : (if 0 ≤ (wrap64 (a2 - 1)) then (if (wrap64 (a2 - 1)) < (y541.length : Int) then ((some (y541.set ((wrap64 (a2 - 1)) : Int).toNat 1000000 : List Int)).bind fun y544 => ((thermionref01_Solve.f a0_0 a0_1 a0_2 l0_3 y544 a1).bind fun bt545 => ((thermionref01_charge.f k a0_0 a0_1 a0_2 l0_3 y544 bt545.1 bt545.2.1 bt545.2.2.1 bt545.2.2.2.1 a3).bind fun bt555 => (some (wrap64 (-bt555.2), wrap64 (-bt555.1)))))) else (none)) else (none)) = some (r1, r2) := by first | (rw [hy541]; with_reducible exact H) | (rw [hy541]; exact (Option.bind_some _ _).symm.trans H) | (rw [hy541]; exact H) | exact H
   have Ny541 := Aside0.mk hy541
   clear hy541
   obtain ⟨ji8, hji8⟩ : ∃ j_ : Int, (wrap64 (a2 - 1)) = j_ := ⟨_, rfl⟩
   replace H : (if 0 ≤ (ji8) then (if (ji8) < (y541.length : Int) then ((some (y541.set ((ji8) : Int).toNat 1000000 : List Int)).bind fun y544 => ((thermionref01_Solve.f a0_0 a0_1 a0_2 l0_3 y544 a1).bind fun bt545 => ((thermionref01_charge.f k a0_0 a0_1 a0_2 l0_3 y544 bt545.1 bt545.2.1 bt545.2.2.1 bt545.2.2.2.1 a3).bind fun bt555 => (some (wrap64 (-bt555.2), wrap64 (-bt555.1)))))) else (none)) else (none)) = some (r1, r2) := by first | (rw [hji8] at H; exact H) | (simp only [hji8] at H ⊢; exact H)
   (try rw [hji8] at A5)
   have hji8w : (IntKind.i64.wrap (a2 - 1)) = ji8 := (i64_w _).trans hji8
   by_cases c9 : 0 ≤ (ji8)
   ·rw [if_pos c9] at H
    have c9b0 := decide_eq_true c9
    clear c9
    by_cases c10 : (ji8) < (y541.length : Int)
    ·rw [if_pos c10] at H
     have c10b0 := decide_eq_true c10
     clear c10
     obtain ⟨y544, hy544⟩ : ∃ y_ : List Int, y_ = (y541.set ((ji8) : Int).toNat 1000000) := ⟨_, rfl⟩
     replace H : ((thermionref01_Solve.f a0_0 a0_1 a0_2 l0_3 y544 a1).bind fun bt545 => ((thermionref01_charge.f k a0_0 a0_1 a0_2 l0_3 y544 bt545.1 bt545.2.1 bt545.2.2.1 bt545.2.2.2.1 a3).bind fun bt555 => (some (wrap64 (-bt555.2), wrap64 (-bt555.1))))) = some (r1, r2) := by first | (rw [hy544]; with_reducible exact H) | (rw [hy544]; exact (Option.bind_some _ _).symm.trans H) | (rw [hy544]; exact H) | exact H
     have Ny544 := Aside0.mk hy544
     clear hy544
     replace H := Option.bind_eq_some_iff.mp H
     obtain ⟨⟨t545, t548, t551, t552, t553⟩, A120, H⟩ := H
     replace H : ((thermionref01_charge.f k a0_0 a0_1 a0_2 l0_3 y544 t545 t548 t551 t552 a3).bind fun bt555 => (some (wrap64 (-bt555.2), wrap64 (-bt555.1)))) = some (r1, r2) := H
     have A12 := Aside0.mk A120
     clear A120
     replace H := Option.bind_eq_some_iff.mp H
     obtain ⟨⟨t555, t556⟩, A130, H⟩ := H
     replace H : (some (wrap64 (-t556), wrap64 (-t555))) = some (r1, r2) := H
     have A13 := Aside0.mk A130
     clear A130
     simp only [Option.some.injEq, Prod.mk.injEq] at H
     obtain ⟨rfl, rfl⟩ := H
     go_enter Try.func93, Try.ntmps93
     go_wp2_with (first | ((with_reducible refine gate_dst (N := 4) rfl ?_); refine aBox 4 #[.int .i64 a0_0, .int .i64 a0_1, .bool a0_2, .slice A0_3 l0_3.length c0_3] 24 ?_; intro gb538 hg w14 hbox hb; have BK538 := Aside0.mk (hbox); have GW538 := aGe hg HB; have GE538 := aGe hg HB; replace HB := aBs HB hb; clear hb hbox hg) | ((with_reducible refine gate_dst (N := 8) rfl ?_); refine aBox 8 #[.int .i64 0, .int .i64 0] 42 ?_; intro gb539 hg w15 hbox hb; have BK539 := Aside0.mk (hbox); have GW539 := aGe hg HB; have GE539 := aGe hg HB; replace HB := aBs HB hb; have NB538_539 := aNl hg BK538; have NB539_538 := aNg hg BK538; replace BK538 := aBb BK538 hb; clear hb hbox hg; have hnb16 := NB538_539.out; have hnc16 := NB539_538.out; obtain ⟨⟨hcz17_0, hcz17_1, hcz17_2, hcz17_3⟩, hfz17_0, hfz17_1, hfz17_2, hfz17_3⟩ := aC4 BK538) | ((with_reducible refine gate_callee (f := 87) rfl ?_); refine goesL_ (some 14) rfl rfl Try.func87 (by kernel_rfl) rfl #[.agg #[.int .i64 a0_0, .int .i64 a0_1, .bool a0_2, .slice A0_3 l0_3.length c0_3]] rfl aA ?_; (with_reducible refine (thermionref01_greatest.calls k a0_0 a0_1 a0_2 _ _ l0_3 t540 _ ?side1 ?side2 A5.out).mono ?_); (case side1 => exact aC HR0_3 HB); (case side2 => exact HC0_3.out); rintro e w18 ⟨rfl, hb⟩; refine ⟨_, rfl, ?_⟩; replace BK538 := aBb BK538 hb; replace BK539 := aBb BK539 hb; replace HB := aBs HB hb; (try clear hb hk hi)) | ((with_reducible refine gate_dst (N := 15) rfl ?_); refine Kd.R_make (Kd.int .i64) _ 3 rfl (N := 15) rfl 22 _ _ rfl t540 rfl rfl Try.underlying22 (.int .i64 0) 8 info3 rfl (by decide) (by omega) 0 (ok := fun _ => True) (okp := fun _ => True) rfl (fun _ hk => hk) trivial (aD) (Nat.le_trans (Nat.mul_le_mul_right _ (aD : t540.toNat ≤ 35184372088832)) (by omega)) (Below.refl _ _) (Nat.le_refl _) ?_; intro v542 w19 ho20 hb hg_ hnew_; clear hg_ hnew_; (first | rw [← Ny541.out] at ho20 | (simp only [Int.reduceToNat] at ho20; rw [← Ny541.out] at ho20)); have HO543 := Aside0.mk (Kd.R_lower ho20 (below_size (aBl HB).out)); replace BK538 := aBb BK538 hb; replace BK539 := aBb BK539 hb; replace HB := aBs HB hb; clear hb ho20; have p11 : 0 ≤ ((ji8) : Int) := aD; have q11 : ((ji8) : Int) < ((y541.length : Int) : Int) := aD; obtain ⟨go11, co11, eo11, gb11, gl11, cl11, HG11⟩ := Kd.R_form HO543.out (by omega); (first | cases eo11 | (injection eo11 with ea_ en_ ec_; (first | subst ea_ | (injection ea_ with ea_; subst ea_)); subst ec_; clear en_)); have GB11 := Aside0.mk gb11; have GG11 := Aside0.mk HG11; clear gb11 gl11 HG11; obtain ⟨hx11_0, hf11_0⟩ := Kd.R_celln 0 HO543.out ((ji8) : Int) p11 q11; replace p11 := eq_true p11; replace q11 := eq_true q11; obtain ⟨hy21_, hz21_⟩ := Kd.R_celln 0 HO543.out ((ji8) : Int) (aD) (aD); have HP21 := Kd.R_putg HO543.out ((ji8) : Int) 1000000) | ((with_reducible refine gate_store (t := 3) (p := 19) rfl ?_); refine store_event (t := 3) (p := 19) (v := ?vo_w22) (w1 := (w19.setCell ⟨go11, ((ji8) : Int).toNat, none⟩ (.int .i64 1000000))) ?hg ?ho ?hn ?hr ?_; (case ho => rfl); (case hg => rfl); (case hn => rfl); (case hr => first | (go_simp; done) | (go_simp; rfl)); intro w22 hw; have hg : w19.grownBy w22 (some go11) := (by rw [hw]; exact HP21.2); have hp_ : Kd.R (Kd.int .i64) 3 w22 w.heap.size (fun _ => True) (.slice (some ⟨go11, 0, none⟩) y541.length co11) y544 := (by rw [hw, Ny544.out]; exact HP21.1); clear HP21; replace BK538 := (aBg BK538 hg (Kd.R_ne HO543.out BK538.out (by decide))); replace BK539 := (aBg BK539 hg (Kd.R_ne HO543.out BK539.out (by decide))); replace HO543 := Aside0.mk (hp_); replace HB := Aside0.mk ((by rw [hw]; exact below_set (HB.out) GB11.out : Below w.heap.size w w22)); clear hg hw hp_; obtain ⟨⟨hcz23_0, hcz23_1, hcz23_2, hcz23_3⟩, hfz23_0, hfz23_1, hfz23_2, hfz23_3⟩ := aC4 BK538) | ((with_reducible refine gate_callee (f := 26) rfl ?_); refine goesL_ (some 24) rfl rfl Try.func26 (by kernel_rfl) rfl #[.agg #[.int .i64 a0_0, .int .i64 a0_1, .bool a0_2, .slice A0_3 l0_3.length c0_3], .slice (some ⟨go11, 0, none⟩) y544.length co11, .int .i64 a1] rfl (by (try simp only [List.map_toArray, List.map_cons, List.map_nil]); first | done | (rw [show y544.length = y541.length from (Kd.R_reads' HO543.out).1.symm] <;> rfl) | rfl | (simp only [List.length_drop, List.length_take]; rfl)) ?_; (with_reducible refine (thermionref01_Solve.calls a0_0 a0_1 a0_2 _ _ l0_3 _ _ y544 a1 t545 t548 t551 t552 t553 _ ?side1 ?side2 ?side3 ?side4 A12.out).mono ?_); (case side1 => exact aC HR0_3 HB); (case side2 => exact HC0_3.out); (case side3 => repeat (first | exact (Kd.R_reads' HO543.out).2.2 | (with_reducible refine Kd.C_alloc ?_ _) | (with_reducible refine Kd.C_drewN ?_ _) | (with_reducible refine Kd.C_drew ?_))); (case side4 => rw [show y544.length = y541.length from (Kd.R_reads' HO543.out).1.symm]; exact (Kd.R_reads' HO543.out).2.1); rintro e w24 ⟨v546, v549, rfl, ho0, ho1, hb⟩; refine ⟨_, rfl, ?_⟩; have HO547 := Aside0.mk (Kd.R_lower (Kd.R_new' ho0 (Kd.R_lt (aRk HO543).out)) (below_size (aBl HB).out)); have HO550 := Aside0.mk (Kd.R_lower (Kd.R_new' ho1 (Kd.R_lt (aRk HO543).out)) (below_size (aBl HB).out)); replace HO543 := Aside0.mk (Kd.R_mono (Kd.R_told (Kd.R_told (Kd.R_old (aRk HO543).out hb) (Kd.R_base ho0)) (Kd.R_base ho1)) (fun _ h_ => h_.1)); replace BK538 := aBb BK538 hb; replace BK539 := aBb BK539 hb; replace HB := aBs HB hb; (try clear hb hk hi); (try clear ho0); (try clear ho1)) | ((with_reducible refine gate_dst (N := 10) rfl ?_); refine aBox 10 #[.slice none 0 0, .slice none 0 0, .int .i64 0, .bool false] 33 ?_; intro gb554 hg w25 hbox hb; replace HO543 := aRb HO543 hb; replace HO547 := aRb HO547 hb; replace HO550 := aRb HO550 hb; have BK554 := Aside0.mk (hbox); have GW554 := aGe hg HB; have GE554 := aGe hg HB; replace HB := aBs HB hb; have NB538_554 := aNl hg BK538; have NB554_538 := aNg hg BK538; replace BK538 := aBb BK538 hb; have NB539_554 := aNl hg BK539; have NB554_539 := aNg hg BK539; replace BK539 := aBb BK539 hb; clear hb hbox hg; obtain ⟨Ao26, co26, eo26⟩ := Kd.R_slice HO547.out; subst eo26; have hnb27 := NB554_538.out; have hnc27 := NB538_554.out; have hnb28 := NB554_539.out; have hnc28 := NB539_554.out; obtain ⟨⟨hcz29_0, hcz29_1, hcz29_2, hcz29_3⟩, hfz29_0, hfz29_1, hfz29_2, hfz29_3⟩ := aC4 BK554; obtain ⟨Ao30, co30, eo30⟩ := Kd.R_slice HO550.out; subst eo30; obtain ⟨⟨hcz31_0, hcz31_1, hcz31_2, hcz31_3⟩, hfz31_0, hfz31_1, hfz31_2, hfz31_3⟩ := aC4 BK538) | ((with_reducible refine gate_callee (f := 80) rfl ?_); refine goesL_ (some 31) rfl rfl Try.func80 (by kernel_rfl) rfl #[.agg #[.int .i64 a0_0, .int .i64 a0_1, .bool a0_2, .slice A0_3 l0_3.length c0_3], .slice (some ⟨go11, 0, none⟩) y544.length co11, .agg #[.slice Ao26 t545.length co26, .slice Ao30 t548.length co30, .int .i64 t551, .bool t552], .int .i64 a3] rfl (by (try simp only [List.map_toArray, List.map_cons, List.map_nil]); first | done | (rw [show y544.length = y541.length from (Kd.R_reads' HO543.out).1.symm] <;> rfl) | rfl | (simp only [List.length_drop, List.length_take]; rfl)) ?_; (with_reducible refine (thermionref01_charge.calls k a0_0 a0_1 a0_2 _ _ l0_3 _ _ y544 _ _ t545 _ _ t548 t551 t552 a3 t555 t556 _ ?side1 ?side2 ?side3 ?side4 ?side5 ?side6 ?side7 ?side8 A13.out).mono ?_); (case side1 => exact Kd.C_below HR0_3.out (aBl HB).out); (case side2 => exact HC0_3.out); (case side3 => refine (Kd.R_reads' (e := 3) (base := w.heap.size) (ok := fun k_ => ((True ∧ some k_ ≠ (.slice Ao26 t545.length co26 : Value).ownBlock) ∧ some k_ ≠ (.slice Ao30 t548.length co30 : Value).ownBlock)) (n := y541.length) (c := co11) ?_).2.2; exact (by (with_reducible repeat (first | apply Kd.R_alloc | apply Kd.R_drewN | apply Kd.R_drew)); exact (Kd.R_mono (Kd.R_far (p := ⟨gb554, 3, none⟩) (Kd.R_far (p := ⟨gb554, 2, none⟩) (Kd.R_far (p := ⟨gb554, 1, none⟩) (Kd.R_far (p := ⟨gb554, 0, none⟩) (Kd.R_types HO543.out BK554.out (by decide)) (fun _ hk => hk.2) (.slice Ao26 t545.length co26)) (fun _ hk => hk.2) (.slice Ao30 t548.length co30)) (fun _ hk => hk.2) (.int .i64 t551)) (fun _ hk => hk.2) (.bool t552)) (fun _ h_ => h_.1)))); (case side4 => rw [show y544.length = y541.length from (Kd.R_reads' HO543.out).1.symm]; exact (Kd.R_reads' HO543.out).2.1); (case side5 => refine (Kd.R_reads' (e := 3) (base := w.heap.size) (ok := fun k_ => (some k_ ≠ (.slice Ao30 t548.length co30 : Value).ownBlock ∧ some k_ ≠ (.slice (some ⟨go11, 0, none⟩) y541.length co11 : Value).ownBlock)) (n := t545.length) (c := co26) ?_).2.2; exact (by (with_reducible repeat (first | apply Kd.R_alloc | apply Kd.R_drewN | apply Kd.R_drew)); exact (Kd.R_mono (Kd.R_far (p := ⟨gb554, 3, none⟩) (Kd.R_far (p := ⟨gb554, 2, none⟩) (Kd.R_far (p := ⟨gb554, 1, none⟩) (Kd.R_far (p := ⟨gb554, 0, none⟩) (Kd.R_types HO547.out BK554.out (by decide)) (fun _ hk => hk.2) (.slice Ao26 t545.length co26)) (fun _ hk => hk.2) (.slice Ao30 t548.length co30)) (fun _ hk => hk.2) (.int .i64 t551)) (fun _ hk => hk.2) (.bool t552)) (fun _ h_ => h_.1)))); (case side6 => exact (Kd.R_reads' HO547.out).2.1); (case side7 => refine (Kd.R_reads' (e := 3) (base := w.heap.size) (ok := fun k_ => (some k_ ≠ (.slice Ao26 t545.length co26 : Value).ownBlock ∧ some k_ ≠ (.slice (some ⟨go11, 0, none⟩) y541.length co11 : Value).ownBlock)) (n := t548.length) (c := co30) ?_).2.2; exact (by (with_reducible repeat (first | apply Kd.R_alloc | apply Kd.R_drewN | apply Kd.R_drew)); exact (Kd.R_mono (Kd.R_far (p := ⟨gb554, 3, none⟩) (Kd.R_far (p := ⟨gb554, 2, none⟩) (Kd.R_far (p := ⟨gb554, 1, none⟩) (Kd.R_far (p := ⟨gb554, 0, none⟩) (Kd.R_types HO550.out BK554.out (by decide)) (fun _ hk => hk.2) (.slice Ao26 t545.length co26)) (fun _ hk => hk.2) (.slice Ao30 t548.length co30)) (fun _ hk => hk.2) (.int .i64 t551)) (fun _ hk => hk.2) (.bool t552)) (fun _ h_ => h_.1)))); (case side8 => exact (Kd.R_reads' HO550.out).2.1); rintro e w32 ⟨rfl, hb⟩; refine ⟨_, rfl, ?_⟩; replace HO543 := Aside0.mk (Kd.R_below (by (with_reducible repeat (first | apply Kd.R_alloc | apply Kd.R_drewN | apply Kd.R_drew)); exact (Kd.R_mono (Kd.R_far (p := ⟨gb554, 3, none⟩) (Kd.R_far (p := ⟨gb554, 2, none⟩) (Kd.R_far (p := ⟨gb554, 1, none⟩) (Kd.R_far (p := ⟨gb554, 0, none⟩) (Kd.R_types HO543.out BK554.out (by decide)) (fun _ hk => hk.2) (.slice Ao26 t545.length co26)) (fun _ hk => hk.2) (.slice Ao30 t548.length co30)) (fun _ hk => hk.2) (.int .i64 t551)) (fun _ hk => hk.2) (.bool t552)) (fun _ h_ => h_.1))) hb); replace HO547 := Aside0.mk (Kd.R_below (by (with_reducible repeat (first | apply Kd.R_alloc | apply Kd.R_drewN | apply Kd.R_drew)); exact (Kd.R_mono (Kd.R_far (p := ⟨gb554, 3, none⟩) (Kd.R_far (p := ⟨gb554, 2, none⟩) (Kd.R_far (p := ⟨gb554, 1, none⟩) (Kd.R_far (p := ⟨gb554, 0, none⟩) (Kd.R_types HO547.out BK554.out (by decide)) (fun _ hk => hk.2) (.slice Ao26 t545.length co26)) (fun _ hk => hk.2) (.slice Ao30 t548.length co30)) (fun _ hk => hk.2) (.int .i64 t551)) (fun _ hk => hk.2) (.bool t552)) (fun _ h_ => h_.1))) hb); replace HO550 := Aside0.mk (Kd.R_below (by (with_reducible repeat (first | apply Kd.R_alloc | apply Kd.R_drewN | apply Kd.R_drew)); exact (Kd.R_mono (Kd.R_far (p := ⟨gb554, 3, none⟩) (Kd.R_far (p := ⟨gb554, 2, none⟩) (Kd.R_far (p := ⟨gb554, 1, none⟩) (Kd.R_far (p := ⟨gb554, 0, none⟩) (Kd.R_types HO550.out BK554.out (by decide)) (fun _ hk => hk.2) (.slice Ao26 t545.length co26)) (fun _ hk => hk.2) (.slice Ao30 t548.length co30)) (fun _ hk => hk.2) (.int .i64 t551)) (fun _ hk => hk.2) (.bool t552)) (fun _ h_ => h_.1))) hb); replace BK538 := Aside0.mk (blk_below (g := gb538) (o := .cells #[.int .i64 a0_0, .int .i64 a0_1, .bool a0_2, .slice A0_3 l0_3.length c0_3] 24 (0, 0)) (by (with_reducible repeat (first | refine blk_drewN ?_ _ | refine blk_drew ?_ | refine blk_alloc ?_ _)); refine blk_far ?_ NB538_554.out _; (with_reducible repeat (first | refine blk_drewN ?_ _ | refine blk_drew ?_ | refine blk_alloc ?_ _)); refine blk_far ?_ NB538_554.out _; (with_reducible repeat (first | refine blk_drewN ?_ _ | refine blk_drew ?_ | refine blk_alloc ?_ _)); refine blk_far ?_ NB538_554.out _; (with_reducible repeat (first | refine blk_drewN ?_ _ | refine blk_drew ?_ | refine blk_alloc ?_ _)); refine blk_far ?_ NB538_554.out _; (with_reducible repeat (first | refine blk_drewN ?_ _ | refine blk_drew ?_ | refine blk_alloc ?_ _)); exact BK538.out) hb); replace BK539 := Aside0.mk (blk_below (g := gb539) (o := .cells #[.int .i64 0, .int .i64 0] 42 (0, 0)) (by (with_reducible repeat (first | refine blk_drewN ?_ _ | refine blk_drew ?_ | refine blk_alloc ?_ _)); refine blk_far ?_ NB539_554.out _; (with_reducible repeat (first | refine blk_drewN ?_ _ | refine blk_drew ?_ | refine blk_alloc ?_ _)); refine blk_far ?_ NB539_554.out _; (with_reducible repeat (first | refine blk_drewN ?_ _ | refine blk_drew ?_ | refine blk_alloc ?_ _)); refine blk_far ?_ NB539_554.out _; (with_reducible repeat (first | refine blk_drewN ?_ _ | refine blk_drew ?_ | refine blk_alloc ?_ _)); refine blk_far ?_ NB539_554.out _; (with_reducible repeat (first | refine blk_drewN ?_ _ | refine blk_drew ?_ | refine blk_alloc ?_ _)); exact BK539.out) hb); replace BK554 := Aside0.mk (blk_below (g := gb554) (o := .cells #[.slice Ao26 t545.length co26, .slice Ao30 t548.length co30, .int .i64 t551, .bool t552] 33 (0, 0)) (by (with_reducible repeat (first | refine blk_drewN ?_ _ | refine blk_drew ?_ | refine blk_alloc ?_ _)); refine blk_put (cs := #[.slice Ao26 t545.length co26, .slice Ao30 t548.length co30, .int .i64 t551, .bool false]) ?_ 3 _ rfl; (with_reducible repeat (first | refine blk_drewN ?_ _ | refine blk_drew ?_ | refine blk_alloc ?_ _)); refine blk_put (cs := #[.slice Ao26 t545.length co26, .slice Ao30 t548.length co30, .int .i64 0, .bool false]) ?_ 2 _ rfl; (with_reducible repeat (first | refine blk_drewN ?_ _ | refine blk_drew ?_ | refine blk_alloc ?_ _)); refine blk_put (cs := #[.slice Ao26 t545.length co26, .slice none 0 0, .int .i64 0, .bool false]) ?_ 1 _ rfl; (with_reducible repeat (first | refine blk_drewN ?_ _ | refine blk_drew ?_ | refine blk_alloc ?_ _)); refine blk_put (cs := #[.slice none 0 0, .slice none 0 0, .int .i64 0, .bool false]) ?_ 0 _ rfl; (with_reducible repeat (first | refine blk_drewN ?_ _ | refine blk_drew ?_ | refine blk_alloc ?_ _)); exact BK554.out) hb); replace HB := aBs HB hb; (try clear hb hk hi)) | ((with_reducible refine gate_dst (N := 12) rfl ?_); refine aBox 12 #[.int .i64 0, .int .i64 0] 42 ?_; intro gb557 hg w33 hbox hb; replace HO543 := aRb HO543 hb; replace HO547 := aRb HO547 hb; replace HO550 := aRb HO550 hb; have BK557 := Aside0.mk (hbox); have GW557 := aGe hg HB; have GE557 := aGe hg HB; replace HB := aBs HB hb; have NB538_557 := aNl hg BK538; have NB557_538 := aNg hg BK538; replace BK538 := aBb BK538 hb; have NB539_557 := aNl hg BK539; have NB557_539 := aNg hg BK539; replace BK539 := aBb BK539 hb; have NB554_557 := aNl hg BK554; have NB557_554 := aNg hg BK554; replace BK554 := aBb BK554 hb; clear hb hbox hg; have hnb34 := NB557_538.out; have hnc34 := NB538_557.out; have hnb35 := NB557_539.out; have hnc35 := NB539_557.out; have hnb36 := NB557_554.out; have hnc36 := NB554_557.out; obtain ⟨⟨hcz37_0, hcz37_1⟩, hfz37_0, hfz37_1⟩ := aC2 BK557; obtain ⟨⟨hcz38_0, hcz38_1⟩, hfz38_0, hfz38_1⟩ := aC2 BK539))
     refine bodyPost_ret (results_cell_row rfl _ _ gb539 42 #[.int .i64 (wrap64 (-t556)), .int .i64 (wrap64 (-t555))] (0, 0) _ rfl (by (with_reducible repeat (first | refine blk_drewN ?_ _ | refine blk_drew ?_ | refine blk_alloc ?_ _)); refine blk_put (cs := #[.int .i64 (wrap64 (-t556)), .int .i64 0]) ?_ 1 _ rfl; (with_reducible repeat (first | refine blk_drewN ?_ _ | refine blk_drew ?_ | refine blk_alloc ?_ _)); refine blk_put (cs := #[.int .i64 0, .int .i64 0]) ?_ 0 _ rfl; (with_reducible repeat (first | refine blk_drewN ?_ _ | refine blk_drew ?_ | refine blk_alloc ?_ _)); refine blk_far ?_ NB539_557.out _; (with_reducible repeat (first | refine blk_drewN ?_ _ | refine blk_drew ?_ | refine blk_alloc ?_ _)); refine blk_far ?_ NB539_557.out _; (with_reducible repeat (first | refine blk_drewN ?_ _ | refine blk_drew ?_ | refine blk_alloc ?_ _)); exact BK539.out) Try.underlying42 rfl (by kernel_rfl)) rfl ?_
     exact ⟨by first | rfl | (simp [errW_none, errW_some] <;> rfl) | (simp only [← hji8]; first | rfl | (simp [errW_none, errW_some] <;> rfl)) | (simp [*, errW_none, errW_some] <;> rfl), (aBl HB).out⟩
    ·rw [if_neg c10] at H
     exact absurd H (by simp)
   ·rw [if_neg c9] at H
    exact absurd H (by simp)
  ·rw [if_neg c7] at H
   exact absurd H (by simp)
 ·rw [if_neg c6] at H
  exact absurd H (by simp)
def thermionref01_Influence.f (k : Nat) (a0_0 : Int) (a0_1 : Int) (a0_2 : Bool) (l0_3 : List Int) (a1 : Int) (a2 : Int) (a3 : Int) : Option (Int × Int × Int) := (thermionref01_askable.f k a0_0 a0_1 a0_2 l0_3 a1 (([a2, a3] : List Int))).bind fun t563 => (if t563 = 0 then ((thermionref01_influence.f k a0_0 a0_1 a0_2 l0_3 a1 a2 a3).bind fun bt564 => (some (bt564.1, bt564.2, 0))) else (some (0, 0, t563)))
def field_Amplification.f (k : Nat) (a0_0 : Int) (a0_1 : Int) (a0_2 : Bool) (l0_3 : List Int) (a1 : Int) (a2 : Int) (a3 : Int) (a4 : Int) : Option (Int × Int × Int) := (field_apart.f k a0_0 a0_1 a0_2 l0_3 a1 (([a2, a3, a4] : List Int))).bind fun t571 => (if t571 = 0 then ((field_Influence.f k a0_0 a0_1 a0_2 l0_3 a1 a3 a2).bind fun bt572 => ((field_Influence.f k a0_0 a0_1 a0_2 l0_3 a1 a4 a2).bind fun bt576 => (if bt576.1 < 1 then (some (0, 0, 10)) else ((field_down.f (wrap64 (1000 * bt572.1)) bt576.2.1).bind fun t580 => ((field_up.f (wrap64 (1000 * bt572.2.1)) bt576.1).bind fun t581 => (some (t580, t581, 0))))))) else (some (0, 0, t571)))
def field_Amplification.T8 : Bool × List (List Nat × List Nat) := (true, [([], []), ([0], [0]), ([1], [1]), ([], []), ([3], [3]), ([2, 4], [2, 4]), ([], []), ([6], [6]), ([7], [7]), ([], []), ([9], [9]), ([8, 10, 5], [8, 10]), ([5, 11], [5, 11]), ([12, 11, 0, 1, 2, 3, 4, 5, 6, 7, 8, 9, 10, 11, 12], [12]), ([13, 0, 1, 2, 3, 4, 5, 6, 7, 8, 9, 10, 11, 12, 13], [])])
def field_Amplification.B8 : List Nat := [0, 1, 3, 0, 8, 31, 0, 64, 192, 0, 512, 2047, 4095, 8191, 16383]
theorem field_Amplification.tab8 : rtab .any (opsOf Try.f56 8) = field_Amplification.T8 := by kernel_rfl
theorem field_Amplification.bits8 : waitsOk field_Amplification.T8.2 field_Amplification.B8 = true := by kernel_rfl
theorem field_Amplification.calls (k : Nat) (a0_0 : Int) (a0_1 : Int) (a0_2 : Bool) (A0_3 : Option Addr) (c0_3 : Nat) (l0_3 : List Int) (a1 : Int) (a2 : Int) (a3 : Int) (a4 : Int) (r1 : Int) (r2 : Int) (r3 : Int) (w : World) (hr0_3 : Kd.C (Kd.int .i64) w A0_3 l0_3.length l0_3) (hc0_3 : l0_3.length ≤ c0_3) (h : field_Amplification.f k a0_0 a0_1 a0_2 l0_3 a1 a2 a3 a4 = some (r1, r2, r3)) :
  Calls Try.prog 56 #[.agg #[.int .i64 a0_0, .int .i64 a0_1, .bool a0_2, .slice A0_3 l0_3.length c0_3], .int .i64 a1, .int .i64 a2, .int .i64 a3, .int .i64 a4] w fun e w' => e = .returned (.tuple #[.agg #[.int .i64 r1, .int .i64 r2], .int .i64 r3]) ∧ Below w.heap.size w w' := by
 have hu24 := Try.underlying24
 have hu42 := Try.underlying42
 have HR0_3 := Aside0.mk hr0_3
 have HC0_3 := Aside0.mk hc0_3
 clear hr0_3 hc0_3
 have HB := Aside0.mk (Below.refl w.heap.size w)
 have H : ((field_apart.f k a0_0 a0_1 a0_2 l0_3 a1 (([a2, a3, a4] : List Int))).bind fun t571 => (if t571 = 0 then ((field_Influence.f k a0_0 a0_1 a0_2 l0_3 a1 a3 a2).bind fun bt572 => ((field_Influence.f k a0_0 a0_1 a0_2 l0_3 a1 a4 a2).bind fun bt576 => (if bt576.1 < 1 then (some (0, 0, 10)) else ((field_down.f (wrap64 (1000 * bt572.1)) bt576.2.1).bind fun t580 => ((field_up.f (wrap64 (1000 * bt572.2.1)) bt576.1).bind fun t581 => (some (t580, t581, 0))))))) else (some (0, 0, t571)))) = some (r1, r2, r3) := h
 clear h
 obtain ⟨y568, hy568⟩ : ∃ y_ : List Int, y_ = (([a2, a3, a4] : List Int)) := ⟨_, rfl⟩
 replace H : ((field_apart.f k a0_0 a0_1 a0_2 l0_3 a1 y568).bind fun t571 => (if t571 = 0 then ((field_Influence.f k a0_0 a0_1 a0_2 l0_3 a1 a3 a2).bind fun bt572 => ((field_Influence.f k a0_0 a0_1 a0_2 l0_3 a1 a4 a2).bind fun bt576 => (if bt576.1 < 1 then (some (0, 0, 10)) else ((field_down.f (wrap64 (1000 * bt572.1)) bt576.2.1).bind fun t580 => ((field_up.f (wrap64 (1000 * bt572.2.1)) bt576.1).bind fun t581 => (some (t580, t581, 0))))))) else (some (0, 0, t571)))) = some (r1, r2, r3) := by first | (rw [hy568]; with_reducible exact H) | (rw [hy568]; exact (Option.bind_some _ _).symm.trans H) | (rw [hy568]; exact H) | exact H
 have Ny568 := Aside0.mk hy568
 clear hy568
 obtain ⟨t571, A60, H⟩ := Option.bind_eq_some_iff.mp H
 have A6 := Aside0.mk A60
 clear A60
 by_cases c7 : t571 = 0
 ·rw [if_pos c7] at H
  obtain ⟨c7b0, c7b1⟩ := aEq c7
  clear c7
  replace H := Option.bind_eq_some_iff.mp H
  obtain ⟨⟨t572, t573, t574⟩, A80, H⟩ := H
  replace H : ((field_Influence.f k a0_0 a0_1 a0_2 l0_3 a1 a4 a2).bind fun bt576 => (if bt576.1 < 1 then (some (0, 0, 10)) else ((field_down.f (wrap64 (1000 * t572)) bt576.2.1).bind fun t580 => ((field_up.f (wrap64 (1000 * t573)) bt576.1).bind fun t581 => (some (t580, t581, 0)))))) = some (r1, r2, r3) := H
  have A8 := Aside0.mk A80
  clear A80
  replace H := Option.bind_eq_some_iff.mp H
  obtain ⟨⟨t576, t577, t578⟩, A90, H⟩ := H
  replace H : (if t576 < 1 then (some (0, 0, 10)) else ((field_down.f (wrap64 (1000 * t572)) t577).bind fun t580 => ((field_up.f (wrap64 (1000 * t573)) t576).bind fun t581 => (some (t580, t581, 0))))) = some (r1, r2, r3) := H
  have A9 := Aside0.mk A90
  clear A90
  by_cases c10 : t576 < 1
  ·rw [if_pos c10] at H
   have c10b0 := decide_eq_true c10
   clear c10
   simp only [Option.some.injEq, Prod.mk.injEq] at H
   obtain ⟨rfl, rfl, rfl⟩ := H
   go_enter Try.func56, Try.ntmps56
   go_wp2_with (first | ((with_reducible refine gate_dst (N := 5) rfl ?_); refine aBox 5 #[.int .i64 a0_0, .int .i64 a0_1, .bool a0_2, .slice A0_3 l0_3.length c0_3] 24 ?_; intro gb566 hg w11 hbox hb; have BK566 := Aside0.mk (hbox); have GW566 := aGe hg HB; have GE566 := aGe hg HB; replace HB := aBs HB hb; clear hb hbox hg) | ((with_reducible refine gate_dst (N := 10) rfl ?_); refine aBox 10 #[.int .i64 0, .int .i64 0] 42 ?_; intro gb567 hg w12 hbox hb; have BK567 := Aside0.mk (hbox); have GW567 := aGe hg HB; have GE567 := aGe hg HB; replace HB := aBs HB hb; have NB566_567 := aNl hg BK566; have NB567_566 := aNg hg BK566; replace BK566 := aBb BK566 hb; clear hb hbox hg; have hnb13 := NB566_567.out; have hnc13 := NB567_566.out; obtain ⟨⟨hcz14_0, hcz14_1, hcz14_2, hcz14_3⟩, hfz14_0, hfz14_1, hfz14_2, hfz14_3⟩ := aC4 BK566) | ((with_reducible refine gate_dst (N := 22) rfl ?_); refine Kd.R_lit (Kd.int .i64) _ 3 ?hg (N := 22) ?hd (xs := ([a2, a3, a4] : List Int)) (inner := [.int .i64 a2, .int .i64 a3, .int .i64 a4]) (ok := fun _ => True) (okp := fun _ => True) ?hr ?hp (fun _ hk => hk) trivial (Below.refl _ _) (Nat.le_refl _) (by simp) ?_; (case hd => rfl); (case hg => rfl); (case hr => first | (go_simp; done) | (go_simp; rfl)); (case hp => exact (Reps.one (show Kd.M (Kd.int .i64) _ _ _ a2 [.int .i64 a2] from rfl) (Reps.one (show Kd.M (Kd.int .i64) _ _ _ a3 [.int .i64 a3] from rfl) (Reps.one (show Kd.M (Kd.int .i64) _ _ _ a4 [.int .i64 a4] from rfl) (Reps.none _ _))))); intro v569 w15 ho16 hb hg_ hnew_; clear hg_ hnew_; (first | rw [← Ny568.out] at ho16 | (simp only [Int.reduceToNat] at ho16; rw [← Ny568.out] at ho16)); have HO570 := Aside0.mk (Kd.R_lower ho16 (below_size (aBl HB).out)); replace BK566 := aBb BK566 hb; replace BK567 := aBb BK567 hb; replace HB := aBs HB hb; clear hb ho16; obtain ⟨Ao17, co17, eo17⟩ := Kd.R_slice HO570.out; subst eo17) | ((with_reducible refine gate_callee (f := 91) rfl ?_); refine goesL_ (some 23) rfl rfl Try.func91 (by kernel_rfl) rfl #[.agg #[.int .i64 a0_0, .int .i64 a0_1, .bool a0_2, .slice A0_3 l0_3.length c0_3], .int .i64 a1, .slice Ao17 y568.length co17] rfl aA ?_; (with_reducible refine (field_apart.calls k a0_0 a0_1 a0_2 _ _ l0_3 a1 _ _ y568 t571 _ ?side1 ?side2 ?side3 ?side4 A6.out).mono ?_); (case side1 => exact aC HR0_3 HB); (case side2 => exact HC0_3.out); (case side3 => repeat (first | exact (Kd.R_reads' HO570.out).2.2 | (with_reducible refine Kd.C_alloc ?_ _) | (with_reducible refine Kd.C_drewN ?_ _) | (with_reducible refine Kd.C_drew ?_))); (case side4 => exact (Kd.R_reads' HO570.out).2.1); rintro e w18 ⟨rfl, hb⟩; refine ⟨_, rfl, ?_⟩; replace HO570 := aRb HO570 hb; replace BK566 := aBb BK566 hb; replace BK567 := aBb BK567 hb; replace HB := aBs HB hb; (try clear hb hk hi); obtain ⟨⟨hcz19_0, hcz19_1, hcz19_2, hcz19_3⟩, hfz19_0, hfz19_1, hfz19_2, hfz19_3⟩ := aC4 BK566) | ((with_reducible refine gate_callee (f := 52) rfl ?_); refine goesL_ (some 33) rfl rfl Try.func52 (by kernel_rfl) rfl #[.agg #[.int .i64 a0_0, .int .i64 a0_1, .bool a0_2, .slice A0_3 l0_3.length c0_3], .int .i64 a1, .int .i64 a3, .int .i64 a2] rfl aA ?_; (with_reducible refine (field_Influence.calls k a0_0 a0_1 a0_2 _ _ l0_3 a1 a3 a2 t572 t573 t574 _ ?side1 ?side2 A8.out).mono ?_); (case side1 => exact aC HR0_3 HB); (case side2 => exact HC0_3.out); rintro e w20 ⟨rfl, hb⟩; refine ⟨_, rfl, ?_⟩; replace HO570 := aRb HO570 hb; replace BK566 := aBb BK566 hb; replace BK567 := aBb BK567 hb; replace HB := aBs HB hb; (try clear hb hk hi)) | ((with_reducible refine gate_dst (N := 13) rfl ?_); refine aBox 13 #[.int .i64 0, .int .i64 0] 42 ?_; intro gb575 hg w21 hbox hb; replace HO570 := aRb HO570 hb; have BK575 := Aside0.mk (hbox); have GW575 := aGe hg HB; have GE575 := aGe hg HB; replace HB := aBs HB hb; have NB566_575 := aNl hg BK566; have NB575_566 := aNg hg BK566; replace BK566 := aBb BK566 hb; have NB567_575 := aNl hg BK567; have NB575_567 := aNg hg BK567; replace BK567 := aBb BK567 hb; clear hb hbox hg; have hnb22 := NB575_566.out; have hnc22 := NB566_575.out; have hnb23 := NB575_567.out; have hnc23 := NB567_575.out; obtain ⟨⟨hcz24_0, hcz24_1⟩, hfz24_0, hfz24_1⟩ := aC2 BK575; obtain ⟨⟨hcz25_0, hcz25_1, hcz25_2, hcz25_3⟩, hfz25_0, hfz25_1, hfz25_2, hfz25_3⟩ := aC4 BK566) | ((with_reducible refine gate_callee (f := 52) rfl ?_); refine goesL_ (some 41) rfl rfl Try.func52 (by kernel_rfl) rfl #[.agg #[.int .i64 a0_0, .int .i64 a0_1, .bool a0_2, .slice A0_3 l0_3.length c0_3], .int .i64 a1, .int .i64 a4, .int .i64 a2] rfl aA ?_; (with_reducible refine (field_Influence.calls k a0_0 a0_1 a0_2 _ _ l0_3 a1 a4 a2 t576 t577 t578 _ ?side1 ?side2 A9.out).mono ?_); (case side1 => exact Kd.C_below HR0_3.out (aBl HB).out); (case side2 => exact HC0_3.out); rintro e w26 ⟨rfl, hb⟩; refine ⟨_, rfl, ?_⟩; replace HO570 := Aside0.mk (Kd.R_below (by (with_reducible repeat (first | apply Kd.R_alloc | apply Kd.R_drewN | apply Kd.R_drew)); exact (Kd.R_mono (Kd.R_far (p := ⟨gb575, 1, none⟩) (Kd.R_far (p := ⟨gb575, 0, none⟩) (Kd.R_types HO570.out BK575.out (by decide)) (fun _ hk => hk.2) (.int .i64 t572)) (fun _ hk => hk.2) (.int .i64 t573)) (fun _ h_ => h_.1))) hb); replace BK566 := Aside0.mk (blk_below (g := gb566) (o := .cells #[.int .i64 a0_0, .int .i64 a0_1, .bool a0_2, .slice A0_3 l0_3.length c0_3] 24 (0, 0)) (by (with_reducible repeat (first | refine blk_drewN ?_ _ | refine blk_drew ?_ | refine blk_alloc ?_ _)); refine blk_far ?_ NB566_575.out _; (with_reducible repeat (first | refine blk_drewN ?_ _ | refine blk_drew ?_ | refine blk_alloc ?_ _)); refine blk_far ?_ NB566_575.out _; (with_reducible repeat (first | refine blk_drewN ?_ _ | refine blk_drew ?_ | refine blk_alloc ?_ _)); exact BK566.out) hb); replace BK567 := Aside0.mk (blk_below (g := gb567) (o := .cells #[.int .i64 0, .int .i64 0] 42 (0, 0)) (by (with_reducible repeat (first | refine blk_drewN ?_ _ | refine blk_drew ?_ | refine blk_alloc ?_ _)); refine blk_far ?_ NB567_575.out _; (with_reducible repeat (first | refine blk_drewN ?_ _ | refine blk_drew ?_ | refine blk_alloc ?_ _)); refine blk_far ?_ NB567_575.out _; (with_reducible repeat (first | refine blk_drewN ?_ _ | refine blk_drew ?_ | refine blk_alloc ?_ _)); exact BK567.out) hb); replace BK575 := Aside0.mk (blk_below (g := gb575) (o := .cells #[.int .i64 t572, .int .i64 t573] 42 (0, 0)) (by (with_reducible repeat (first | refine blk_drewN ?_ _ | refine blk_drew ?_ | refine blk_alloc ?_ _)); refine blk_put (cs := #[.int .i64 t572, .int .i64 0]) ?_ 1 _ rfl; (with_reducible repeat (first | refine blk_drewN ?_ _ | refine blk_drew ?_ | refine blk_alloc ?_ _)); refine blk_put (cs := #[.int .i64 0, .int .i64 0]) ?_ 0 _ rfl; (with_reducible repeat (first | refine blk_drewN ?_ _ | refine blk_drew ?_ | refine blk_alloc ?_ _)); exact BK575.out) hb); replace HB := aBs HB hb; (try clear hb hk hi)) | ((with_reducible refine gate_dst (N := 15) rfl ?_); refine aBox 15 #[.int .i64 0, .int .i64 0] 42 ?_; intro gb579 hg w27 hbox hb; replace HO570 := aRb HO570 hb; have BK579 := Aside0.mk (hbox); have GW579 := aGe hg HB; have GE579 := aGe hg HB; replace HB := aBs HB hb; have NB566_579 := aNl hg BK566; have NB579_566 := aNg hg BK566; replace BK566 := aBb BK566 hb; have NB567_579 := aNl hg BK567; have NB579_567 := aNg hg BK567; replace BK567 := aBb BK567 hb; have NB575_579 := aNl hg BK575; have NB579_575 := aNg hg BK575; replace BK575 := aBb BK575 hb; clear hb hbox hg; have hnb28 := NB579_566.out; have hnc28 := NB566_579.out; have hnb29 := NB579_567.out; have hnc29 := NB567_579.out; have hnb30 := NB579_575.out; have hnc30 := NB575_579.out; obtain ⟨⟨hcz31_0, hcz31_1⟩, hfz31_0, hfz31_1⟩ := aC2 BK579; obtain ⟨⟨hcz32_0, hcz32_1⟩, hfz32_0, hfz32_1⟩ := aC2 BK567))
   refine bodyPost_ret (results_ct rfl _ _ gb567 42 #[.int .i64 0, .int .i64 0] (0, 0) _ rfl (by (with_reducible repeat (first | refine blk_drewN ?_ _ | refine blk_drew ?_ | refine blk_alloc ?_ _)); refine blk_put (cs := #[.int .i64 0, .int .i64 0]) ?_ 1 _ rfl; (with_reducible repeat (first | refine blk_drewN ?_ _ | refine blk_drew ?_ | refine blk_alloc ?_ _)); refine blk_put (cs := #[.int .i64 0, .int .i64 0]) ?_ 0 _ rfl; (with_reducible repeat (first | refine blk_drewN ?_ _ | refine blk_drew ?_ | refine blk_alloc ?_ _)); refine blk_far ?_ NB567_579.out _; (with_reducible repeat (first | refine blk_drewN ?_ _ | refine blk_drew ?_ | refine blk_alloc ?_ _)); refine blk_far ?_ NB567_579.out _; (with_reducible repeat (first | refine blk_drewN ?_ _ | refine blk_drew ?_ | refine blk_alloc ?_ _)); exact BK567.out) Try.underlying42 rfl (by kernel_rfl)) rfl ?_
   exact ⟨by first | rfl | (simp [*] <;> rfl), (aBl HB).out⟩
  ·rw [if_neg c10] at H
   have c10b0 := decide_eq_false c10
   clear c10
   obtain ⟨t580, A330, H⟩ := Option.bind_eq_some_iff.mp H
   have A33 := Aside0.mk A330
   clear A330
   obtain ⟨t581, A340, H⟩ := Option.bind_eq_some_iff.mp H
   have A34 := Aside0.mk A340
   clear A340
   simp only [Option.some.injEq, Prod.mk.injEq] at H
   obtain ⟨rfl, rfl, rfl⟩ := H
   go_enter Try.func56, Try.ntmps56
   try go_wp2_with (first | ((with_reducible refine gate_dst (N := 5) rfl ?_); refine aBox 5 #[.int .i64 a0_0, .int .i64 a0_1, .bool a0_2, .slice A0_3 l0_3.length c0_3] 24 ?_; intro gb566 hg w35 hbox hb; have BK566 := Aside0.mk (hbox); have GW566 := aGe hg HB; have GE566 := aGe hg HB; replace HB := aBs HB hb; clear hb hbox hg) | ((with_reducible refine gate_dst (N := 10) rfl ?_); refine aBox 10 #[.int .i64 0, .int .i64 0] 42 ?_; intro gb567 hg w36 hbox hb; have BK567 := Aside0.mk (hbox); have GW567 := aGe hg HB; have GE567 := aGe hg HB; replace HB := aBs HB hb; have NB566_567 := aNl hg BK566; have NB567_566 := aNg hg BK566; replace BK566 := aBb BK566 hb; clear hb hbox hg; have hnb37 := NB566_567.out; have hnc37 := NB567_566.out; obtain ⟨⟨hcz38_0, hcz38_1, hcz38_2, hcz38_3⟩, hfz38_0, hfz38_1, hfz38_2, hfz38_3⟩ := aC4 BK566) | ((with_reducible refine gate_dst (N := 22) rfl ?_); refine Kd.R_lit (Kd.int .i64) _ 3 ?hg (N := 22) ?hd (xs := ([a2, a3, a4] : List Int)) (inner := [.int .i64 a2, .int .i64 a3, .int .i64 a4]) (ok := fun _ => True) (okp := fun _ => True) ?hr ?hp (fun _ hk => hk) trivial (Below.refl _ _) (Nat.le_refl _) (by simp) ?_; (case hd => rfl); (case hg => rfl); (case hr => first | (go_simp; done) | (go_simp; rfl)); (case hp => exact (Reps.one (show Kd.M (Kd.int .i64) _ _ _ a2 [.int .i64 a2] from rfl) (Reps.one (show Kd.M (Kd.int .i64) _ _ _ a3 [.int .i64 a3] from rfl) (Reps.one (show Kd.M (Kd.int .i64) _ _ _ a4 [.int .i64 a4] from rfl) (Reps.none _ _))))); intro v569 w39 ho40 hb hg_ hnew_; clear hg_ hnew_; (first | rw [← Ny568.out] at ho40 | (simp only [Int.reduceToNat] at ho40; rw [← Ny568.out] at ho40)); have HO570 := Aside0.mk (Kd.R_lower ho40 (below_size (aBl HB).out)); replace BK566 := aBb BK566 hb; replace BK567 := aBb BK567 hb; replace HB := aBs HB hb; clear hb ho40; obtain ⟨Ao41, co41, eo41⟩ := Kd.R_slice HO570.out; subst eo41) | ((with_reducible refine gate_callee (f := 91) rfl ?_); refine goesL_ (some 23) rfl rfl Try.func91 (by kernel_rfl) rfl #[.agg #[.int .i64 a0_0, .int .i64 a0_1, .bool a0_2, .slice A0_3 l0_3.length c0_3], .int .i64 a1, .slice Ao41 y568.length co41] rfl aA ?_; (with_reducible refine (field_apart.calls k a0_0 a0_1 a0_2 _ _ l0_3 a1 _ _ y568 t571 _ ?side1 ?side2 ?side3 ?side4 A6.out).mono ?_); (case side1 => exact aC HR0_3 HB); (case side2 => exact HC0_3.out); (case side3 => repeat (first | exact (Kd.R_reads' HO570.out).2.2 | (with_reducible refine Kd.C_alloc ?_ _) | (with_reducible refine Kd.C_drewN ?_ _) | (with_reducible refine Kd.C_drew ?_))); (case side4 => exact (Kd.R_reads' HO570.out).2.1); rintro e w42 ⟨rfl, hb⟩; refine ⟨_, rfl, ?_⟩; replace HO570 := aRb HO570 hb; replace BK566 := aBb BK566 hb; replace BK567 := aBb BK567 hb; replace HB := aBs HB hb; (try clear hb hk hi); obtain ⟨⟨hcz43_0, hcz43_1, hcz43_2, hcz43_3⟩, hfz43_0, hfz43_1, hfz43_2, hfz43_3⟩ := aC4 BK566) | ((with_reducible refine gate_callee (f := 52) rfl ?_); refine goesL_ (some 33) rfl rfl Try.func52 (by kernel_rfl) rfl #[.agg #[.int .i64 a0_0, .int .i64 a0_1, .bool a0_2, .slice A0_3 l0_3.length c0_3], .int .i64 a1, .int .i64 a3, .int .i64 a2] rfl aA ?_; (with_reducible refine (field_Influence.calls k a0_0 a0_1 a0_2 _ _ l0_3 a1 a3 a2 t572 t573 t574 _ ?side1 ?side2 A8.out).mono ?_); (case side1 => exact aC HR0_3 HB); (case side2 => exact HC0_3.out); rintro e w44 ⟨rfl, hb⟩; refine ⟨_, rfl, ?_⟩; replace HO570 := aRb HO570 hb; replace BK566 := aBb BK566 hb; replace BK567 := aBb BK567 hb; replace HB := aBs HB hb; (try clear hb hk hi)) | ((with_reducible refine gate_dst (N := 13) rfl ?_); refine aBox 13 #[.int .i64 0, .int .i64 0] 42 ?_; intro gb575 hg w45 hbox hb; replace HO570 := aRb HO570 hb; have BK575 := Aside0.mk (hbox); have GW575 := aGe hg HB; have GE575 := aGe hg HB; replace HB := aBs HB hb; have NB566_575 := aNl hg BK566; have NB575_566 := aNg hg BK566; replace BK566 := aBb BK566 hb; have NB567_575 := aNl hg BK567; have NB575_567 := aNg hg BK567; replace BK567 := aBb BK567 hb; clear hb hbox hg; have hnb46 := NB575_566.out; have hnc46 := NB566_575.out; have hnb47 := NB575_567.out; have hnc47 := NB567_575.out; obtain ⟨⟨hcz48_0, hcz48_1⟩, hfz48_0, hfz48_1⟩ := aC2 BK575; obtain ⟨⟨hcz49_0, hcz49_1, hcz49_2, hcz49_3⟩, hfz49_0, hfz49_1, hfz49_2, hfz49_3⟩ := aC4 BK566) | ((with_reducible refine gate_callee (f := 52) rfl ?_); refine goesL_ (some 41) rfl rfl Try.func52 (by kernel_rfl) rfl #[.agg #[.int .i64 a0_0, .int .i64 a0_1, .bool a0_2, .slice A0_3 l0_3.length c0_3], .int .i64 a1, .int .i64 a4, .int .i64 a2] rfl aA ?_; (with_reducible refine (field_Influence.calls k a0_0 a0_1 a0_2 _ _ l0_3 a1 a4 a2 t576 t577 t578 _ ?side1 ?side2 A9.out).mono ?_); (case side1 => exact Kd.C_below HR0_3.out (aBl HB).out); (case side2 => exact HC0_3.out); rintro e w50 ⟨rfl, hb⟩; refine ⟨_, rfl, ?_⟩; replace HO570 := Aside0.mk (Kd.R_below (by (with_reducible repeat (first | apply Kd.R_alloc | apply Kd.R_drewN | apply Kd.R_drew)); exact (Kd.R_mono (Kd.R_far (p := ⟨gb575, 1, none⟩) (Kd.R_far (p := ⟨gb575, 0, none⟩) (Kd.R_types HO570.out BK575.out (by decide)) (fun _ hk => hk.2) (.int .i64 t572)) (fun _ hk => hk.2) (.int .i64 t573)) (fun _ h_ => h_.1))) hb); replace BK566 := Aside0.mk (blk_below (g := gb566) (o := .cells #[.int .i64 a0_0, .int .i64 a0_1, .bool a0_2, .slice A0_3 l0_3.length c0_3] 24 (0, 0)) (by (with_reducible repeat (first | refine blk_drewN ?_ _ | refine blk_drew ?_ | refine blk_alloc ?_ _)); refine blk_far ?_ NB566_575.out _; (with_reducible repeat (first | refine blk_drewN ?_ _ | refine blk_drew ?_ | refine blk_alloc ?_ _)); refine blk_far ?_ NB566_575.out _; (with_reducible repeat (first | refine blk_drewN ?_ _ | refine blk_drew ?_ | refine blk_alloc ?_ _)); exact BK566.out) hb); replace BK567 := Aside0.mk (blk_below (g := gb567) (o := .cells #[.int .i64 0, .int .i64 0] 42 (0, 0)) (by (with_reducible repeat (first | refine blk_drewN ?_ _ | refine blk_drew ?_ | refine blk_alloc ?_ _)); refine blk_far ?_ NB567_575.out _; (with_reducible repeat (first | refine blk_drewN ?_ _ | refine blk_drew ?_ | refine blk_alloc ?_ _)); refine blk_far ?_ NB567_575.out _; (with_reducible repeat (first | refine blk_drewN ?_ _ | refine blk_drew ?_ | refine blk_alloc ?_ _)); exact BK567.out) hb); replace BK575 := Aside0.mk (blk_below (g := gb575) (o := .cells #[.int .i64 t572, .int .i64 t573] 42 (0, 0)) (by (with_reducible repeat (first | refine blk_drewN ?_ _ | refine blk_drew ?_ | refine blk_alloc ?_ _)); refine blk_put (cs := #[.int .i64 t572, .int .i64 0]) ?_ 1 _ rfl; (with_reducible repeat (first | refine blk_drewN ?_ _ | refine blk_drew ?_ | refine blk_alloc ?_ _)); refine blk_put (cs := #[.int .i64 0, .int .i64 0]) ?_ 0 _ rfl; (with_reducible repeat (first | refine blk_drewN ?_ _ | refine blk_drew ?_ | refine blk_alloc ?_ _)); exact BK575.out) hb); replace HB := aBs HB hb; (try clear hb hk hi)) | ((with_reducible refine gate_dst (N := 15) rfl ?_); refine aBox 15 #[.int .i64 0, .int .i64 0] 42 ?_; intro gb579 hg w51 hbox hb; replace HO570 := aRb HO570 hb; have BK579 := Aside0.mk (hbox); have GW579 := aGe hg HB; have GE579 := aGe hg HB; replace HB := aBs HB hb; have NB566_579 := aNl hg BK566; have NB579_566 := aNg hg BK566; replace BK566 := aBb BK566 hb; have NB567_579 := aNl hg BK567; have NB579_567 := aNg hg BK567; replace BK567 := aBb BK567 hb; have NB575_579 := aNl hg BK575; have NB579_575 := aNg hg BK575; replace BK575 := aBb BK575 hb; clear hb hbox hg; have hnb52 := NB579_566.out; have hnc52 := NB566_579.out; have hnb53 := NB579_567.out; have hnc53 := NB567_579.out; have hnb54 := NB579_575.out; have hnc54 := NB575_579.out; obtain ⟨⟨hcz55_0, hcz55_1⟩, hfz55_0, hfz55_1⟩ := aC2 BK579))
   have n0_ : Aside0 (Kd.R (Kd.int .i64) 3 ((w51.setCell ⟨gb579, 0, none⟩ (.int .i64 t576)).setCell ⟨gb579, 1, none⟩ (.int .i64 t577)) w.heap.size (fun _ => True) (.slice Ao41 y568.length co41) y568) := ⟨by (with_reducible repeat (first | apply Kd.R_alloc | apply Kd.R_drewN | apply Kd.R_drew)); exact Kd.R_mono (Kd.R_far (p := ⟨gb579, 1, none⟩) (Kd.R_far (p := ⟨gb579, 0, none⟩) (Kd.R_types HO570.out BK579.out (by decide)) (fun _ hk => hk.2) (.int .i64 t576)) (fun _ hk => hk.2) (.int .i64 t577)) (fun _ hk => trivial)⟩
   have n1_ : Aside0 (((w51.setCell ⟨gb579, 0, none⟩ (.int .i64 t576)).setCell ⟨gb579, 1, none⟩ (.int .i64 t577)).heap[gb566]? = some (.cells #[.int .i64 a0_0, .int .i64 a0_1, .bool a0_2, .slice A0_3 l0_3.length c0_3] 24 (0, 0))) := ⟨by (with_reducible repeat (first | refine blk_drewN ?_ _ | refine blk_drew ?_ | refine blk_alloc ?_ _)); refine blk_far ?_ NB566_579.out _; (with_reducible repeat (first | refine blk_drewN ?_ _ | refine blk_drew ?_ | refine blk_alloc ?_ _)); refine blk_far ?_ NB566_579.out _; (with_reducible repeat (first | refine blk_drewN ?_ _ | refine blk_drew ?_ | refine blk_alloc ?_ _)); exact BK566.out⟩
   have n2_ : Aside0 (((w51.setCell ⟨gb579, 0, none⟩ (.int .i64 t576)).setCell ⟨gb579, 1, none⟩ (.int .i64 t577)).heap[gb567]? = some (.cells #[.int .i64 0, .int .i64 0] 42 (0, 0))) := ⟨by (with_reducible repeat (first | refine blk_drewN ?_ _ | refine blk_drew ?_ | refine blk_alloc ?_ _)); refine blk_far ?_ NB567_579.out _; (with_reducible repeat (first | refine blk_drewN ?_ _ | refine blk_drew ?_ | refine blk_alloc ?_ _)); refine blk_far ?_ NB567_579.out _; (with_reducible repeat (first | refine blk_drewN ?_ _ | refine blk_drew ?_ | refine blk_alloc ?_ _)); exact BK567.out⟩
   have n3_ : Aside0 (((w51.setCell ⟨gb579, 0, none⟩ (.int .i64 t576)).setCell ⟨gb579, 1, none⟩ (.int .i64 t577)).heap[gb575]? = some (.cells #[.int .i64 t572, .int .i64 t573] 42 (0, 0))) := ⟨by (with_reducible repeat (first | refine blk_drewN ?_ _ | refine blk_drew ?_ | refine blk_alloc ?_ _)); refine blk_far ?_ NB575_579.out _; (with_reducible repeat (first | refine blk_drewN ?_ _ | refine blk_drew ?_ | refine blk_alloc ?_ _)); refine blk_far ?_ NB575_579.out _; (with_reducible repeat (first | refine blk_drewN ?_ _ | refine blk_drew ?_ | refine blk_alloc ?_ _)); exact BK575.out⟩
   have n4_ : Aside0 (((w51.setCell ⟨gb579, 0, none⟩ (.int .i64 t576)).setCell ⟨gb579, 1, none⟩ (.int .i64 t577)).heap[gb579]? = some (.cells #[.int .i64 t576, .int .i64 t577] 42 (0, 0))) := ⟨by (with_reducible repeat (first | refine blk_drewN ?_ _ | refine blk_drew ?_ | refine blk_alloc ?_ _)); refine blk_put (cs := #[.int .i64 t576, .int .i64 0]) ?_ 1 _ rfl; (with_reducible repeat (first | refine blk_drewN ?_ _ | refine blk_drew ?_ | refine blk_alloc ?_ _)); refine blk_put (cs := #[.int .i64 0, .int .i64 0]) ?_ 0 _ rfl; (with_reducible repeat (first | refine blk_drewN ?_ _ | refine blk_drew ?_ | refine blk_alloc ?_ _)); exact BK579.out⟩
   have n5_ : Aside0 (Below w.heap.size w ((w51.setCell ⟨gb579, 0, none⟩ (.int .i64 t576)).setCell ⟨gb579, 1, none⟩ (.int .i64 t577))) := aBl HB
   (try clear HO570)
   (try clear BK566)
   (try clear BK567)
   (try clear BK575)
   (try clear BK579)
   (try clear HB)
   generalize ((w51.setCell ⟨gb579, 0, none⟩ (.int .i64 t576)).setCell ⟨gb579, 1, none⟩ (.int .i64 t577)) = w56 at n0_ n1_ n2_ n3_ n4_ n5_ ⊢
   have HO570 := n0_
   have BK566 := n1_
   have BK567 := n2_
   have BK575 := n3_
   have BK579 := n4_
   have HB := n5_
   clear n0_ n1_ n2_ n3_ n4_ n5_
   have n0_ := Aside0.mk (Kd.R_drew HO570.out)
   have n1_ := Aside0.mk (blk_drew BK566.out)
   have n2_ := Aside0.mk (blk_drew BK567.out)
   have n3_ := Aside0.mk (blk_drew BK575.out)
   have n4_ := Aside0.mk (blk_drew BK579.out)
   have n5_ := Aside0.mk (below_drew1 HB.out)
   clear HO570 BK566 BK567 BK575 BK579 HB
   have HO570 := n0_
   have BK566 := n1_
   have BK567 := n2_
   have BK575 := n3_
   have BK579 := n4_
   have HB := n5_
   clear n0_ n1_ n2_ n3_ n4_ n5_
   refine start_ (n := 15) (S := fun w' => w'.cell? ⟨gb575, 0, none⟩ = some (.int .i64 t572) ∧ w'.cell? ⟨gb575, 1, none⟩ = some (.int .i64 t573) ∧ w'.cell? ⟨gb579, 0, none⟩ = some (.int .i64 t576) ∧ w'.cell? ⟨gb579, 1, none⟩ = some (.int .i64 t577)) (ds := []) #[false, false, false, false, false, false, false, false, false, false, false, false, false, false, false] (by kernel_rfl) rfl rfl ⟨(blk_cell BK575.out 0).trans rfl, (blk_cell BK575.out 1).trans rfl, (blk_cell BK579.out 0).trans rfl, (blk_cell BK579.out 1).trans rfl⟩ (fun hHeld => ?_); refine with_tabW field_Amplification.tab8 field_Amplification.bits8 (fun HT_ HW_ => ?_)
   generalize w56.drew = w57 at HO570 BK566 BK567 BK575 BK579 HB hHeld ⊢
   refine pu_ 0 48 (bS 15 1) HT_ ?_
   refine pu_ 3 51 (bS 15 9) HT_ ?_
   refine pu_ 6 54 (bS 15 73) HT_ ?_
   refine pu_ 9 57 (bS 15 585) HT_ ?_
   refine ta_ 1 49 (bS 15 587) HT_ HW_ hHeld ?_
   refine pu_ 2 50 (bS 15 591) HT_ ?_
   refine ta_ 4 52 (bS 15 607) HT_ HW_ hHeld ?_
   refine ta_ 7 55 (bS 15 735) HT_ HW_ hHeld ?_
   refine pu_ 8 56 (bS 15 991) HT_ ?_
   refine ta_ 10 58 (bS 15 2015) HT_ HW_ hHeld ?_
   refine on_ 5 53 (bS 15 2047) (fun K hK => ?_) (one_of HT_.out (by kernel_rfl))
   refine goes_ Try.func69 (by kernel_rfl) rfl #[.int .i64 (wrap64 (1000 * t572)), .int .i64 t577] (by rfl) rfl rfl aA ?_
   with_reducible refine (field_down.calls (wrap64 (1000 * t572)) t577 t580 _ A33.out).mono ?_
   rintro e w' ⟨rfl, ⟨nd, rfl⟩⟩
   refine ⟨_, rfl, ?_⟩
   refine hK.out _ _ ⟨(blk_cell BK575.out 0).trans rfl, (blk_cell BK575.out 1).trans rfl, (blk_cell BK579.out 0).trans rfl, (blk_cell BK579.out 1).trans rfl⟩ (fun hHeld => ?_)
   clear hK K
   refine nm_ ?_
   refine on_ 11 59 (bS 15 4095) (fun K hK => ?_) (one_of HT_.out (by kernel_rfl))
   refine goes_ Try.func71 (by kernel_rfl) rfl #[.int .i64 (wrap64 (1000 * t573)), .int .i64 t576] (by rfl) rfl rfl aA ?_
   with_reducible refine (field_up.calls (wrap64 (1000 * t573)) t576 t581 _ A34.out).mono ?_
   rintro e w' ⟨rfl, ⟨nd, rfl⟩⟩
   refine ⟨_, rfl, ?_⟩
   refine hK.out _ _ ⟨(blk_cell BK575.out 0).trans rfl, (blk_cell BK575.out 1).trans rfl, (blk_cell BK579.out 0).trans rfl, (blk_cell BK579.out 1).trans rfl⟩ (fun hHeld => ?_)
   clear hK K
   refine nm_ ?_
   refine pu_ 12 60 (bS 15 8191) HT_ ?_
   refine one_ (i := 13) (N := none) (bS 15 16383) rfl rfl (one_of HT_.out (by kernel_rfl)) (by decide) (fun K hK => ?_)
   have hs58 : w57.cell? ⟨gb567, 0, none⟩ = some (.int .i64 0) := (blk_cell BK567.out 0).trans rfl
   have hfs58 := blk_frozen BK567.out 0
   have hns58_0 := NB566_567.out
   have hns58_2 := NB575_567.out
   have hns58_3 := NB579_567.out
   have hms58_0 := NB567_566.out
   have hms58_2 := NB567_575.out
   have hms58_3 := NB567_579.out
   have hs59 : w57.cell? ⟨gb567, 1, none⟩ = some (.int .i64 0) := (blk_cell BK567.out 1).trans rfl
   have hfs59 := blk_frozen BK567.out 1
   have hns59_0 := NB566_567.out
   have hns59_2 := NB575_567.out
   have hns59_3 := NB579_567.out
   have hms59_0 := NB567_566.out
   have hms59_2 := NB567_575.out
   have hms59_3 := NB567_579.out
   refine skip_ (w1 := ?_) (by rfl) rfl ?_ ?_
   rotate_left
   ·go_simp
    rfl
   refine hK.out _ _ ⟨((cell_far (p := ⟨gb567, _, none⟩) NB575_567.out _).trans (((cell_far (p := ⟨gb567, _, none⟩) NB575_567.out _).trans (hHeld.1)))), ((cell_far (p := ⟨gb567, _, none⟩) NB575_567.out _).trans (((cell_far (p := ⟨gb567, _, none⟩) NB575_567.out _).trans (hHeld.2.1)))), ((cell_far (p := ⟨gb567, _, none⟩) NB579_567.out _).trans (((cell_far (p := ⟨gb567, _, none⟩) NB579_567.out _).trans (hHeld.2.2.1)))), ((cell_far (p := ⟨gb567, _, none⟩) NB579_567.out _).trans (((cell_far (p := ⟨gb567, _, none⟩) NB579_567.out _).trans (hHeld.2.2.2))))⟩ (fun hHeld => ?_)
   clear hK K
   refine pu_ 14 11 (bS 15 32767) HT_ ?_
   refine done_ (done_of HT_.out (by kernel_rfl)) ?_
   try go_wp2
   refine bodyPost_ret (results_ct rfl _ _ gb567 42 #[.int .i64 t580, .int .i64 t581] (0, 0) _ rfl (by (with_reducible repeat (first | refine blk_drewN ?_ _ | refine blk_drew ?_ | refine blk_alloc ?_ _)); refine blk_put (cs := #[.int .i64 t580, .int .i64 0]) ?_ 1 _ rfl; (with_reducible repeat (first | refine blk_drewN ?_ _ | refine blk_drew ?_ | refine blk_alloc ?_ _)); refine blk_put (cs := #[.int .i64 0, .int .i64 0]) ?_ 0 _ rfl; (with_reducible repeat (first | refine blk_drewN ?_ _ | refine blk_drew ?_ | refine blk_alloc ?_ _)); exact BK567.out) Try.underlying42 rfl (by kernel_rfl)) rfl ?_
   exact ⟨by first | rfl | (simp [*] <;> rfl), (aBl HB).out⟩
 ·rw [if_neg c7] at H
  obtain ⟨c7b0, c7b1⟩ := aNe c7
  simp only [Option.some.injEq, Prod.mk.injEq] at H
  obtain ⟨rfl, rfl, rfl⟩ := H
  go_enter Try.func56, Try.ntmps56
  go_wp2_with (first | ((with_reducible refine gate_dst (N := 5) rfl ?_); refine aBox 5 #[.int .i64 a0_0, .int .i64 a0_1, .bool a0_2, .slice A0_3 l0_3.length c0_3] 24 ?_; intro gb566 hg w60 hbox hb; have BK566 := Aside0.mk (hbox); have GW566 := aGe hg HB; have GE566 := aGe hg HB; replace HB := aBs HB hb; clear hb hbox hg) | ((with_reducible refine gate_dst (N := 10) rfl ?_); refine aBox 10 #[.int .i64 0, .int .i64 0] 42 ?_; intro gb567 hg w61 hbox hb; have BK567 := Aside0.mk (hbox); have GW567 := aGe hg HB; have GE567 := aGe hg HB; replace HB := aBs HB hb; have NB566_567 := aNl hg BK566; have NB567_566 := aNg hg BK566; replace BK566 := aBb BK566 hb; clear hb hbox hg; have hnb62 := NB566_567.out; have hnc62 := NB567_566.out; obtain ⟨⟨hcz63_0, hcz63_1, hcz63_2, hcz63_3⟩, hfz63_0, hfz63_1, hfz63_2, hfz63_3⟩ := aC4 BK566) | ((with_reducible refine gate_dst (N := 22) rfl ?_); refine Kd.R_lit (Kd.int .i64) _ 3 ?hg (N := 22) ?hd (xs := ([a2, a3, a4] : List Int)) (inner := [.int .i64 a2, .int .i64 a3, .int .i64 a4]) (ok := fun _ => True) (okp := fun _ => True) ?hr ?hp (fun _ hk => hk) trivial (Below.refl _ _) (Nat.le_refl _) (by simp) ?_; (case hd => rfl); (case hg => rfl); (case hr => first | (go_simp; done) | (go_simp; rfl)); (case hp => exact (Reps.one (show Kd.M (Kd.int .i64) _ _ _ a2 [.int .i64 a2] from rfl) (Reps.one (show Kd.M (Kd.int .i64) _ _ _ a3 [.int .i64 a3] from rfl) (Reps.one (show Kd.M (Kd.int .i64) _ _ _ a4 [.int .i64 a4] from rfl) (Reps.none _ _))))); intro v569 w64 ho65 hb hg_ hnew_; clear hg_ hnew_; (first | rw [← Ny568.out] at ho65 | (simp only [Int.reduceToNat] at ho65; rw [← Ny568.out] at ho65)); have HO570 := Aside0.mk (Kd.R_lower ho65 (below_size (aBl HB).out)); replace BK566 := aBb BK566 hb; replace BK567 := aBb BK567 hb; replace HB := aBs HB hb; clear hb ho65; obtain ⟨Ao66, co66, eo66⟩ := Kd.R_slice HO570.out; subst eo66) | ((with_reducible refine gate_callee (f := 91) rfl ?_); refine goesL_ (some 23) rfl rfl Try.func91 (by kernel_rfl) rfl #[.agg #[.int .i64 a0_0, .int .i64 a0_1, .bool a0_2, .slice A0_3 l0_3.length c0_3], .int .i64 a1, .slice Ao66 y568.length co66] rfl aA ?_; (with_reducible refine (field_apart.calls k a0_0 a0_1 a0_2 _ _ l0_3 a1 _ _ y568 t571 _ ?side1 ?side2 ?side3 ?side4 A6.out).mono ?_); (case side1 => exact aC HR0_3 HB); (case side2 => exact HC0_3.out); (case side3 => repeat (first | exact (Kd.R_reads' HO570.out).2.2 | (with_reducible refine Kd.C_alloc ?_ _) | (with_reducible refine Kd.C_drewN ?_ _) | (with_reducible refine Kd.C_drew ?_))); (case side4 => exact (Kd.R_reads' HO570.out).2.1); rintro e w67 ⟨rfl, hb⟩; refine ⟨_, rfl, ?_⟩; replace HO570 := aRb HO570 hb; replace BK566 := aBb BK566 hb; replace BK567 := aBb BK567 hb; replace HB := aBs HB hb; (try clear hb hk hi); obtain ⟨⟨hcz68_0, hcz68_1⟩, hfz68_0, hfz68_1⟩ := aC2 BK567))
  refine bodyPost_ret (results_ct rfl _ _ gb567 42 #[.int .i64 0, .int .i64 0] (0, 0) _ rfl (by (with_reducible repeat (first | refine blk_drewN ?_ _ | refine blk_drew ?_ | refine blk_alloc ?_ _)); refine blk_put (cs := #[.int .i64 0, .int .i64 0]) ?_ 1 _ rfl; (with_reducible repeat (first | refine blk_drewN ?_ _ | refine blk_drew ?_ | refine blk_alloc ?_ _)); refine blk_put (cs := #[.int .i64 0, .int .i64 0]) ?_ 0 _ rfl; (with_reducible repeat (first | refine blk_drewN ?_ _ | refine blk_drew ?_ | refine blk_alloc ?_ _)); exact BK567.out) Try.underlying42 rfl (by kernel_rfl)) rfl ?_
  exact ⟨by first | rfl | (simp [*] <;> rfl), (aBl HB).out⟩
def thermionref01_Amplification.f (k : Nat) (a0_0 : Int) (a0_1 : Int) (a0_2 : Bool) (l0_3 : List Int) (a1 : Int) (a2 : Int) (a3 : Int) (a4 : Int) : Option (Int × Int × Int) := (thermionref01_askable.f k a0_0 a0_1 a0_2 l0_3 a1 (([a2, a3, a4] : List Int))).bind fun t587 => (if t587 = 0 then ((thermionref01_influence.f k a0_0 a0_1 a0_2 l0_3 a1 a3 a2).bind fun bt588 => ((thermionref01_influence.f k a0_0 a0_1 a0_2 l0_3 a1 a4 a2).bind fun bt590 => (if bt590.1 < 1 then (some (0, 0, 10)) else ((thermionref01_Down.f (wrap64 (1000 * bt588.1)) bt590.2).bind fun t594 => ((thermionref01_Up.f (wrap64 (1000 * bt588.2)) bt590.1).bind fun t595 => (some (t594, t595, 0))))))) else (some (0, 0, t587)))
def ampR.T4 : Bool × List (List Nat × List Nat) := (true, [([], []), ([], []), ([], []), ([], []), ([0, 1, 2, 3], [0, 1, 2, 3]), ([], []), ([], []), ([], []), ([], []), ([5, 6, 7, 8, 4], [5, 6, 7, 8]), ([], []), ([], []), ([10, 4, 9, 0, 1, 2, 3, 4, 10, 11], [4, 10]), ([11, 9, 12, 0, 1, 2, 3, 4, 5, 6, 7, 8, 9, 10, 11, 12], [9, 11])])
def ampR.B4 : List Nat := [0, 0, 0, 0, 15, 0, 0, 0, 0, 511, 0, 0, 4095, 8191]
theorem ampR.tab4 : rtab .any (opsOf Try.f57 4) = ampR.T4 := by kernel_rfl
theorem ampR.bits4 : waitsOk ampR.T4.2 ampR.B4 = true := by kernel_rfl
def ampR.T7 : Bool × List (List Nat × List Nat) := (true, [([], []), ([0], [0]), ([1], [1]), ([], []), ([3], [3]), ([2, 4], [2, 4]), ([], []), ([6], [6]), ([7], [7]), ([], []), ([9], [9]), ([8, 10, 5], [8, 10]), ([5, 11], [5, 11]), ([12, 11, 0, 1, 2, 3, 4, 5, 6, 7, 8, 9, 10, 11, 12], [12]), ([13, 0, 1, 2, 3, 4, 5, 6, 7, 8, 9, 10, 11, 12, 13], [])])
def ampR.B7 : List Nat := [0, 1, 3, 0, 8, 31, 0, 64, 192, 0, 512, 2047, 4095, 8191, 16383]
theorem ampR.tab7 : rtab .any (opsOf Try.f57 7) = ampR.T7 := by kernel_rfl
theorem ampR.bits7 : waitsOk ampR.T7.2 ampR.B7 = true := by kernel_rfl
theorem thermionref01_Amplification.calls (k : Nat) (a0_0 : Int) (a0_1 : Int) (a0_2 : Bool) (A0_3 : Option Addr) (c0_3 : Nat) (l0_3 : List Int) (a1 : Int) (a2 : Int) (a3 : Int) (a4 : Int) (r1 : Int) (r2 : Int) (r3 : Int) (w : World) (hr0_3 : Kd.C (Kd.int .i64) w A0_3 l0_3.length l0_3) (hc0_3 : l0_3.length ≤ c0_3) (h : thermionref01_Amplification.f k a0_0 a0_1 a0_2 l0_3 a1 a2 a3 a4 = some (r1, r2, r3)) :
 Calls Try.prog 57 #[.agg #[.int .i64 a0_0, .int .i64 a0_1, .bool a0_2, .slice A0_3 l0_3.length c0_3], .int .i64 a1, .int .i64 a2, .int .i64 a3, .int .i64 a4] w fun e w' => e = .returned (.tuple #[.agg #[.int .i64 r1, .int .i64 r2], .int .i64 r3]) ∧ Below w.heap.size w w' := by
 unfold thermionref01_Amplification.f at h
 obtain ⟨e0, ha, h⟩ := Option.bind_eq_some_iff.1 h
 have HM := Aside0.mk (Mem.start w)
 have HR := Aside0.mk hr0_3
 have HC := Aside0.mk hc0_3
 have HA := Aside0.mk ha
 have HH := Aside0.mk h
 have hu24 := Try.underlying24
 have hu42 := Try.underlying42
 clear hr0_3 hc0_3 ha h
 go_enter Try.func57, Try.ntmps57
 go_upto_region 2 with (first
  | ((with_reducible refine gate_dst (N := 5) rfl ?_); refine ev_box HM.out rfl 24 (.tmp 0) rfl (cs := #[.int .i64 a0_0, .int .i64 a0_1, .bool a0_2, .slice A0_3 l0_3.length c0_3]) rfl ?_; intro g5 w1 hm1 hq1; have HM1 := Aside0.mk hm1; clear hm1 hq1 HM)
  | ((with_reducible refine gate_dst (N := 10) rfl ?_); refine ev_new HM1.out rfl 42 rfl info42 ?_; intro g10 w2 hm1 hq1; have HM2 := Aside0.mk hm1; clear hm1 hq1 HM1)
  | ((with_reducible refine gate_dst (N := 15) rfl ?_); refine ev_load (HM2.out.second) rfl 24 (.tmp 5) rfl rfl _ Try.underlying24 rfl size24 rfl ?_)
  | ((with_reducible refine gate_dst (N := 20) rfl ?_); refine ev_lit HM2.out rfl [.int .i64 a2, .int .i64 a3, .int .i64 a4] 3 3 ?hrl ?_; (case hrl => first | (go_simp; done) | (go_simp; rfl)); intro gl w3 hm1 hq1; have HM3 := Aside0.mk hm1; clear hm1 hq1 HM2)
  | (go_at_call 92; refine (thermionref01_askable.calls k a0_0 a0_1 a0_2 A0_3 c0_3 l0_3 a1 (some ⟨gl, 0, none⟩) 3 [a2, a3, a4] e0 _ (Kd.C_below HR.out HM3.out.below) HC.out (C_mem HM3.out.head (isnums_map [a2, a3, a4] (by simp))) (by simp) HA.out).mono ?_; rintro e4 w4 ⟨rfl, hb⟩; have HM4 := Aside0.mk (HM3.out.step hb); clear hb HM3 HA))
 have h := HH.out
 clear HH
 by_cases g : e0 = 0
 ·rw [if_pos g] at h
  subst g
  obtain ⟨⟨x1, x2⟩, hx, h⟩ := Option.bind_eq_some_iff.1 h
  obtain ⟨⟨y1, y2⟩, hy, h⟩ := Option.bind_eq_some_iff.1 h
  have HX := Aside0.mk hx
  have HY := Aside0.mk hy
  have HH := Aside0.mk h
  clear hx hy h
  go_upto_region 4 with fail
  have HQ := Aside0.mk (HM4.out.drew)
  clear HM4
  go_cut [13, 14] (fun v13 v14 wc => ∃ (g13 g14 : Nat), v13 = .pointer (some ⟨g13, 0, none⟩) ∧ v14 = .pointer (some ⟨g14, 0, none⟩) ∧ Aside0 (Mem w wc [(g14, #[.int .i64 y1, .int .i64 y2], 42), (g13, #[.int .i64 x1, .int .i64 x2], 42), (gl, #[.int .i64 a2, .int .i64 a3, .int .i64 a4], 3), (g10, #[.int .i64 0, .int .i64 0], 42), (g5, #[.int .i64 a0_0, .int .i64 a0_1, .bool a0_2, .slice A0_3 l0_3.length c0_3], 24)]))
  case first =>
   have HPC : Aside0 (∀ W l, Mem w W l → (g5, #[.int .i64 a0_0, .int .i64 a0_1, .bool a0_2, .slice A0_3 l0_3.length c0_3], 24) ∈ l → (fun w' => w'.cell? ⟨g5, 0, none⟩ = some (.int .i64 a0_0) ∧ w'.cell? ⟨g5, 1, none⟩ = some (.int .i64 a0_1) ∧ w'.cell? ⟨g5, 2, none⟩ = some (.bool a0_2) ∧ w'.cell? ⟨g5, 3, none⟩ = some (.slice A0_3 l0_3.length c0_3)) W) := ⟨fun _ _ h hm => plan_cells (h.blk _ hm)⟩
   refine start_ (n := 14) (S := fun w' => w'.cell? ⟨g5, 0, none⟩ = some (.int .i64 a0_0) ∧ w'.cell? ⟨g5, 1, none⟩ = some (.int .i64 a0_1) ∧ w'.cell? ⟨g5, 2, none⟩ = some (.bool a0_2) ∧ w'.cell? ⟨g5, 3, none⟩ = some (.slice A0_3 l0_3.length c0_3)) (ds := [13]) (bS 14 0) (by kernel_rfl) rfl rfl (plan_cells (HQ.out.blk (g5, #[.int .i64 a0_0, .int .i64 a0_1, .bool a0_2, .slice A0_3 l0_3.length c0_3], 24) (by simp))) (fun hHeld => ?_); refine with_tabW ampR.tab4 ampR.bits4 (fun HT_ HW_ => ?_)
   refine pu_ 1 27 (bS 14 2) HT_ ?_
   refine pu_ 2 28 (bS 14 6) HT_ ?_
   refine pu_ 3 29 (bS 14 14) HT_ ?_
   refine pu_ 6 32 (bS 14 78) HT_ ?_
   refine pu_ 7 33 (bS 14 206) HT_ ?_
   refine pu_ 8 34 (bS 14 462) HT_ ?_
   refine ta_ 0 26 (bS 14 463) HT_ HW_ hHeld ?_
   refine ta_ 5 31 (bS 14 495) HT_ HW_ hHeld ?_
   refine join_ (σ := Nat × Nat) 2 (bS 14 4095) (fun s_ => [(30, .agg #[.int .i64 x1, .int .i64 x2]), (35, .agg #[.int .i64 y1, .int .i64 y2]), (13, .pointer (some ⟨s_.1, 0, none⟩)), (14, .pointer (some ⟨s_.2, 0, none⟩))]) (fun s_ w' => Aside0 (Mem w w' [(s_.1, #[.int .i64 0, .int .i64 0], 42), (s_.2, #[.int .i64 0, .int .i64 0], 42), (gl, #[.int .i64 a2, .int .i64 a3, .int .i64 a4], 3), (g10, #[.int .i64 0, .int .i64 0], 42), (g5, #[.int .i64 a0_0, .int .i64 a0_1, .bool a0_2, .slice A0_3 l0_3.length c0_3], 24)])) (fun s_ wq HQ => ?_) (fun hJ4_9_10_11 => ?_)
   ·obtain ⟨g13, g14⟩ := s_
    dsimp only at HQ
    dsimp only
    have hHeld := HPC.out wq _ HQ.out (by simp)
    refine js_ ?_
    refine one_ (i := 12) (N := none) (bS 14 8191) rfl rfl (one_of HT_.out (by kernel_rfl)) (by decide) (fun K hK => ?_)
    refine store_step (HQ.out) (by rfl) rfl 42 (.tmp 13) (.tmp 30) rfl rfl rfl (cs := #[.int .i64 x1, .int .i64 x2]) size42 rfl rfl (by simp [Value.oneCell']) (fun wq hm1 => ?_)
    clear HQ
    have HQ := Aside0.mk hm1
    clear hm1
    refine hK.out _ _ (HPC.out _ _ HQ.out (by simp)) (fun hHeld => ?_)
    clear hK K
    refine nm0_ ?_
    refine la_ 13 (bS 14 16383) (fun K hK => ?_) (one_of HT_.out (by kernel_rfl))
    refine store_step (HQ.out.swap) (by rfl) rfl 42 (.tmp 14) (.tmp 35) rfl rfl rfl (cs := #[.int .i64 y1, .int .i64 y2]) size42 rfl rfl (by simp [Value.oneCell']) (fun wq hm1 => ?_)
    clear HQ
    have HQ := Aside0.mk hm1
    clear hm1
    refine hK.out _ _ ?_
    clear hK K
    refine nm0_ ?_
    refine done_ (done_of HT_.out (by kernel_rfl)) ?_
    clear hHeld HT_ HW_
    go_wp2
    go_meet
    case rel => exact ⟨g13, g14, rfl, rfl, HQ⟩
   refine join_ (σ := Nat) 3 (bS 14 2047) (fun s_ => [(30, .agg #[.int .i64 x1, .int .i64 x2]), (35, .agg #[.int .i64 y1, .int .i64 y2]), (13, .pointer (some ⟨s_, 0, none⟩))]) (fun s_ w' => Aside0 (Mem w w' [(s_, #[.int .i64 0, .int .i64 0], 42), (gl, #[.int .i64 a2, .int .i64 a3, .int .i64 a4], 3), (g10, #[.int .i64 0, .int .i64 0], 42), (g5, #[.int .i64 a0_0, .int .i64 a0_1, .bool a0_2, .slice A0_3 l0_3.length c0_3], 24)])) (fun s_ wq HQ => ?_) (fun hJ4_9_10 => ?_)
   ·obtain ⟨g13, e_⟩ : ∃ g_, g_ = s_ := ⟨_, rfl⟩
    subst e_
    have hHeld := HPC.out wq _ HQ.out (by simp)
    refine js_ ?_
    refine on_ 11 14 (bS 14 4095) (fun K hK => ?_) (one_of HT_.out (by kernel_rfl))
    refine new_step HQ.out (by rfl) rfl 42 rfl info42 (fun g14 wq hm1 => ?_)
    clear HQ
    have HQ := Aside0.mk hm1
    clear hm1
    refine hK.out _ _ (HPC.out _ _ HQ.out (by simp)) (fun hHeld => ?_)
    clear hK K
    refine nm_ ?_
    replace HQ := Aside0.mk HQ.out.swap
    exact jn_ (hJ4_9_10_11 (g13, g14) _ HQ)
   refine join_ (σ := Nat) 3 (bS 14 3071) (fun s_ => [(30, .agg #[.int .i64 x1, .int .i64 x2]), (35, .agg #[.int .i64 y1, .int .i64 y2]), (14, .pointer (some ⟨s_, 0, none⟩))]) (fun s_ w' => Aside0 (Mem w w' [(s_, #[.int .i64 0, .int .i64 0], 42), (gl, #[.int .i64 a2, .int .i64 a3, .int .i64 a4], 3), (g10, #[.int .i64 0, .int .i64 0], 42), (g5, #[.int .i64 a0_0, .int .i64 a0_1, .bool a0_2, .slice A0_3 l0_3.length c0_3], 24)])) (fun s_ wq HQ => ?_) (fun hJ4_9_11 => ?_)
   ·obtain ⟨g14, e_⟩ : ∃ g_, g_ = s_ := ⟨_, rfl⟩
    subst e_
    have hHeld := HPC.out wq _ HQ.out (by simp)
    refine js_ ?_
    refine on_ 10 13 (bS 14 4095) (fun K hK => ?_) (one_of HT_.out (by kernel_rfl))
    refine new_step HQ.out (by rfl) rfl 42 rfl info42 (fun g13 wq hm1 => ?_)
    clear HQ
    have HQ := Aside0.mk hm1
    clear hm1
    refine hK.out _ _ (HPC.out _ _ HQ.out (by simp)) (fun hHeld => ?_)
    clear hK K
    refine nm_ ?_
    exact jn_ (hJ4_9_10_11 (g13, g14) _ HQ)
   refine join_ (σ := Nat × Nat) 3 (bS 14 3583) (fun s_ => [(30, .agg #[.int .i64 x1, .int .i64 x2]), (13, .pointer (some ⟨s_.1, 0, none⟩)), (14, .pointer (some ⟨s_.2, 0, none⟩))]) (fun s_ w' => Aside0 (Mem w w' [(s_.1, #[.int .i64 0, .int .i64 0], 42), (s_.2, #[.int .i64 0, .int .i64 0], 42), (gl, #[.int .i64 a2, .int .i64 a3, .int .i64 a4], 3), (g10, #[.int .i64 0, .int .i64 0], 42), (g5, #[.int .i64 a0_0, .int .i64 a0_1, .bool a0_2, .slice A0_3 l0_3.length c0_3], 24)])) (fun s_ wq HQ => ?_) (fun hJ4_10_11 => ?_)
   ·obtain ⟨g13, g14⟩ := s_
    dsimp only at HQ
    dsimp only
    have hHeld := HPC.out wq _ HQ.out (by simp)
    refine js_ ?_
    refine on_ 9 35 (bS 14 4095) (fun K hK => ?_) (one_of HT_.out (by kernel_rfl))
    refine goes_ Try.func93 (by kernel_rfl) rfl #[.agg #[.int .i64 a0_0, .int .i64 a0_1, .bool a0_2, .slice A0_3 l0_3.length c0_3], .int .i64 a1, .int .i64 a4, .int .i64 a2] (by rfl) rfl rfl aA ?_
    with_reducible refine (thermionref01_influence.calls k a0_0 a0_1 a0_2 A0_3 c0_3 l0_3 a1 a4 a2 y1 y2 _ (Kd.C_below HR.out HQ.out.below) HC.out HY.out).mono ?_
    rintro e1 wq ⟨rfl, hb⟩
    have HQ2 := Aside0.mk (HQ.out.step hb)
    clear hb HQ
    have HQ := HQ2
    clear HQ2
    refine ⟨_, rfl, ?_⟩
    refine hK.out _ _ (HPC.out _ _ HQ.out (by simp)) (fun hHeld => ?_)
    clear hK K
    refine nm_ ?_
    exact jn_ (hJ4_9_10_11 (g13, g14) _ HQ)
   refine join_ (σ := Unit) 4 (bS 14 1023) (fun s_ => [(30, .agg #[.int .i64 x1, .int .i64 x2]), (35, .agg #[.int .i64 y1, .int .i64 y2])]) (fun s_ w' => Aside0 (Mem w w' [(gl, #[.int .i64 a2, .int .i64 a3, .int .i64 a4], 3), (g10, #[.int .i64 0, .int .i64 0], 42), (g5, #[.int .i64 a0_0, .int .i64 a0_1, .bool a0_2, .slice A0_3 l0_3.length c0_3], 24)])) (fun s_ wq HQ => ?_) (fun hJ4_9 => ?_)
   ·have hHeld := HPC.out wq _ HQ.out (by simp)
    refine js_ ?_
    refine two_ (i := 10) (j := 11) (Ni := some 13) (Nj := some 14) (bS 14 2047) (bS 14 3071) rfl rfl rfl rfl (two_of HT_.out (by kernel_rfl)) (by decide) (by decide) (fun K hK => ?_) (fun K hK => ?_)
    ·refine new_step HQ.out (by rfl) rfl 42 rfl info42 (fun g13 wq hm1 => ?_)
     clear HQ
     have HQ := Aside0.mk hm1
     clear hm1
     refine hK.out _ _ (HPC.out _ _ HQ.out (by simp)) (fun hHeld => ?_)
     clear hK K
     refine nm_ ?_
     exact jn_ (hJ4_9_10 g13 _ HQ)
    ·refine new_step HQ.out (by rfl) rfl 42 rfl info42 (fun g14 wq hm1 => ?_)
     clear HQ
     have HQ := Aside0.mk hm1
     clear hm1
     refine hK.out _ _ (HPC.out _ _ HQ.out (by simp)) (fun hHeld => ?_)
     clear hK K
     refine nm_ ?_
     exact jn_ (hJ4_9_11 g14 _ HQ)
   refine join_ (σ := Nat) 4 (bS 14 1535) (fun s_ => [(30, .agg #[.int .i64 x1, .int .i64 x2]), (13, .pointer (some ⟨s_, 0, none⟩))]) (fun s_ w' => Aside0 (Mem w w' [(s_, #[.int .i64 0, .int .i64 0], 42), (gl, #[.int .i64 a2, .int .i64 a3, .int .i64 a4], 3), (g10, #[.int .i64 0, .int .i64 0], 42), (g5, #[.int .i64 a0_0, .int .i64 a0_1, .bool a0_2, .slice A0_3 l0_3.length c0_3], 24)])) (fun s_ wq HQ => ?_) (fun hJ4_10 => ?_)
   ·obtain ⟨g13, e_⟩ : ∃ g_, g_ = s_ := ⟨_, rfl⟩
    subst e_
    have hHeld := HPC.out wq _ HQ.out (by simp)
    refine js_ ?_
    refine two_ (i := 9) (j := 11) (Ni := some 35) (Nj := some 14) (bS 14 2047) (bS 14 3583) rfl rfl rfl rfl (two_of HT_.out (by kernel_rfl)) (by decide) (by decide) (fun K hK => ?_) (fun K hK => ?_)
    ·refine goes_ Try.func93 (by kernel_rfl) rfl #[.agg #[.int .i64 a0_0, .int .i64 a0_1, .bool a0_2, .slice A0_3 l0_3.length c0_3], .int .i64 a1, .int .i64 a4, .int .i64 a2] (by rfl) rfl rfl aA ?_
     with_reducible refine (thermionref01_influence.calls k a0_0 a0_1 a0_2 A0_3 c0_3 l0_3 a1 a4 a2 y1 y2 _ (Kd.C_below HR.out HQ.out.below) HC.out HY.out).mono ?_
     rintro e1 wq ⟨rfl, hb⟩
     have HQ2 := Aside0.mk (HQ.out.step hb)
     clear hb HQ
     have HQ := HQ2
     clear HQ2
     refine ⟨_, rfl, ?_⟩
     refine hK.out _ _ (HPC.out _ _ HQ.out (by simp)) (fun hHeld => ?_)
     clear hK K
     refine nm_ ?_
     exact jn_ (hJ4_9_10 g13 _ HQ)
    ·refine new_step HQ.out (by rfl) rfl 42 rfl info42 (fun g14 wq hm1 => ?_)
     clear HQ
     have HQ := Aside0.mk hm1
     clear hm1
     refine hK.out _ _ (HPC.out _ _ HQ.out (by simp)) (fun hHeld => ?_)
     clear hK K
     refine nm_ ?_
     replace HQ := Aside0.mk HQ.out.swap
     exact jn_ (hJ4_10_11 (g13, g14) _ HQ)
   refine join_ (σ := Nat) 4 (bS 14 2559) (fun s_ => [(30, .agg #[.int .i64 x1, .int .i64 x2]), (14, .pointer (some ⟨s_, 0, none⟩))]) (fun s_ w' => Aside0 (Mem w w' [(s_, #[.int .i64 0, .int .i64 0], 42), (gl, #[.int .i64 a2, .int .i64 a3, .int .i64 a4], 3), (g10, #[.int .i64 0, .int .i64 0], 42), (g5, #[.int .i64 a0_0, .int .i64 a0_1, .bool a0_2, .slice A0_3 l0_3.length c0_3], 24)])) (fun s_ wq HQ => ?_) (fun hJ4_11 => ?_)
   ·obtain ⟨g14, e_⟩ : ∃ g_, g_ = s_ := ⟨_, rfl⟩
    subst e_
    have hHeld := HPC.out wq _ HQ.out (by simp)
    refine js_ ?_
    refine two_ (i := 9) (j := 10) (Ni := some 35) (Nj := some 13) (bS 14 3071) (bS 14 3583) rfl rfl rfl rfl (two_of HT_.out (by kernel_rfl)) (by decide) (by decide) (fun K hK => ?_) (fun K hK => ?_)
    ·refine goes_ Try.func93 (by kernel_rfl) rfl #[.agg #[.int .i64 a0_0, .int .i64 a0_1, .bool a0_2, .slice A0_3 l0_3.length c0_3], .int .i64 a1, .int .i64 a4, .int .i64 a2] (by rfl) rfl rfl aA ?_
     with_reducible refine (thermionref01_influence.calls k a0_0 a0_1 a0_2 A0_3 c0_3 l0_3 a1 a4 a2 y1 y2 _ (Kd.C_below HR.out HQ.out.below) HC.out HY.out).mono ?_
     rintro e1 wq ⟨rfl, hb⟩
     have HQ2 := Aside0.mk (HQ.out.step hb)
     clear hb HQ
     have HQ := HQ2
     clear HQ2
     refine ⟨_, rfl, ?_⟩
     refine hK.out _ _ (HPC.out _ _ HQ.out (by simp)) (fun hHeld => ?_)
     clear hK K
     refine nm_ ?_
     exact jn_ (hJ4_9_11 g14 _ HQ)
    ·refine new_step HQ.out (by rfl) rfl 42 rfl info42 (fun g13 wq hm1 => ?_)
     clear HQ
     have HQ := Aside0.mk hm1
     clear hm1
     refine hK.out _ _ (HPC.out _ _ HQ.out (by simp)) (fun hHeld => ?_)
     clear hK K
     refine nm_ ?_
     exact jn_ (hJ4_10_11 (g13, g14) _ HQ)
   refine join_ (σ := Nat × Nat) 4 (bS 14 3567) (fun s_ => [(13, .pointer (some ⟨s_.1, 0, none⟩)), (14, .pointer (some ⟨s_.2, 0, none⟩))]) (fun s_ w' => Aside0 (Mem w w' [(s_.1, #[.int .i64 0, .int .i64 0], 42), (s_.2, #[.int .i64 0, .int .i64 0], 42), (gl, #[.int .i64 a2, .int .i64 a3, .int .i64 a4], 3), (g10, #[.int .i64 0, .int .i64 0], 42), (g5, #[.int .i64 a0_0, .int .i64 a0_1, .bool a0_2, .slice A0_3 l0_3.length c0_3], 24)])) (fun s_ wq HQ => ?_) (fun hJ10_11 => ?_)
   ·obtain ⟨g13, g14⟩ := s_
    dsimp only at HQ
    dsimp only
    have hHeld := HPC.out wq _ HQ.out (by simp)
    refine js_ ?_
    refine on_ 4 30 (bS 14 3583) (fun K hK => ?_) (one_of HT_.out (by kernel_rfl))
    refine goes_ Try.func93 (by kernel_rfl) rfl #[.agg #[.int .i64 a0_0, .int .i64 a0_1, .bool a0_2, .slice A0_3 l0_3.length c0_3], .int .i64 a1, .int .i64 a3, .int .i64 a2] (by rfl) rfl rfl aA ?_
    with_reducible refine (thermionref01_influence.calls k a0_0 a0_1 a0_2 A0_3 c0_3 l0_3 a1 a3 a2 x1 x2 _ (Kd.C_below HR.out HQ.out.below) HC.out HX.out).mono ?_
    rintro e1 wq ⟨rfl, hb⟩
    have HQ2 := Aside0.mk (HQ.out.step hb)
    clear hb HQ
    have HQ := HQ2
    clear HQ2
    refine ⟨_, rfl, ?_⟩
    refine hK.out _ _ (HPC.out _ _ HQ.out (by simp)) (fun hHeld => ?_)
    clear hK K
    refine nm_ ?_
    exact jn_ (hJ4_10_11 (g13, g14) _ HQ)
   refine join_ (σ := Unit) 5 (bS 14 511) (fun s_ => [(30, .agg #[.int .i64 x1, .int .i64 x2])]) (fun s_ w' => Aside0 (Mem w w' [(gl, #[.int .i64 a2, .int .i64 a3, .int .i64 a4], 3), (g10, #[.int .i64 0, .int .i64 0], 42), (g5, #[.int .i64 a0_0, .int .i64 a0_1, .bool a0_2, .slice A0_3 l0_3.length c0_3], 24)])) (fun s_ wq HQ => ?_) (fun hJ4 => ?_)
   ·have hHeld := HPC.out wq _ HQ.out (by simp)
    refine js_ ?_
    refine three_ (i := 9) (j := 10) (k := 11) (Ni := some 35) (Nj := some 13) (Nk := some 14) (bS 14 1023) (bS 14 1535) (bS 14 2559) rfl rfl rfl rfl rfl rfl (three_of HT_.out (by kernel_rfl)) (by decide) (by decide) (by decide) (fun K hK => ?_) (fun K hK => ?_) (fun K hK => ?_)
    ·refine goes_ Try.func93 (by kernel_rfl) rfl #[.agg #[.int .i64 a0_0, .int .i64 a0_1, .bool a0_2, .slice A0_3 l0_3.length c0_3], .int .i64 a1, .int .i64 a4, .int .i64 a2] (by rfl) rfl rfl aA ?_
     with_reducible refine (thermionref01_influence.calls k a0_0 a0_1 a0_2 A0_3 c0_3 l0_3 a1 a4 a2 y1 y2 _ (Kd.C_below HR.out HQ.out.below) HC.out HY.out).mono ?_
     rintro e1 wq ⟨rfl, hb⟩
     have HQ2 := Aside0.mk (HQ.out.step hb)
     clear hb HQ
     have HQ := HQ2
     clear HQ2
     refine ⟨_, rfl, ?_⟩
     refine hK.out _ _ (HPC.out _ _ HQ.out (by simp)) (fun hHeld => ?_)
     clear hK K
     refine nm_ ?_
     exact jn_ (hJ4_9 () _ HQ)
    ·refine new_step HQ.out (by rfl) rfl 42 rfl info42 (fun g13 wq hm1 => ?_)
     clear HQ
     have HQ := Aside0.mk hm1
     clear hm1
     refine hK.out _ _ (HPC.out _ _ HQ.out (by simp)) (fun hHeld => ?_)
     clear hK K
     refine nm_ ?_
     exact jn_ (hJ4_10 g13 _ HQ)
    ·refine new_step HQ.out (by rfl) rfl 42 rfl info42 (fun g14 wq hm1 => ?_)
     clear HQ
     have HQ := Aside0.mk hm1
     clear hm1
     refine hK.out _ _ (HPC.out _ _ HQ.out (by simp)) (fun hHeld => ?_)
     clear hK K
     refine nm_ ?_
     exact jn_ (hJ4_11 g14 _ HQ)
   refine join_ (σ := Nat) 5 (bS 14 1519) (fun s_ => [(13, .pointer (some ⟨s_, 0, none⟩))]) (fun s_ w' => Aside0 (Mem w w' [(s_, #[.int .i64 0, .int .i64 0], 42), (gl, #[.int .i64 a2, .int .i64 a3, .int .i64 a4], 3), (g10, #[.int .i64 0, .int .i64 0], 42), (g5, #[.int .i64 a0_0, .int .i64 a0_1, .bool a0_2, .slice A0_3 l0_3.length c0_3], 24)])) (fun s_ wq HQ => ?_) (fun hJ10 => ?_)
   ·obtain ⟨g13, e_⟩ : ∃ g_, g_ = s_ := ⟨_, rfl⟩
    subst e_
    have hHeld := HPC.out wq _ HQ.out (by simp)
    refine js_ ?_
    refine two_ (i := 4) (j := 11) (Ni := some 30) (Nj := some 14) (bS 14 1535) (bS 14 3567) rfl rfl rfl rfl (two_of HT_.out (by kernel_rfl)) (by decide) (by decide) (fun K hK => ?_) (fun K hK => ?_)
    ·refine goes_ Try.func93 (by kernel_rfl) rfl #[.agg #[.int .i64 a0_0, .int .i64 a0_1, .bool a0_2, .slice A0_3 l0_3.length c0_3], .int .i64 a1, .int .i64 a3, .int .i64 a2] (by rfl) rfl rfl aA ?_
     with_reducible refine (thermionref01_influence.calls k a0_0 a0_1 a0_2 A0_3 c0_3 l0_3 a1 a3 a2 x1 x2 _ (Kd.C_below HR.out HQ.out.below) HC.out HX.out).mono ?_
     rintro e1 wq ⟨rfl, hb⟩
     have HQ2 := Aside0.mk (HQ.out.step hb)
     clear hb HQ
     have HQ := HQ2
     clear HQ2
     refine ⟨_, rfl, ?_⟩
     refine hK.out _ _ (HPC.out _ _ HQ.out (by simp)) (fun hHeld => ?_)
     clear hK K
     refine nm_ ?_
     exact jn_ (hJ4_10 g13 _ HQ)
    ·refine new_step HQ.out (by rfl) rfl 42 rfl info42 (fun g14 wq hm1 => ?_)
     clear HQ
     have HQ := Aside0.mk hm1
     clear hm1
     refine hK.out _ _ (HPC.out _ _ HQ.out (by simp)) (fun hHeld => ?_)
     clear hK K
     refine nm_ ?_
     replace HQ := Aside0.mk HQ.out.swap
     exact jn_ (hJ10_11 (g13, g14) _ HQ)
   refine join_ (σ := Nat) 5 (bS 14 2543) (fun s_ => [(14, .pointer (some ⟨s_, 0, none⟩))]) (fun s_ w' => Aside0 (Mem w w' [(s_, #[.int .i64 0, .int .i64 0], 42), (gl, #[.int .i64 a2, .int .i64 a3, .int .i64 a4], 3), (g10, #[.int .i64 0, .int .i64 0], 42), (g5, #[.int .i64 a0_0, .int .i64 a0_1, .bool a0_2, .slice A0_3 l0_3.length c0_3], 24)])) (fun s_ wq HQ => ?_) (fun hJ11 => ?_)
   ·obtain ⟨g14, e_⟩ : ∃ g_, g_ = s_ := ⟨_, rfl⟩
    subst e_
    have hHeld := HPC.out wq _ HQ.out (by simp)
    refine js_ ?_
    refine two_ (i := 4) (j := 10) (Ni := some 30) (Nj := some 13) (bS 14 2559) (bS 14 3567) rfl rfl rfl rfl (two_of HT_.out (by kernel_rfl)) (by decide) (by decide) (fun K hK => ?_) (fun K hK => ?_)
    ·refine goes_ Try.func93 (by kernel_rfl) rfl #[.agg #[.int .i64 a0_0, .int .i64 a0_1, .bool a0_2, .slice A0_3 l0_3.length c0_3], .int .i64 a1, .int .i64 a3, .int .i64 a2] (by rfl) rfl rfl aA ?_
     with_reducible refine (thermionref01_influence.calls k a0_0 a0_1 a0_2 A0_3 c0_3 l0_3 a1 a3 a2 x1 x2 _ (Kd.C_below HR.out HQ.out.below) HC.out HX.out).mono ?_
     rintro e1 wq ⟨rfl, hb⟩
     have HQ2 := Aside0.mk (HQ.out.step hb)
     clear hb HQ
     have HQ := HQ2
     clear HQ2
     refine ⟨_, rfl, ?_⟩
     refine hK.out _ _ (HPC.out _ _ HQ.out (by simp)) (fun hHeld => ?_)
     clear hK K
     refine nm_ ?_
     exact jn_ (hJ4_11 g14 _ HQ)
    ·refine new_step HQ.out (by rfl) rfl 42 rfl info42 (fun g13 wq hm1 => ?_)
     clear HQ
     have HQ := Aside0.mk hm1
     clear hm1
     refine hK.out _ _ (HPC.out _ _ HQ.out (by simp)) (fun hHeld => ?_)
     clear hK K
     refine nm_ ?_
     exact jn_ (hJ10_11 (g13, g14) _ HQ)
   refine three_ (i := 4) (j := 10) (k := 11) (Ni := some 30) (Nj := some 13) (Nk := some 14) (bS 14 511) (bS 14 1519) (bS 14 2543) rfl rfl rfl rfl rfl rfl (three_of HT_.out (by kernel_rfl)) (by decide) (by decide) (by decide) (fun K hK => ?_) (fun K hK => ?_) (fun K hK => ?_)
   ·refine goes_ Try.func93 (by kernel_rfl) rfl #[.agg #[.int .i64 a0_0, .int .i64 a0_1, .bool a0_2, .slice A0_3 l0_3.length c0_3], .int .i64 a1, .int .i64 a3, .int .i64 a2] (by rfl) rfl rfl aA ?_
    with_reducible refine (thermionref01_influence.calls k a0_0 a0_1 a0_2 A0_3 c0_3 l0_3 a1 a3 a2 x1 x2 _ (Kd.C_below HR.out HQ.out.below) HC.out HX.out).mono ?_
    rintro e1 wq ⟨rfl, hb⟩
    have HQ2 := Aside0.mk (HQ.out.step hb)
    clear hb HQ
    have HQ := HQ2
    clear HQ2
    refine ⟨_, rfl, ?_⟩
    refine hK.out _ _ (HPC.out _ _ HQ.out (by simp)) (fun hHeld => ?_)
    clear hK K
    refine nm_ ?_
    exact jn_ (hJ4 () _ HQ)
   ·refine new_step HQ.out (by rfl) rfl 42 rfl info42 (fun g13 wq hm1 => ?_)
    clear HQ
    have HQ := Aside0.mk hm1
    clear hm1
    refine hK.out _ _ (HPC.out _ _ HQ.out (by simp)) (fun hHeld => ?_)
    clear hK K
    refine nm_ ?_
    exact jn_ (hJ10 g13 _ HQ)
   ·refine new_step HQ.out (by rfl) rfl 42 rfl info42 (fun g14 wq hm1 => ?_)
    clear HQ
    have HQ := Aside0.mk hm1
    clear hm1
    refine hK.out _ _ (HPC.out _ _ HQ.out (by simp)) (fun hHeld => ?_)
    clear hK K
    refine nm_ ?_
    exact jn_ (hJ11 g14 _ HQ)
  case rest =>
  obtain ⟨g13, g14, rfl, rfl, HQ⟩ := hcut
  have h := HH.out
  clear HH
  have q1 := (pair_cells HQ.out.head rfl rfl).1
  have q2 := HQ.out.frozen 0
  dsimp only at h
  by_cases g : y1 < 1
  ·rw [if_pos g] at h
   simp only [Option.some.injEq, Prod.mk.injEq] at h
   obtain ⟨rfl, rfl, rfl⟩ := h
   have g1 := decide_eq_true g
   clear g
   go_wp2_with (first
  | ((with_reducible refine gate_store (t := 42) (p := 10) rfl ?_); refine ev_store HQ.out.fourth4 rfl 42 (.tmp 10) (.tmp 39) rfl rfl (cs := #[.int .i64 0, .int .i64 0]) rfl size42 rfl rfl (by simp [Value.oneCell']) ?_; intro w21 hm1 hq1; have HM21 := Aside0.mk hm1; clear hm1 hq1 HQ))
   (try simp only [Exit.inBlock, Exit.then])
   exact bodyPost_ret (results_ct rfl _ _ g10 42 #[.int .i64 0, .int .i64 0] (0, 0) _ rfl HM21.out.head Try.underlying42 rfl (by kernel_rfl)) rfl ⟨rfl, HM21.out.below⟩
  ·rw [if_neg g] at h
   obtain ⟨z1, hz1, h⟩ := Option.bind_eq_some_iff.1 h
   obtain ⟨z2, hz2, h⟩ := Option.bind_eq_some_iff.1 h
   simp only [Option.some.injEq, Prod.mk.injEq] at h
   obtain ⟨rfl, rfl, rfl⟩ := h
   have HD := Aside0.mk hz1
   have HU := Aside0.mk hz2
   have g1 := decide_eq_false g
   clear g hz1 hz2
   go_upto_region 7 with fail
   have HQ2 := Aside0.mk HQ.out.drew
   clear HQ q1 q2
   have HQ := HQ2
   clear HQ2
   refine start_ (n := 15) (S := fun w' => w'.cell? ⟨g13, 0, none⟩ = some (.int .i64 x1) ∧ w'.cell? ⟨g13, 1, none⟩ = some (.int .i64 x2) ∧ w'.cell? ⟨g14, 0, none⟩ = some (.int .i64 y1) ∧ w'.cell? ⟨g14, 1, none⟩ = some (.int .i64 y2)) (ds := [13, 14]) (bS 15 0) (by kernel_rfl) rfl rfl (⟨(pair_cells (HQ.out.blk (g13, #[.int .i64 x1, .int .i64 x2], 42) (by simp)) rfl rfl).1, (pair_cells (HQ.out.blk (g13, #[.int .i64 x1, .int .i64 x2], 42) (by simp)) rfl rfl).2, pair_cells (HQ.out.blk (g14, #[.int .i64 y1, .int .i64 y2], 42) (by simp)) rfl rfl⟩) (fun hHeld => ?_); refine with_tabW ampR.tab7 ampR.bits7 (fun HT_ HW_ => ?_)
   refine pu_ 0 40 (bS 15 1) HT_ ?_
   refine pu_ 3 43 (bS 15 9) HT_ ?_
   refine pu_ 6 46 (bS 15 73) HT_ ?_
   refine pu_ 9 49 (bS 15 585) HT_ ?_
   refine ta_ 1 41 (bS 15 587) HT_ HW_ hHeld ?_
   refine pu_ 2 42 (bS 15 591) HT_ ?_
   refine ta_ 4 44 (bS 15 607) HT_ HW_ hHeld ?_
   refine ta_ 7 47 (bS 15 735) HT_ HW_ hHeld ?_
   refine pu_ 8 48 (bS 15 991) HT_ ?_
   refine ta_ 10 50 (bS 15 2015) HT_ HW_ hHeld ?_
   refine on_ 5 45 (bS 15 2047) (fun K hK => ?_) (one_of HT_.out (by kernel_rfl))
   refine goes_ Try.func94 (by kernel_rfl) rfl #[.int .i64 (wrap64 (1000 * x1)), .int .i64 y2] (by rfl) rfl rfl aA ?_
   with_reducible refine (thermionref01_Down.calls (wrap64 (1000 * x1)) y2 z1 _ HD.out).mono ?_
   rintro e1 wq ⟨rfl, hb⟩
   have HQ2 := Aside0.mk (HQ.out.step hb.below)
   clear hb HQ
   have HQ := HQ2
   clear HQ2
   refine ⟨_, rfl, ?_⟩
   refine hK.out _ _ (⟨(pair_cells (HQ.out.blk (g13, #[.int .i64 x1, .int .i64 x2], 42) (by simp)) rfl rfl).1, (pair_cells (HQ.out.blk (g13, #[.int .i64 x1, .int .i64 x2], 42) (by simp)) rfl rfl).2, pair_cells (HQ.out.blk (g14, #[.int .i64 y1, .int .i64 y2], 42) (by simp)) rfl rfl⟩) (fun hHeld => ?_)
   clear hK K
   refine nm_ ?_
   refine on_ 11 51 (bS 15 4095) (fun K hK => ?_) (one_of HT_.out (by kernel_rfl))
   refine goes_ Try.func95 (by kernel_rfl) rfl #[.int .i64 (wrap64 (1000 * x2)), .int .i64 y1] (by rfl) rfl rfl aA ?_
   with_reducible refine (thermionref01_Up.calls (wrap64 (1000 * x2)) y1 z2 _ HU.out).mono ?_
   rintro e1 wq ⟨rfl, hb⟩
   have HQ2 := Aside0.mk (HQ.out.step hb.below)
   clear hb HQ
   have HQ := HQ2
   clear HQ2
   refine ⟨_, rfl, ?_⟩
   refine hK.out _ _ (⟨(pair_cells (HQ.out.blk (g13, #[.int .i64 x1, .int .i64 x2], 42) (by simp)) rfl rfl).1, (pair_cells (HQ.out.blk (g13, #[.int .i64 x1, .int .i64 x2], 42) (by simp)) rfl rfl).2, pair_cells (HQ.out.blk (g14, #[.int .i64 y1, .int .i64 y2], 42) (by simp)) rfl rfl⟩) (fun hHeld => ?_)
   clear hK K
   refine nm_ ?_
   refine pu_ 12 52 (bS 15 8191) HT_ ?_
   refine la_ 13 (bS 15 16383) (fun K hK => ?_) (one_of HT_.out (by kernel_rfl))
   refine store_step (HQ.out.fourth4) (by rfl) rfl 42 (.tmp 10) (.tmp 52) rfl rfl rfl (cs := #[.int .i64 z1, .int .i64 z2]) size42 rfl rfl (by simp [Value.oneCell']) (fun wq hm1 => ?_)
   clear HQ
   have HQ := Aside0.mk hm1
   clear hm1
   refine hK.out _ _ ?_
   clear hK K
   refine nm0_ ?_
   refine pu_ 14 11 (bS 15 32767) HT_ ?_
   refine done_ (done_of HT_.out (by kernel_rfl)) ?_
   clear hHeld HT_ HW_
   (try go_wp2)
   exact bodyPost_ret (results_ct rfl _ _ g10 42 #[.int .i64 z1, .int .i64 z2] (0, 0) _ rfl HQ.out.head Try.underlying42 rfl (by kernel_rfl)) rfl ⟨rfl, HQ.out.below⟩
 ·rw [if_neg g] at h
  simp only [Option.some.injEq, Prod.mk.injEq] at h
  obtain ⟨rfl, rfl, rfl⟩ := h
  have g1 : (e0 != 0) = true := bne_iff_ne.mpr g
  clear g
  go_wp2_with (first
  | ((with_reducible refine gate_store (t := 42) (p := 10) rfl ?_); refine ev_store HM4.out.swap rfl 42 (.tmp 10) (.tmp 24) rfl rfl (cs := #[.int .i64 0, .int .i64 0]) rfl size42 rfl rfl (by simp [Value.oneCell']) ?_; intro w5 hm1 hq1; have HM5 := Aside0.mk hm1; clear hm1 hq1 HM4))
  (try simp only [Exit.inBlock, Exit.then])
  exact bodyPost_ret (results_ct rfl _ _ g10 42 #[.int .i64 0, .int .i64 0] (0, 0) _ rfl HM5.out.head Try.underlying42 rfl (by kernel_rfl)) rfl ⟨rfl, HM5.out.below⟩
theorem ask_l2 (l : List Int) (hl : l.length ≤ 1000) {i : Nat} (hi : i < l.length) {r : Int} (h : Ev (fun k => thermionref01_askable.l1 k l ((i + 1 : Nat) : Int)) r) :
  ∀ (d j : Nat), j + d = i → Ev (fun k => thermionref01_askable.l2 k l (i : Int) (j : Int)) (if ((l.take i).drop j).contains (fn l i) = true then 9 else r)
 | 0, j, e => by
  rw [List.drop_eq_nil_of_le (by rw [List.length_take]; omega), if_neg (by simp)]
  have hw : wrap64 ((i : Int) + 1) = ((i + 1 : Nat) : Int) := by rw [IntWalk.wrap64_in _ (by omega)]; omega
  refine h.step 0 (fun k _ => ?_)
  rw [thermionref01_askable.l2, if_neg (by omega), hw]
 | d + 1, j, e => by
  have hw : wrap64 ((j : Int) + 1) = ((j + 1 : Nat) : Int) := by rw [IntWalk.wrap64_in _ (by omega)]; omega
  have hc : (l.take i).drop j = fn l j :: (l.take i).drop (j + 1) := by
   rw [List.drop_eq_getElem_cons (by rw [List.length_take]; omega), List.getElem_take]
   congr 1
   unfold fn
   rw [List.getD_eq_getElem?_getD, List.getElem?_eq_getElem (by omega)]
   rfl
  rw [hc, List.contains_cons]
  by_cases q : fn l i = fn l j
  ·rw [if_pos (by simp [q])]
   exact Ev.now (fun k => by rw [thermionref01_askable.l2, if_pos (by omega), if_pos (by omega), if_pos (by omega), if_pos (by omega), if_pos (by omega), rd_fn l i (by omega), rd_fn l j (by omega), if_pos q])
  ·have e2 : (fn l i == fn l j) = false := by simpa using q
   rw [e2, Bool.false_or]
   refine (ask_l2 l hl hi h d (j + 1) (by omega)).step 0 (fun k _ => ?_)
   rw [thermionref01_askable.l2, if_pos (by omega), if_pos (by omega), if_pos (by omega), if_pos (by omega), if_pos (by omega), rd_fn l i (by omega), rd_fn l j (by omega), if_neg q, hw]
theorem ask_l1 (l : List Int) (hl : l.length ≤ 1000) : ∀ (d i : Nat), i + d = l.length → Ev (fun k => thermionref01_askable.l1 k l (i : Int)) (if dupFrom l i d = true then 9 else 0)
 | 0, i, e => by
  rw [dupFrom, if_neg (by simp)]
  exact Ev.now (fun k => by rw [thermionref01_askable.l1, if_neg (by omega)])
 | d + 1, i, e => by
  have h := ask_l2 l hl (i := i) (by omega) (ask_l1 l hl d (i + 1) (by omega)) i 0 (by omega)
  rw [List.drop_zero] at h
  have e2 : (if dupFrom l i (d + 1) = true then (9 : Int) else 0) = if (l.take i).contains (fn l i) = true then 9 else if dupFrom l (i + 1) d = true then 9 else 0 := by
   rw [dupFrom]
   cases (l.take i).contains (fn l i) <;> simp
  rw [e2]
  refine h.step 0 (fun k _ => ?_)
  rw [thermionref01_askable.l1, if_pos (by omega)]
  rfl
theorem ask_l0 (W H : Int) (R : Bool) (C l : List Int) (hC : C.length ≤ 1000) (hl : l.length ≤ 1000) : ∀ (d i : Nat), i + d = l.length →
  Ev (fun k => thermionref01_askable.l0 k l (i : Int) W H R C) (if (l.drop i).all (hasB C) = false then 7 else if dupFrom l 0 l.length = true then 9 else 0)
 | 0, i, e => by
  rw [List.drop_eq_nil_of_le (by omega), if_neg (by simp)]
  refine (ask_l1 l hl l.length 0 (by omega)).step 0 (fun k _ => ?_)
  rw [thermionref01_askable.l0, if_neg (by omega)]
  rfl
 | d + 1, i, e => by
  have hw : wrap64 ((i : Int) + 1) = ((i + 1 : Nat) : Int) := by rw [IntWalk.wrap64_in _ (by omega)]; omega
  have hil : i < l.length := by omega
  have e1 : fn l i = l[i] := by unfold fn; rw [List.getD_eq_getElem?_getD, List.getElem?_eq_getElem hil]; rfl
  have hh := refhas_go W H R C (fn l i) (by omega) C.length 0 (by omega)
  rw [List.drop_zero] at hh
  have hh2 : Ev (fun k => thermionref01_has.f k W H R C (fn l i)) (hasB C (fn l i)) := hh
  rw [List.drop_eq_getElem_cons hil, List.all_cons, ← e1]
  cases q : hasB C (fn l i) with
  | true =>
   rw [q] at hh2
   rw [Bool.true_and]
   refine Ev.step (g := fun k => (thermionref01_has.f k W H R C (fn l i)).bind (fun t => if t = true then thermionref01_askable.l0 k l ((i + 1 : Nat) : Int) W H R C else some 7)) (hh2.bind ?_) 0 (fun k _ => ?_)
   ·simp only [if_true]
    exact ask_l0 W H R C l hC hl d (i + 1) (by omega)
   ·rw [thermionref01_askable.l0, if_pos (by omega), if_pos (by omega), rd_fn l i hil, hw]
  | false =>
   rw [q] at hh2
   rw [Bool.false_and, if_pos rfl]
   refine Ev.step (g := fun k => (thermionref01_has.f k W H R C (fn l i)).bind (fun t => if t = true then thermionref01_askable.l0 k l ((i + 1 : Nat) : Int) W H R C else some 7)) (hh2.bind ?_) 0 (fun k _ => ?_)
   ·exact ⟨0, fun k _ => if_neg (by simp)⟩
   ·rw [thermionref01_askable.l0, if_pos (by omega), if_pos (by omega), rd_fn l i hil, hw]
theorem ask_eq (W H : Int) (R : Bool) (C l : List Int) (n : Int) (hC : C.length ≤ 1000) (hl : l.length ≤ 1000) : Ev (fun k => thermionref01_askable.f k W H R C n l) (apartErr W H R C n l) := by
 unfold thermionref01_askable.f apartErr
 refine (refcheck_eq W H R C).bind ?_
 by_cases q : checkErr W H R C = 0
 ·rw [if_neg (show ¬ checkErr W H R C ≠ 0 from fun f => f q)]
  simp only [q, if_true, beyond_eq, Option.bind_some]
  by_cases r : n < 0 ∨ 200 < n
  ·rw [if_pos r]
   exact ⟨0, fun k _ => if_pos (by simpa using r)⟩
  ·rw [if_neg r]
   have h0 := ask_l0 W H R C l hC hl l.length 0 (by omega)
   rw [List.drop_zero] at h0
   obtain ⟨K, hK⟩ := h0
   exact ⟨K, fun k hk => (if_neg (by simpa using r)).trans (hK k hk)⟩
 ·rw [if_pos (show checkErr W H R C ≠ 0 from q)]
  exact ⟨0, fun k _ => if_neg q⟩
theorem refinf_eq {W H : Nat} {R : Bool} {C : List Int} {n : Nat} {a b : Int} (hck : checkErr W H R C = 0) (hn : n ≤ 200) (hab : a ≠ b) (ha : hasB C a = true) (hb : hasB C b = true) :
  ∃ x1 x2, (∀ k, C.length + 12 ≤ k → field_Influence.f k W H R C n a b = some (x1, x2, 0)) ∧ Ev (fun k => thermionref01_influence.f k W H R C n a b) (x1, x2) ∧ x1 ≤ x2 ∧ 0 ≤ x1 := by
 obtain ⟨m, hm⟩ : ∃ m : Nat, maxOf C = m := by
  have := (has_max (m := (maxOf C).toNat) (a := a) (by
   have h1 := le_maxOf (hasB_mem.1 ha).2
   have h2 := (hasB_mem.1 ha).1
   omega) ha)
  exact ⟨(maxOf C).toNat, by omega⟩
 have ha' := has_max hm ha
 have hb' := has_max hm hb
 have hv := unit_right hck hm ha'
 obtain ⟨hV, h256, _⟩ := influence_eq (n := n) hck hn hab hm ha hb (k := C.length + 12) (Nat.le_refl _)
 have hI : ∀ k, C.length + 12 ≤ k → field_Influence.f k W H R C n a b = some (inflow W H R C b (solveN W H R C (unitV m a 1000000) 256 n).1, inflow W H R C b (solveN W H R C (unitV m a 1000000) 256 n).2.1, 0) := fun k hk => by
  obtain ⟨_, _, h⟩ := influence_eq (n := n) hck hn hab hm ha hb hk
  exact h
 have hle : inflow W H R C b (solveN W H R C (unitV m a 1000000) 256 n).1 ≤ inflow W H R C b (solveN W H R C (unitV m a 1000000) 256 n).2.1 :=
  inflow_le (fun i hi => pair_between hV (solve_pair hV h256 n) (by rw [hV.len]; exact hi))
 have h0 := (influence_both (n := n) (n' := n) hm ha hb h256 hV (by
  obtain ⟨hV', _, _⟩ := influence_eq (n := n) hck hn (Ne.symm hab) hm hb ha (k := C.length + 12) (Nat.le_refl _)
  exact hV')).2
 refine ⟨_, _, hI, ?_, hle, h0⟩
 have hm6 : m ≤ 6 := by
  obtain ⟨i, hi, e⟩ := mem_fn (maxOf_mem (check_ne hck))
  have := (hV.elr i hi).2
  omega
 have hs := solve_eq (n := n) hv hn
 obtain ⟨W1, H1, _, _⟩ := check_parts hck
 obtain ⟨t1, t2⟩ := bounds_len hV h256 n
 obtain ⟨j, hj, hje⟩ := mem_fn (hasB_mem.1 hb).2
 have he6 := hV.elr j hj
 have hev := hV.vlen j hj
 rw [hje] at he6 hev
 obtain ⟨u, hu⟩ : ∃ u, fn (unitV m a 1000000) (b.toNat - 1) = u := ⟨_, rfl⟩
 have hub := hV.vr (b.toNat - 1) (by omega)
 rw [hu] at hub
 obtain ⟨W', H', eW, eH, hW16, hH16, _, _, _⟩ := volted_of hv
 obtain rfl : W = W' := by omega
 obtain rfl : H = H' := by omega
 have hch := charge_l0 (W := W) (H := H) (R := R) (C := C) (v := unitV m a 1000000) (lo := (solveN W H R C (unitV m a 1000000) 256 n).1.take C.length) (hi := (solveN W H R C (unitV m a 1000000) 256 n).2.1.take C.length) (e := b) (u := u) ⟨by omega, hW16⟩ ⟨by omega, hH16⟩ hV.len t1 t2 ⟨by omega, hev, he6.2⟩ hu hub (fun k hk => by
  have hk' : k < C.length := by rw [hV.len]; exact hk
  rw [fn_take hk', fn_take hk']
  exact solve_range hV h256 n hk') ((solveN W H R C (unitV m a 1000000) 256 n).2.2.1 : Int) (solveN W H R C (unitV m a 1000000) 256 n).2.2.2 C.length 0 (by omega)
 have hne := check_ne hck
 have hwa : wrap64 (a - 1) = a - 1 := IntWalk.wrap64_in _ (by omega)
 have huV : (List.replicate m (0 : Int)).set (a - 1).toNat 1000000 = unitV m a 1000000 := by
  unfold unitV
  rw [show (a - 1).toNat = a.toNat - 1 by omega]
 have hours := hI (C.length + 12) (Nat.le_refl _)
 have hap : apartErr W H R C n [a, b] = 0 := by rw [apart_two hck (by omega) hab]; exact if_pos ⟨ha, hb⟩
 have hmx : slices_Max_int_int.f C = some (m : Int) := by unfold slices_Max_int_int.f; rw [if_neg hne, hm]
 have hcf : field_Charge.f W H R C (unitV m a 1000000) n b = some (chTo W H R C b u ((solveN W H R C (unitV m a 1000000) 256 n).2.1.take C.length) C.length, chTo W H R C b u ((solveN W H R C (unitV m a 1000000) 256 n).1.take C.length) C.length, 0) := by
  unfold field_Charge.f
  rw [obind hs]
  show (if (0 : Int) ≠ 0 then _ else if hasB C b = false then _ else _) = _
  rw [if_neg (by simp), if_neg (by rw [hb]; simp), hu, Int.toNat_natCast, Int.toNat_natCast]
 unfold field_Influence.f at hours
 rw [obind (apart_eq W H R C [a, b] n (by omega) (by simp) (by simp; omega)), hap, if_pos rfl, obind hmx, if_pos (by omega), Int.toNat_natCast, if_pos (by omega), obind rfl, hwa, if_pos (by omega), if_pos (by rw [List.length_replicate]; omega), huV, obind hcf] at hours
 simp only [Option.some.injEq, Prod.mk.injEq] at hours
 obtain ⟨e1, e2, _⟩ := hours
 unfold thermionref01_influence.f
 have hg := refgreatest_go (W : Int) (H : Int) R C (by omega) C.length 0 0 (by omega)
 rw [List.drop_zero] at hg
 have hmax : C.foldl max 0 = (m : Int) := by
  rw [← hm]
  obtain ⟨g1, g2, g3⟩ := foldl_max_ge C 0
  have h1 := g2 _ (maxOf_mem hne)
  rcases g3 with g3 | g3
  ·have := le_maxOf (hasB_mem.1 ha).2
   have h2 := (hasB_mem.1 ha).1
   omega
  ·have := le_maxOf g3
   omega
 rw [hmax] at hg
 refine Ev.bind (f := fun k => thermionref01_greatest.f k (W : Int) (H : Int) R C) hg ?_
 have hg2 := Ev.bind (f := fun k => thermionref01_charge.f k (W : Int) (H : Int) R C (unitV m a 1000000) ((solveN W H R C (unitV m a 1000000) 256 n).1.take C.length) ((solveN W H R C (unitV m a 1000000) 256 n).2.1.take C.length) ((solveN W H R C (unitV m a 1000000) 256 n).2.2.1 : Int) (solveN W H R C (unitV m a 1000000) 256 n).2.2.2 b)
  (g := fun _ t => some (wrap64 (-t.2), wrap64 (-t.1))) hch ⟨0, fun k _ => rfl⟩
 obtain ⟨K, hK⟩ := hg2
 refine ⟨K, fun k hk => ?_⟩
 have hk2 := hK k hk
 show (if (0 : Int) ≤ (m : Int) then _ else none) = _
 rw [if_pos (by omega), Int.toNat_natCast, if_pos (by omega), obind rfl, hwa, if_pos (by omega), if_pos (by rw [List.length_replicate]; omega), obind rfl, huV]
 rw [show thermionref01_Solve.f (W : Int) (H : Int) R C (unitV m a 1000000) n = _ from hs]
 rw [← e1, ← e2]
 exact hk2
theorem apart_zero {W H : Int} {R : Bool} {C l : List Int} {n : Int} (h : apartErr W H R C n l = 0) : checkErr W H R C = 0 ∧ 0 ≤ n ∧ n ≤ 200 ∧ l.all (hasB C) = true ∧ dupFrom l 0 l.length = false := by
 unfold apartErr at h
 by_cases q : checkErr W H R C ≠ 0
 ·rw [if_pos q] at h; exact absurd h q
 ·rw [if_neg q] at h
  by_cases r : n < 0 ∨ 200 < n
  ·rw [if_pos r] at h; simp at h
  ·rw [if_neg r] at h
   cases s : l.all (hasB C) with
   | false => rw [if_pos s] at h; simp at h
   | true =>
    rw [if_neg (by simp [s])] at h
    cases t : dupFrom l 0 l.length with
    | true => rw [if_pos t] at h; simp at h
    | false => exact ⟨Classical.byContradiction q, by omega, by omega, rfl, rfl⟩
theorem nat_of {W H : Int} {R : Bool} {C : List Int} (h : checkErr W H R C = 0) : ∃ W' H' : Nat, W = W' ∧ H = H' ∧ C.length ≤ 256 := by
 obtain ⟨a, b, c, d, e, _⟩ := check_parts h
 obtain ⟨W', rfl⟩ : ∃ W' : Nat, W = W' := ⟨W.toNat, by omega⟩
 obtain ⟨H', rfl⟩ : ∃ H' : Nat, H = H' := ⟨H.toNat, by omega⟩
 have hl : C.length = W' * H' := by rw [← Int.natCast_mul] at e; omega
 have h256 : C.length ≤ 256 := by have := Nat.mul_le_mul (show W' ≤ 16 by omega) (show H' ≤ 16 by omega); omega
 exact ⟨W', H', rfl, rfl, h256⟩
theorem amp_both (W H : Int) (R : Bool) (C : List Int) (n k0 g a : Int) (hC : C.length ≤ 1000) :
  ∃ x1 x2 x3, Ev (fun k => field_Amplification.f k W H R C n k0 g a) (x1, x2, x3) ∧ Ev (fun k => thermionref01_Amplification.f k W H R C n k0 g a) (x1, x2, x3) := by
 by_cases q : apartErr W H R C n [k0, g, a] = 0
 ·obtain ⟨h1, h2, h3, h4, h5⟩ := apart_zero q
  obtain ⟨W', H', rfl, rfl, h256⟩ := nat_of h1
  obtain ⟨N, rfl⟩ : ∃ N : Nat, n = N := ⟨n.toNat, by omega⟩
  simp only [List.all_cons, List.all_nil, Bool.and_true, Bool.and_eq_true] at h4
  have hgk : g ≠ k0 := by
   intro e
   subst e
   simp [dupFrom, fn] at h5
  have hak : a ≠ k0 := by
   intro e
   subst e
   simp [dupFrom, fn] at h5
  obtain ⟨x1, x2, e1, e2, _, _⟩ := refinf_eq (n := N) h1 (by omega) hgk h4.2.1 h4.1
  obtain ⟨y1, y2, f1, f2, f3, f4⟩ := refinf_eq (n := N) h1 (by omega) hak h4.2.2 h4.1
  by_cases r : y1 < 1
  ·refine ⟨0, 0, 10, ⟨C.length + 20, fun k hk => ?_⟩, ?_⟩
   ·unfold field_Amplification.f
    dsimp only
    rw [obind (apart_eq W' H' R C [k0, g, a] N (by omega) (by simp) (by simp; omega)), if_pos q, obind (e1 k (by omega)), obind (f1 k (by omega))]
    exact if_pos r
   ·unfold thermionref01_Amplification.f
    refine (ask_eq W' H' R C [k0, g, a] N hC (by simp)).bind ?_
    simp only [q, if_true]
    refine e2.bind ?_
    refine f2.bind ?_
    exact ⟨0, fun k _ => if_pos r⟩
  ·obtain ⟨z1, hz1⟩ : ∃ z, field_down.f (wrap64 (1000 * x1)) y2 = some z := by
    unfold field_down.f
    rw [if_neg (by omega)]
    split
    ·exact ⟨_, rfl⟩
    ·exact ⟨_, rfl⟩
   obtain ⟨z2, hz2⟩ : ∃ z, field_up.f (wrap64 (1000 * x2)) y1 = some z := by
    unfold field_up.f field_down.f
    rw [if_neg (by omega)]
    split
    ·exact ⟨_, rfl⟩
    ·exact ⟨_, rfl⟩
   have hz1' : thermionref01_Down.f (wrap64 (1000 * x1)) y2 = some z1 := hz1
   have hz2' : thermionref01_Up.f (wrap64 (1000 * x2)) y1 = some z2 := hz2
   refine ⟨z1, z2, 0, ⟨C.length + 20, fun k hk => ?_⟩, ?_⟩
   ·unfold field_Amplification.f
    dsimp only
    rw [obind (apart_eq W' H' R C [k0, g, a] N (by omega) (by simp) (by simp; omega)), if_pos q, obind (e1 k (by omega)), obind (f1 k (by omega))]
    show (if y1 < 1 then _ else _) = _
    rw [if_neg r, obind hz1, obind hz2]
   ·unfold thermionref01_Amplification.f
    refine (ask_eq W' H' R C [k0, g, a] N hC (by simp)).bind ?_
    simp only [q, if_true]
    refine e2.bind ?_
    refine f2.bind ?_
    refine ⟨0, fun k _ => ?_⟩
    show (if y1 < 1 then _ else _) = _
    rw [if_neg r, obind hz1', obind hz2']
 ·refine ⟨0, 0, apartErr W H R C n [k0, g, a], ⟨C.length + 20, fun k hk => ?_⟩, ?_⟩
  ·unfold field_Amplification.f
   dsimp only
   rw [obind (apart_eq W H R C [k0, g, a] n (by omega) (by simp) (by simp; omega)), if_neg q]
  ·unfold thermionref01_Amplification.f
   refine (ask_eq W H R C [k0, g, a] n hC (by simp)).bind ?_
   exact ⟨0, fun k _ => if_neg q⟩
theorem R_same {W W1 : World} {base g n c : Nat} {ok : Nat → Prop} {l : List Int} (h : Kd.R (Kd.int .i64) 3 W base ok (.slice (some ⟨g, 0, none⟩) n c) l) (he : W1.heap[g]? = W.heap[g]?) : Kd.R (Kd.int .i64) 3 W1 base ok (.slice (some ⟨g, 0, none⟩) n c) l := by
 refine Kd.R_mono (Kd.R_step (Kd.R_tight rfl h) (fun k hk hlt => ?_)) (fun k hk => h.1 k hk.symm)
 have : k = g := by injection hk
 rw [this]
 exact he
theorem ShM.memo {w W : World} {l : List (Nat × Array Value × TypeId)} {gO N cO : Nat} {out : List Int} {vT : Value} {tl : List Int} (h : ShM w W l gO N cO out vT tl) (hp : 0 < out.length) : ∃ cur, Mem w W ((gO, cur, 3) :: l) := by
 obtain ⟨g, c, cur, e, -, hb, hg, -, -⟩ := R_mem h.o hp
 injection e with e1 e2 e3
 injection e1 with e1
 injection e1 with e1
 subst e1
 refine ⟨cur, h.m.below, fun p hp => ?_, fun p hp => ?_, .cons (fun p hp => (h.ne p hp).symm) h.m.apart⟩
 ·rcases List.mem_cons.1 hp with rfl | hp
  ·exact hb
  ·exact h.m.blk p hp
 ·rcases List.mem_cons.1 hp with rfl | hp
  ·exact hg
  ·exact h.m.ge p hp
theorem check_at (W H : Int) (R : Bool) (A : Option Addr) (c n : Nat) (C : List Int) (r : Int) (w : World) (hn : C.length = n) (hr : Kd.C (Kd.int .i64) w A C.length C) (hc : n ≤ c) (h : checkErr W H R C = r) :
  Calls Try.prog 39 #[.agg (planV W H R A n c)] w fun e w' => e = .returned (.int .i64 r) ∧ Below w.heap.size w w' := by
 subst hn
 subst h
 exact field_Check.calls W H R A c C _ w hr hc rfl
theorem field_Shift.calls (W H : Int) (R : Bool) (A : Option Addr) (c : Nat) (C : List Int) (e dx dy r1 r2 : Int) (r3 : Bool) (r4 : List Int) (r5 : Int) (w : World) (hr : Kd.C (Kd.int .i64) w A C.length C) (hc : C.length ≤ c) (hl : C.length ≤ 1000) (h : shiftE W H R C e dx dy = (r1, r2, r3, r4, r5)) :
  Calls Try.prog 58 #[.agg (planV W H R A C.length c), .int .i64 e, .int .i64 dx, .int .i64 dy] w fun ex w' => ∃ v : Value, ex = .returned (.tuple #[.agg #[.int .i64 r1, .int .i64 r2, .bool r3, v], .int .i64 r5]) ∧ Kd.R (Kd.int .i64) 3 w' w.heap.size (fun _ => True) v r4 ∧ Below w.heap.size w w' := by
 unfold shiftE at h
 have HM := Aside0.mk (Mem.start w)
 have HR := Aside0.mk hr
 have HC := Aside0.mk hc
 have HL := Aside0.mk hl
 have HH := Aside0.mk h
 have hu24 := Try.underlying24
 have hu22 := Try.underlying22
 clear hr hc hl h
 go_enter Try.func58, Try.ntmps58
 go_upto_region 2 with (first
  | ((with_reducible refine gate_dst (N := 4) rfl ?_); refine ev_box HM.out rfl 24 (.tmp 0) rfl (cs := #[.int .i64 W, .int .i64 H, .bool R, .slice A C.length c]) rfl ?_; intro g4 w1 hm1 hq1; have HM1 := Aside0.mk hm1; clear hm1 hq1 HM)
  | ((with_reducible refine gate_dst (N := 8) rfl ?_); refine ev_new HM1.out rfl 24 rfl info24 ?_; intro g8 w2 hm1 hq1; have HM2 := Aside0.mk hm1; clear hm1 hq1 HM1)
  | ((with_reducible refine gate_dst (N := 20) rfl ?_); refine ev_load (HM2.out.second) rfl 24 (.tmp 4) rfl rfl _ Try.underlying24 rfl size24 rfl ?_)
  | (go_at_call 39; refine (field_Check.calls W H R A c C (checkErr W H R C) _ (Kd.C_below HR.out HM2.out.below) HC.out rfl).mono ?_; rintro e3 w3 ⟨rfl, hb⟩; have HM3 := Aside0.mk (HM2.out.step hb); clear hb HM2 ))
 have h := HH.out
 clear HH
 by_cases g0 : checkErr W H R C = 0
 rotate_left
 ·rw [if_pos g0] at h
  simp only [Prod.mk.injEq] at h
  obtain ⟨rfl, rfl, rfl, rfl, rfl⟩ := h
  have g1 : (checkErr W H R C != 0) = true := bne_iff_ne.mpr g0
  clear g0
  go_wp2_with (first
   | ((with_reducible refine gate_store (t := 24) (p := 8) rfl ?_); refine ev_store HM3.out rfl 24 (.tmp 8) (.tmp 24) rfl rfl (cs := #[.int .i64 0, .int .i64 0, .bool false, .slice none 0 0]) rfl size24 rfl rfl (by simp [Value.oneCell']) ?_; intro w4 hm1 hq1; have HM4 := Aside0.mk hm1; clear hm1 hq1 HM3))
  (try simp only [Exit.inBlock, Exit.then])
  exact bodyPost_ret (results_ct rfl _ _ g8 24 #[.int .i64 0, .int .i64 0, .bool false, .slice none 0 0] (0, 0) _ rfl HM4.out.head Try.underlying24 rfl (by kernel_rfl)) rfl ⟨_, rfl, Kd.R_nil _ _ _ _ _, HM4.out.below⟩
 rw [if_neg (show ¬ checkErr W H R C ≠ 0 from fun f => f g0)] at h
 have hg := nat_of g0
 obtain ⟨p1, p2, p3, p4, p5, -, -, -⟩ := check_parts g0
 have hne := check_ne g0
 rw [g0]
 have g1 : ((0 : Int) != 0) = false := rfl
 obtain ⟨W, H, rfl, rfl, h256⟩ := hg
 have hlen : C.length = W * H := by rw [← Int.natCast_mul] at p5; omega
 have hpos : 0 < C.length := List.length_pos_iff.2 hne
 obtain ⟨ad, rfl⟩ : ∃ ad, A = some ad := by
  obtain ⟨ad, e1, -⟩ := Kd.at_int HR.out 0 (by omega) (by omega)
  exact ⟨ad, e1⟩
 simp only [Int.toNat_natCast] at h
 have HN : Aside0 (C.length = W * H ∧ C.length ≤ 256 ∧ 0 < C.length ∧ 1 ≤ W ∧ W ≤ 16 ∧ 1 ≤ H ∧ H ≤ 16) := ⟨hlen, h256, hpos, by omega, by omega, by omega, by omega⟩
 have HB := Aside0.mk (has_ev W H R C e (by omega) (k := C.length + 1) (Nat.le_refl _))
 have HH := Aside0.mk h
 clear h p1 p2 p3 p4 p5 hne hlen h256 hpos g0
 cases hB : hasB C e with
 | false =>
  have h := HH.out
  rw [if_pos hB] at h
  simp only [Prod.mk.injEq] at h
  obtain ⟨rfl, rfl, rfl, rfl, rfl⟩ := h
  have HB2 : Aside0 (field_has.f (C.length + 1) W H R C e = some false) := ⟨by rw [← hB]; exact HB.out⟩
  clear HH hB HB
  go_wp2_with (first
   | ((with_reducible refine gate_dst (N := 26) rfl ?_); refine ev_load (HM3.out.second) rfl 24 (.tmp 4) rfl rfl _ Try.underlying24 rfl size24 rfl ?_)
   | (go_at_call 77; refine (field_has.calls (C.length + 1) W H R (some ad) c C e false _ (Kd.C_below HR.out HM3.out.below) HC.out HB2.out).mono ?_; rintro e4 w4 ⟨rfl, hb⟩; have HM4 := Aside0.mk (HM3.out.step hb); clear hb HM3 HB2)
   | ((with_reducible refine gate_store (t := 24) (p := 8) rfl ?_); refine ev_store HM4.out rfl 24 (.tmp 8) (.tmp 30) rfl rfl (cs := #[.int .i64 0, .int .i64 0, .bool false, .slice none 0 0]) rfl size24 rfl rfl (by simp [Value.oneCell']) ?_; intro w5 hm1 hq1; have HM5 := Aside0.mk hm1; clear hm1 hq1 HM4))
  (try simp only [Exit.inBlock, Exit.then])
  exact bodyPost_ret (results_ct rfl _ _ g8 24 #[.int .i64 0, .int .i64 0, .bool false, .slice none 0 0] (0, 0) _ rfl HM5.out.head Try.underlying24 rfl (by kernel_rfl)) rfl ⟨_, rfl, Kd.R_nil _ _ _ _ _, HM5.out.below⟩
 | true =>
  have h := HH.out
  rw [if_neg (by rw [hB]; simp)] at h
  have HH2 := Aside0.mk h
  have HB2 : Aside0 (field_has.f (C.length + 1) W H R C e = some true) := ⟨by rw [← hB]; exact HB.out⟩
  clear HH hB HB h
  have hCW : ∀ (V : World), Below w.heap.size w V → ∀ i, i < C.length → V.cell? (ad.add i) = some (.int .i64 (fn C i)) := fun V hV i hi => by
   obtain ⟨ad2, e2, hx⟩ := Kd.at_int HR.out (i : Int) (by omega) (by omega)
   injection e2 with e2
   subst e2
   rw [Int.toNat_natCast, rd_fn C i hi] at hx
   exact (hV.cell (World.block_lt_of_cell? w _ hx)).trans hx
  have HCW := Aside0.mk hCW
  clear hCW
  go_wp2_with (first
   | ((with_reducible refine gate_dst (N := 26) rfl ?_); refine ev_load (HM3.out.second) rfl 24 (.tmp 4) rfl rfl _ Try.underlying24 rfl size24 rfl ?_)
   | (go_at_call 77; refine (field_has.calls (C.length + 1) W H R (some ad) c C e true _ (Kd.C_below HR.out HM3.out.below) HC.out HB2.out).mono ?_; rintro e4 w4 ⟨rfl, hb⟩; have HM4 := Aside0.mk (HM3.out.step hb); clear hb HM3 HB2)
   | ((with_reducible refine gate_dst (N := 31) rfl ?_); refine ev_load (HM4.out.second) rfl 24 (.tmp 4) rfl rfl _ Try.underlying24 rfl size24 rfl ?_)
   | (go_at_call 46; refine (field_Copy.calls W H R (some ad) c C W H R C _ (Kd.C_below HR.out HM4.out.below) HC.out (ourcopy_eq W H R C (by have := HN.out; omega))).mono ?_; rintro e5 w5 ⟨vo, rfl, hR, hb⟩; obtain ⟨gO, cO, eO, hgO, -, -⟩ := Kd.R_form hR (by have := HN.out; omega); subst eO; have HRO := Aside0.mk (Kd.R_lower hR HM4.out.below.size); have HM5 := Aside0.mk (HM4.out.step hb); clear hb hR hgO HM4 )
   | ((with_reducible refine gate_dst (N := 11) rfl ?_); refine ev_new (Mem.start w5) rfl 24 rfl info24 ?_; intro g11 w6 hm1 hq1; have HX := Aside0.mk hm1; clear hm1 hq1)
   | ((with_reducible refine gate_store (t := 24) (p := 11) rfl ?_); refine ev_store HX.out rfl 24 (.tmp 11) (.tmp 32) rfl rfl (cs := #[.int .i64 (W : Int), .int .i64 (H : Int), .bool R, .slice (some ⟨gO, 0, none⟩) C.length cO]) rfl size24 rfl rfl (by simp [Value.oneCell']) ?_; intro w7 hm1 hq1; have HS : Aside0 (ShM w w7 [(g11, #[.int .i64 (W : Int), .int .i64 (H : Int), .bool R, .slice (some ⟨gO, 0, none⟩) C.length cO], 24), (g8, #[.int .i64 0, .int .i64 0, .bool false, .slice none 0 0], 24), (g4, #[.int .i64 (W : Int), .int .i64 (H : Int), .bool R, .slice (some ad) C.length c], 24)] gO C.length cO (clearTo C e 0) (.slice none 0 0) (tosTo W C e dx dy 0)) := ⟨⟨mem_join HM5.out hm1, Kd.R_below HRO.out hm1.below, Kd.R_nil _ _ _ _ _, by simp⟩⟩; clear hm1 hq1 HX HRO HM5; have c4 := (plan_cells (HS.out.m.blk (g4, #[.int .i64 (W : Int), .int .i64 (H : Int), .bool R, .slice (some ad) C.length c], 24) (by simp))).2.2.2))
  go_loopg [12, 36] C.length (fun k v12 v36 w' => ∃ (i : Nat) (vT : Value), vT = v12 ∧ v36 = .int .i64 (i : Int) ∧ Aside0 (i + k = C.length) ∧ Aside0 (AllFit W H C e dx dy i) ∧ Aside0 (ShM w w' [(g11, #[.int .i64 (W : Int), .int .i64 (H : Int), .bool R, .slice (some ⟨gO, 0, none⟩) C.length cO], 24), (g8, #[.int .i64 0, .int .i64 0, .bool false, .slice none 0 0], 24), (g4, #[.int .i64 (W : Int), .int .i64 (H : Int), .bool R, .slice (some ad) C.length c], 24)] gO C.length cO (clearTo C e i) vT (tosTo W C e dx dy i)))
  case atStart => exact ⟨0, _, rfl, by go_num, ⟨by omega⟩, ⟨fun i hi => absurd hi (by omega)⟩, HS⟩
  case round =>
   clear HS c4
   obtain ⟨i, vT, rfl, rfl, HK, HAF, HS⟩ := hrel
   obtain ⟨c4_0, c4_1, c4_2, c4_3⟩ := plan_cells (HS.out.m.blk (g4, #[.int .i64 (W : Int), .int .i64 (H : Int), .bool R, .slice (some ad) C.length c], 24) (by simp))
   have c11_3 := (plan_cells (HS.out.m.blk (g11, #[.int .i64 (W : Int), .int .i64 (H : Int), .bool R, .slice (some ⟨gO, 0, none⟩) C.length cO], 24) (by simp))).2.2.2
   by_cases hi : i < C.length
   ·have HI := Aside0.mk hi
    have b1 : decide ((i : Int) < (C.length : Int)) = true := by simp; omega
    have b2 : decide (i < C.length) = true := by simp; omega
    have b3 : (0 : Int) ≤ (i : Int) := by omega
    have b4 : (i : Int) < (C.length : Int) := by omega
    have b5 : wrap64 ((i : Int) + 1) = ((i + 1 : Nat) : Int) := by rw [IntWalk.wrap64_in _ (by have := HN.out; omega)]; omega
    have cC := HCW.out _ HS.out.m.below i hi
    clear hi
    by_cases he : fn C i = e
    ·have HCL : Aside0 (clearTo C e (i + 1) = (clearTo C e i).set i 0) := ⟨by rw [clearTo, if_pos he]⟩
     have HTO : Aside0 (tosTo W C e dx dy (i + 1) = tosTo W C e dx dy i ++ [((tgt W dx dy i : Nat) : Int)]) := ⟨by rw [tosTo, if_pos he]⟩
     have HE := Aside0.mk he
     have d1 : (fn C i != e) = false := bne_eq_false_iff_eq.mpr he
     obtain ⟨cX, fX⟩ := HS.out.cell HI.out
     rw [he] at cC
     have d2 : (e != e) = false := bne_eq_false_iff_eq.mpr rfl
     clear he
     go_upto_region 13 with fail
     have HS2 := Aside0.mk (HS.out.put i 0)
     rw [← HCL.out] at HS2
     clear HS cX fX c4_0 c4_1 c4_2 c4_3 c11_3 cC d1 d2 HCL
     generalize wr.setCell _ _ = wz at HS2 ⊢
     have HS := HS2
     clear HS2
     obtain ⟨c4_0, c4_1, c4_2, c4_3⟩ := plan_cells (HS.out.m.blk (g4, #[.int .i64 (W : Int), .int .i64 (H : Int), .bool R, .slice (some ad) C.length c], 24) (by simp))
     have c11_3 := (plan_cells (HS.out.m.blk (g11, #[.int .i64 (W : Int), .int .i64 (H : Int), .bool R, .slice (some ⟨gO, 0, none⟩) C.length cO], 24) (by simp))).2.2.2
     obtain ⟨x, hx⟩ : ∃ x, i % W = x := ⟨_, rfl⟩
     obtain ⟨y, hy⟩ : ∃ y, i / W = y := ⟨_, rfl⟩
     obtain ⟨cc, hcc⟩ : ∃ z, colOf W dx i = z := ⟨_, rfl⟩
     obtain ⟨ll, hll⟩ : ∃ z, linOf W dy i = z := ⟨_, rfl⟩
     have m1 : Int.tmod (i : Int) (W : Int) = (x : Int) := by rw [Int.tmod_eq_emod_of_nonneg (by omega), ← Int.natCast_emod, hx]
     have m2 : Int.tdiv (i : Int) (W : Int) = (y : Int) := by rw [Int.tdiv_eq_ediv_of_nonneg (by omega), ← Int.natCast_ediv, hy]
     have m3 : (i : Int) % (W : Int) = (x : Int) := by rw [← Int.natCast_emod, hx]
     have m4 : (i : Int) / (W : Int) = (y : Int) := by rw [← Int.natCast_ediv, hy]
     have m5 : ((W : Int) == 0) = false := beq_eq_false_iff_ne.mpr (by have := HN.out; omega)
     have m6 : decide ((W : Int) = 0) = false := decide_eq_false (by have := HN.out; omega)
     have m7 : (W : Int) ≠ 0 := by have := HN.out; omega
     have m8 : W ≠ 0 := by have := HN.out; omega
     have n1 : IntKind.i64.wrap ((x : Int) + dx) = cc := by rw [← hcc, ← hx]; exact i64_w _
     have n2 : IntKind.i64.wrap ((y : Int) + dy) = ll := by rw [← hll, ← hy]; exact i64_w _
     have n1' : wrap64 ((x : Int) + dx) = cc := by rw [← hcc, ← hx]; rfl
     have n2' : wrap64 ((y : Int) + dy) = ll := by rw [← hll, ← hy]; rfl
     have n3 : IntKind.i64.wrap (x : Int) = (x : Int) := IntWalk.i64_in _ (by have := Nat.mod_le i W; have := HI.out; have := HN.out; omega)
     have n4 : IntKind.i64.wrap (y : Int) = (y : Int) := IntWalk.i64_in _ (by have := Nat.div_le_self i W; have := HI.out; have := HN.out; omega)
     have HXY := Aside0.mk (And.intro hcc hll)
     clear hx hy hcc hll
     go_quiet (fail)
     clear m1 m2 m3 m4 m5 m6 m7 m8 n1 n2 n1' n2' n3 n4
     by_cases hf : 0 ≤ cc ∧ cc < W ∧ 0 ≤ ll ∧ ll < H
     case' pos =>
      have hfit : fitsB W H dx dy i = true := by unfold fitsB; rw [HXY.out.1, HXY.out.2]; exact decide_eq_true hf
      have HFIT : Aside0 (AllFit W H C e dx dy (i + 1)) := ⟨fun j hj hej => by
       by_cases q : j = i
       ·subst q; exact hfit
       ·exact HAF.out j (by omega) hej⟩
      obtain ⟨cn, hcn⟩ : ∃ n : Nat, cc = n := ⟨cc.toNat, by omega⟩
      obtain ⟨ln, hln⟩ : ∃ n : Nat, ll = n := ⟨ll.toNat, by omega⟩
      subst hcn hln
      have f1 : decide ((cn : Int) < 0) = false := decide_eq_false (by omega)
      have f2 : decide ((cn : Int) ≥ (W : Int)) = false := decide_eq_false (by omega)
      have f3 : decide ((ln : Int) < 0) = false := decide_eq_false (by omega)
      have f4 : decide ((ln : Int) ≥ (H : Int)) = false := decide_eq_false (by omega)
      have f5 : decide (W ≤ cn) = false := decide_eq_false (by omega)
      have f6 : decide (H ≤ ln) = false := decide_eq_false (by omega)
      have hT : tgt W dx dy i = ln * W + cn := by unfold tgt; rw [HXY.out.1, HXY.out.2]; rfl
      have hTl := tgt_lt hfit
      obtain ⟨m, hm⟩ : ∃ m, ln * W = m := ⟨_, rfl⟩
      obtain ⟨t, ht⟩ : ∃ t, m + cn = t := ⟨_, rfl⟩
      have u1 : IntKind.i64.wrap ((ln : Int) * (W : Int)) = (m : Int) := by rw [← Int.natCast_mul, hm]; exact IntWalk.i64_in _ (by rw [hT] at hTl; have := HN.out; omega)
      have u2 : IntKind.i64.wrap ((m : Int) + (cn : Int)) = (t : Int) := by rw [← Int.natCast_add, ht]; exact IntWalk.i64_in _ (by rw [hT] at hTl; have := HN.out; omega)
      have HT2 : Aside0 (tosTo W C e dx dy (i + 1) = tosTo W C e dx dy i ++ [(t : Int)]) := ⟨by rw [HTO.out, hT, hm, ht]⟩
      have HTL : Aside0 ((tosTo W C e dx dy i).length ≤ 256) := ⟨by have := tosTo_length W C e dx dy i; have := HI.out; have := HN.out; omega⟩
      clear hf hfit hT hTl hm ht HTO
      go_wp2_with (first
       | ((with_reducible refine gate_builtin (b := .append) (xs := #[.tmp 79, .tmp 86]) rfl ?_); at_builtin; refine Kd.R_append (Kd.int .i64) w.heap.size rfl (.tmp 79) (.tmp 86) 22 3 (.int .i64 0) 8 rfl Try.underlying22 info3 rfl (by decide) (by omega) vT (tosTo W C e dx dy i) (t : Int) [.int .i64 (t : Int)] (fun k => k ≠ gO) (fun _ => False) rfl rfl rfl (fun _ hk => hk.elim) (HS.out.step (pw_below_drewN (Below.refl _ _) _)).fresh (HS.out.step (pw_below_drewN (Below.refl _ _) _)).t (Below.refl _ _) (HS.out.step (pw_below_drewN (Below.refl _ _) _)).m.below.size (by have := HTL.out; omega) ?_; intro v1 wy ho hb hg hat; have HS2 := Aside0.mk ((HS.out.step (pw_below_drewN (Below.refl _ _) _)).app ho hg); rw [← HT2.out] at HS2; clear HS ho hb hg hat; have HS := HS2; clear HS2))
      go_roundg (C.length - (i + 1))
      case measure => have := HK.out; have := HI.out; omega
      case rel => exact ⟨i + 1, _, rfl, by first | exact congrArg _ b5 | go_num, ⟨by have := HK.out; have := HI.out; omega⟩, HFIT, HS⟩
     case' neg =>
      have hfit : fitsB W H dx dy i = false := by unfold fitsB; rw [HXY.out.1, HXY.out.2]; exact decide_eq_false hf
      have hu := unfit_at HI.out HE.out hfit
      have h := HH2.out
      rw [if_pos hu] at h
      simp only [Prod.mk.injEq] at h
      obtain ⟨rfl, rfl, rfl, rfl, rfl⟩ := h
      have hcs : decide (cc < 0) = true ∨ (decide (cc < 0) = false ∧ decide (cc ≥ (W : Int)) = true) ∨ (decide (cc < 0) = false ∧ decide (cc ≥ (W : Int)) = false ∧ decide (ll < 0) = true) ∨ (decide (cc < 0) = false ∧ decide (cc ≥ (W : Int)) = false ∧ decide (ll < 0) = false ∧ decide (ll ≥ (H : Int)) = true) := by
       by_cases q1 : cc < 0
       ·exact .inl (decide_eq_true q1)
       by_cases q2 : cc ≥ (W : Int)
       ·exact .inr (.inl ⟨decide_eq_false q1, decide_eq_true q2⟩)
       by_cases q3 : ll < 0
       ·exact .inr (.inr (.inl ⟨decide_eq_false q1, decide_eq_false q2, decide_eq_true q3⟩))
       exact .inr (.inr (.inr ⟨decide_eq_false q1, decide_eq_false q2, decide_eq_false q3, decide_eq_true (by omega)⟩))
      clear HH2 hu hfit hf HTO HAF HE
      rcases hcs with f1 | ⟨f1, f2⟩ | ⟨f1, f2, f3⟩ | ⟨f1, f2, f3, f4⟩
      all_goals
       go_wp2_with (first
        | ((with_reducible refine gate_store (t := 24) (p := 8) rfl ?_); refine ev_store ((HS.out.m.drewN _).swap) rfl 24 (.tmp 8) (.tmp 78) rfl rfl (cs := #[.int .i64 0, .int .i64 0, .bool false, .slice none 0 0]) rfl size24 rfl rfl (by simp [Value.oneCell']) ?_; intro wy hm1 hq1; have HM9 := Aside0.mk hm1; clear hm1 hq1 HS))
       (try simp only [Exit.inBlock, Exit.then])
       exact bodyPost_ret (results_ct rfl _ _ g8 24 #[.int .i64 0, .int .i64 0, .bool false, .slice none 0 0] (0, 0) _ rfl HM9.out.head Try.underlying24 rfl (by kernel_rfl)) rfl ⟨_, rfl, Kd.R_nil _ _ _ _ _, HM9.out.below⟩
    ·have HS2 : Aside0 (ShM w wr [(g11, #[.int .i64 (W : Int), .int .i64 (H : Int), .bool R, .slice (some ⟨gO, 0, none⟩) C.length cO], 24), (g8, #[.int .i64 0, .int .i64 0, .bool false, .slice none 0 0], 24), (g4, #[.int .i64 (W : Int), .int .i64 (H : Int), .bool R, .slice (some ad) C.length c], 24)] gO C.length cO (clearTo C e (i + 1)) vT (tosTo W C e dx dy (i + 1))) := ⟨by
      rw [clearTo, if_neg he, tosTo, if_neg he]; exact HS.out⟩
     have HAF2 : Aside0 (AllFit W H C e dx dy (i + 1)) := ⟨fun j hj hej => by
      by_cases q : j = i
      ·subst q; exact absurd hej he
      ·exact HAF.out j (by omega) hej⟩
     have d1 : (fn C i != e) = true := bne_iff_ne.mpr he
     clear he HS HAF
     go_wp2_with fail
     go_roundg (C.length - (i + 1))
     case measure => have := HK.out; have := HI.out; omega
     case rel => exact ⟨i + 1, _, rfl, by first | exact congrArg _ b5 | go_num, ⟨by have := HK.out; have := HI.out; omega⟩, HAF2, HS2⟩
   ·obtain rfl : i = C.length := by have := HK.out; omega
    have b1 : decide ((C.length : Int) < (C.length : Int)) = false := by simp
    have b2 : decide (C.length < C.length) = false := by simp
    have h := HH2.out
    rw [if_neg (by rw [unfit_none HAF.out]; simp)] at h
    unfold shOut at h
    have htr := fun t ht => tos_range HAF.out t ht
    have htl : (tosTo W C e dx dy C.length).length ≤ 256 := Nat.le_trans (tosTo_length _ _ _ _ _ _) HN.out.2.1
    have hcl : (clearTo C e C.length).length = C.length := clearTo_length _ _ _
    generalize clearTo C e C.length = Cl at h hcl HS
    generalize tosTo W C e dx dy C.length = tl at h htr htl HS
    obtain ⟨At, ct, ev⟩ := Kd.R_slice HS.out.t
    subst ev
    have HH3 := Aside0.mk h
    have HTR := Aside0.mk htr
    have HTL := Aside0.mk htl
    have HCL := Aside0.mk hcl
    clear h htr htl hcl HH2 HAF hi HK
    go_wp2_with fail
    go_loopg [91] tl.length (fun k v91 w' => ∃ (j : Nat), v91 = .int .i64 (j : Int) ∧ Aside0 (j + k = tl.length) ∧ Aside0 (∀ q, q < j → fn C (fn tl q).toNat = 0 ∨ fn C (fn tl q).toNat = e) ∧ Aside0 (ShM w w' [(g11, #[.int .i64 (W : Int), .int .i64 (H : Int), .bool R, .slice (some ⟨gO, 0, none⟩) C.length cO], 24), (g8, #[.int .i64 0, .int .i64 0, .bool false, .slice none 0 0], 24), (g4, #[.int .i64 (W : Int), .int .i64 (H : Int), .bool R, .slice (some ad) C.length c], 24)] gO C.length cO (putTo tl e Cl j) (.slice At tl.length ct) tl))
    case atStart => exact ⟨0, by go_num, ⟨by omega⟩, ⟨fun q hq => absurd hq (by omega)⟩, HS⟩
    case round =>
     clear HS b1 b2 c4_0 c4_1 c4_2 c4_3 c11_3
     obtain ⟨j, rfl, HK, HNT, HS⟩ := hrel
     obtain ⟨c4_0, c4_1, c4_2, c4_3⟩ := plan_cells (HS.out.m.blk (g4, #[.int .i64 (W : Int), .int .i64 (H : Int), .bool R, .slice (some ad) C.length c], 24) (by simp))
     have c11_3 := (plan_cells (HS.out.m.blk (g11, #[.int .i64 (W : Int), .int .i64 (H : Int), .bool R, .slice (some ⟨gO, 0, none⟩) C.length cO], 24) (by simp))).2.2.2
     by_cases hj : j < tl.length
     ·have HJ := Aside0.mk hj
      have b1 : decide ((j : Int) < (tl.length : Int)) = true := by simp; omega
      have b2 : decide (j < tl.length) = true := by simp; omega
      have b3 : (0 : Int) ≤ (j : Int) := by omega
      have b4 : (j : Int) < (tl.length : Int) := by omega
      have b5 : wrap64 ((j : Int) + 1) = ((j + 1 : Nat) : Int) := by rw [IntWalk.wrap64_in _ (by have := HTL.out; omega)]; omega
      obtain ⟨t, ht, htw⟩ := HTR.out _ (fn_mem hj)
      obtain ⟨gt, hAt⟩ : ∃ gt, At = some ⟨gt, 0, none⟩ := by
       obtain ⟨gt, c', ev, -, -, -⟩ := Kd.R_form HS.out.t (by omega)
       injection ev with ev1 ev2 ev3
       exact ⟨gt, ev1⟩
      subst hAt
      have cT : wr.cell? ⟨gt, j, none⟩ = some (.int .i64 (t : Int)) := by
       have h1 := (Kd.R_celln (enc := Value.int .i64) (h1 := fun _ => rfl) (0 : Int) HS.out.t (j : Int) (by omega) (by omega)).1
       rw [Int.toNat_natCast] at h1
       rw [h1, ← ht]
       unfold fn
       simp [rdOf]
      have htc : t < C.length := by have := HN.out; omega
      have hft : (fn tl j).toNat = t := by rw [ht]; rfl
      have cC := HCW.out _ HS.out.m.below t htc
      obtain ⟨cX, fX⟩ := HS.out.cell htc
      have HPT : Aside0 (putTo tl e Cl (j + 1) = (putTo tl e Cl j).set t e) := ⟨by rw [putTo, hft]⟩
      have HFT := Aside0.mk hft
      have t1 : (0 : Int) ≤ (t : Int) := by omega
      have t2 : (t : Int) < (C.length : Int) := by omega
      have t3 : decide ((t : Int) < (C.length : Int)) = true := by simp; omega
      have t4 : decide (t < C.length) = true := by simp; omega
      generalize hx : fn C t = x at cC
      have HX := Aside0.mk hx
      clear hj ht htw htc hft hx
      by_cases hk : x ≠ 0 ∧ x ≠ e
      ·have h := HH3.out
       rw [if_pos (taken_at HJ.out (by rw [HFT.out, HX.out]; exact hk.1) (by rw [HFT.out, HX.out]; exact hk.2))] at h
       simp only [Prod.mk.injEq] at h
       obtain ⟨rfl, rfl, rfl, rfl, rfl⟩ := h
       have n1 : (x != 0) = true := bne_iff_ne.mpr hk.1
       have n2 : (x != e) = true := bne_iff_ne.mpr hk.2
       clear hk HH3 HTR HNT HPT cX fX
       go_wp2_with (first
        | ((with_reducible refine gate_store (t := 24) (p := 8) rfl ?_); refine ev_store (HS.out.m.swap) rfl 24 (.tmp 8) (.tmp 110) rfl rfl (cs := #[.int .i64 0, .int .i64 0, .bool false, .slice none 0 0]) rfl size24 rfl rfl (by simp [Value.oneCell']) ?_; intro wy hm1 hq1; have HM9 := Aside0.mk hm1; clear hm1 hq1 HS))
       (try simp only [Exit.inBlock, Exit.then])
       exact bodyPost_ret (results_ct rfl _ _ g8 24 #[.int .i64 0, .int .i64 0, .bool false, .slice none 0 0] (0, 0) _ rfl HM9.out.head Try.underlying24 rfl (by kernel_rfl)) rfl ⟨_, rfl, Kd.R_nil _ _ _ _ _, HM9.out.below⟩
      ·have HNT2 : Aside0 (∀ q, q < j + 1 → fn C (fn tl q).toNat = 0 ∨ fn C (fn tl q).toNat = e) := ⟨fun q hq => by
        by_cases z : q = j
        ·subst z
         rw [HFT.out, HX.out]
         by_cases z1 : x = 0
         ·exact .inl z1
         ·exact .inr (Classical.byContradiction fun z2 => hk ⟨z1, z2⟩)
        ·exact HNT.out q (by omega)⟩
       have n12 : (x != 0) = false ∨ ((x != 0) = true ∧ (x != e) = false) := by
        by_cases z1 : x = 0
        ·exact .inl (bne_eq_false_iff_eq.mpr z1)
        ·exact .inr ⟨bne_iff_ne.mpr z1, bne_eq_false_iff_eq.mpr (Classical.byContradiction fun z2 => hk ⟨z1, z2⟩)⟩
       have HS2 := Aside0.mk (HS.out.put t e)
       rw [← HPT.out] at HS2
       clear hk HNT HPT HTR
       rcases n12 with n1 | ⟨n1, n2⟩
       all_goals
        go_wp2_with fail
        go_roundg (tl.length - (j + 1))
        case measure => have := HK.out; have := HJ.out; omega
        case rel => exact ⟨j + 1, by first | exact congrArg _ b5 | go_num, ⟨by have := HK.out; have := HJ.out; omega⟩, HNT2, HS2⟩
     ·obtain rfl : j = tl.length := by have := HK.out; omega
      have b1 : decide ((tl.length : Int) < (tl.length : Int)) = false := by simp
      have b2 : decide (tl.length < tl.length) = false := by simp
      have h := HH3.out
      rw [if_neg (by rw [taken_none HNT.out]; simp)] at h
      have hol : (putTo tl e Cl tl.length).length = C.length := by rw [putTo_length]; exact HCL.out
      generalize putTo tl e Cl tl.length = out at h hol HS
      have HH4 := Aside0.mk h
      have HOL := Aside0.mk hol
      have HRO := Aside0.mk (Kd.R_reads' HS.out.o)
      clear h hol HH3 HNT HTR hj c4_0 c4_1 c4_2 c4_3 c11_3
      obtain ⟨ce, hce⟩ : ∃ z, checkErr W H R out = z := ⟨_, rfl⟩
      have HCE := Aside0.mk hce
      clear hce
      go_upto_region 26 with (first
       | ((with_reducible refine gate_dst (N := 117) rfl ?_); refine ev_load HS.out.m.head rfl 24 (.tmp 11) rfl rfl _ Try.underlying24 rfl size24 rfl ?_)
       | (go_at_call 39; refine (check_at W H R (some ⟨gO, 0, none⟩) cO C.length out ce _ HOL.out HRO.out.2.2 HRO.out.2.1 HCE.out).mono ?_; rintro e1 wv ⟨rfl, hb⟩; have HS2 := Aside0.mk (HS.out.step hb); clear hb HS; have HS := HS2; clear HS2))
      have h := HH4.out
      rw [HCE.out] at h
      clear HH4
      by_cases g0 : ce = 0
      ·rw [if_neg (show ¬ ce ≠ 0 from fun f => f g0)] at h
       simp only [Prod.mk.injEq] at h
       obtain ⟨rfl, rfl, rfl, rfl, rfl⟩ := h
       subst g0
       have g2 : ((0 : Int) != 0) = false := rfl
       obtain ⟨cur, hme⟩ := HS.out.memo (by rw [HOL.out]; exact HN.out.2.2.1)
       have HM8 := Aside0.mk hme
       clear hme
       go_wp2_with (first
        | ((with_reducible refine gate_dst (N := 123) rfl ?_); refine ev_load HS.out.m.head rfl 24 (.tmp 11) rfl rfl _ Try.underlying24 rfl size24 rfl ?_)
        | ((with_reducible refine gate_store (t := 24) (p := 8) rfl ?_); refine ev_store HM8.out.third3 rfl 24 (.tmp 8) (.tmp 123) rfl rfl (cs := #[.int .i64 (W : Int), .int .i64 (H : Int), .bool R, .slice (some ⟨gO, 0, none⟩) C.length cO]) rfl size24 rfl rfl (by simp [Value.oneCell']) ?_; intro wy hm1 hq1; have HM9 := Aside0.mk hm1; have HRF := Aside0.mk (R_same HS.out.o (hm1.second.trans HM8.out.head.symm)); clear hm1 hq1 HS HM8))
       (try simp only [Exit.inBlock, Exit.then])
       exact bodyPost_ret (results_ct rfl _ _ g8 24 #[.int .i64 (W : Int), .int .i64 (H : Int), .bool R, .slice (some ⟨gO, 0, none⟩) C.length cO] (0, 0) _ rfl HM9.out.head Try.underlying24 rfl (by kernel_rfl)) rfl ⟨_, rfl, HRF.out, HM9.out.below⟩
      ·rw [if_pos g0] at h
       simp only [Prod.mk.injEq] at h
       obtain ⟨rfl, rfl, rfl, rfl, rfl⟩ := h
       have g2 : (ce != 0) = true := bne_iff_ne.mpr g0
       clear g0
       go_wp2_with (first
        | ((with_reducible refine gate_store (t := 24) (p := 8) rfl ?_); refine ev_store (HS.out.m.swap) rfl 24 (.tmp 8) (.tmp 121) rfl rfl (cs := #[.int .i64 0, .int .i64 0, .bool false, .slice none 0 0]) rfl size24 rfl rfl (by simp [Value.oneCell']) ?_; intro wy hm1 hq1; have HM9 := Aside0.mk hm1; clear hm1 hq1 HS))
       (try simp only [Exit.inBlock, Exit.then])
       exact bodyPost_ret (results_ct rfl _ _ g8 24 #[.int .i64 0, .int .i64 0, .bool false, .slice none 0 0] (0, 0) _ rfl HM9.out.head Try.underlying24 rfl (by kernel_rfl)) rfl ⟨_, rfl, Kd.R_nil _ _ _ _ _, HM9.out.below⟩
theorem Ev.uniq {α : Type} {f : Nat → Option α} {r r' : α} (h : Ev f r) (h' : Ev f r') : r = r' := by
 obtain ⟨K, h⟩ := h
 obtain ⟨K', h'⟩ := h'
 have h1 := h (K + K') (by omega)
 rw [h' (K + K') (by omega)] at h1
 exact (Option.some.inj h1).symm
open Classical in
noncomputable def ampE (W H : Int) (R : Bool) (C : List Int) (n k g a : Int) : Int × Int × Int := if h : ∃ r, Ev (fun f => field_Amplification.f f W H R C n k g a) r then Classical.choose h else (0, 0, 0)
theorem ampE_ev (W H : Int) (R : Bool) (C : List Int) (n k g a : Int) (hC : C.length ≤ 1000) : Ev (fun f => field_Amplification.f f W H R C n k g a) (ampE W H R C n k g a) := by
 obtain ⟨x1, x2, x3, h, _⟩ := amp_both W H R C n k g a hC
 have hE : ∃ r, Ev (fun f => field_Amplification.f f W H R C n k g a) r := ⟨_, h⟩
 unfold ampE
 rw [dif_pos hE]
 exact Classical.choose_spec hE
theorem refampE_ev (W H : Int) (R : Bool) (C : List Int) (n k g a : Int) (hC : C.length ≤ 1000) : Ev (fun f => thermionref01_Amplification.f f W H R C n k g a) (ampE W H R C n k g a) := by
 obtain ⟨x1, x2, x3, h, h'⟩ := amp_both W H R C n k g a hC
 rw [← h.uniq (ampE_ev W H R C n k g a hC)]
 exact h'
def ways : List (Int × Int) := [(1, 0), (-1, 0), (0, 1), (0, -1)]
noncomputable def playStep (W H : Int) (R : Bool) (C : List Int) (n k g a : Int) (r : Int × Int × Int) (acc : Int) (d : Int × Int) : Int :=
 if (shiftE W H R C g d.1 d.2).2.2.2.2 ≠ 0 then acc else
 if (ampE (shiftE W H R C g d.1 d.2).1 (shiftE W H R C g d.1 d.2).2.1 (shiftE W H R C g d.1 d.2).2.2.1 (shiftE W H R C g d.1 d.2).2.2.2.1 n k g a).2.2 = 0 then
  mx (mx acc (wrap64 ((ampE (shiftE W H R C g d.1 d.2).1 (shiftE W H R C g d.1 d.2).2.1 (shiftE W H R C g d.1 d.2).2.2.1 (shiftE W H R C g d.1 d.2).2.2.2.1 n k g a).2.1 - r.1)))
   (wrap64 (r.2.1 - (ampE (shiftE W H R C g d.1 d.2).1 (shiftE W H R C g d.1 d.2).2.1 (shiftE W H R C g d.1 d.2).2.2.1 (shiftE W H R C g d.1 d.2).2.2.2.1 n k g a).1)) else acc
noncomputable def playE (W H : Int) (R : Bool) (C : List Int) (n k g a : Int) : Int × Int :=
 if (ampE W H R C n k g a).2.2 ≠ 0 then (0, (ampE W H R C n k g a).2.2) else (ways.foldl (playStep W H R C n k g a (ampE W H R C n k g a)) 0, 0)
theorem step_skip {W H : Int} {R : Bool} {C : List Int} {n k g a : Int} {r : Int × Int × Int} {acc : Int} {d : Int × Int} {q1 q2 : Int} {q3 : Bool} {q4 : List Int} {q5 : Int} (h : shiftE W H R C g d.1 d.2 = (q1, q2, q3, q4, q5)) (hq : q5 ≠ 0) : playStep W H R C n k g a r acc d = acc := by
 unfold playStep
 rw [h, if_pos hq]
theorem step_take {W H : Int} {R : Bool} {C : List Int} {n k g a : Int} {r : Int × Int × Int} {acc : Int} {d : Int × Int} {q1 q2 : Int} {q3 : Bool} {q4 : List Int} {s1 s2 s3 : Int} (h : shiftE W H R C g d.1 d.2 = (q1, q2, q3, q4, 0)) (hs : ampE q1 q2 q3 q4 n k g a = (s1, s2, s3)) :
  playStep W H R C n k g a r acc d = if s3 = 0 then mx (mx acc (wrap64 (s2 - r.1))) (wrap64 (r.2.1 - s1)) else acc := by
 unfold playStep
 rw [h, if_neg (by simp), hs]
theorem shiftE_len {W H : Int} {R : Bool} {C : List Int} {e dx dy q1 q2 : Int} {q3 : Bool} {q4 : List Int} {q5 : Int} (h : shiftE W H R C e dx dy = (q1, q2, q3, q4, q5)) : q4.length ≤ C.length := by
 unfold shiftE at h
 repeat' split at h
 all_goals
  simp only [Prod.mk.injEq] at h
  rw [← h.2.2.2.1]
  try simp
 rw [shOut, putTo_length, clearTo_length]
 exact Nat.le_refl _
theorem info42_ : (Try.prog.info? 42).map (fun i => (i.zero, i.size, i.bytes)) = some (some (.agg #[(.int .i64 0), (.int .i64 0)]), 2, 16) := by kernel_rfl
theorem size42_ : (Try.prog.info? 42).map (·.size) = some 2 := by kernel_rfl
theorem info108_ : (Try.prog.info? 108).map (fun i => (i.zero, i.size, i.bytes)) = some (some (.agg #[(.int .i64 0), (.int .i64 0)]), 2, 16) := by kernel_rfl
theorem size108_ : (Try.prog.info? 108).map (·.size) = some 2 := by kernel_rfl
theorem way_at (i : Nat) (hi : i < 4) (w : World) : (Instr.index 109 (.agg #[.int .i64 1, .int .i64 0, .int .i64 (-1), .int .i64 0, .int .i64 0, .int .i64 1, .int .i64 0, .int .i64 (-1)]) (.int .i64 (i : Int))).run Try.prog w = .ok (.agg #[.int .i64 (ways.getD i (0, 0)).1, .int .i64 (ways.getD i (0, 0)).2]) w := by
 have hu := Try.underlying109
 have hu8 := Try.underlying108
 have hagg : (isAgg 108).run Try.prog w = .ok true w := by
  unfold isAgg
  rw [Sem.run_bind, run_underlying hu8 w]
  rfl
 cases hq : Try.prog.info? 108 with
 | none =>
  have h := size108_
  rw [hq] at h
  simp at h
 | some ie =>
  have hs : ie.size = 2 := by
   have h := size108_
   rw [hq] at h
   simpa using h
  rcases (show i = 0 ∨ i = 1 ∨ i = 2 ∨ i = 3 by omega) with rfl | rfl | rfl | rfl <;> simp [Instr.index, asIntOf, Sem.run_bind, run_underlying hu w, sizeOf, typeInfo, hq, hs, part, hagg, ways]
end Go.Proofs.Ytndkkjpgnmahbaa.Print
end

section
namespace Go.Proofs.Ytndkkjpgnmahbaa.Print
open Go.RowKit YtndkkjpgnmahbaaW.PrintWords YtndkkjpgnmahbaaW.PrintLast YtndkkjpgnmahbaaW.PrintMore Ytndkkjpgnmahbaa.H Proofs.Field
attribute [local go_sem] max2_int min2_int max_two min_two max_three min_three max_four min_four
theorem field_Play.calls (W H : Int) (R : Bool) (A : Option Addr) (c : Nat) (C : List Int) (n k0 g0 a0 r1 r2 : Int) (w : World) (hr : Kd.C (Kd.int .i64) w A C.length C) (hc : C.length ≤ c) (hl : C.length ≤ 1000) (h : playE W H R C n k0 g0 a0 = (r1, r2)) :
  Calls Try.prog 61 #[.agg (planV W H R A C.length c), .int .i64 n, .int .i64 k0, .int .i64 g0, .int .i64 a0] w fun e w' => e = .returned (.tuple #[.int .i64 r1, .int .i64 r2]) ∧ Below w.heap.size w w' := by
 unfold playE at h
 have HAE : Aside0 (∀ q1 q2 q3 (q4 : List Int), q4.length ≤ C.length → Ev (fun f => field_Amplification.f f q1 q2 q3 q4 n k0 g0 a0) (ampE q1 q2 q3 q4 n k0 g0 a0)) := ⟨fun q1 q2 q3 q4 hq => ampE_ev q1 q2 q3 q4 n k0 g0 a0 (by omega)⟩
 obtain ⟨K, hK⟩ := HAE.out W H R C (Nat.le_refl _)
 have hK1 := hK K (Nat.le_refl _)
 generalize hx : ampE W H R C n k0 g0 a0 = x at h hK1
 obtain ⟨x1, x2, x3⟩ := x
 have HX := Aside0.mk hK1
 have HM := Aside0.mk (Mem.start w)
 have HR := Aside0.mk hr
 have HC := Aside0.mk hc
 have HL := Aside0.mk hl
 have HH := Aside0.mk h
 have hu24 := Try.underlying24
 have hu42 := Try.underlying42
 have hu108 := Try.underlying108
 have hu109 := Try.underlying109
 clear hr hc hl h hK hK1 hx
 go_enter Try.func61, Try.ntmps61
 go_upto_region 2 with (first
  | ((with_reducible refine gate_dst (N := 5) rfl ?_); refine ev_box HM.out rfl 24 (.tmp 0) rfl (cs := #[.int .i64 W, .int .i64 H, .bool R, .slice A C.length c]) rfl ?_; intro g5 w1 hm1 hq1; have HM1 := Aside0.mk hm1; clear hm1 hq1 HM)
  | ((with_reducible refine gate_dst (N := 22) rfl ?_); refine ev_load (HM1.out.head) rfl 24 (.tmp 5) rfl rfl _ Try.underlying24 rfl size24 rfl ?_)
  | (go_at_call 56; (with_reducible refine (field_Amplification.calls K W H R A c C n k0 g0 a0 x1 x2 x3 _ (Kd.C_below HR.out HM1.out.below) HC.out HX.out).mono ?_); rintro e2 w2 ⟨rfl, hb⟩; have HM2 := Aside0.mk (HM1.out.step hb); clear hb HM1 )
  | ((with_reducible refine gate_dst (N := 12) rfl ?_); refine ev_new HM2.out rfl 42 rfl info42_ ?_; intro g12 w3 hm1 hq1; have HM3 := Aside0.mk hm1; clear hm1 hq1 HM2)
  | ((with_reducible refine gate_store (t := 42) (p := 12) rfl ?_); refine ev_store HM3.out rfl 42 (.tmp 12) (.tmp 28) rfl rfl (cs := #[.int .i64 x1, .int .i64 x2]) rfl size42_ rfl rfl (by simp [Value.oneCell']) ?_; intro w4 hm1 hq1; have HM4 := Aside0.mk hm1; clear hm1 hq1 HM3))
 have h := HH.out
 clear HH
 by_cases g1 : x3 = 0
 rotate_left
 ·rw [if_pos g1] at h
  simp only [Prod.mk.injEq] at h
  obtain ⟨rfl, rfl⟩ := h
  have g2 : (x3 != 0) = true := bne_iff_ne.mpr g1
  go_wp2
  go_ret2
  exact ⟨rfl, HM4.out.below⟩
 ·rw [if_neg (show ¬ x3 ≠ 0 from fun f => f g1)] at h
  simp only [Prod.mk.injEq] at h
  obtain ⟨e1, rfl⟩ := h
  subst g1
  have HE := Aside0.mk e1
  have g2 : ((0 : Int) != 0) = false := rfl
  clear e1
  go_wp2_with fail
  go_loopg [14, 38] 4 (fun k v14 v38 w' => ∃ (i : Nat) (acc : Int), v14 = .int .i64 acc ∧ v38 = .int .i64 (i : Int) ∧ Aside0 (i + k = 4) ∧ Aside0 (acc = (ways.take i).foldl (playStep W H R C n k0 g0 a0 (x1, x2, 0)) 0) ∧ Aside0 (Mem w w' [(g12, #[.int .i64 x1, .int .i64 x2], 42), (g5, #[.int .i64 W, .int .i64 H, .bool R, .slice A C.length c], 24)]))
  case atStart => exact ⟨0, 0, rfl, by go_num, ⟨by omega⟩, ⟨rfl⟩, HM4⟩
  case round =>
   clear HM4
   obtain ⟨i, acc, rfl, rfl, HK, HAC, HM⟩ := hrel
   by_cases hi : i < 4
   ·have HI := Aside0.mk hi
    have b1 : decide ((i : Int) < 4) = true := by simp; omega
    have b2 : decide (i < 4) = true := by simp; omega
    have b3 : (0 : Int) ≤ (i : Int) := by omega
    have b4 : (i : Int) < 4 := by omega
    have b5 : wrap64 ((i : Int) + 1) = ((i + 1 : Nat) : Int) := by rw [IntWalk.wrap64_in _ (by omega)]; omega
    have hway := fun V => way_at i hi V
    have HAC2 : Aside0 ((ways.take (i + 1)).foldl (playStep W H R C n k0 g0 a0 (x1, x2, 0)) 0 = playStep W H R C n k0 g0 a0 (x1, x2, 0) acc (ways.getD i (0, 0))) := ⟨by
     have h4 : i < ways.length := hi
     rw [List.take_succ_eq_append_getElem h4, List.foldl_append, ← HAC.out, List.getD_eq_getElem?_getD, List.getElem?_eq_getElem h4]
     rfl⟩
    generalize ways.getD i (0, 0) = d at hway HAC2
    obtain ⟨dx, dy⟩ := d
    dsimp only at hway
    generalize hq : shiftE W H R C g0 dx dy = q
    obtain ⟨q1, q2, q3, q4, q5⟩ := q
    have HQ := Aside0.mk hq
    have HQL := Aside0.mk (shiftE_len hq)
    obtain ⟨Ks, hKs⟩ := HAE.out q1 q2 q3 q4 HQL.out
    have hKs1 := hKs Ks (Nat.le_refl _)
    generalize hs : ampE q1 q2 q3 q4 n k0 g0 a0 = s at hKs1
    obtain ⟨s1, s2, s3⟩ := s
    have HSA := Aside0.mk hKs1
    have HSE := Aside0.mk hs
    clear hq hKs hKs1 hs hi HAC
    go_upto_region 8 with (first
     | ((with_reducible refine gate_dst (N := 16) rfl ?_); refine ev_new HM.out rfl 108 rfl info108_ ?_; intro g16 w21 hm1 hq1; have HM21 := Aside0.mk hm1; clear hm1 hq1 HM)
     | ((with_reducible refine gate_store (t := 108) (p := 16) rfl ?_); refine ev_store HM21.out rfl 108 (.tmp 16) (.tmp 40) rfl rfl (cs := #[.int .i64 dx, .int .i64 dy]) rfl size108_ rfl rfl (by simp [Value.oneCell']) ?_; intro w22 hm1 hq1; have HM22 := Aside0.mk hm1; clear hm1 hq1 HM21; obtain ⟨c16_0, c16_1⟩ := pair_cells HM22.out.head rfl rfl))
    clear hway
    go_upto_region 9 with (first
     | ((with_reducible refine gate_dst (N := 42) rfl ?_); refine ev_load (HM22.out.third) rfl 24 (.tmp 5) rfl rfl _ Try.underlying24 rfl size24 rfl ?_)
     | (go_at_call 58; (with_reducible refine (field_Shift.calls W H R A c C g0 dx dy q1 q2 q3 q4 q5 _ (Kd.C_below HR.out HM22.out.below) HC.out HL.out HQ.out).mono ?_); rintro e23 w23 ⟨vq, rfl, hR, hb⟩; obtain ⟨Aq, cq, eq⟩ := Kd.R_slice hR; subst eq; have hr1 := Kd.R_reads' hR; have HRQ := Aside0.mk (And.intro hr1.2.2 hr1.2.1); have HM23 := Aside0.mk (HM22.out.step hb); clear hb hR hr1 HM22 )
     | ((with_reducible refine gate_dst (N := 17) rfl ?_); refine ev_new (Mem.start w23) rfl 24 rfl info24 ?_; intro g17 w24 hm1 hq1; have HX := Aside0.mk hm1; clear hm1 hq1)
     | ((with_reducible refine gate_store (t := 24) (p := 17) rfl ?_); refine ev_store HX.out rfl 24 (.tmp 17) (.tmp 49) rfl rfl (cs := #[.int .i64 q1, .int .i64 q2, .bool q3, .slice Aq q4.length cq]) rfl size24 rfl rfl (by simp [Value.oneCell']) ?_; intro w25 hm1 hq1; have HM25 := Aside0.mk (mem_join HM23.out hm1); have HRQ2 := Aside0.mk (And.intro (Kd.C_below HRQ.out.1 hm1.below) HRQ.out.2); clear hm1 hq1 HX HRQ HM23))
    by_cases g3 : q5 = 0
    rotate_left
    ·have g4 : (q5 != 0) = true := bne_iff_ne.mpr g3
     have HAC3 : Aside0 (acc = (ways.take (i + 1)).foldl (playStep W H R C n k0 g0 a0 (x1, x2, 0)) 0) := ⟨by rw [HAC2.out, step_skip (d := (dx, dy)) HQ.out g3]⟩
     clear g3 c16_0 c16_1
     go_wp2_with fail
     go_roundg (4 - (i + 1))
     case measure => have := HK.out; have := HI.out; omega
     case rel => exact ⟨i + 1, acc, rfl, by first | exact congrArg _ b5 | go_num, ⟨by have := HK.out; have := HI.out; omega⟩, HAC3, ⟨HM25.out.drop.drop⟩⟩
    ·subst g3
     have g4 : ((0 : Int) != 0) = false := rfl
     have HST := Aside0.mk (step_take (d := (dx, dy)) (acc := acc) (r := (x1, x2, 0)) HQ.out HSE.out)
     clear c16_0 c16_1
     go_upto_region 11 with (first
      | ((with_reducible refine gate_dst (N := 54) rfl ?_); refine ev_load (HM25.out.head) rfl 24 (.tmp 17) rfl rfl _ Try.underlying24 rfl size24 rfl ?_)
      | (go_at_call 56; (with_reducible refine (field_Amplification.calls Ks q1 q2 q3 Aq cq q4 n k0 g0 a0 s1 s2 s3 _ HRQ2.out.1 HRQ2.out.2 HSA.out).mono ?_); rintro e26 w26 ⟨rfl, hb⟩; have HM26 := Aside0.mk (HM25.out.step hb); clear hb HM25 HRQ2)
      | ((with_reducible refine gate_dst (N := 19) rfl ?_); refine ev_new HM26.out rfl 42 rfl info42_ ?_; intro g19 w27 hm1 hq1; have HM27 := Aside0.mk hm1; clear hm1 hq1 HM26)
      | ((with_reducible refine gate_store (t := 42) (p := 19) rfl ?_); refine ev_store HM27.out rfl 42 (.tmp 19) (.tmp 60) rfl rfl (cs := #[.int .i64 s1, .int .i64 s2]) rfl size42_ rfl rfl (by simp [Value.oneCell']) ?_; intro w28 hm1 hq1; have HM28 := Aside0.mk hm1; clear hm1 hq1 HM27))
     by_cases g5 : s3 = 0
     ·subst g5
      have g6 : ((0 : Int) == 0) = true := rfl
      have HAC3 : Aside0 (mx (mx acc (wrap64 (s2 - x1))) (wrap64 (x2 - s1)) = (ways.take (i + 1)).foldl (playStep W H R C n k0 g0 a0 (x1, x2, 0)) 0) := ⟨by rw [HAC2.out, HST.out, if_pos rfl]⟩
      obtain ⟨c19_0, c19_1⟩ := pair_cells HM28.out.head rfl rfl
      obtain ⟨c12_0, c12_1⟩ := pair_cells HM28.out.blk4 rfl rfl
      obtain ⟨y1, hy1⟩ : ∃ y, IntKind.i64.wrap (s2 - x1) = y := ⟨_, rfl⟩
      obtain ⟨y2, hy2⟩ : ∃ y, IntKind.i64.wrap (x2 - s1) = y := ⟨_, rfl⟩
      obtain ⟨z1, hz1⟩ : ∃ z, (if acc < y1 then y1 else acc) = z := ⟨_, rfl⟩
      obtain ⟨z2, hz2⟩ : ∃ z, (if z1 < y2 then y2 else z1) = z := ⟨_, rfl⟩
      have HAC4 : Aside0 (z2 = (ways.take (i + 1)).foldl (playStep W H R C n k0 g0 a0 (x1, x2, 0)) 0) := ⟨by
       rw [← HAC3.out, ← hz2, ← hz1, ← hy1, ← hy2, i64_w, i64_w]
       rfl⟩
      clear HAC3 HST HAC2
      go_wp2_with fail
      go_roundg (4 - (i + 1))
      case measure => have := HK.out; have := HI.out; omega
      case rel => exact ⟨i + 1, z2, rfl, by first | exact congrArg _ b5 | go_num, ⟨by have := HK.out; have := HI.out; omega⟩, HAC4, ⟨HM28.out.drop.drop.drop⟩⟩
     ·have g6 : (s3 == 0) = false := beq_eq_false_iff_ne.mpr g5
      have HAC3 : Aside0 (acc = (ways.take (i + 1)).foldl (playStep W H R C n k0 g0 a0 (x1, x2, 0)) 0) := ⟨by rw [HAC2.out, HST.out, if_neg g5]⟩
      clear g5
      go_wp2_with fail
      go_roundg (4 - (i + 1))
      case measure => have := HK.out; have := HI.out; omega
      case rel => exact ⟨i + 1, acc, rfl, by first | exact congrArg _ b5 | go_num, ⟨by have := HK.out; have := HI.out; omega⟩, HAC3, ⟨HM28.out.drop.drop.drop⟩⟩
   ·obtain rfl : i = 4 := by have := HK.out; omega
    have b1 : decide (((4 : Nat) : Int) < 4) = false := by simp
    obtain rfl : acc = r1 := by rw [HAC.out, ← HE.out]; rfl
    go_wp2
    go_ret2
    exact ⟨rfl, HM.out.below⟩

end Go.Proofs.Ytndkkjpgnmahbaa.Print
end

section
namespace Go.Proofs.Field
open Go.RowKit YtndkkjpgnmahbaaW.PrintWords YtndkkjpgnmahbaaW.PrintLast YtndkkjpgnmahbaaW.PrintMore Go.Proofs.Ytndkkjpgnmahbaa.Print
theorem fn_clear (C : List Int) (e : Int) (j : Nat) : ∀ n, n ≤ C.length → fn (clearTo C e n) j = if j < n ∧ fn C j = e then 0 else fn C j
 | 0, _ => by rw [clearTo, if_neg (by omega)]
 | n + 1, h => by
  have ih := fn_clear C e j n (by omega)
  rw [clearTo]
  by_cases q : fn C n = e
  ·rw [if_pos q, fn_set (by rw [clearTo_length]; omega), ih]
   by_cases p : j = n
   ·subst p; rw [if_pos rfl, if_pos ⟨by omega, q⟩]
   ·rw [if_neg p]
    by_cases r : j < n ∧ fn C j = e
    ·rw [if_pos r, if_pos ⟨by omega, r.2⟩]
    ·rw [if_neg r, if_neg (fun x => r ⟨by omega, x.2⟩)]
  ·rw [if_neg q, ih]
   by_cases r : j < n ∧ fn C j = e
   ·rw [if_pos r, if_pos ⟨by omega, r.2⟩]
   ·rw [if_neg r, if_neg (fun x => r ⟨by
     by_cases p : j = n
     ·subst p; exact absurd x.2 q
     ·omega, x.2⟩)]
open Classical in
theorem fn_put (l : List Int) (e : Int) (out : List Int) (j : Nat) : ∀ n, n ≤ l.length → (∀ q, q < n → (fn l q).toNat < out.length) → fn (putTo l e out n) j = if ∃ q, q < n ∧ (fn l q).toNat = j then e else fn out j
 | 0, _, _ => by rw [putTo, if_neg (by rintro ⟨q, h, _⟩; omega)]
 | n + 1, h, hr => by
  have ih := fn_put l e out j n (by omega) (fun q hq => hr q (by omega))
  rw [putTo, fn_set (by rw [putTo_length]; exact hr n (by omega)), ih]
  by_cases p : j = (fn l n).toNat
  ·rw [if_pos p, if_pos ⟨n, by omega, p.symm⟩]
  ·rw [if_neg p]
   by_cases r : ∃ q, q < n ∧ (fn l q).toNat = j
   ·obtain ⟨q, h1, h2⟩ := r
    rw [if_pos ⟨q, h1, h2⟩, if_pos ⟨q, by omega, h2⟩]
   ·rw [if_neg r, if_neg]
    rintro ⟨q, h1, h2⟩
    by_cases s : q = n
    ·subst s; exact p h2.symm
    ·exact r ⟨q, by omega, h2⟩
end Go.Proofs.Field
end

section
namespace Go.Proofs.Field
open Go.RowKit YtndkkjpgnmahbaaW.PrintWords YtndkkjpgnmahbaaW.PrintLast YtndkkjpgnmahbaaW.PrintMore Go.Proofs.Ytndkkjpgnmahbaa.Print
def refOut (W : Nat) (C : List Int) (e dx dy : Int) : Nat → List Int
 | 0 => clearTo C e C.length
 | n + 1 => if fn C n = e then (refOut W C e dx dy n).set (tgt W dx dy n) e else refOut W C e dx dy n
def refTaken (W : Nat) (C : List Int) (e dx dy : Int) : Nat → Bool
 | 0 => false
 | n + 1 => if fn C n = e then refTaken W C e dx dy n || (decide (fn (refOut W C e dx dy n) (tgt W dx dy n) > 0) && decide (fn (refOut W C e dx dy n) (tgt W dx dy n) ≠ e)) else refTaken W C e dx dy n
theorem putTo_congr {l l' : List Int} {e : Int} {out : List Int} : ∀ {n : Nat}, (∀ q, q < n → fn l q = fn l' q) → putTo l e out n = putTo l' e out n
 | 0, _ => rfl
 | n + 1, h => by rw [putTo, putTo, putTo_congr (fun q hq => h q (by omega)), h n (by omega)]
theorem fn_append_lt {l : List Int} {x : Int} {q : Nat} (h : q < l.length) : fn (l ++ [x]) q = fn l q := by
 unfold fn
 rw [List.getD_eq_getElem?_getD, List.getD_eq_getElem?_getD, List.getElem?_append_left h]
theorem fn_append_last {l : List Int} {x : Int} : fn (l ++ [x]) l.length = x := by
 unfold fn
 rw [List.getD_eq_getElem?_getD, List.getElem?_append_right (Nat.le_refl _), Nat.sub_self]
 rfl
theorem refOut_eq (W : Nat) (C : List Int) (e dx dy : Int) : ∀ n, refOut W C e dx dy n = putTo (tosTo W C e dx dy n) e (clearTo C e C.length) (tosTo W C e dx dy n).length
 | 0 => rfl
 | n + 1 => by
  rw [refOut, tosTo]
  by_cases q : fn C n = e
  ·rw [if_pos q, if_pos q, List.length_append, List.length_singleton, putTo, fn_append_last, Int.toNat_natCast, refOut_eq W C e dx dy n]
   congr 1
   exact putTo_congr (fun p hp => (fn_append_lt hp).symm)
  ·rw [if_neg q, if_neg q, refOut_eq W C e dx dy n]
theorem refOut_length (W : Nat) (C : List Int) (e dx dy : Int) (n : Nat) : (refOut W C e dx dy n).length = C.length := by rw [refOut_eq, putTo_length, clearTo_length]
theorem refOut_all (W : Nat) (C : List Int) (e dx dy : Int) : refOut W C e dx dy C.length = shOut W C e dx dy := refOut_eq W C e dx dy _
theorem takenB_append (C l : List Int) (e x : Int) : takenB C (l ++ [x]) e = (takenB C l e || (decide (fn C x.toNat ≠ 0) && decide (fn C x.toNat ≠ e))) := by
 unfold takenB
 rw [List.any_append]
 simp
theorem takenB_mem {C l : List Int} {e x : Int} (h : x ∈ l) (hx : (decide (fn C x.toNat ≠ 0) && decide (fn C x.toNat ≠ e)) = true) : takenB C l e = true := by
 unfold takenB
 rw [List.any_eq_true]
 exact ⟨x, h, hx⟩
theorem refTaken_eq {W H : Nat} {C : List Int} {e dx dy : Int} (hl : C.length = W * H) (hc : ∀ c, c ∈ C → 0 ≤ c) : ∀ n, n ≤ C.length → AllFit W H C e dx dy n → refTaken W C e dx dy n = takenB C (tosTo W C e dx dy n) e
 | 0, _, _ => rfl
 | n + 1, hn, hf => by
  have hf0 : AllFit W H C e dx dy n := fun i hi he => hf i (by omega) he
  have ih := refTaken_eq hl hc n (by omega) hf0
  rw [refTaken, tosTo]
  by_cases q : fn C n = e
  ·have ht := tgt_lt (hf n (by omega) q)
   rw [if_pos q, if_pos q, takenB_append, ih, Int.toNat_natCast]
   have hr : ∀ p, p < (tosTo W C e dx dy n).length → (fn (tosTo W C e dx dy n) p).toNat < (clearTo C e C.length).length := fun p hp => by
    obtain ⟨k, h1, h2⟩ := tos_range hf0 _ (fn_mem hp)
    rw [h1, clearTo_length, hl]
    exact h2
   have hv := fn_put (tosTo W C e dx dy n) e (clearTo C e C.length) (tgt W dx dy n) _ (Nat.le_refl _) hr
   rw [← refOut_eq, fn_clear C e _ _ (Nat.le_refl _)] at hv
   have h0 := hc _ (fn_mem (C := C) (i := tgt W dx dy n) (by omega))
   by_cases p : ∃ q, q < (tosTo W C e dx dy n).length ∧ (fn (tosTo W C e dx dy n) q).toNat = tgt W dx dy n
   ·rw [if_pos p] at hv
    obtain ⟨k, h1, h2⟩ := p
    have hm := fn_mem h1
    rw [hv]
    cases z : (decide (fn C (tgt W dx dy n) ≠ 0) && decide (fn C (tgt W dx dy n) ≠ e)) with
    | false => simp
    | true => rw [takenB_mem hm (by rw [h2]; exact z)]; simp
   ·rw [if_neg p] at hv
    rw [hv]
    by_cases z : fn C (tgt W dx dy n) = e
    ·rw [if_pos ⟨by omega, z⟩]; simp [z]
    ·rw [if_neg (fun x => z x.2)]
     by_cases y : fn C (tgt W dx dy n) = 0
     ·simp [y]
     ·have : fn C (tgt W dx dy n) > 0 := by omega
      simp [y, z, this]
  ·rw [if_neg q, if_neg q, ih]
theorem far_unfit {W H : Nat} {C : List Int} {e dx dy : Int} (hW : 1 ≤ W ∧ W ≤ 16) (hH : H ≤ 16) (hl : C.length = W * H) (he : e ∈ C) (hx : -9223372036854775808 ≤ dx ∧ dx ≤ 9223372036854775807) (hy : -9223372036854775808 ≤ dy ∧ dy ≤ 9223372036854775807)
  (h : (dx < -16 ∨ 16 < dx) ∨ (dy < -16 ∨ 16 < dy)) : unfitB W H C e dx dy = true := by
 obtain ⟨i, hi, hie⟩ := mem_fn he
 have h1 : i % W < W := Nat.mod_lt _ (by omega)
 have h2 : i / W < H := Nat.div_lt_of_lt_mul (by omega)
 refine unfit_at hi hie ?_
 unfold fitsB colOf linOf wrap64
 generalize i % W = x at h1
 generalize i / W = y at h2
 apply decide_eq_false
 omega
end Go.Proofs.Field
end

section
namespace Go.Proofs.Ytndkkjpgnmahbaa.Print
open Go.RowKit YtndkkjpgnmahbaaW.PrintWords YtndkkjpgnmahbaaW.PrintLast YtndkkjpgnmahbaaW.PrintMore Ytndkkjpgnmahbaa.H Proofs.Field
attribute [local go_sem] max2_int min2_int max_two min_two max_three min_three max_four min_four
theorem refcheck_at (W H : Int) (R : Bool) (A : Option Addr) (c n k : Nat) (C : List Int) (r : Int) (w : World) (hn : C.length = n) (hr : Kd.C (Kd.int .i64) w A C.length C) (hc : n ≤ c) (h : thermionref01_Check.f k W H R C = some r) :
  Calls Try.prog 40 #[.agg (planV W H R A n c)] w fun e w' => e = .returned (.int .i64 r) ∧ Below w.heap.size w w' := by
 subst hn
 exact thermionref01_Check.calls k W H R A c C r w hr hc h
theorem thermionref01_Shift.calls (W H : Int) (R : Bool) (A : Option Addr) (c : Nat) (C : List Int) (e dx dy r1 r2 : Int) (r3 : Bool) (r4 : List Int) (r5 : Int) (w : World) (hr : Kd.C (Kd.int .i64) w A C.length C) (hc : C.length ≤ c) (hl : C.length ≤ 1000) (hx : -9223372036854775808 ≤ dx ∧ dx ≤ 9223372036854775807) (hy : -9223372036854775808 ≤ dy ∧ dy ≤ 9223372036854775807) (h : shiftE W H R C e dx dy = (r1, r2, r3, r4, r5)) :
  Calls Try.prog 59 #[.agg (planV W H R A C.length c), .int .i64 e, .int .i64 dx, .int .i64 dy] w fun ex w' => ∃ v : Value, ex = .returned (.tuple #[.agg #[.int .i64 r1, .int .i64 r2, .bool r3, v], .int .i64 r5]) ∧ Kd.R (Kd.int .i64) 3 w' w.heap.size (fun _ => True) v r4 ∧ Below w.heap.size w w' := by
 unfold shiftE at h
 obtain ⟨K0, hK0⟩ := refcheck_eq W H R C
 have HK0 := Aside0.mk (hK0 K0 (Nat.le_refl _))
 obtain ⟨K1, hK1⟩ := refcheck_eq W H R (shOut W.toNat C e dx dy)
 have HK1 := Aside0.mk (hK1 K1 (Nat.le_refl _))
 obtain ⟨K2, hK2⟩ : ∃ K, thermionref01_has.f K W H R C e = some (hasB C e) := by
  have hh := refhas_go W H R C e (by omega) C.length 0 (by omega)
  rw [List.drop_zero] at hh
  obtain ⟨K, hK⟩ := hh
  exact ⟨K, hK K (Nat.le_refl _)⟩
 have HK2 := Aside0.mk hK2
 have HXY := Aside0.mk (And.intro hx hy)
 clear hK0 hK1 hK2 hx hy
 have HM := Aside0.mk (Mem.start w)
 have HR := Aside0.mk hr
 have HC := Aside0.mk hc
 have HL := Aside0.mk hl
 have HH := Aside0.mk h
 have hu24 := Try.underlying24
 have hu22 := Try.underlying22
 clear hr hc hl h
 go_enter Try.func59, Try.ntmps59
 go_upto_region 2 with (first
  | ((with_reducible refine gate_dst (N := 4) rfl ?_); refine ev_box HM.out rfl 24 (.tmp 0) rfl (cs := #[.int .i64 W, .int .i64 H, .bool R, .slice A C.length c]) rfl ?_; intro g4 w1 hm1 hq1; have HM1 := Aside0.mk hm1; clear hm1 hq1 HM)
  | ((with_reducible refine gate_dst (N := 8) rfl ?_); refine ev_new HM1.out rfl 24 rfl info24 ?_; intro g8 w2 hm1 hq1; have HM2 := Aside0.mk hm1; clear hm1 hq1 HM1)
  | ((with_reducible refine gate_dst (N := 18) rfl ?_); refine ev_load (HM2.out.second) rfl 24 (.tmp 4) rfl rfl _ Try.underlying24 rfl size24 rfl ?_)
  | (go_at_call 40; refine (thermionref01_Check.calls K0 W H R A c C (checkErr W H R C) _ (Kd.C_below HR.out HM2.out.below) HC.out HK0.out).mono ?_; rintro e3 w3 ⟨rfl, hb⟩; have HM3 := Aside0.mk (HM2.out.step hb); clear hb HM2 HK0))
 have h := HH.out
 clear HH
 by_cases g0 : checkErr W H R C = 0
 rotate_left
 ·rw [if_pos g0] at h
  simp only [Prod.mk.injEq] at h
  obtain ⟨rfl, rfl, rfl, rfl, rfl⟩ := h
  have g1 : (checkErr W H R C != 0) = true := bne_iff_ne.mpr g0
  clear g0
  go_wp2_with (first
   | ((with_reducible refine gate_store (t := 24) (p := 8) rfl ?_); refine ev_store HM3.out rfl 24 (.tmp 8) (.tmp 22) rfl rfl (cs := #[.int .i64 0, .int .i64 0, .bool false, .slice none 0 0]) rfl size24 rfl rfl (by simp [Value.oneCell']) ?_; intro w4 hm1 hq1; have HM4 := Aside0.mk hm1; clear hm1 hq1 HM3))
  (try simp only [Exit.inBlock, Exit.then])
  exact bodyPost_ret (results_ct rfl _ _ g8 24 #[.int .i64 0, .int .i64 0, .bool false, .slice none 0 0] (0, 0) _ rfl HM4.out.head Try.underlying24 rfl (by kernel_rfl)) rfl ⟨_, rfl, Kd.R_nil _ _ _ _ _, HM4.out.below⟩
 rw [if_neg (show ¬ checkErr W H R C ≠ 0 from fun f => f g0)] at h
 have hg := nat_of g0
 obtain ⟨p1, p2, p3, p4, p5, hel, -, -⟩ := check_parts g0
 have hne := check_ne g0
 rw [g0]
 have g1 : ((0 : Int) != 0) = false := rfl
 obtain ⟨W, H, rfl, rfl, h256⟩ := hg
 have hlen : C.length = W * H := by rw [← Int.natCast_mul] at p5; omega
 have hpos : 0 < C.length := List.length_pos_iff.2 hne
 obtain ⟨ad, rfl⟩ : ∃ ad, A = some ad := by
  obtain ⟨ad, e1, -⟩ := Kd.at_int HR.out 0 (by omega) (by omega)
  exact ⟨ad, e1⟩
 simp only [Int.toNat_natCast] at h
 replace HK1 : Aside0 (thermionref01_Check.f K1 W H R (shOut W C e dx dy) = some (checkErr W H R (shOut W C e dx dy))) := ⟨by have := HK1.out; rw [Int.toNat_natCast] at this; exact this⟩
 have HEL : Aside0 (∀ c, c ∈ C → 0 ≤ c) := ⟨fun c hc => (hel c hc).1⟩
 have HN : Aside0 (C.length = W * H ∧ C.length ≤ 256 ∧ 0 < C.length ∧ 1 ≤ W ∧ W ≤ 16 ∧ 1 ≤ H ∧ H ≤ 16) := ⟨hlen, h256, hpos, by omega, by omega, by omega, by omega⟩
 have HB := HK2
 have HH := Aside0.mk h
 clear h hel p1 p2 p3 p4 p5 hne hlen h256 hpos g0
 cases hB : hasB C e with
 | false =>
  have h := HH.out
  rw [if_pos hB] at h
  simp only [Prod.mk.injEq] at h
  obtain ⟨rfl, rfl, rfl, rfl, rfl⟩ := h
  have HB2 : Aside0 (thermionref01_has.f K2 W H R C e = some false) := ⟨by rw [← hB]; exact HB.out⟩
  clear HH hB HB
  go_wp2_with (first
   | ((with_reducible refine gate_dst (N := 24) rfl ?_); refine ev_load (HM3.out.second) rfl 24 (.tmp 4) rfl rfl _ Try.underlying24 rfl size24 rfl ?_)
   | (go_at_call 79; refine (thermionref01_has.calls K2 W H R (some ad) c C e false _ (Kd.C_below HR.out HM3.out.below) HC.out HB2.out).mono ?_; rintro e4 w4 ⟨rfl, hb⟩; have HM4 := Aside0.mk (HM3.out.step hb); clear hb HM3 HB2)
   | ((with_reducible refine gate_store (t := 24) (p := 8) rfl ?_); refine ev_store HM4.out rfl 24 (.tmp 8) (.tmp 28) rfl rfl (cs := #[.int .i64 0, .int .i64 0, .bool false, .slice none 0 0]) rfl size24 rfl rfl (by simp [Value.oneCell']) ?_; intro w5 hm1 hq1; have HM5 := Aside0.mk hm1; clear hm1 hq1 HM4))
  (try simp only [Exit.inBlock, Exit.then])
  exact bodyPost_ret (results_ct rfl _ _ g8 24 #[.int .i64 0, .int .i64 0, .bool false, .slice none 0 0] (0, 0) _ rfl HM5.out.head Try.underlying24 rfl (by kernel_rfl)) rfl ⟨_, rfl, Kd.R_nil _ _ _ _ _, HM5.out.below⟩
 | true =>
  have h := HH.out
  rw [if_neg (by rw [hB]; simp)] at h
  have HH2 := Aside0.mk h
  have HB2 : Aside0 (thermionref01_has.f K2 W H R C e = some true) := ⟨by rw [← hB]; exact HB.out⟩
  have hBt := hB
  clear HH hB HB h
  have hCW : ∀ (V : World), Below w.heap.size w V → ∀ i, i < C.length → V.cell? (ad.add i) = some (.int .i64 (fn C i)) := fun V hV i hi => by
   obtain ⟨ad2, e2, hx⟩ := Kd.at_int HR.out (i : Int) (by omega) (by omega)
   injection e2 with e2
   subst e2
   rw [Int.toNat_natCast, rd_fn C i hi] at hx
   exact (hV.cell (World.block_lt_of_cell? w _ hx)).trans hx
  have HCW := Aside0.mk hCW
  have HEM : Aside0 (e ∈ C) := ⟨(hasB_mem.1 hBt).2⟩
  clear hCW hBt
  go_wp2_with (first
   | ((with_reducible refine gate_dst (N := 24) rfl ?_); refine ev_load (HM3.out.second) rfl 24 (.tmp 4) rfl rfl _ Try.underlying24 rfl size24 rfl ?_)
   | (go_at_call 79; refine (thermionref01_has.calls K2 W H R (some ad) c C e true _ (Kd.C_below HR.out HM3.out.below) HC.out HB2.out).mono ?_; rintro e4 w4 ⟨rfl, hb⟩; have HM4 := Aside0.mk (HM3.out.step hb); clear hb HM3 HB2)
   | ((with_reducible refine gate_dst (N := 29) rfl ?_); refine ev_load (HM4.out.second) rfl 24 (.tmp 4) rfl rfl _ Try.underlying24 rfl size24 rfl ?_)
   | (go_at_call 24; refine (thermionref01_Copy.calls W H R (some ad) c C W H R C _ (Kd.C_below HR.out HM4.out.below) HC.out (refcopy_eq W H R C (by have := HN.out; omega))).mono ?_; rintro e5 w5 ⟨vo, rfl, hR, hb⟩; obtain ⟨gO, cO, eO, hgO, -, -⟩ := Kd.R_form hR (by have := HN.out; omega); subst eO; have HRO := Aside0.mk (Kd.R_lower hR HM4.out.below.size); have HM5 := Aside0.mk (HM4.out.step hb); clear hb hR hgO HM4 )
   | ((with_reducible refine gate_dst (N := 11) rfl ?_); refine ev_new (Mem.start w5) rfl 24 rfl info24 ?_; intro g11 w6 hm1 hq1; have HX := Aside0.mk hm1; clear hm1 hq1)
   | ((with_reducible refine gate_store (t := 24) (p := 11) rfl ?_); refine ev_store HX.out rfl 24 (.tmp 11) (.tmp 30) rfl rfl (cs := #[.int .i64 (W : Int), .int .i64 (H : Int), .bool R, .slice (some ⟨gO, 0, none⟩) C.length cO]) rfl size24 rfl rfl (by simp [Value.oneCell']) ?_; intro w7 hm1 hq1; have HS : Aside0 (ShM w w7 [(g11, #[.int .i64 (W : Int), .int .i64 (H : Int), .bool R, .slice (some ⟨gO, 0, none⟩) C.length cO], 24), (g8, #[.int .i64 0, .int .i64 0, .bool false, .slice none 0 0], 24), (g4, #[.int .i64 (W : Int), .int .i64 (H : Int), .bool R, .slice (some ad) C.length c], 24)] gO C.length cO (clearTo C e 0) (.slice none 0 0) []) := ⟨⟨mem_join HM5.out hm1, Kd.R_below HRO.out hm1.below, Kd.R_nil _ _ _ _ _, by simp⟩⟩; clear hm1 hq1 HX HRO HM5; have c4 := (plan_cells (HS.out.m.blk (g4, #[.int .i64 (W : Int), .int .i64 (H : Int), .bool R, .slice (some ad) C.length c], 24) (by simp))).2.2.2))
  go_loopg [12] C.length (fun k v12 w' => ∃ (i : Nat), v12 = .int .i64 (i : Int) ∧ Aside0 (i + k = C.length) ∧ Aside0 (ShM w w' [(g11, #[.int .i64 (W : Int), .int .i64 (H : Int), .bool R, .slice (some ⟨gO, 0, none⟩) C.length cO], 24), (g8, #[.int .i64 0, .int .i64 0, .bool false, .slice none 0 0], 24), (g4, #[.int .i64 (W : Int), .int .i64 (H : Int), .bool R, .slice (some ad) C.length c], 24)] gO C.length cO (clearTo C e i) (.slice none 0 0) []))
  case atStart => exact ⟨0, by go_num, ⟨by omega⟩, HS⟩
  case round =>
   clear HS c4
   obtain ⟨i, rfl, HK, HS⟩ := hrel
   obtain ⟨c4_0, c4_1, c4_2, c4_3⟩ := plan_cells (HS.out.m.blk (g4, #[.int .i64 (W : Int), .int .i64 (H : Int), .bool R, .slice (some ad) C.length c], 24) (by simp))
   have c11_3 := (plan_cells (HS.out.m.blk (g11, #[.int .i64 (W : Int), .int .i64 (H : Int), .bool R, .slice (some ⟨gO, 0, none⟩) C.length cO], 24) (by simp))).2.2.2
   by_cases hi : i < C.length
   ·have HI := Aside0.mk hi
    have b1 : decide ((i : Int) < (C.length : Int)) = true := by simp; omega
    have b2 : decide (i < C.length) = true := by simp; omega
    have b3 : (0 : Int) ≤ (i : Int) := by omega
    have b4 : (i : Int) < (C.length : Int) := by omega
    have b5 : wrap64 ((i : Int) + 1) = ((i + 1 : Nat) : Int) := by rw [IntWalk.wrap64_in _ (by have := HN.out; omega)]; omega
    have cC := HCW.out _ HS.out.m.below i hi
    clear hi
    by_cases he : fn C i = e
    ·have HS2 := Aside0.mk (HS.out.put i 0)
     rw [show (clearTo C e i).set i 0 = clearTo C e (i + 1) by rw [clearTo, if_pos he]] at HS2
     have d1 : (fn C i == e) = true := beq_iff_eq.mpr he
     obtain ⟨cX, fX⟩ := HS.out.cell HI.out
     clear he
     go_wp2_with fail
     go_roundg (C.length - (i + 1))
     case measure => have := HK.out; have := HI.out; omega
     case rel => exact ⟨i + 1, by first | exact congrArg _ b5 | go_num, ⟨by have := HK.out; have := HI.out; omega⟩, HS2⟩
    ·have HS2 : Aside0 (ShM w wr [(g11, #[.int .i64 (W : Int), .int .i64 (H : Int), .bool R, .slice (some ⟨gO, 0, none⟩) C.length cO], 24), (g8, #[.int .i64 0, .int .i64 0, .bool false, .slice none 0 0], 24), (g4, #[.int .i64 (W : Int), .int .i64 (H : Int), .bool R, .slice (some ad) C.length c], 24)] gO C.length cO (clearTo C e (i + 1)) (.slice none 0 0) []) := ⟨by rw [clearTo, if_neg he]; exact HS.out⟩
     have d1 : (fn C i == e) = false := beq_eq_false_iff_ne.mpr he
     clear he HS
     go_wp2_with fail
     go_roundg (C.length - (i + 1))
     case measure => have := HK.out; have := HI.out; omega
     case rel => exact ⟨i + 1, by first | exact congrArg _ b5 | go_num, ⟨by have := HK.out; have := HI.out; omega⟩, HS2⟩
   ·obtain rfl : i = C.length := by have := HK.out; omega
    have b1 : decide ((C.length : Int) < (C.length : Int)) = false := by simp
    have b2 : decide (C.length < C.length) = false := by simp
    clear hi HK c11_3 c4_0 c4_1 c4_2
    by_cases hf : (dx < -16 ∨ 16 < dx) ∨ (dy < -16 ∨ 16 < dy)
    ·have h := HH2.out
     rw [if_pos (far_unfit ⟨HN.out.2.2.2.1, HN.out.2.2.2.2.1⟩ HN.out.2.2.2.2.2.2 HN.out.1 HEM.out HXY.out.1 HXY.out.2 hf)] at h
     simp only [Prod.mk.injEq] at h
     obtain ⟨rfl, rfl, rfl, rfl, rfl⟩ := h
     clear HH2 HK1
     by_cases h1 : dx < -16 ∨ 16 < dx
     ·have HBX : Aside0 (thermionref01_beyond.f dx (-16) 16 = some true) := ⟨by rw [beyond_eq, decide_eq_true h1]⟩
      clear h1 hf
      go_wp2_with (first
       | (go_at_call 73; (with_reducible refine (thermionref01_beyond.calls dx (-16) 16 true _ HBX.out).mono ?_); rintro e1 wb1 ⟨rfl, hb⟩; (first | have HS2 := Aside0.mk (HS.out.step hb.below) | have HS2 := Aside0.mk ((HS.out.step (pw_below_drewN (Below.refl _ _) _)).step hb.below)); clear hb HS HBX; have HS := HS2; clear HS2; obtain ⟨c4_0, c4_1, c4_2, c4_3⟩ := plan_cells (HS.out.m.blk (g4, #[.int .i64 (W : Int), .int .i64 (H : Int), .bool R, .slice (some ad) C.length c], 24) (by simp)))
       | ((with_reducible refine gate_store (t := 24) (p := 8) rfl ?_); refine ev_store (HS.out.m.swap) rfl 24 (.tmp 8) (.tmp 55) rfl rfl (cs := #[.int .i64 0, .int .i64 0, .bool false, .slice none 0 0]) rfl size24 rfl rfl (by simp [Value.oneCell']) ?_; intro wy hm1 hq1; have HM9 := Aside0.mk hm1; clear hm1 hq1 HS))
      (try simp only [Exit.inBlock, Exit.then])
      exact bodyPost_ret (results_ct rfl _ _ g8 24 #[.int .i64 0, .int .i64 0, .bool false, .slice none 0 0] (0, 0) _ rfl HM9.out.head Try.underlying24 rfl (by kernel_rfl)) rfl ⟨_, rfl, Kd.R_nil _ _ _ _ _, HM9.out.below⟩
     ·have HBX : Aside0 (thermionref01_beyond.f dx (-16) 16 = some false) := ⟨by rw [beyond_eq, decide_eq_false h1]⟩
      have HBY : Aside0 (thermionref01_beyond.f dy (-16) 16 = some true) := ⟨by rw [beyond_eq, decide_eq_true (by omega)]⟩
      clear h1 hf
      go_wp2_with (first
       | (go_at_call 73; (with_reducible refine (thermionref01_beyond.calls dx (-16) 16 false _ HBX.out).mono ?_); rintro e1 wb1 ⟨rfl, hb⟩; (first | have HS2 := Aside0.mk (HS.out.step hb.below) | have HS2 := Aside0.mk ((HS.out.step (pw_below_drewN (Below.refl _ _) _)).step hb.below)); clear hb HS HBX; have HS := HS2; clear HS2; obtain ⟨c4_0, c4_1, c4_2, c4_3⟩ := plan_cells (HS.out.m.blk (g4, #[.int .i64 (W : Int), .int .i64 (H : Int), .bool R, .slice (some ad) C.length c], 24) (by simp)))
       | (go_at_call 73; (with_reducible refine (thermionref01_beyond.calls dy (-16) 16 true _ HBY.out).mono ?_); rintro e1 wb2 ⟨rfl, hb⟩; (first | have HS2 := Aside0.mk (HS.out.step hb.below) | have HS2 := Aside0.mk ((HS.out.step (pw_below_drewN (Below.refl _ _) _)).step hb.below)); clear hb HS HBY; have HS := HS2; clear HS2; obtain ⟨c4_0, c4_1, c4_2, c4_3⟩ := plan_cells (HS.out.m.blk (g4, #[.int .i64 (W : Int), .int .i64 (H : Int), .bool R, .slice (some ad) C.length c], 24) (by simp)))
       | ((with_reducible refine gate_store (t := 24) (p := 8) rfl ?_); refine ev_store (HS.out.m.swap) rfl 24 (.tmp 8) (.tmp 55) rfl rfl (cs := #[.int .i64 0, .int .i64 0, .bool false, .slice none 0 0]) rfl size24 rfl rfl (by simp [Value.oneCell']) ?_; intro wy hm1 hq1; have HM9 := Aside0.mk hm1; clear hm1 hq1 HS))
      (try simp only [Exit.inBlock, Exit.then])
      exact bodyPost_ret (results_ct rfl _ _ g8 24 #[.int .i64 0, .int .i64 0, .bool false, .slice none 0 0] (0, 0) _ rfl HM9.out.head Try.underlying24 rfl (by kernel_rfl)) rfl ⟨_, rfl, Kd.R_nil _ _ _ _ _, HM9.out.below⟩
    have HBX : Aside0 (thermionref01_beyond.f dx (-16) 16 = some false) := ⟨by rw [beyond_eq, decide_eq_false (by omega)]⟩
    have HBY : Aside0 (thermionref01_beyond.f dy (-16) 16 = some false) := ⟨by rw [beyond_eq, decide_eq_false (by omega)]⟩
    clear hf
    go_wp2_with (first
     | (go_at_call 73; (with_reducible refine (thermionref01_beyond.calls dx (-16) 16 false _ HBX.out).mono ?_); rintro e1 wb1 ⟨rfl, hb⟩; (first | have HS2 := Aside0.mk (HS.out.step hb.below) | have HS2 := Aside0.mk ((HS.out.step (pw_below_drewN (Below.refl _ _) _)).step hb.below)); clear hb HS HBX; have HS := HS2; clear HS2; obtain ⟨c4_0, c4_1, c4_2, c4_3⟩ := plan_cells (HS.out.m.blk (g4, #[.int .i64 (W : Int), .int .i64 (H : Int), .bool R, .slice (some ad) C.length c], 24) (by simp)))
     | (go_at_call 73; (with_reducible refine (thermionref01_beyond.calls dy (-16) 16 false _ HBY.out).mono ?_); rintro e1 wb2 ⟨rfl, hb⟩; (first | have HS2 := Aside0.mk (HS.out.step hb.below) | have HS2 := Aside0.mk ((HS.out.step (pw_below_drewN (Below.refl _ _) _)).step hb.below)); clear hb HS HBY; have HS := HS2; clear HS2; obtain ⟨c4_0, c4_1, c4_2, c4_3⟩ := plan_cells (HS.out.m.blk (g4, #[.int .i64 (W : Int), .int .i64 (H : Int), .bool R, .slice (some ad) C.length c], 24) (by simp))))
    have HS3 : Aside0 (ShM w wb2 [(g11, #[.int .i64 (W : Int), .int .i64 (H : Int), .bool R, .slice (some ⟨gO, 0, none⟩) C.length cO], 24), (g8, #[.int .i64 0, .int .i64 0, .bool false, .slice none 0 0], 24), (g4, #[.int .i64 (W : Int), .int .i64 (H : Int), .bool R, .slice (some ad) C.length c], 24)] gO C.length cO (refOut W C e dx dy 0) (.slice none 0 0) []) := HS
    clear HS b1 b2 c4_3
    go_loopg [13, 14] C.length (fun k v13 v14 w' => ∃ (i : Nat) (tb : Bool), v13 = .bool tb ∧ v14 = .int .i64 (i : Int) ∧ Aside0 (i + k = C.length) ∧ Aside0 (tb = refTaken W C e dx dy i) ∧ Aside0 (AllFit W H C e dx dy i) ∧ Aside0 (ShM w w' [(g11, #[.int .i64 (W : Int), .int .i64 (H : Int), .bool R, .slice (some ⟨gO, 0, none⟩) C.length cO], 24), (g8, #[.int .i64 0, .int .i64 0, .bool false, .slice none 0 0], 24), (g4, #[.int .i64 (W : Int), .int .i64 (H : Int), .bool R, .slice (some ad) C.length c], 24)] gO C.length cO (refOut W C e dx dy i) (.slice none 0 0) []))
    case atStart => exact ⟨0, false, rfl, by go_num, ⟨by omega⟩, ⟨rfl⟩, ⟨fun i hi => absurd hi (by omega)⟩, HS3⟩
    case round =>
     clear HS3
     obtain ⟨i, tb, rfl, rfl, HK, HTB, HAF, HS⟩ := hrel
     obtain ⟨c4_0, c4_1, c4_2, c4_3⟩ := plan_cells (HS.out.m.blk (g4, #[.int .i64 (W : Int), .int .i64 (H : Int), .bool R, .slice (some ad) C.length c], 24) (by simp))
     have c11_3 := (plan_cells (HS.out.m.blk (g11, #[.int .i64 (W : Int), .int .i64 (H : Int), .bool R, .slice (some ⟨gO, 0, none⟩) C.length cO], 24) (by simp))).2.2.2
     by_cases hi : i < C.length
     ·have HI := Aside0.mk hi
      have b1 : decide ((i : Int) < (C.length : Int)) = true := by simp; omega
      have b2 : decide (i < C.length) = true := by simp; omega
      have b3 : (0 : Int) ≤ (i : Int) := by omega
      have b4 : (i : Int) < (C.length : Int) := by omega
      have b5 : wrap64 ((i : Int) + 1) = ((i + 1 : Nat) : Int) := by rw [IntWalk.wrap64_in _ (by have := HN.out; omega)]; omega
      have cC := HCW.out _ HS.out.m.below i hi
      clear hi
      by_cases he : fn C i = e
      rotate_left
      ·have HS2 : Aside0 (ShM w wr [(g11, #[.int .i64 (W : Int), .int .i64 (H : Int), .bool R, .slice (some ⟨gO, 0, none⟩) C.length cO], 24), (g8, #[.int .i64 0, .int .i64 0, .bool false, .slice none 0 0], 24), (g4, #[.int .i64 (W : Int), .int .i64 (H : Int), .bool R, .slice (some ad) C.length c], 24)] gO C.length cO (refOut W C e dx dy (i + 1)) (.slice none 0 0) []) := ⟨by rw [refOut, if_neg he]; exact HS.out⟩
       have HTB2 : Aside0 (tb = refTaken W C e dx dy (i + 1)) := ⟨by rw [refTaken, if_neg he]; exact HTB.out⟩
       have HAF2 : Aside0 (AllFit W H C e dx dy (i + 1)) := ⟨fun j hj hej => by
        by_cases q : j = i
        ·subst q; exact absurd hej he
        ·exact HAF.out j (by omega) hej⟩
       have d1 : (fn C i != e) = true := bne_iff_ne.mpr he
       clear he HS HAF HTB
       go_wp2_with fail
       go_roundg (C.length - (i + 1))
       case measure => have := HK.out; have := HI.out; omega
       case rel => exact ⟨i + 1, tb, rfl, by first | exact congrArg _ b5 | go_num, ⟨by have := HK.out; have := HI.out; omega⟩, HTB2, HAF2, HS2⟩
      ·have HRO : Aside0 (refOut W C e dx dy (i + 1) = (refOut W C e dx dy i).set (tgt W dx dy i) e) := ⟨by rw [refOut, if_pos he]⟩
       have HRT : Aside0 (refTaken W C e dx dy (i + 1) = (tb || (decide (fn (refOut W C e dx dy i) (tgt W dx dy i) > 0) && decide (fn (refOut W C e dx dy i) (tgt W dx dy i) ≠ e)))) := ⟨by rw [refTaken, if_pos he, ← HTB.out]⟩
       have HE := Aside0.mk he
       have d1 : (fn C i != e) = false := bne_eq_false_iff_eq.mpr he
       rw [he] at cC
       have d2 : (e != e) = false := bne_eq_false_iff_eq.mpr rfl
       clear he HTB
       go_upto_region 19 with fail
       clear cC d1 d2
       obtain ⟨x, hx⟩ : ∃ x, i % W = x := ⟨_, rfl⟩
       obtain ⟨y, hy⟩ : ∃ y, i / W = y := ⟨_, rfl⟩
       obtain ⟨cc, hcc⟩ : ∃ z, colOf W dx i = z := ⟨_, rfl⟩
       obtain ⟨ll, hll⟩ : ∃ z, linOf W dy i = z := ⟨_, rfl⟩
       have m1 : Int.tmod (i : Int) (W : Int) = (x : Int) := by rw [Int.tmod_eq_emod_of_nonneg (by omega), ← Int.natCast_emod, hx]
       have m2 : Int.tdiv (i : Int) (W : Int) = (y : Int) := by rw [Int.tdiv_eq_ediv_of_nonneg (by omega), ← Int.natCast_ediv, hy]
       have m3 : (i : Int) % (W : Int) = (x : Int) := by rw [← Int.natCast_emod, hx]
       have m4 : (i : Int) / (W : Int) = (y : Int) := by rw [← Int.natCast_ediv, hy]
       have m5 : ((W : Int) == 0) = false := beq_eq_false_iff_ne.mpr (by have := HN.out; omega)
       have m6 : decide ((W : Int) = 0) = false := decide_eq_false (by have := HN.out; omega)
       have m7 : (W : Int) ≠ 0 := by have := HN.out; omega
       have m8 : W ≠ 0 := by have := HN.out; omega
       have n1 : IntKind.i64.wrap ((x : Int) + dx) = cc := by rw [← hcc, ← hx]; exact i64_w _
       have n2 : IntKind.i64.wrap ((y : Int) + dy) = ll := by rw [← hll, ← hy]; exact i64_w _
       have n1' : wrap64 ((x : Int) + dx) = cc := by rw [← hcc, ← hx]; rfl
       have n2' : wrap64 ((y : Int) + dy) = ll := by rw [← hll, ← hy]; rfl
       have n3 : IntKind.i64.wrap (x : Int) = (x : Int) := IntWalk.i64_in _ (by have := Nat.mod_le i W; have := HI.out; have := HN.out; omega)
       have n4 : IntKind.i64.wrap (y : Int) = (y : Int) := IntWalk.i64_in _ (by have := Nat.div_le_self i W; have := HI.out; have := HN.out; omega)
       have HXY2 := Aside0.mk (And.intro hcc hll)
       clear hx hy hcc hll
       go_quiet (fail)
       clear m1 m2 m3 m4 m5 m6 m7 m8 n1 n2 n1' n2' n3 n4
       obtain ⟨Wm, hWm⟩ : ∃ z : Int, (W : Int) - 1 = z := ⟨_, rfl⟩
       obtain ⟨Hm, hHm⟩ : ∃ z : Int, (H : Int) - 1 = z := ⟨_, rfl⟩
       have k1 : IntKind.i64.wrap ((W : Int) - 1) = Wm := by rw [← hWm]; exact IntWalk.i64_in _ (by have := HN.out; omega)
       have k2 : IntKind.i64.wrap ((H : Int) - 1) = Hm := by rw [← hHm]; exact IntWalk.i64_in _ (by have := HN.out; omega)
       have k1' : wrap64 ((W : Int) - 1) = Wm := by rw [← hWm]; exact IntWalk.wrap64_in _ (by have := HN.out; omega)
       have k2' : wrap64 ((H : Int) - 1) = Hm := by rw [← hHm]; exact IntWalk.wrap64_in _ (by have := HN.out; omega)
       by_cases hf : 0 ≤ cc ∧ cc < W ∧ 0 ≤ ll ∧ ll < H
       case' pos =>
        have hfit : fitsB W H dx dy i = true := by unfold fitsB; rw [HXY2.out.1, HXY2.out.2]; exact decide_eq_true hf
        have HFIT : Aside0 (AllFit W H C e dx dy (i + 1)) := ⟨fun j hj hej => by
         by_cases q : j = i
         ·subst q; exact hfit
         ·exact HAF.out j (by omega) hej⟩
        have HBX : Aside0 (thermionref01_beyond.f cc 0 Wm = some false) := ⟨by rw [beyond_eq, decide_eq_false (by omega)]⟩
        have HBY : Aside0 (thermionref01_beyond.f ll 0 Hm = some false) := ⟨by rw [beyond_eq, decide_eq_false (by omega)]⟩
        obtain ⟨cn, hcn⟩ : ∃ n : Nat, cc = n := ⟨cc.toNat, by omega⟩
        obtain ⟨ln, hln⟩ : ∃ n : Nat, ll = n := ⟨ll.toNat, by omega⟩
        subst hcn hln
        have hT : tgt W dx dy i = ln * W + cn := by unfold tgt; rw [HXY2.out.1, HXY2.out.2]; rfl
        have hTl := tgt_lt hfit
        obtain ⟨m, hm⟩ : ∃ m, ln * W = m := ⟨_, rfl⟩
        obtain ⟨t, ht⟩ : ∃ t, m + cn = t := ⟨_, rfl⟩
        have u1 : IntKind.i64.wrap ((ln : Int) * (W : Int)) = (m : Int) := by rw [← Int.natCast_mul, hm]; exact IntWalk.i64_in _ (by rw [hT] at hTl; have := HN.out; omega)
        have u2 : IntKind.i64.wrap ((m : Int) + (cn : Int)) = (t : Int) := by rw [← Int.natCast_add, ht]; exact IntWalk.i64_in _ (by rw [hT] at hTl; have := HN.out; omega)
        have hTt : tgt W dx dy i = t := by rw [hT, hm, ht]
        have htN : t < C.length := by rw [← hTt]; have := HN.out; omega
        rw [hTt] at HRO HRT
        have HTN := Aside0.mk htN
        have t1 : (0 : Int) ≤ (t : Int) := by omega
        have t2 : (t : Int) < (C.length : Int) := by omega
        have t3 : decide ((t : Int) < (C.length : Int)) = true := by simp; omega
        have t4 : decide (t < C.length) = true := by simp; omega
        clear hf hfit hT hTl hm ht hWm hHm hTt htN
        go_upto_region 22 with (first
         | (go_at_call 73; (with_reducible refine (thermionref01_beyond.calls (cn : Int) (0) Wm false _ HBX.out).mono ?_); rintro e1 wb3 ⟨rfl, hb⟩; (first | have HS2 := Aside0.mk (HS.out.step hb.below) | have HS2 := Aside0.mk ((HS.out.step (pw_below_drewN (Below.refl _ _) _)).step hb.below)); clear hb HS HBX; have HS := HS2; clear HS2; obtain ⟨c4_0, c4_1, c4_2, c4_3⟩ := plan_cells (HS.out.m.blk (g4, #[.int .i64 (W : Int), .int .i64 (H : Int), .bool R, .slice (some ad) C.length c], 24) (by simp)))
         | (go_at_call 73; (with_reducible refine (thermionref01_beyond.calls (ln : Int) (0) Hm false _ HBY.out).mono ?_); rintro e1 wb4 ⟨rfl, hb⟩; (first | have HS2 := Aside0.mk (HS.out.step hb.below) | have HS2 := Aside0.mk ((HS.out.step (pw_below_drewN (Below.refl _ _) _)).step hb.below)); clear hb HS HBY; have HS := HS2; clear HS2; obtain ⟨c4_0, c4_1, c4_2, c4_3⟩ := plan_cells (HS.out.m.blk (g4, #[.int .i64 (W : Int), .int .i64 (H : Int), .bool R, .slice (some ad) C.length c], 24) (by simp))))
        obtain ⟨c4_0, c4_1, c4_2, c4_3⟩ := plan_cells (HS.out.m.blk (g4, #[.int .i64 (W : Int), .int .i64 (H : Int), .bool R, .slice (some ad) C.length c], 24) (by simp))
        have c11_3 := (plan_cells (HS.out.m.blk (g11, #[.int .i64 (W : Int), .int .i64 (H : Int), .bool R, .slice (some ⟨gO, 0, none⟩) C.length cO], 24) (by simp))).2.2.2
        obtain ⟨cX, fX⟩ := HS.out.cell HTN.out
        have HS2 := Aside0.mk (HS.out.put t e)
        rw [← HRO.out] at HS2
        generalize fn (refOut W C e dx dy i) t = y at cX HRT
        clear HRO HAF
        cases tb with
        | true =>
         have HTB2 : Aside0 (true = refTaken W C e dx dy (i + 1)) := ⟨by rw [HRT.out]; rfl⟩
         clear HRT
         go_wp2_with fail
         go_roundg (C.length - (i + 1))
         case measure => have := HK.out; have := HI.out; omega
         case rel => exact ⟨i + 1, true, rfl, by first | exact congrArg _ b5 | go_num, ⟨by have := HK.out; have := HI.out; omega⟩, HTB2, HFIT, HS2⟩
        | false =>
         by_cases y1 : y > 0
         ·have y2 : decide (y > 0) = true := decide_eq_true y1
          by_cases y3 : y = e
          ·have y4 : (y != e) = false := bne_eq_false_iff_eq.mpr y3
           have HTB2 : Aside0 (false = refTaken W C e dx dy (i + 1)) := ⟨by rw [HRT.out]; simp [y3]⟩
           clear HRT y1 y3
           go_wp2_with fail
           go_roundg (C.length - (i + 1))
           case measure => have := HK.out; have := HI.out; omega
           case rel => exact ⟨i + 1, false, rfl, by first | exact congrArg _ b5 | go_num, ⟨by have := HK.out; have := HI.out; omega⟩, HTB2, HFIT, HS2⟩
          ·have y4 : (y != e) = true := bne_iff_ne.mpr y3
           have HTB2 : Aside0 (true = refTaken W C e dx dy (i + 1)) := ⟨by rw [HRT.out, y2]; simp [y3]⟩
           clear HRT y1 y3
           go_wp2_with fail
           go_roundg (C.length - (i + 1))
           case measure => have := HK.out; have := HI.out; omega
           case rel => exact ⟨i + 1, true, rfl, by first | exact congrArg _ b5 | go_num, ⟨by have := HK.out; have := HI.out; omega⟩, HTB2, HFIT, HS2⟩
         ·have y2 : decide (y > 0) = false := decide_eq_false y1
          have HTB2 : Aside0 (false = refTaken W C e dx dy (i + 1)) := ⟨by rw [HRT.out, y2]; rfl⟩
          clear HRT y1
          go_wp2_with fail
          go_roundg (C.length - (i + 1))
          case measure => have := HK.out; have := HI.out; omega
          case rel => exact ⟨i + 1, false, rfl, by first | exact congrArg _ b5 | go_num, ⟨by have := HK.out; have := HI.out; omega⟩, HTB2, HFIT, HS2⟩
       case' neg =>
        have hfit : fitsB W H dx dy i = false := by unfold fitsB; rw [HXY2.out.1, HXY2.out.2]; exact decide_eq_false hf
        have hu := unfit_at HI.out HE.out hfit
        have h := HH2.out
        rw [if_pos hu] at h
        simp only [Prod.mk.injEq] at h
        obtain ⟨rfl, rfl, rfl, rfl, rfl⟩ := h
        clear HH2 hu hfit HAF HE HRO HRT HK1
        by_cases q1 : cc < 0 ∨ Wm < cc
        ·have HBX : Aside0 (thermionref01_beyond.f cc 0 Wm = some true) := ⟨by rw [beyond_eq, decide_eq_true q1]⟩
         clear hf q1 hWm hHm
         go_wp2_with (first
          | (go_at_call 73; (with_reducible refine (thermionref01_beyond.calls cc (0) Wm true _ HBX.out).mono ?_); rintro e1 wb3 ⟨rfl, hb⟩; (first | have HS2 := Aside0.mk (HS.out.step hb.below) | have HS2 := Aside0.mk ((HS.out.step (pw_below_drewN (Below.refl _ _) _)).step hb.below)); clear hb HS HBX; have HS := HS2; clear HS2; obtain ⟨c4_0, c4_1, c4_2, c4_3⟩ := plan_cells (HS.out.m.blk (g4, #[.int .i64 (W : Int), .int .i64 (H : Int), .bool R, .slice (some ad) C.length c], 24) (by simp)))
          | ((with_reducible refine gate_store (t := 24) (p := 8) rfl ?_); refine ev_store (HS.out.m.swap) rfl 24 (.tmp 8) (.tmp 94) rfl rfl (cs := #[.int .i64 0, .int .i64 0, .bool false, .slice none 0 0]) rfl size24 rfl rfl (by simp [Value.oneCell']) ?_; intro wy hm1 hq1; have HM9 := Aside0.mk hm1; clear hm1 hq1 HS))
         (try simp only [Exit.inBlock, Exit.then])
         exact bodyPost_ret (results_ct rfl _ _ g8 24 #[.int .i64 0, .int .i64 0, .bool false, .slice none 0 0] (0, 0) _ rfl HM9.out.head Try.underlying24 rfl (by kernel_rfl)) rfl ⟨_, rfl, Kd.R_nil _ _ _ _ _, HM9.out.below⟩
        ·have HBX : Aside0 (thermionref01_beyond.f cc 0 Wm = some false) := ⟨by rw [beyond_eq, decide_eq_false q1]⟩
         have HBY : Aside0 (thermionref01_beyond.f ll 0 Hm = some true) := ⟨by rw [beyond_eq, decide_eq_true (by omega)]⟩
         clear hf q1 hWm hHm
         go_wp2_with (first
          | (go_at_call 73; (with_reducible refine (thermionref01_beyond.calls cc (0) Wm false _ HBX.out).mono ?_); rintro e1 wb3 ⟨rfl, hb⟩; (first | have HS2 := Aside0.mk (HS.out.step hb.below) | have HS2 := Aside0.mk ((HS.out.step (pw_below_drewN (Below.refl _ _) _)).step hb.below)); clear hb HS HBX; have HS := HS2; clear HS2; obtain ⟨c4_0, c4_1, c4_2, c4_3⟩ := plan_cells (HS.out.m.blk (g4, #[.int .i64 (W : Int), .int .i64 (H : Int), .bool R, .slice (some ad) C.length c], 24) (by simp)))
          | (go_at_call 73; (with_reducible refine (thermionref01_beyond.calls ll (0) Hm true _ HBY.out).mono ?_); rintro e1 wb4 ⟨rfl, hb⟩; (first | have HS2 := Aside0.mk (HS.out.step hb.below) | have HS2 := Aside0.mk ((HS.out.step (pw_below_drewN (Below.refl _ _) _)).step hb.below)); clear hb HS HBY; have HS := HS2; clear HS2; obtain ⟨c4_0, c4_1, c4_2, c4_3⟩ := plan_cells (HS.out.m.blk (g4, #[.int .i64 (W : Int), .int .i64 (H : Int), .bool R, .slice (some ad) C.length c], 24) (by simp)))
          | ((with_reducible refine gate_store (t := 24) (p := 8) rfl ?_); refine ev_store (HS.out.m.swap) rfl 24 (.tmp 8) (.tmp 94) rfl rfl (cs := #[.int .i64 0, .int .i64 0, .bool false, .slice none 0 0]) rfl size24 rfl rfl (by simp [Value.oneCell']) ?_; intro wy hm1 hq1; have HM9 := Aside0.mk hm1; clear hm1 hq1 HS))
         (try simp only [Exit.inBlock, Exit.then])
         exact bodyPost_ret (results_ct rfl _ _ g8 24 #[.int .i64 0, .int .i64 0, .bool false, .slice none 0 0] (0, 0) _ rfl HM9.out.head Try.underlying24 rfl (by kernel_rfl)) rfl ⟨_, rfl, Kd.R_nil _ _ _ _ _, HM9.out.below⟩
     ·obtain rfl : i = C.length := by have := HK.out; omega
      have b1 : decide ((C.length : Int) < (C.length : Int)) = false := by simp
      have b2 : decide (C.length < C.length) = false := by simp
      have h := HH2.out
      rw [if_neg (by rw [unfit_none HAF.out]; simp)] at h
      have htk := refTaken_eq HN.out.1 HEL.out C.length (Nat.le_refl _) HAF.out
      rw [← HTB.out] at htk
      rw [← htk] at h
      have hol : (refOut W C e dx dy C.length).length = C.length := refOut_length _ _ _ _ _ _
      rw [refOut_all] at hol HS
      have HOL := Aside0.mk hol
      have HH4 := Aside0.mk h
      have HRO := Aside0.mk (Kd.R_reads' HS.out.o)
      clear h hol htk HTB HAF hi HH2
      generalize shOut W C e dx dy = out at HK1 HS HOL HH4 HRO
      cases tb with
      | true =>
       have h := HH4.out
       rw [if_pos rfl] at h
       simp only [Prod.mk.injEq] at h
       obtain ⟨rfl, rfl, rfl, rfl, rfl⟩ := h
       clear HH4 HK1
       go_wp2_with (first
        | ((with_reducible refine gate_store (t := 24) (p := 8) rfl ?_); refine ev_store (HS.out.m.swap) rfl 24 (.tmp 8) (.tmp 134) rfl rfl (cs := #[.int .i64 0, .int .i64 0, .bool false, .slice none 0 0]) rfl size24 rfl rfl (by simp [Value.oneCell']) ?_; intro wy hm1 hq1; have HM9 := Aside0.mk hm1; clear hm1 hq1 HS))
       (try simp only [Exit.inBlock, Exit.then])
       exact bodyPost_ret (results_ct rfl _ _ g8 24 #[.int .i64 0, .int .i64 0, .bool false, .slice none 0 0] (0, 0) _ rfl HM9.out.head Try.underlying24 rfl (by kernel_rfl)) rfl ⟨_, rfl, Kd.R_nil _ _ _ _ _, HM9.out.below⟩
      | false =>
       have h := HH4.out
       rw [if_neg (by simp)] at h
       obtain ⟨ce, hce⟩ : ∃ z, checkErr W H R out = z := ⟨_, rfl⟩
       rw [hce] at h HK1
       clear HH4 hce
       have HH5 := Aside0.mk h
       clear h
       go_upto_region 27 with (first
        | ((with_reducible refine gate_dst (N := 135) rfl ?_); refine ev_load HS.out.m.head rfl 24 (.tmp 11) rfl rfl _ Try.underlying24 rfl size24 rfl ?_)
        | (go_at_call 40; refine (refcheck_at W H R (some ⟨gO, 0, none⟩) cO C.length K1 out ce _ HOL.out HRO.out.2.2 HRO.out.2.1 HK1.out).mono ?_; rintro e1 wv ⟨rfl, hb⟩; have HS2 := Aside0.mk (HS.out.step hb); clear hb HS; have HS := HS2; clear HS2))
       have h := HH5.out
       clear HH5
       by_cases g0 : ce = 0
       ·rw [if_neg (show ¬ ce ≠ 0 from fun f => f g0)] at h
        simp only [Prod.mk.injEq] at h
        obtain ⟨rfl, rfl, rfl, rfl, rfl⟩ := h
        subst g0
        have g2 : ((0 : Int) != 0) = false := rfl
        obtain ⟨cur, hme⟩ := HS.out.memo (by rw [HOL.out]; exact HN.out.2.2.1)
        have HM8 := Aside0.mk hme
        clear hme
        go_wp2_with (first
         | ((with_reducible refine gate_dst (N := 141) rfl ?_); refine ev_load HS.out.m.head rfl 24 (.tmp 11) rfl rfl _ Try.underlying24 rfl size24 rfl ?_)
         | ((with_reducible refine gate_store (t := 24) (p := 8) rfl ?_); refine ev_store HM8.out.third3 rfl 24 (.tmp 8) (.tmp 141) rfl rfl (cs := #[.int .i64 (W : Int), .int .i64 (H : Int), .bool R, .slice (some ⟨gO, 0, none⟩) C.length cO]) rfl size24 rfl rfl (by simp [Value.oneCell']) ?_; intro wy hm1 hq1; have HM9 := Aside0.mk hm1; have HRF := Aside0.mk (R_same HS.out.o (hm1.second.trans HM8.out.head.symm)); clear hm1 hq1 HS HM8))
        (try simp only [Exit.inBlock, Exit.then])
        exact bodyPost_ret (results_ct rfl _ _ g8 24 #[.int .i64 (W : Int), .int .i64 (H : Int), .bool R, .slice (some ⟨gO, 0, none⟩) C.length cO] (0, 0) _ rfl HM9.out.head Try.underlying24 rfl (by kernel_rfl)) rfl ⟨_, rfl, HRF.out, HM9.out.below⟩
       ·rw [if_pos g0] at h
        simp only [Prod.mk.injEq] at h
        obtain ⟨rfl, rfl, rfl, rfl, rfl⟩ := h
        have g2 : (ce != 0) = true := bne_iff_ne.mpr g0
        clear g0
        go_wp2_with (first
         | ((with_reducible refine gate_store (t := 24) (p := 8) rfl ?_); refine ev_store (HS.out.m.swap) rfl 24 (.tmp 8) (.tmp 139) rfl rfl (cs := #[.int .i64 0, .int .i64 0, .bool false, .slice none 0 0]) rfl size24 rfl rfl (by simp [Value.oneCell']) ?_; intro wy hm1 hq1; have HM9 := Aside0.mk hm1; clear hm1 hq1 HS))
        (try simp only [Exit.inBlock, Exit.then])
        exact bodyPost_ret (results_ct rfl _ _ g8 24 #[.int .i64 0, .int .i64 0, .bool false, .slice none 0 0] (0, 0) _ rfl HM9.out.head Try.underlying24 rfl (by kernel_rfl)) rfl ⟨_, rfl, Kd.R_nil _ _ _ _ _, HM9.out.below⟩
structure InflF (K : Nat) (W H : Int) (R : Bool) (C : List Int) (n a k g x1 x2 x3 u1 u2 u3 : Int) : Prop where
 i1 : field_Influence.f K W H R C n a k = some (x1, x2, x3)
 i2 : thermionref01_Influence.f K W H R C n a k = some (x1, x2, x3)
 a1 : field_Amplification.f K W H R C n k g a = some (u1, u2, u3)
 a2 : thermionref01_Amplification.f K W H R C n k g a = some (u1, u2, u3)
theorem plan_total (s a1 a2 : Int) (h1 : 1 ≤ a1 ∧ a1 ≤ 16) (h2 : 1 ≤ a2 ∧ a2 ≤ 16) : ∃ (W H : Int) (R : Bool) (C : List Int) (s1 : Int), thermionkit_PlanOf.f s a1 a2 = some (W, H, R, C, s1) ∧ 0 < C.length ∧ C.length ≤ 256 := by
 obtain ⟨W, H, R, C, s1, h, b1, _, b3, _, hl, h256, _, _⟩ := dealt_plan s a1 a2 h1 h2
 exact ⟨W, H, R, C, s1, h, by rw [hl]; exact Nat.mul_pos b1 b3, h256⟩
theorem big_none (W H : Int) (R : Bool) (A : Option Addr) (c : Nat) (C : List Int) (b : Bool) (w : World) (hr : Kd.C (Kd.int .i64) w A C.length C) (hc : C.length ≤ c) (hb : decide (300 < C.length) = b) :
  Calls Try.prog 19 #[.agg (planV W H R A C.length c), .slice none 0 0] w fun e w' => e = .returned (.bool b) ∧ Below w.heap.size w w' :=
 thermionlaw01_big.calls _ W H R A c C none 0 [] b w hr hc ⟨rfl, by simp, fun h => absurd h (by simp)⟩ (by simp) (by rw [big_eq W H R C [] (by simp), ← hb]; rfl)
def playR.T9 : Bool × List (List Nat × List Nat) := (true, [([], []), ([], []), ([], []), ([], []), ([2, 3], [2, 3]), ([4], [4]), ([5], [5]), ([6], [6]), ([], []), ([], []), ([8, 9], [8, 9]), ([10], [10]), ([11], [11]), ([12], [12]), ([0, 1, 7, 13], [0, 1, 7, 13]), ([14], [14]), ([15], [15]), ([15], [15]), ([], []), ([18, 16, 14, 0, 1, 2, 3, 4, 5, 6, 7, 8, 9, 10, 11, 12, 13, 14, 15, 16, 18], [16, 18]), ([17, 19, 0, 1, 2, 3, 4, 5, 6, 7, 8, 9, 10, 11, 12, 13, 14, 15, 16, 17, 18, 19], [17])])
def playR.B9 : List Nat := [0, 0, 0, 0, 12, 28, 60, 124, 0, 0, 768, 1792, 3840, 7936, 16383, 32767, 65535, 65535, 0, 393215, 1048575]
theorem playR.tab9 : rtab .any (opsOf Try.f96 9) = playR.T9 := by kernel_rfl
theorem playR.bits9 : waitsOk playR.T9.2 playR.B9 = true := by kernel_rfl
theorem thermionref01_Play.calls (W H : Int) (R : Bool) (A : Option Addr) (c : Nat) (C : List Int) (n k0 g0 a0 r1 r2 : Int) (w : World) (hr : Kd.C (Kd.int .i64) w A C.length C) (hc : C.length ≤ c) (hl : C.length ≤ 1000) (h : playE W H R C n k0 g0 a0 = (r1, r2)) :
  Calls Try.prog 96 #[.agg (planV W H R A C.length c), .int .i64 n, .int .i64 k0, .int .i64 g0, .int .i64 a0] w fun e w' => e = .returned (.tuple #[.int .i64 r1, .int .i64 r2]) ∧ Below w.heap.size w w' := by
 unfold playE at h
 have HAE : Aside0 (∀ q1 q2 q3 (q4 : List Int), q4.length ≤ C.length → Ev (fun f => thermionref01_Amplification.f f q1 q2 q3 q4 n k0 g0 a0) (ampE q1 q2 q3 q4 n k0 g0 a0)) := ⟨fun q1 q2 q3 q4 hq => refampE_ev q1 q2 q3 q4 n k0 g0 a0 (by omega)⟩
 obtain ⟨K, hK⟩ := HAE.out W H R C (Nat.le_refl _)
 have hK1 := hK K (Nat.le_refl _)
 generalize hx : ampE W H R C n k0 g0 a0 = x at h hK1
 obtain ⟨x1, x2, x3⟩ := x
 have HX := Aside0.mk hK1
 have HM := Aside0.mk (Mem.start w)
 have HR := Aside0.mk hr
 have HC := Aside0.mk hc
 have HL := Aside0.mk hl
 have HH := Aside0.mk h
 have hu24 := Try.underlying24
 have hu42 := Try.underlying42
 have hu22 := Try.underlying22
 have hu46 := Try.underlying46
 clear hr hc hl h hK hK1 hx
 go_enter Try.func96, Try.ntmps96
 go_upto_region 2 with (first
  | ((with_reducible refine gate_dst (N := 5) rfl ?_); refine ev_box HM.out rfl 24 (.tmp 0) rfl (cs := #[.int .i64 W, .int .i64 H, .bool R, .slice A C.length c]) rfl ?_; intro g5 w1 hm1 hq1; have HM1 := Aside0.mk hm1; clear hm1 hq1 HM)
  | ((with_reducible refine gate_dst (N := 21) rfl ?_); refine ev_load (HM1.out.head) rfl 24 (.tmp 5) rfl rfl _ Try.underlying24 rfl size24 rfl ?_)
  | (go_at_call 57; (with_reducible refine (thermionref01_Amplification.calls K W H R A c C n k0 g0 a0 x1 x2 x3 _ (Kd.C_below HR.out HM1.out.below) HC.out HX.out).mono ?_); rintro e2 w2 ⟨rfl, hb⟩; have HM2 := Aside0.mk (HM1.out.step hb); clear hb HM1 )
  | ((with_reducible refine gate_dst (N := 12) rfl ?_); refine ev_new HM2.out rfl 42 rfl info42_ ?_; intro g12 w3 hm1 hq1; have HM3 := Aside0.mk hm1; clear hm1 hq1 HM2)
  | ((with_reducible refine gate_store (t := 42) (p := 12) rfl ?_); refine ev_store HM3.out rfl 42 (.tmp 12) (.tmp 27) rfl rfl (cs := #[.int .i64 x1, .int .i64 x2]) rfl size42_ rfl rfl (by simp [Value.oneCell']) ?_; intro w4 hm1 hq1; have HM4 := Aside0.mk hm1; clear hm1 hq1 HM3))
 have h := HH.out
 clear HH
 by_cases g1 : x3 = 0
 rotate_left
 ·rw [if_pos g1] at h
  simp only [Prod.mk.injEq] at h
  obtain ⟨rfl, rfl⟩ := h
  have g2 : (x3 != 0) = true := bne_iff_ne.mpr g1
  go_wp2
  go_ret2
  exact ⟨rfl, HM4.out.below⟩
 ·rw [if_neg (show ¬ x3 ≠ 0 from fun f => f g1)] at h
  simp only [Prod.mk.injEq] at h
  obtain ⟨e1, rfl⟩ := h
  subst g1
  have HE := Aside0.mk e1
  have g2 : ((0 : Int) != 0) = false := rfl
  clear e1
  go_wp2_with (first
   | ((with_reducible refine gate_dst (N := 32) rfl ?_); refine ev_lit HM4.out rfl [.int .i64 1, .int .i64 0] 2 3 ?hrl ?_; (case hrl => first | (go_simp; done) | (go_simp; rfl)); intro gw1 w5 hm1 hq1; have HM5 := Aside0.mk hm1; clear hm1 hq1 HM4)
   | ((with_reducible refine gate_dst (N := 33) rfl ?_); refine ev_lit HM5.out rfl [.int .i64 (-1), .int .i64 0] 2 3 ?hrl ?_; (case hrl => first | (go_simp; done) | (go_simp; rfl)); intro gw2 w6 hm1 hq1; have HM6 := Aside0.mk hm1; clear hm1 hq1 HM5)
   | ((with_reducible refine gate_dst (N := 34) rfl ?_); refine ev_lit HM6.out rfl [.int .i64 0, .int .i64 1] 2 3 ?hrl ?_; (case hrl => first | (go_simp; done) | (go_simp; rfl)); intro gw3 w7 hm1 hq1; have HM7 := Aside0.mk hm1; clear hm1 hq1 HM6)
   | ((with_reducible refine gate_dst (N := 35) rfl ?_); refine ev_lit HM7.out rfl [.int .i64 0, .int .i64 (-1)] 2 3 ?hrl ?_; (case hrl => first | (go_simp; done) | (go_simp; rfl)); intro gw4 w8 hm1 hq1; have HM8 := Aside0.mk hm1; clear hm1 hq1 HM7)
   | ((with_reducible refine gate_dst (N := 36) rfl ?_); refine ev_lit HM8.out rfl [.slice (some ⟨gw1, 0, none⟩) 2 2, .slice (some ⟨gw2, 0, none⟩) 2 2, .slice (some ⟨gw3, 0, none⟩) 2 2, .slice (some ⟨gw4, 0, none⟩) 2 2] 4 22 ?hrl ?_; (case hrl => first | (go_simp; done) | (go_simp; rfl)); intro gL w9 hm1 hq1; have HM9 := Aside0.mk hm1; clear hm1 hq1 HM8))
  go_loopg [14, 16] 4 (fun k v14 v16 w' => ∃ (i : Nat) (acc : Int), v14 = .int .i64 acc ∧ v16 = .int .i64 (i : Int) ∧ Aside0 (i + k = 4) ∧ Aside0 (acc = (Go.Proofs.Ytndkkjpgnmahbaa.Print.ways.take i).foldl (playStep W H R C n k0 g0 a0 (x1, x2, 0)) 0) ∧ Aside0 (Mem w w' [(gL, #[.slice (some ⟨gw1, 0, none⟩) 2 2, .slice (some ⟨gw2, 0, none⟩) 2 2, .slice (some ⟨gw3, 0, none⟩) 2 2, .slice (some ⟨gw4, 0, none⟩) 2 2], 22), (gw4, #[.int .i64 0, .int .i64 (-1)], 3), (gw3, #[.int .i64 0, .int .i64 1], 3), (gw2, #[.int .i64 (-1), .int .i64 0], 3), (gw1, #[.int .i64 1, .int .i64 0], 3), (g12, #[.int .i64 x1, .int .i64 x2], 42), (g5, #[.int .i64 W, .int .i64 H, .bool R, .slice A C.length c], 24)]))
  case atStart => exact ⟨0, 0, rfl, by go_num, ⟨by omega⟩, ⟨rfl⟩, HM9⟩
  case round =>
   clear HM9
   obtain ⟨i, acc, rfl, rfl, HK, HAC, HM⟩ := hrel
   by_cases hi : i < 4
   ·have HI := Aside0.mk hi
    have b1 : decide ((i : Int) < 4) = true := by simp; omega
    have b2 : decide (i < 4) = true := by simp; omega
    have b3 : (0 : Int) ≤ (i : Int) := by omega
    have b4 : (i : Int) < 4 := by omega
    have b5 : wrap64 ((i : Int) + 1) = ((i + 1 : Nat) : Int) := by rw [IntWalk.wrap64_in _ (by omega)]; omega
    obtain ⟨gw, dx, dy, hdw, HCW⟩ : ∃ (gw : Nat) (dx dy : Int), Go.Proofs.Ytndkkjpgnmahbaa.Print.ways.getD i (0, 0) = (dx, dy) ∧ Aside0 (∀ V, Below wr.heap.size wr V → V.cell? ⟨gL, i, none⟩ = some (.slice (some ⟨gw, 0, none⟩) 2 2) ∧ V.cell? ⟨gw, 0, none⟩ = some (.int .i64 dx) ∧ V.cell? ⟨gw, 1, none⟩ = some (.int .i64 dy)) := by
     have hL := HM.out.head
     rcases (show i = 0 ∨ i = 1 ∨ i = 2 ∨ i = 3 by omega) with rfl | rfl | rfl | rfl
     ·exact ⟨gw1, 1, 0, rfl, ⟨fun V hV => ⟨(blk_cell (blk_below hL hV) 0).trans rfl, pair_cells (blk_below (HM.out.blk (gw1, #[.int .i64 1, .int .i64 0], 3) (by simp)) hV) rfl rfl⟩⟩⟩
     ·exact ⟨gw2, -1, 0, rfl, ⟨fun V hV => ⟨(blk_cell (blk_below hL hV) 1).trans rfl, pair_cells (blk_below (HM.out.blk (gw2, #[.int .i64 (-1), .int .i64 0], 3) (by simp)) hV) rfl rfl⟩⟩⟩
     ·exact ⟨gw3, 0, 1, rfl, ⟨fun V hV => ⟨(blk_cell (blk_below hL hV) 2).trans rfl, pair_cells (blk_below (HM.out.blk (gw3, #[.int .i64 0, .int .i64 1], 3) (by simp)) hV) rfl rfl⟩⟩⟩
     ·exact ⟨gw4, 0, -1, rfl, ⟨fun V hV => ⟨(blk_cell (blk_below hL hV) 3).trans rfl, pair_cells (blk_below (HM.out.blk (gw4, #[.int .i64 0, .int .i64 (-1)], 3) (by simp)) hV) rfl rfl⟩⟩⟩
    have HAC2 : Aside0 ((Go.Proofs.Ytndkkjpgnmahbaa.Print.ways.take (i + 1)).foldl (playStep W H R C n k0 g0 a0 (x1, x2, 0)) 0 = playStep W H R C n k0 g0 a0 (x1, x2, 0) acc (dx, dy)) := ⟨by
     have h4 : i < Go.Proofs.Ytndkkjpgnmahbaa.Print.ways.length := hi
     rw [List.take_succ_eq_append_getElem h4, List.foldl_append, ← HAC.out, ← hdw, List.getD_eq_getElem?_getD, List.getElem?_eq_getElem h4]
     rfl⟩
    have HDS : Aside0 (-1 ≤ dx ∧ dx ≤ 1 ∧ -1 ≤ dy ∧ dy ≤ 1) := ⟨by
     rcases (show i = 0 ∨ i = 1 ∨ i = 2 ∨ i = 3 by omega) with rfl | rfl | rfl | rfl <;> (simp [Go.Proofs.Ytndkkjpgnmahbaa.Print.ways] at hdw; omega)⟩
    generalize hq : shiftE W H R C g0 dx dy = q
    obtain ⟨q1, q2, q3, q4, q5⟩ := q
    have HQE := Aside0.mk hq
    have HQL := Aside0.mk (shiftE_len hq)
    obtain ⟨Ks, hKs⟩ := HAE.out q1 q2 q3 q4 HQL.out
    have hKs1 := hKs Ks (Nat.le_refl _)
    generalize hs : ampE q1 q2 q3 q4 n k0 g0 a0 = s at hKs1
    obtain ⟨s1, s2, s3⟩ := s
    have HSA := Aside0.mk hKs1
    have HSE := Aside0.mk hs
    clear hq hKs hKs1 hs hi HAC hdw
    go_upto_region 9 with fail
    go_cut [17, 18] (fun v17 v18 wc => ∃ (g17 : Nat) (Aq : Option Addr) (cq : Nat), v17 = .pointer (some ⟨g17, 0, none⟩) ∧ v18 = .int .i64 q5 ∧ Aside0 (Kd.C (Kd.int .i64) wc Aq q4.length q4 ∧ q4.length ≤ cq) ∧ Aside0 (Mem w wc ((g17, #[.int .i64 q1, .int .i64 q2, .bool q3, .slice Aq q4.length cq], 24) :: [(gL, #[.slice (some ⟨gw1, 0, none⟩) 2 2, .slice (some ⟨gw2, 0, none⟩) 2 2, .slice (some ⟨gw3, 0, none⟩) 2 2, .slice (some ⟨gw4, 0, none⟩) 2 2], 22), (gw4, #[.int .i64 0, .int .i64 (-1)], 3), (gw3, #[.int .i64 0, .int .i64 1], 3), (gw2, #[.int .i64 (-1), .int .i64 0], 3), (gw1, #[.int .i64 1, .int .i64 0], 3), (g12, #[.int .i64 x1, .int .i64 x2], 42), (g5, #[.int .i64 W, .int .i64 H, .bool R, .slice A C.length c], 24)])))
    case first =>
     have HQ0 := Aside0.mk (Mem.start wr)
     have HQ := Aside0.mk HM.out.drew
     have HB0 : Aside0 (Below wr.heap.size wr wr.drew) := ⟨below_drew1 (Below.refl _ _)⟩
     clear HQ0
     refine start_ (n := 21) (S := fun w' => w'.cell? ⟨g5, 0, none⟩ = some (.int .i64 W) ∧ w'.cell? ⟨g5, 1, none⟩ = some (.int .i64 H) ∧ w'.cell? ⟨g5, 2, none⟩ = some (.bool R) ∧ w'.cell? ⟨g5, 3, none⟩ = some (.slice A C.length c) ∧ w'.cell? ⟨gL, i, none⟩ = some (.slice (some ⟨gw, 0, none⟩) 2 2) ∧ w'.cell? ⟨gw, 0, none⟩ = some (.int .i64 dx) ∧ w'.cell? ⟨gw, 1, none⟩ = some (.int .i64 dy)) (ds := [19, 20]) (bS 21 0) (by kernel_rfl) rfl rfl (cells7 (plan_cells (HQ.out.blk (g5, #[.int .i64 W, .int .i64 H, .bool R, .slice A C.length c], 24) (by simp))) (HCW.out _ HB0.out)) (fun hHeld => ?_); refine with_tabW playR.tab9 playR.bits9 (fun HT_ HW_ => ?_)
     refine pu_ 1 45 (bS 21 2) HT_ ?_
     refine pu_ 2 46 (bS 21 6) HT_ ?_
     refine pu_ 3 47 (bS 21 14) HT_ ?_
     refine pu_ 4 48 (bS 21 30) HT_ ?_
     refine pu_ 8 52 (bS 21 286) HT_ ?_
     refine pu_ 9 53 (bS 21 798) HT_ ?_
     refine pu_ 10 54 (bS 21 1822) HT_ ?_
     refine ta_ 0 44 (bS 21 1823) HT_ HW_ hHeld ?_
     refine ta_ 5 49 (bS 21 1855) HT_ HW_ hHeld ?_
     refine pu_ 6 50 (bS 21 1919) HT_ ?_
     refine ta_ 7 51 (bS 21 2047) HT_ HW_ hHeld ?_
     refine ta_ 11 55 (bS 21 4095) HT_ HW_ hHeld ?_
     refine pu_ 12 56 (bS 21 8191) HT_ ?_
     refine ta_ 13 57 (bS 21 16383) HT_ HW_ hHeld ?_
     refine two_ (i := 14) (j := 18) (Ni := some 58) (Nj := some 17) (bS 21 32767) (bS 21 278527) rfl rfl rfl rfl (two_of HT_.out (by kernel_rfl)) (by decide) (by decide) (fun K hK => ?_) (fun K hK => ?_)
     ·refine goes_ Try.func59 (by kernel_rfl) rfl #[.agg #[.int .i64 W, .int .i64 H, .bool R, .slice A C.length c], .int .i64 g0, .int .i64 dx, .int .i64 dy] (by rfl) rfl rfl aA ?_
      with_reducible refine (thermionref01_Shift.calls W H R A c C g0 dx dy q1 q2 q3 q4 q5 _ (Kd.C_below HR.out HQ.out.below) HC.out HL.out (by have := HDS.out; omega) (by have := HDS.out; omega) HQE.out).mono ?_
      rintro e1 wq ⟨vq, rfl, hR, hb⟩
      obtain ⟨Aq, cq, eq⟩ := Kd.R_slice hR
      subst eq
      have HRQ := Aside0.mk hR
      have HQ2 := Aside0.mk (HQ.out.step hb)
      replace HB0 := Aside0.mk (below_step HB0.out hb)
      clear hb hR HQ
      have HQ := HQ2
      clear HQ2
      refine ⟨_, rfl, ?_⟩
      refine hK.out _ _ (cells7 (plan_cells (HQ.out.blk (g5, #[.int .i64 W, .int .i64 H, .bool R, .slice A C.length c], 24) (by simp))) (HCW.out _ HB0.out)) (fun hHeld => ?_)
      clear hK K
      refine nm_ ?_
      refine pu_ 15 43 (bS 21 65535) HT_ ?_
      refine pu_ 16 59 (bS 21 131071) HT_ ?_
      refine pu_ 17 60 (bS 21 262143) HT_ ?_
      refine on_ 18 17 (bS 21 524287) (fun K hK => ?_) (one_of HT_.out (by kernel_rfl))
      refine new_stepB HQ.out (by rfl) rfl 24 rfl info24 (fun g17 wq hm1 hq1 => ?_)
      have HQ2 := Aside0.mk hm1
      replace HB0 := Aside0.mk (below_step HB0.out hq1)
      replace HRQ := Aside0.mk (Kd.R_below HRQ.out hq1)
      clear hm1 hq1 HQ
      have HQ := HQ2
      clear HQ2
      refine hK.out _ _ (cells7 (plan_cells (HQ.out.blk (g5, #[.int .i64 W, .int .i64 H, .bool R, .slice A C.length c], 24) (by simp))) (HCW.out _ HB0.out)) (fun hHeld => ?_)
      clear hK K
      refine nm_ ?_
      refine la_ 19 (bS 21 1048575) (fun K hK => ?_) (one_of HT_.out (by kernel_rfl))
      refine store_stepB HQ.out (by rfl) rfl 24 (.tmp 17) (.tmp 59) rfl rfl rfl (cs := #[.int .i64 q1, .int .i64 q2, .bool q3, .slice Aq q4.length cq]) size24 rfl rfl (by simp [Value.oneCell']) HRQ.out (by decide) (fun wq hm1 hr1 => ?_)
      have HQ2 := Aside0.mk hm1
      replace HRQ := Aside0.mk hr1
      clear hm1 hr1 HQ
      have HQ := HQ2
      clear HQ2
      refine hK.out _ _ ?_
      clear hK K
      refine nm0_ ?_
      refine pu_ 20 18 (bS 21 2097151) HT_ ?_
      refine done_ (done_of HT_.out (by kernel_rfl)) ?_
      clear hHeld HT_ HW_
      go_wp2
      go_meet
      case rel => exact ⟨g17, Aq, cq, rfl, rfl, ⟨(Kd.R_reads' HRQ.out).2.2, (Kd.R_reads' HRQ.out).2.1⟩, HQ⟩
     ·refine new_stepB HQ.out (by rfl) rfl 24 rfl info24 (fun g17 wq hm1 hq1 => ?_)
      have HQ2 := Aside0.mk hm1
      replace HB0 := Aside0.mk (below_step HB0.out hq1)
      clear hm1 hq1 HQ
      have HQ := HQ2
      clear HQ2
      refine hK.out _ _ (cells7 (plan_cells (HQ.out.blk (g5, #[.int .i64 W, .int .i64 H, .bool R, .slice A C.length c], 24) (by simp))) (HCW.out _ HB0.out)) (fun hHeld => ?_)
      clear hK K
      refine nm_ ?_
      refine on_ 14 58 (bS 21 294911) (fun K hK => ?_) (one_of HT_.out (by kernel_rfl))
      refine goes_ Try.func59 (by kernel_rfl) rfl #[.agg #[.int .i64 W, .int .i64 H, .bool R, .slice A C.length c], .int .i64 g0, .int .i64 dx, .int .i64 dy] (by rfl) rfl rfl aA ?_
      with_reducible refine (thermionref01_Shift.calls W H R A c C g0 dx dy q1 q2 q3 q4 q5 _ (Kd.C_below HR.out HQ.out.below) HC.out HL.out (by have := HDS.out; omega) (by have := HDS.out; omega) HQE.out).mono ?_
      rintro e1 wq ⟨vq, rfl, hR, hb⟩
      obtain ⟨Aq, cq, eq⟩ := Kd.R_slice hR
      subst eq
      have HRQ := Aside0.mk hR
      have HQ2 := Aside0.mk (HQ.out.step hb)
      replace HB0 := Aside0.mk (below_step HB0.out hb)
      clear hb hR HQ
      have HQ := HQ2
      clear HQ2
      refine ⟨_, rfl, ?_⟩
      refine hK.out _ _ (cells7 (plan_cells (HQ.out.blk (g5, #[.int .i64 W, .int .i64 H, .bool R, .slice A C.length c], 24) (by simp))) (HCW.out _ HB0.out)) (fun hHeld => ?_)
      clear hK K
      refine nm_ ?_
      refine pu_ 15 43 (bS 21 327679) HT_ ?_
      refine pu_ 16 59 (bS 21 393215) HT_ ?_
      refine pu_ 17 60 (bS 21 524287) HT_ ?_
      refine la_ 19 (bS 21 1048575) (fun K hK => ?_) (one_of HT_.out (by kernel_rfl))
      refine store_stepB HQ.out (by rfl) rfl 24 (.tmp 17) (.tmp 59) rfl rfl rfl (cs := #[.int .i64 q1, .int .i64 q2, .bool q3, .slice Aq q4.length cq]) size24 rfl rfl (by simp [Value.oneCell']) HRQ.out (by decide) (fun wq hm1 hr1 => ?_)
      have HQ2 := Aside0.mk hm1
      replace HRQ := Aside0.mk hr1
      clear hm1 hr1 HQ
      have HQ := HQ2
      clear HQ2
      refine hK.out _ _ ?_
      clear hK K
      refine nm0_ ?_
      refine pu_ 20 18 (bS 21 2097151) HT_ ?_
      refine done_ (done_of HT_.out (by kernel_rfl)) ?_
      clear hHeld HT_ HW_
      go_wp2
      go_meet
      case rel => exact ⟨g17, Aq, cq, rfl, rfl, ⟨(Kd.R_reads' HRQ.out).2.2, (Kd.R_reads' HRQ.out).2.1⟩, HQ⟩
    case rest =>
    obtain ⟨g17, Aq, cq, rfl, rfl, HRQ, HQ⟩ := hcut
    clear HM
    by_cases g3 : q5 = 0
    rotate_left
    ·have g4 : (q5 != 0) = true := bne_iff_ne.mpr g3
     have HAC3 : Aside0 (acc = (Go.Proofs.Ytndkkjpgnmahbaa.Print.ways.take (i + 1)).foldl (playStep W H R C n k0 g0 a0 (x1, x2, 0)) 0) := ⟨by rw [HAC2.out, step_skip (d := (dx, dy)) HQE.out g3]⟩
     clear g3
     go_wp2_with fail
     go_roundg (4 - (i + 1))
     case measure => have := HK.out; have := HI.out; omega
     case rel => exact ⟨i + 1, acc, rfl, by first | exact congrArg _ b5 | go_num, ⟨by have := HK.out; have := HI.out; omega⟩, HAC3, ⟨HQ.out.drop⟩⟩
    ·subst g3
     have g4 : ((0 : Int) != 0) = false := rfl
     have HST := Aside0.mk (step_take (d := (dx, dy)) (acc := acc) (r := (x1, x2, 0)) HQE.out HSE.out)
     go_upto_region 12 with (first
      | ((with_reducible refine gate_dst (N := 64) rfl ?_); refine ev_load (HQ.out.head) rfl 24 (.tmp 17) rfl rfl _ Try.underlying24 rfl size24 rfl ?_)
      | (go_at_call 57; (with_reducible refine (thermionref01_Amplification.calls Ks q1 q2 q3 Aq cq q4 n k0 g0 a0 s1 s2 s3 _ HRQ.out.1 HRQ.out.2 HSA.out).mono ?_); rintro e61 w61 ⟨rfl, hb⟩; have HM61 := Aside0.mk (HQ.out.step hb); clear hb HQ HRQ)
      | ((with_reducible refine gate_dst (N := 19) rfl ?_); refine ev_new HM61.out rfl 42 rfl info42_ ?_; intro g19 w62 hm1 hq1; have HM62 := Aside0.mk hm1; clear hm1 hq1 HM61)
      | ((with_reducible refine gate_store (t := 42) (p := 19) rfl ?_); refine ev_store HM62.out rfl 42 (.tmp 19) (.tmp 70) rfl rfl (cs := #[.int .i64 s1, .int .i64 s2]) rfl size42_ rfl rfl (by simp [Value.oneCell']) ?_; intro w63 hm1 hq1; have HM63 := Aside0.mk hm1; clear hm1 hq1 HM62))
     by_cases g5 : s3 = 0
     ·subst g5
      have g6 : ((0 : Int) == 0) = true := rfl
      have HAC3 : Aside0 (mx (mx acc (wrap64 (s2 - x1))) (wrap64 (x2 - s1)) = (Go.Proofs.Ytndkkjpgnmahbaa.Print.ways.take (i + 1)).foldl (playStep W H R C n k0 g0 a0 (x1, x2, 0)) 0) := ⟨by rw [HAC2.out, HST.out, if_pos rfl]⟩
      obtain ⟨c19_0, c19_1⟩ := pair_cells HM63.out.head rfl rfl
      obtain ⟨c12_0, c12_1⟩ := pair_cells (HM63.out.blk (g12, #[.int .i64 x1, .int .i64 x2], 42) (by simp)) rfl rfl
      obtain ⟨y1, hy1⟩ : ∃ y, IntKind.i64.wrap (s2 - x1) = y := ⟨_, rfl⟩
      obtain ⟨y2, hy2⟩ : ∃ y, IntKind.i64.wrap (x2 - s1) = y := ⟨_, rfl⟩
      obtain ⟨z1, hz1⟩ : ∃ z, (if acc < y1 then y1 else acc) = z := ⟨_, rfl⟩
      obtain ⟨z2, hz2⟩ : ∃ z, (if z1 < y2 then y2 else z1) = z := ⟨_, rfl⟩
      have HAC4 : Aside0 (z2 = (Go.Proofs.Ytndkkjpgnmahbaa.Print.ways.take (i + 1)).foldl (playStep W H R C n k0 g0 a0 (x1, x2, 0)) 0) := ⟨by
       rw [← HAC3.out, ← hz2, ← hz1, ← hy1, ← hy2, i64_w, i64_w]
       rfl⟩
      clear HAC3 HST HAC2
      go_wp2_with fail
      go_roundg (4 - (i + 1))
      case measure => have := HK.out; have := HI.out; omega
      case rel => exact ⟨i + 1, z2, rfl, by first | exact congrArg _ b5 | go_num, ⟨by have := HK.out; have := HI.out; omega⟩, HAC4, ⟨HM63.out.drop.drop⟩⟩
     ·have g6 : (s3 == 0) = false := beq_eq_false_iff_ne.mpr g5
      have HAC3 : Aside0 (acc = (Go.Proofs.Ytndkkjpgnmahbaa.Print.ways.take (i + 1)).foldl (playStep W H R C n k0 g0 a0 (x1, x2, 0)) 0) := ⟨by rw [HAC2.out, HST.out, if_neg g5]⟩
      clear g5
      go_wp2_with fail
      go_roundg (4 - (i + 1))
      case measure => have := HK.out; have := HI.out; omega
      case rel => exact ⟨i + 1, acc, rfl, by first | exact congrArg _ b5 | go_num, ⟨by have := HK.out; have := HI.out; omega⟩, HAC3, ⟨HM63.out.drop.drop⟩⟩
   ·obtain rfl : i = 4 := by have := HK.out; omega
    have b1 : decide (((4 : Nat) : Int) < 4) = false := by simp
    obtain rfl : acc = r1 := by rw [HAC.out, ← HE.out]; rfl
    go_wp2
    go_ret2
    exact ⟨rfl, HM.out.below⟩
end Go.Proofs.Ytndkkjpgnmahbaa.Print
end
