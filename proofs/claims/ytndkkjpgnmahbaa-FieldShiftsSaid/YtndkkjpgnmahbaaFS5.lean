/- Part 5 of the texts of a claim about Ytndkkjpgnmahbaa, put together by a program of this work: what the Go functions do, and that their calls do so. -/
import Derived.Test.YtndkkjpgnmahbaaFS2
import Derived.Test.YtndkkjpgnmahbaaFS4
import Derived.Test.YtndkkjpgnmahbaaFS3
import Derived.WalkKit
import Derived.ProofKit
import Derived.OpenShut
import Derived.ChangeOld
set_option linter.unusedVariables false
set_option linter.unusedSimpArgs false
set_option maxRecDepth 100000
set_option maxHeartbeats 64000000
attribute [local go_sem] Go.Proofs.YtndkkjpgnmahbaaW.PrintMore.max2_int Go.Proofs.YtndkkjpgnmahbaaW.PrintMore.min2_int Go.Proofs.YtndkkjpgnmahbaaW.PrintMore.max_two Go.Proofs.YtndkkjpgnmahbaaW.PrintMore.min_two Go.Proofs.YtndkkjpgnmahbaaW.PrintMore.max_three Go.Proofs.YtndkkjpgnmahbaaW.PrintMore.min_three Go.Proofs.YtndkkjpgnmahbaaW.PrintMore.max_four Go.Proofs.YtndkkjpgnmahbaaW.PrintMore.min_four
section
namespace Go.Proofs.Ytndkkjpgnmahbaa.Print
open Go.RowKit YtndkkjpgnmahbaaW.PrintWords YtndkkjpgnmahbaaW.PrintLast YtndkkjpgnmahbaaW.PrintMore Ytndkkjpgnmahbaa.H Proofs.Field
mutual
def thermionref01_held.l0 : Nat → List Bool → Int → Int → Int → Bool → List Int → Option (List Bool)
 | 0, _, _, _, _, _, _ => none
 | k + 1, x3, x4, x261000, x261001, x261002, x261003 => if x4 < (x261003.length : Int) then (if 0 ≤ x4 then (if x4 < (x3.length : Int) then (thermionref01_held.l0 k (x3.set (x4 : Int).toNat (decide ((rd x261003 x4) > 0))) (wrap64 (x4 + 1)) x261000 x261001 x261002 x261003) else (none)) else (none)) else (thermionref01_held.l1 k x3 true x261000 x261001 x261002 x261003)
def thermionref01_held.l1 : Nat → List Bool → Bool → Int → Int → Bool → List Int → Option (List Bool)
 | 0, _, _, _, _, _, _ => none
 | k + 1, x3, x5, x261000, x261001, x261002, x261003 => if x5 = true then (thermionref01_held.l2 k x3 false 0 x261000 x261001 x261002 x261003) else (some x3)
def thermionref01_held.l2 : Nat → List Bool → Bool → Int → Int → Int → Bool → List Int → Option (List Bool)
 | 0, _, _, _, _, _, _, _ => none
 | k + 1, x3, x5, x6, x261000, x261001, x261002, x261003 => if x6 < (x261003.length : Int) then ((thermionref01_around.f k x261000 x261001 x261002 x261003 x6).bind fun t266 => (thermionref01_held.l3 k x3 x5 x6 t266 0 x261000 x261001 x261002 x261003)) else (thermionref01_held.l1 k x3 x5 x261000 x261001 x261002 x261003)
def thermionref01_held.l3 : Nat → List Bool → Bool → Int → List Int → Int → Int → Int → Bool → List Int → Option (List Bool)
 | 0, _, _, _, _, _, _, _, _, _ => none
 | k + 1, x3, x5, x6, x7, x8, x261000, x261001, x261002, x261003 => if x8 < (x7.length : Int) then (if 0 ≤ x8 then (if 0 ≤ (rd x7 x8) then (if (rd x7 x8) < (x3.length : Int) then (if rdOf false x3 (rd x7 x8) = true then (if 0 ≤ x6 then (if x6 < (x3.length : Int) then (if rdOf false x3 x6 = true then (thermionref01_held.l3 k x3 x5 x6 x7 (wrap64 (x8 + 1)) x261000 x261001 x261002 x261003) else (thermionref01_held.l3 k (x3.set (x6 : Int).toNat true) true x6 x7 (wrap64 (x8 + 1)) x261000 x261001 x261002 x261003)) else (none)) else (none)) else (thermionref01_held.l3 k x3 x5 x6 x7 (wrap64 (x8 + 1)) x261000 x261001 x261002 x261003)) else (none)) else (none)) else (none)) else (thermionref01_held.l2 k x3 x5 (wrap64 (x6 + 1)) x261000 x261001 x261002 x261003)
end
def thermionref01_held.f (k : Nat) (a0_0 : Int) (a0_1 : Int) (a0_2 : Bool) (l0_3 : List Int) : Option (List Bool) := if 0 ≤ (l0_3.length : Int) then (if ((l0_3.length : Int) : Int).toNat ≤ 281474976710656 then (thermionref01_held.l0 k (List.replicate ((l0_3.length : Int) : Int).toNat false) 0 a0_0 a0_1 a0_2 l0_3) else (none)) else (none)
theorem thermionref01_held.calls (k : Nat) (a0_0 : Int) (a0_1 : Int) (a0_2 : Bool) (A0_3 : Option Addr) (c0_3 : Nat) (l0_3 : List Int) (r : List Bool) (w : World) (hr0_3 : Kd.C (Kd.int .i64) w A0_3 l0_3.length l0_3) (hc0_3 : l0_3.length ≤ c0_3) (h : thermionref01_held.f k a0_0 a0_1 a0_2 l0_3 = some r) :
  Calls Try.prog 84 #[.agg #[.int .i64 a0_0, .int .i64 a0_1, .bool a0_2, .slice A0_3 l0_3.length c0_3]] w fun e w' => ∃ v0_ : Value, e = .returned (v0_) ∧ Kd.R Kd.bool 4 w' w.heap.size (fun _ => True) v0_ r ∧ Below w.heap.size w w' := by
 have hu24 := Try.underlying24
 have HR0_3 := Aside0.mk hr0_3
 have HC0_3 := Aside0.mk hc0_3
 clear hr0_3 hc0_3
 have HB := Aside0.mk (Below.refl w.heap.size w)
 have H : (if 0 ≤ (l0_3.length : Int) then (if ((l0_3.length : Int) : Int).toNat ≤ 281474976710656 then (thermionref01_held.l0 k (List.replicate ((l0_3.length : Int) : Int).toNat false) 0 a0_0 a0_1 a0_2 l0_3) else (none)) else (none)) = some r := h
 clear h
 by_cases c2 : 0 ≤ (l0_3.length : Int)
 ·rw [if_pos c2] at H
  have c2b0 := eq_true c2
  have c2b1 := decide_eq_true c2
  clear c2
  by_cases c3 : ((l0_3.length : Int) : Int).toNat ≤ 281474976710656
  ·rw [if_pos c3] at H
   have c3b0 := eq_true c3
   have c3b1 := decide_eq_true c3
   clear c3
   obtain ⟨y261, hy261⟩ : ∃ y_ : List Bool, y_ = (List.replicate ((l0_3.length : Int) : Int).toNat false) := ⟨_, rfl⟩
   replace H : (thermionref01_held.l0 k y261 0 a0_0 a0_1 a0_2 l0_3) = some r := by first | (rw [hy261]; with_reducible exact H) | (rw [hy261]; exact (Option.bind_some _ _).symm.trans H) | (rw [hy261]; exact H) | exact H
   have Ny261 := Aside0.mk hy261
   clear hy261
   have H' := Aside0.mk H
   clear H
   go_enter Try.func84, Try.ntmps84
   go_wp2_with (first | ((with_reducible refine gate_dst (N := 1) rfl ?_); refine aBox 1 #[.int .i64 a0_0, .int .i64 a0_1, .bool a0_2, .slice A0_3 l0_3.length c0_3] 24 ?_; intro gb260 hg w4 hbox hb; have BK260 := Aside0.mk (hbox); have GW260 := aGe hg HB; have GE260 := aGe hg HB; replace HB := aBs HB hb; clear hb hbox hg; obtain ⟨⟨hcz5_0, hcz5_1, hcz5_2, hcz5_3⟩, hfz5_0, hfz5_1, hfz5_2, hfz5_3⟩ := aC4 BK260) | ((with_reducible refine gate_dst (N := 12) rfl ?_); refine Kd.R_make Kd.bool _ 4 rfl (N := 12) rfl 100 _ _ rfl (l0_3.length : Int) rfl rfl Try.underlying100 (.bool false) 1 info4 rfl (by decide) (by omega) false (ok := fun _ => True) (okp := fun _ => True) rfl (fun _ hk => hk) trivial (aD) (Nat.le_trans (Nat.mul_le_mul_right _ (aD : (l0_3.length : Int).toNat ≤ 281474976710656)) (by omega)) (Below.refl _ _) (Nat.le_refl _) ?_; intro v262 w6 ho7 hb hg_ hnew_; clear hg_ hnew_; (first | rw [← Ny261.out] at ho7 | (simp only [Int.reduceToNat] at ho7; rw [← Ny261.out] at ho7)); have HO263 := Aside0.mk (Kd.R_lower ho7 (below_size (aBl HB).out)); replace BK260 := aBb BK260 hb; replace HB := aBs HB hb; clear hb ho7))
   go_loopg [4] k (fun kq v4 w' => ∃ (x3_1 : List Bool) (x4_1 : Int), v4 = .int .i64 x4_1 ∧ Aside0 (thermionref01_held.l0 kq x3_1 x4_1 a0_0 a0_1 a0_2 l0_3 = some r) ∧ Aside0 (kq ≤ k) ∧ Aside0 (Kd.R Kd.bool 4 w' w.heap.size (fun _ => True) v262 x3_1) ∧ Aside0 (w'.heap[gb260]? = some (.cells #[.int .i64 a0_0, .int .i64 a0_1, .bool a0_2, (.slice A0_3 l0_3.length c0_3)] 24 (0, 0))) ∧ Aside0 (Below w.heap.size w w'))
   case atStart => exact ⟨(y261), (0), aR, H', ⟨Nat.le_refl _⟩, aRk HO263, aBk BK260, aBl HB⟩
   case round =>
    clear H'
    try clear c2; try clear c2b0; try clear c2b1; try clear c3; try clear c3b0; try clear c3b1; try clear hcz5_0; try clear hcz5_1; try clear hcz5_2; try clear hcz5_3; try clear hfz5_0; try clear hfz5_1; try clear hfz5_2; try clear hfz5_3
    obtain ⟨x3_1, x4_1, rfl, HA, HK1, HO_3, BK260, HB⟩ := hrel
    cases gk with
    | zero => exact absurd HA.out (by simp [thermionref01_held.l0])
    | succ k1 =>
     have H := HA.out
     clear HA
     simp only [thermionref01_held.l0] at H
     by_cases c8 : x4_1 < (l0_3.length : Int)
     ·rw [if_pos c8] at H
      have c8b0 := decide_eq_true c8
      clear c8
      by_cases c9 : 0 ≤ x4_1
      ·rw [if_pos c9] at H
       have c9b0 := decide_eq_true c9
       clear c9
       by_cases c10 : x4_1 < (x3_1.length : Int)
       ·rw [if_pos c10] at H
        have c10b0 := decide_eq_true c10
        clear c10
        obtain ⟨y265, hy265⟩ : ∃ y_ : List Bool, y_ = (x3_1.set (x4_1 : Int).toNat (decide ((rd l0_3 x4_1) > 0))) := ⟨_, rfl⟩
        replace H : (thermionref01_held.l0 k1 y265 (wrap64 (x4_1 + 1)) a0_0 a0_1 a0_2 l0_3) = some r := by first | (rw [hy265]; with_reducible exact H) | (rw [hy265]; exact (Option.bind_some _ _).symm.trans H) | (rw [hy265]; exact H) | exact H
        have Ny265 := Aside0.mk hy265
        clear hy265
        have H' := Aside0.mk H
        clear H
        obtain ⟨⟨hcz12_0, hcz12_1, hcz12_2, hcz12_3⟩, hfz12_0, hfz12_1, hfz12_2, hfz12_3⟩ := aC4 BK260
        have p264 : 0 ≤ (x4_1 : Int) := aD
        have q264 : x4_1 < (l0_3.length : Int) := aD
        obtain ⟨ad264, e264, hx264_0⟩ := Kd.at_int HR0_3.out x4_1 p264 q264
        cases e264
        replace hx264_0 := (HB.out.cell (World.block_lt_of_cell? w _ hx264_0)).trans hx264_0
        replace p264 := eq_true p264
        replace q264 := eq_true q264
        have p11 : 0 ≤ (x4_1 : Int) := aD
        have q11 : (x4_1 : Int) < ((x3_1.length : Int) : Int) := aD
        obtain ⟨go11, co11, eo11, gb11, gl11, cl11, HG11⟩ := Kd.R_form HO_3.out (by omega)
        (first | cases eo11 | (injection eo11 with ea_ en_ ec_; (first | subst ea_ | (injection ea_ with ea_; subst ea_)); subst ec_; clear en_))
        have GB11 := Aside0.mk gb11
        have GG11 := Aside0.mk HG11
        clear gb11 gl11 HG11
        obtain ⟨hx11_0, hf11_0⟩ := Kd.R_celln false HO_3.out (x4_1 : Int) p11 q11
        replace p11 := eq_true p11
        replace q11 := eq_true q11
        have HP13 := Kd.R_putg HO_3.out (x4_1 : Int) (decide ((rd l0_3 x4_1) > 0))
        go_wp2_with (first | ((with_reducible refine gate_store (t := 4) (p := 28) rfl ?_); refine store_event (t := 4) (p := 28) (v := ?vo_w14) (w1 := (wr.setCell ⟨go11, (x4_1 : Int).toNat, none⟩ (.bool (decide ((rd l0_3 x4_1) > 0))))) ?hg ?ho ?hn ?hr ?_; (case ho => rfl); (case hg => rfl); (case hn => rfl); (case hr => first | (go_simp; done) | (go_simp; rfl)); intro w14 hw; have hg : wr.grownBy w14 (some go11) := (by rw [hw]; exact HP13.2); have hp_ : Kd.R Kd.bool 4 w14 w.heap.size (fun _ => True) (.slice (some ⟨go11, 0, none⟩) x3_1.length co11) y265 := (by rw [hw, Ny265.out]; exact HP13.1); clear HP13; replace BK260 := (aBg BK260 hg (Kd.R_ne HO_3.out BK260.out (by decide))); replace HO_3 := Aside0.mk (hp_); replace HB := Aside0.mk ((by rw [hw]; exact below_set (HB.out) GB11.out : Below w.heap.size w w14)); clear hg hw hp_))
        go_roundg k1
        case measure => have := HK1.out; omega
        case rel => exact ⟨(y265), (wrap64 (x4_1 + 1)), aR, H', ⟨by have := HK1.out; omega⟩, aRk HO_3, aBk BK260, aBl HB⟩
       ·rw [if_neg c10] at H
        exact absurd H (by simp)
      ·rw [if_neg c9] at H
       exact absurd H (by simp)
     ·rw [if_neg c8] at H
      have c8b0 := decide_eq_false c8
      clear c8
      have H' := Aside0.mk H
      clear H
      obtain ⟨⟨hcz15_0, hcz15_1, hcz15_2, hcz15_3⟩, hfz15_0, hfz15_1, hfz15_2, hfz15_3⟩ := aC4 BK260
      go_wp2
      go_loopg [5] k1 (fun kq v5 w' => ∃ (x3_2 : List Bool) (x5_2 : Bool), v5 = .bool x5_2 ∧ Aside0 (thermionref01_held.l1 kq x3_2 x5_2 a0_0 a0_1 a0_2 l0_3 = some r) ∧ Aside0 (kq ≤ k1) ∧ Aside0 (Kd.R Kd.bool 4 w' w.heap.size (fun _ => True) v262 x3_2) ∧ Aside0 (w'.heap[gb260]? = some (.cells #[.int .i64 a0_0, .int .i64 a0_1, .bool a0_2, (.slice A0_3 l0_3.length c0_3)] 24 (0, 0))) ∧ Aside0 (Below w.heap.size w w'))
      case atStart => exact ⟨(x3_1), (true), aR, H', ⟨Nat.le_refl _⟩, aRk HO_3, aBk BK260, aBl HB⟩
      case round =>
       clear H'
       try clear c2; try clear c2b0; try clear c2b1; try clear c3; try clear c3b0; try clear c3b1; try clear c8; try clear c8b0; try clear c9; try clear c9b0; try clear c10; try clear c10b0; try clear p11; try clear q11; try clear hcz12_0; try clear hcz12_1; try clear hcz12_2; try clear hcz12_3; try clear hcz15_0; try clear hcz15_1; try clear hcz15_2; try clear hcz15_3; try clear hcz5_0; try clear hcz5_1; try clear hcz5_2; try clear hcz5_3; try clear hfz12_0; try clear hfz12_1; try clear hfz12_2; try clear hfz12_3; try clear hfz15_0; try clear hfz15_1; try clear hfz15_2; try clear hfz15_3; try clear hfz5_0; try clear hfz5_1; try clear hfz5_2; try clear hfz5_3; try clear hx11_0; try clear hx264_0; try clear p11; try clear p264; try clear q11; try clear q264
       obtain ⟨x3_2, x5_2, rfl, HA, HK2, HO_3, BK260, HB⟩ := hrel
       cases gk with
       | zero => exact absurd HA.out (by simp [thermionref01_held.l1])
       | succ k2 =>
        have H := HA.out
        clear HA
        simp only [thermionref01_held.l1] at H
        by_cases c16 : x5_2 = true
        ·subst c16
         have H1 : (thermionref01_held.l2 k2 x3_2 false 0 a0_0 a0_1 a0_2 l0_3) = some r := by rw [if_pos rfl] at H; exact H
         clear H
         have H := H1
         clear H1
         have H' := Aside0.mk H
         clear H
         go_wp2
         go_loopg [5, 6] k2 (fun kq v5 v6 w' => ∃ (x3_3 : List Bool) (x5_3 : Bool) (x6_3 : Int), v5 = .bool x5_3 ∧ v6 = .int .i64 x6_3 ∧ Aside0 (thermionref01_held.l2 kq x3_3 x5_3 x6_3 a0_0 a0_1 a0_2 l0_3 = some r) ∧ Aside0 (kq ≤ k2) ∧ Aside0 (Kd.R Kd.bool 4 w' w.heap.size (fun _ => True) v262 x3_3) ∧ Aside0 (w'.heap[gb260]? = some (.cells #[.int .i64 a0_0, .int .i64 a0_1, .bool a0_2, (.slice A0_3 l0_3.length c0_3)] 24 (0, 0))) ∧ Aside0 (Below w.heap.size w w'))
         case atStart => exact ⟨(x3_2), (false), (0), aR, aR, H', ⟨Nat.le_refl _⟩, aRk HO_3, aBk BK260, aBl HB⟩
         case round =>
          clear H'
          try clear c2; try clear c2b0; try clear c2b1; try clear c3; try clear c3b0; try clear c3b1; try clear c8; try clear c8b0; try clear c9; try clear c9b0; try clear c10; try clear c10b0; try clear p11; try clear q11; try clear c16; try clear hcz12_0; try clear hcz12_1; try clear hcz12_2; try clear hcz12_3; try clear hcz15_0; try clear hcz15_1; try clear hcz15_2; try clear hcz15_3; try clear hcz5_0; try clear hcz5_1; try clear hcz5_2; try clear hcz5_3; try clear hfz12_0; try clear hfz12_1; try clear hfz12_2; try clear hfz12_3; try clear hfz15_0; try clear hfz15_1; try clear hfz15_2; try clear hfz15_3; try clear hfz5_0; try clear hfz5_1; try clear hfz5_2; try clear hfz5_3; try clear hx11_0; try clear hx264_0; try clear p11; try clear p264; try clear q11; try clear q264
          obtain ⟨x3_3, x5_3, x6_3, rfl, rfl, HA, HK3, HO_3, BK260, HB⟩ := hrel
          cases gk with
          | zero => exact absurd HA.out (by simp [thermionref01_held.l2])
          | succ k3 =>
           have H := HA.out
           clear HA
           simp only [thermionref01_held.l2] at H
           by_cases c17 : x6_3 < (l0_3.length : Int)
           ·rw [if_pos c17] at H
            have c17b0 := decide_eq_true c17
            clear c17
            obtain ⟨t266, A180, H⟩ := Option.bind_eq_some_iff.mp H
            have A18 := Aside0.mk A180
            clear A180
            have H' := Aside0.mk H
            clear H
            obtain ⟨⟨hcz19_0, hcz19_1, hcz19_2, hcz19_3⟩, hfz19_0, hfz19_1, hfz19_2, hfz19_3⟩ := aC4 BK260
            go_wp2_with (first | ((with_reducible refine gate_callee (f := 100) rfl ?_); refine goesL_ (some 39) rfl rfl Try.func100 (by kernel_rfl) rfl #[.agg #[.int .i64 a0_0, .int .i64 a0_1, .bool a0_2, .slice A0_3 l0_3.length c0_3], .int .i64 x6_3] rfl aA ?_; (with_reducible refine (thermionref01_around.calls k3 a0_0 a0_1 a0_2 _ _ l0_3 x6_3 t266 _ ?side1 ?side2 A18.out).mono ?_); (case side1 => exact aC HR0_3 HB); (case side2 => exact HC0_3.out); rintro e w20 ⟨v267, rfl, ho0, hb⟩; refine ⟨_, rfl, ?_⟩; replace HO_3 := aRb HO_3 hb; have HO268 := Aside0.mk (Kd.R_lower ho0 (below_size (aBl HB).out)); replace BK260 := aBb BK260 hb; replace HB := aBs HB hb; (try clear hb hk hi); (try clear ho0)))
            go_loopg [5, 8] k3 (fun kq v5 v8 w' => ∃ (x3_4 : List Bool) (x5_4 : Bool) (x8_4 : Int), v5 = .bool x5_4 ∧ v8 = .int .i64 x8_4 ∧ Aside0 (thermionref01_held.l3 kq x3_4 x5_4 x6_3 t266 x8_4 a0_0 a0_1 a0_2 l0_3 = some r) ∧ Aside0 (kq ≤ k3) ∧ Aside0 (Kd.R Kd.bool 4 w' w.heap.size (fun _ => True) v262 x3_4) ∧ Aside0 (Kd.R (Kd.int .i64) 3 w' w.heap.size (fun _ => True) v267 t266) ∧ Aside0 (w'.heap[gb260]? = some (.cells #[.int .i64 a0_0, .int .i64 a0_1, .bool a0_2, (.slice A0_3 l0_3.length c0_3)] 24 (0, 0))) ∧ Aside0 (Below w.heap.size w w'))
            case atStart => exact ⟨(x3_3), (x5_3), (0), aR, aR, H', ⟨Nat.le_refl _⟩, aRk HO_3, aRk HO268, aBk BK260, aBl HB⟩
            case round =>
             clear H'
             try clear c2; try clear c2b0; try clear c2b1; try clear c3; try clear c3b0; try clear c3b1; try clear c8; try clear c8b0; try clear c9; try clear c9b0; try clear c10; try clear c10b0; try clear p11; try clear q11; try clear c16; try clear c17; try clear c17b0; try clear hcz12_0; try clear hcz12_1; try clear hcz12_2; try clear hcz12_3; try clear hcz15_0; try clear hcz15_1; try clear hcz15_2; try clear hcz15_3; try clear hcz19_0; try clear hcz19_1; try clear hcz19_2; try clear hcz19_3; try clear hcz5_0; try clear hcz5_1; try clear hcz5_2; try clear hcz5_3; try clear hfz12_0; try clear hfz12_1; try clear hfz12_2; try clear hfz12_3; try clear hfz15_0; try clear hfz15_1; try clear hfz15_2; try clear hfz15_3; try clear hfz19_0; try clear hfz19_1; try clear hfz19_2; try clear hfz19_3; try clear hfz5_0; try clear hfz5_1; try clear hfz5_2; try clear hfz5_3; try clear hx11_0; try clear hx264_0; try clear p11; try clear p264; try clear q11; try clear q264
             obtain ⟨x3_4, x5_4, x8_4, rfl, rfl, HA, HK4, HO_3, HO_7, BK260, HB⟩ := hrel
             cases gk with
             | zero => exact absurd HA.out (by simp [thermionref01_held.l3])
             | succ k4 =>
              have H := HA.out
              clear HA
              simp only [thermionref01_held.l3] at H
              by_cases c21 : x8_4 < (t266.length : Int)
              ·rw [if_pos c21] at H
               have c21b0 := decide_eq_true c21
               clear c21
               by_cases c22 : 0 ≤ x8_4
               ·rw [if_pos c22] at H
                have c22b0 := decide_eq_true c22
                clear c22
                by_cases c23 : 0 ≤ (rd t266 x8_4)
                ·rw [if_pos c23] at H
                 have c23b0 := decide_eq_true c23
                 clear c23
                 by_cases c24 : (rd t266 x8_4) < (x3_4.length : Int)
                 ·rw [if_pos c24] at H
                  have c24b0 := decide_eq_true c24
                  clear c24
                  obtain ⟨bq25, hbq25⟩ : ∃ b_ : Bool, b_ = (rdOf false x3_4 (rd t266 x8_4)) := ⟨_, rfl⟩
                  replace H : (if bq25 = true then (if 0 ≤ x6_3 then (if x6_3 < (x3_4.length : Int) then (if rdOf false x3_4 x6_3 = true then (thermionref01_held.l3 k4 x3_4 x5_4 x6_3 t266 (wrap64 (x8_4 + 1)) a0_0 a0_1 a0_2 l0_3) else (thermionref01_held.l3 k4 (x3_4.set (x6_3 : Int).toNat true) true x6_3 t266 (wrap64 (x8_4 + 1)) a0_0 a0_1 a0_2 l0_3)) else (none)) else (none)) else (thermionref01_held.l3 k4 x3_4 x5_4 x6_3 t266 (wrap64 (x8_4 + 1)) a0_0 a0_1 a0_2 l0_3)) = some r := by rw [← hbq25] at H; exact H
                  have Nbq25 := Aside0.mk hbq25
                  clear hbq25
                  by_cases c26 : bq25 = true
                  ·subst c26
                   have H1 : (if 0 ≤ x6_3 then (if x6_3 < (x3_4.length : Int) then (if rdOf false x3_4 x6_3 = true then (thermionref01_held.l3 k4 x3_4 x5_4 x6_3 t266 (wrap64 (x8_4 + 1)) a0_0 a0_1 a0_2 l0_3) else (thermionref01_held.l3 k4 (x3_4.set (x6_3 : Int).toNat true) true x6_3 t266 (wrap64 (x8_4 + 1)) a0_0 a0_1 a0_2 l0_3)) else (none)) else (none)) = some r := by rw [if_pos rfl] at H; exact H
                   clear H
                   have H := H1
                   clear H1
                   by_cases c27 : 0 ≤ x6_3
                   ·rw [if_pos c27] at H
                    have c27b0 := decide_eq_true c27
                    clear c27
                    by_cases c28 : x6_3 < (x3_4.length : Int)
                    ·rw [if_pos c28] at H
                     have c28b0 := decide_eq_true c28
                     clear c28
                     obtain ⟨bq29, hbq29⟩ : ∃ b_ : Bool, b_ = (rdOf false x3_4 x6_3) := ⟨_, rfl⟩
                     replace H : (if bq29 = true then (thermionref01_held.l3 k4 x3_4 x5_4 x6_3 t266 (wrap64 (x8_4 + 1)) a0_0 a0_1 a0_2 l0_3) else (thermionref01_held.l3 k4 (x3_4.set (x6_3 : Int).toNat true) true x6_3 t266 (wrap64 (x8_4 + 1)) a0_0 a0_1 a0_2 l0_3)) = some r := by rw [← hbq29] at H; exact H
                     have Nbq29 := Aside0.mk hbq29
                     clear hbq29
                     by_cases c30 : bq29 = true
                     ·subst c30
                      have H1 : (thermionref01_held.l3 k4 x3_4 x5_4 x6_3 t266 (wrap64 (x8_4 + 1)) a0_0 a0_1 a0_2 l0_3) = some r := by rw [if_pos rfl] at H; exact H
                      clear H
                      have H := H1
                      clear H1
                      have H' := Aside0.mk H
                      clear H
                      obtain ⟨Ao31, co31, eo31⟩ := Kd.R_slice HO_7.out
                      subst eo31
                      have p269 : 0 ≤ (x8_4 : Int) := aD
                      have q269 : x8_4 < (t266.length : Int) := aD
                      obtain ⟨ad269, e269, hx269_0⟩ := Kd.at_int (Kd.R_reads' HO_7.out).2.2 x8_4 p269 q269
                      cases e269
                      replace p269 := eq_true p269
                      replace q269 := eq_true q269
                      obtain ⟨Ao32, co32, eo32⟩ := Kd.R_slice HO_3.out
                      subst eo32
                      have p270 : 0 ≤ ((rd t266 x8_4) : Int) := aD
                      have q270 : (rd t266 x8_4) < (x3_4.length : Int) := aD
                      obtain ⟨ad270, e270, hx270_0⟩ := Kd.at_bool (Kd.R_reads' HO_3.out).2.2 (rd t266 x8_4) p270 q270
                      (try rw [← Nbq25.out] at hx270_0)
                      (try rw [← Nbq29.out] at hx270_0)
                      cases e270
                      replace p270 := eq_true p270
                      replace q270 := eq_true q270
                      have p271 : 0 ≤ (x6_3 : Int) := aD
                      have q271 : x6_3 < (x3_4.length : Int) := aD
                      obtain ⟨ad271, e271, hx271_0⟩ := Kd.at_bool (Kd.R_reads' HO_3.out).2.2 x6_3 p271 q271
                      (try rw [← Nbq25.out] at hx271_0)
                      (try rw [← Nbq29.out] at hx271_0)
                      obtain rfl : ad270 = ad271 := (by injection e271)
                      replace p271 := eq_true p271
                      replace q271 := eq_true q271
                      go_wp2
                      go_roundg k4
                      case measure => have := HK1.out; have := HK2.out; have := HK3.out; have := HK4.out; omega
                      case rel => exact ⟨(x3_4), (x5_4), (wrap64 (x8_4 + 1)), aR, aR, H', ⟨by have := HK1.out; have := HK2.out; have := HK3.out; have := HK4.out; omega⟩, aRk HO_3, aRk HO_7, aBk BK260, aBl HB⟩
                     ·replace c30 := Bool.eq_false_iff.mpr c30
                      subst c30
                      have H1 : (thermionref01_held.l3 k4 (x3_4.set (x6_3 : Int).toNat true) true x6_3 t266 (wrap64 (x8_4 + 1)) a0_0 a0_1 a0_2 l0_3) = some r := by rw [if_neg (show ¬ (false = true) by decide)] at H; exact H
                      clear H
                      have H := H1
                      clear H1
                      obtain ⟨y272, hy272⟩ : ∃ y_ : List Bool, y_ = (x3_4.set (x6_3 : Int).toNat true) := ⟨_, rfl⟩
                      replace H : (thermionref01_held.l3 k4 y272 true x6_3 t266 (wrap64 (x8_4 + 1)) a0_0 a0_1 a0_2 l0_3) = some r := by first | (rw [hy272]; with_reducible exact H) | (rw [hy272]; exact (Option.bind_some _ _).symm.trans H) | (rw [hy272]; exact H) | exact H
                      have Ny272 := Aside0.mk hy272
                      clear hy272
                      have H' := Aside0.mk H
                      clear H
                      obtain ⟨Ao34, co34, eo34⟩ := Kd.R_slice HO_7.out
                      subst eo34
                      have p269 : 0 ≤ (x8_4 : Int) := aD
                      have q269 : x8_4 < (t266.length : Int) := aD
                      obtain ⟨ad269, e269, hx269_0⟩ := Kd.at_int (Kd.R_reads' HO_7.out).2.2 x8_4 p269 q269
                      cases e269
                      replace p269 := eq_true p269
                      replace q269 := eq_true q269
                      obtain ⟨Ao35, co35, eo35⟩ := Kd.R_slice HO_3.out
                      subst eo35
                      have p270 : 0 ≤ ((rd t266 x8_4) : Int) := aD
                      have q270 : (rd t266 x8_4) < (x3_4.length : Int) := aD
                      obtain ⟨ad270, e270, hx270_0⟩ := Kd.at_bool (Kd.R_reads' HO_3.out).2.2 (rd t266 x8_4) p270 q270
                      (try rw [← Nbq25.out] at hx270_0)
                      (try rw [← Nbq29.out] at hx270_0)
                      cases e270
                      replace p270 := eq_true p270
                      replace q270 := eq_true q270
                      have p271 : 0 ≤ (x6_3 : Int) := aD
                      have q271 : x6_3 < (x3_4.length : Int) := aD
                      obtain ⟨ad271, e271, hx271_0⟩ := Kd.at_bool (Kd.R_reads' HO_3.out).2.2 x6_3 p271 q271
                      (try rw [← Nbq25.out] at hx271_0)
                      (try rw [← Nbq29.out] at hx271_0)
                      obtain rfl : ad270 = ad271 := (by injection e271)
                      replace p271 := eq_true p271
                      replace q271 := eq_true q271
                      have p33 : 0 ≤ (x6_3 : Int) := aD
                      have q33 : (x6_3 : Int) < ((x3_4.length : Int) : Int) := aD
                      obtain ⟨go33, co33, eo33, gb33, gl33, cl33, HG33⟩ := Kd.R_form HO_3.out (by omega)
                      (first | cases eo33 | (injection eo33 with ea_ en_ ec_; (first | subst ea_ | (injection ea_ with ea_; subst ea_)); subst ec_; clear en_))
                      have GB33 := Aside0.mk gb33
                      have GG33 := Aside0.mk HG33
                      clear gb33 gl33 HG33
                      (first | simp only [add_plain] at hx270_0 | skip)
                      (first | simp only [add_plain] at hx271_0 | skip)
                      obtain ⟨hx33_0, hf33_0⟩ := Kd.R_celln false HO_3.out (x6_3 : Int) p33 q33
                      replace p33 := eq_true p33
                      replace q33 := eq_true q33
                      have HP36 := Kd.R_putg HO_3.out (x6_3 : Int) true
                      go_wp2_with (first | ((with_reducible refine gate_store (t := 4) (p := 62) rfl ?_); refine store_event (t := 4) (p := 62) (v := ?vo_w37) (w1 := (wr.setCell ⟨go33, (x6_3 : Int).toNat, none⟩ (.bool true))) ?hg ?ho ?hn ?hr ?_; (case ho => rfl); (case hg => rfl); (case hn => rfl); (case hr => first | (go_simp; done) | (go_simp; rfl)); intro w37 hw; have hg : wr.grownBy w37 (some go33) := (by rw [hw]; exact HP36.2); have hp_ : Kd.R Kd.bool 4 w37 w.heap.size (fun _ => True) (.slice (some ⟨go33, 0, none⟩) x3_4.length co35) y272 := (by rw [hw, Ny272.out]; exact HP36.1); clear HP36; replace HO_7 := Aside0.mk (Kd.R_over' (v := (.slice (some ⟨go33, 0, none⟩) x3_4.length co35)) (aRk HO_7).out (Kd.R_typed HO_3.out) (by decide) hg); replace BK260 := (aBg BK260 hg (Kd.R_ne HO_3.out BK260.out (by decide))); replace HO_3 := Aside0.mk (hp_); replace HB := Aside0.mk ((by rw [hw]; exact below_set (HB.out) GB33.out : Below w.heap.size w w37)); clear hg hw hp_))
                      go_roundg k4
                      case measure => have := HK1.out; have := HK2.out; have := HK3.out; have := HK4.out; omega
                      case rel => exact ⟨(y272), (true), (wrap64 (x8_4 + 1)), aR, aR, H', ⟨by have := HK1.out; have := HK2.out; have := HK3.out; have := HK4.out; omega⟩, aRk HO_3, aRk HO_7, aBk BK260, aBl HB⟩
                    ·rw [if_neg c28] at H
                     exact absurd H (by simp)
                   ·rw [if_neg c27] at H
                    exact absurd H (by simp)
                  ·replace c26 := Bool.eq_false_iff.mpr c26
                   subst c26
                   have H1 : (thermionref01_held.l3 k4 x3_4 x5_4 x6_3 t266 (wrap64 (x8_4 + 1)) a0_0 a0_1 a0_2 l0_3) = some r := by rw [if_neg (show ¬ (false = true) by decide)] at H; exact H
                   clear H
                   have H := H1
                   clear H1
                   have H' := Aside0.mk H
                   clear H
                   obtain ⟨Ao38, co38, eo38⟩ := Kd.R_slice HO_7.out
                   subst eo38
                   have p269 : 0 ≤ (x8_4 : Int) := aD
                   have q269 : x8_4 < (t266.length : Int) := aD
                   obtain ⟨ad269, e269, hx269_0⟩ := Kd.at_int (Kd.R_reads' HO_7.out).2.2 x8_4 p269 q269
                   cases e269
                   replace p269 := eq_true p269
                   replace q269 := eq_true q269
                   obtain ⟨Ao39, co39, eo39⟩ := Kd.R_slice HO_3.out
                   subst eo39
                   have p270 : 0 ≤ ((rd t266 x8_4) : Int) := aD
                   have q270 : (rd t266 x8_4) < (x3_4.length : Int) := aD
                   obtain ⟨ad270, e270, hx270_0⟩ := Kd.at_bool (Kd.R_reads' HO_3.out).2.2 (rd t266 x8_4) p270 q270
                   (try rw [← Nbq25.out] at hx270_0)
                   cases e270
                   replace p270 := eq_true p270
                   replace q270 := eq_true q270
                   go_wp2
                   go_roundg k4
                   case measure => have := HK1.out; have := HK2.out; have := HK3.out; have := HK4.out; omega
                   case rel => exact ⟨(x3_4), (x5_4), (wrap64 (x8_4 + 1)), aR, aR, H', ⟨by have := HK1.out; have := HK2.out; have := HK3.out; have := HK4.out; omega⟩, aRk HO_3, aRk HO_7, aBk BK260, aBl HB⟩
                 ·rw [if_neg c24] at H
                  exact absurd H (by simp)
                ·rw [if_neg c23] at H
                 exact absurd H (by simp)
               ·rw [if_neg c22] at H
                exact absurd H (by simp)
              ·rw [if_neg c21] at H
               have c21b0 := decide_eq_false c21
               clear c21
               have H' := Aside0.mk H
               clear H
               obtain ⟨Ao40, co40, eo40⟩ := Kd.R_slice HO_7.out
               subst eo40
               go_wp2
               go_roundg k4
               case measure => have := HK1.out; have := HK2.out; have := HK3.out; have := HK4.out; omega
               case rel => exact ⟨(x3_4), (x5_4), (wrap64 (x6_3 + 1)), aR, aR, H', ⟨by have := HK1.out; have := HK2.out; have := HK3.out; have := HK4.out; omega⟩, aRk HO_3, aBk BK260, aBl HB⟩
           ·rw [if_neg c17] at H
            have c17b0 := decide_eq_false c17
            clear c17
            have H' := Aside0.mk H
            clear H
            obtain ⟨⟨hcz41_0, hcz41_1, hcz41_2, hcz41_3⟩, hfz41_0, hfz41_1, hfz41_2, hfz41_3⟩ := aC4 BK260
            go_wp2
            go_roundg k3
            case measure => have := HK1.out; have := HK2.out; have := HK3.out; omega
            case rel => exact ⟨(x3_3), (x5_3), aR, H', ⟨by have := HK1.out; have := HK2.out; have := HK3.out; omega⟩, aRk HO_3, aBk BK260, aBl HB⟩
        ·replace c16 := Bool.eq_false_iff.mpr c16
         subst c16
         have H1 : (some x3_2) = some r := by rw [if_neg (show ¬ (false = true) by decide)] at H; exact H
         clear H
         have H := H1
         clear H1
         obtain rfl := Option.some.inj H
         go_wp2
         go_ret
         exact ⟨_, by first | rfl | (simp [*] <;> rfl), by (with_reducible repeat (first | apply Kd.R_alloc | apply Kd.R_drewN | apply Kd.R_drew)); exact HO_3.out, (aBl HB).out⟩
  ·rw [if_neg c3] at H
   exact absurd H (by simp)
 ·rw [if_neg c2] at H
  exact absurd H (by simp)
mutual
def thermionref01_Check.j0 : Nat → Bool → Int → Int → Bool → List Int → Option (Int)
 | 0, _, _, _, _, _ => none
 | k + 1, x14, x274000, x274001, x274002, x274003 => if x14 = true then (some 2) else (if (x274003.length : Int) = (wrap64 (x274000 * x274001)) then (thermionref01_Check.l0 k false 0 x274000 x274001 x274002 x274003) else (some 3))
def thermionref01_Check.l0 : Nat → Bool → Int → Int → Int → Bool → List Int → Option (Int)
 | 0, _, _, _, _, _, _ => none
 | k + 1, x3, x4, x274000, x274001, x274002, x274003 => if x4 < (x274003.length : Int) then (if 0 ≤ x4 then ((thermionref01_beyond.f (rd x274003 x4) 0 6).bind fun t277 => (if t277 = true then (some 2) else (if x3 = true then (thermionref01_Check.l0 k true (wrap64 (x4 + 1)) x274000 x274001 x274002 x274003) else (thermionref01_Check.l0 k (decide ((rd x274003 x4) > 0)) (wrap64 (x4 + 1)) x274000 x274001 x274002 x274003)))) else (none)) else (if x3 = true then ((thermionref01_held.f k x274000 x274001 x274002 x274003).bind fun t279 => (thermionref01_Check.l1 k t279 0)) else (some 7))
def thermionref01_Check.l1 : Nat → List Bool → Int → Option (Int)
 | 0, _, _ => none
 | k + 1, x5, x6 => if x6 < (x5.length : Int) then (if 0 ≤ x6 then (if rdOf false x5 x6 = true then (thermionref01_Check.l1 k x5 (wrap64 (x6 + 1))) else (some 13)) else (none)) else (some 0)
end
def thermionref01_Check.f (k : Nat) (a0_0 : Int) (a0_1 : Int) (a0_2 : Bool) (l0_3 : List Int) : Option (Int) := (thermionref01_beyond.f a0_0 1 16).bind fun t274 => (if t274 = true then (thermionref01_Check.j0 k true a0_0 a0_1 a0_2 l0_3) else ((thermionref01_beyond.f a0_1 1 16).bind fun t275 => (thermionref01_Check.j0 k t275 a0_0 a0_1 a0_2 l0_3)))
theorem thermionref01_Check.calls (k : Nat) (a0_0 : Int) (a0_1 : Int) (a0_2 : Bool) (A0_3 : Option Addr) (c0_3 : Nat) (l0_3 : List Int) (r : Int) (w : World) (hr0_3 : Kd.C (Kd.int .i64) w A0_3 l0_3.length l0_3) (hc0_3 : l0_3.length ≤ c0_3) (h : thermionref01_Check.f k a0_0 a0_1 a0_2 l0_3 = some r) :
  Calls Try.prog 40 #[.agg #[.int .i64 a0_0, .int .i64 a0_1, .bool a0_2, .slice A0_3 l0_3.length c0_3]] w fun e w' => e = .returned (.int .i64 r) ∧ Below w.heap.size w w' := by
 have hu24 := Try.underlying24
 have HR0_3 := Aside0.mk hr0_3
 have HC0_3 := Aside0.mk hc0_3
 clear hr0_3 hc0_3
 have HB := Aside0.mk (Below.refl w.heap.size w)
 have H : ((thermionref01_beyond.f a0_0 1 16).bind fun t274 => (if t274 = true then (thermionref01_Check.j0 k true a0_0 a0_1 a0_2 l0_3) else ((thermionref01_beyond.f a0_1 1 16).bind fun t275 => (thermionref01_Check.j0 k t275 a0_0 a0_1 a0_2 l0_3)))) = some r := h
 clear h
 have HC2 := Aside0.mk H
 clear H
 go_enter Try.func40, Try.ntmps40
 go_upto_region 1 with (first | ((with_reducible refine gate_dst (N := 1) rfl ?_); refine aBox 1 #[.int .i64 a0_0, .int .i64 a0_1, .bool a0_2, .slice A0_3 l0_3.length c0_3] 24 ?_; intro gb273 hg w3 hbox hb; have BK273 := Aside0.mk (hbox); have GW273 := aGe hg HB; have GE273 := aGe hg HB; replace HB := aBs HB hb; clear hb hbox hg))
 (try simp only [Act.put, List.setIfInBounds_toArray, List.set_cons_zero, List.set_cons_succ])
 go_cut [14] (fun v14 wc => ∃ (kq : Nat) (x14_1 : Bool), v14 = .bool x14_1 ∧ Aside0 (thermionref01_Check.j0 kq x14_1 a0_0 a0_1 a0_2 l0_3 = some r) ∧ Aside0 (kq ≤ k) ∧ Aside0 (wc.heap[gb273]? = some (.cells #[.int .i64 a0_0, .int .i64 a0_1, .bool a0_2, (.slice A0_3 l0_3.length c0_3)] 24 (0, 0))) ∧ Aside0 (Below w.heap.size w wc))
 case first =>
  have H := HC2.out
  clear HC2
  obtain ⟨t274, A40, H⟩ := Option.bind_eq_some_iff.mp H
  have A4 := Aside0.mk A40
  clear A40
  by_cases c5 : t274 = true
  ·subst c5
   have H1 : (thermionref01_Check.j0 k true a0_0 a0_1 a0_2 l0_3) = some r := by rw [if_pos rfl] at H; exact H
   clear H
   have H := H1
   clear H1
   have H' := Aside0.mk H
   clear H
   obtain ⟨⟨hcz6_0, hcz6_1, hcz6_2, hcz6_3⟩, hfz6_0, hfz6_1, hfz6_2, hfz6_3⟩ := aC4 BK273
   go_wp2_with (first | ((with_reducible refine gate_callee (f := 73) rfl ?_); refine goesL_ (some 9) rfl rfl Try.func73 (by kernel_rfl) rfl #[.int .i64 a0_0, .int .i64 1, .int .i64 16] rfl aA ?_; (with_reducible refine (thermionref01_beyond.calls a0_0 1 16 true _ A4.out).mono ?_); rintro e w' ⟨rfl, ⟨nd, rfl⟩⟩; refine ⟨_, rfl, ?_⟩))
   go_meet
   case rel => exact ⟨_, (true), aR, H', ⟨by first | omega | exact Nat.le_refl _⟩, aBk BK273, aBl HB⟩
  ·replace c5 := Bool.eq_false_iff.mpr c5
   subst c5
   have H1 : ((thermionref01_beyond.f a0_1 1 16).bind fun t275 => (thermionref01_Check.j0 k t275 a0_0 a0_1 a0_2 l0_3)) = some r := by rw [if_neg (show ¬ (false = true) by decide)] at H; exact H
   clear H
   have H := H1
   clear H1
   obtain ⟨t275, A70, H⟩ := Option.bind_eq_some_iff.mp H
   have A7 := Aside0.mk A70
   clear A70
   have H' := Aside0.mk H
   clear H
   obtain ⟨⟨hcz8_0, hcz8_1, hcz8_2, hcz8_3⟩, hfz8_0, hfz8_1, hfz8_2, hfz8_3⟩ := aC4 BK273
   go_wp2_with (first | ((with_reducible refine gate_callee (f := 73) rfl ?_); refine goesL_ (some 9) rfl rfl Try.func73 (by kernel_rfl) rfl #[.int .i64 a0_0, .int .i64 1, .int .i64 16] rfl aA ?_; (with_reducible refine (thermionref01_beyond.calls a0_0 1 16 false _ A4.out).mono ?_); rintro e w' ⟨rfl, ⟨nd, rfl⟩⟩; refine ⟨_, rfl, ?_⟩) | (go_at_call 73; (with_reducible refine (thermionref01_beyond.calls a0_1 1 16 t275 _ A7.out).mono ?_); rintro e w' ⟨rfl, ⟨nd, rfl⟩⟩))
   go_meet
   case rel => exact ⟨_, (t275), aR, H', ⟨by first | omega | exact Nat.le_refl _⟩, aBk BK273, aBl HB⟩
 case rest =>
  clear HC2
  try clear c5; try clear hcz6_0; try clear hcz6_1; try clear hcz6_2; try clear hcz6_3; try clear hcz8_0; try clear hcz8_1; try clear hcz8_2; try clear hcz8_3; try clear hfz6_0; try clear hfz6_1; try clear hfz6_2; try clear hfz6_3; try clear hfz8_0; try clear hfz8_1; try clear hfz8_2; try clear hfz8_3
  obtain ⟨kq, x14_1, rfl, HA, HJ1, BK273, HB⟩ := hcut
  cases kq with
  | zero => exact absurd HA.out (by simp [thermionref01_Check.j0])
  | succ kj1 =>
   have H := HA.out
   clear HA
   simp only [thermionref01_Check.j0] at H
   by_cases c9 : x14_1 = true
   ·subst c9
    have H1 : (some 2) = some r := by rw [if_pos rfl] at H; exact H
    clear H
    have H := H1
    clear H1
    obtain rfl := Option.some.inj H
    go_wp2
    go_ret
    exact ⟨by first | rfl | (simp [*] <;> rfl), (aBl HB).out⟩
   ·replace c9 := Bool.eq_false_iff.mpr c9
    subst c9
    have H1 : (if (l0_3.length : Int) = (wrap64 (a0_0 * a0_1)) then (thermionref01_Check.l0 kj1 false 0 a0_0 a0_1 a0_2 l0_3) else (some 3)) = some r := by rw [if_neg (show ¬ (false = true) by decide)] at H; exact H
    clear H
    have H := H1
    clear H1
    by_cases c10 : (l0_3.length : Int) = (wrap64 (a0_0 * a0_1))
    ·rw [if_pos c10] at H
     obtain ⟨c10b0, c10b1⟩ := aEq c10
     clear c10
     have H' := Aside0.mk H
     clear H
     obtain ⟨⟨hcz11_0, hcz11_1, hcz11_2, hcz11_3⟩, hfz11_0, hfz11_1, hfz11_2, hfz11_3⟩ := aC4 BK273
     go_wp2
     go_loopg [3, 4] kj1 (fun kq v3 v4 w' => ∃ (x3_2 : Bool) (x4_2 : Int), v3 = .bool x3_2 ∧ v4 = .int .i64 x4_2 ∧ Aside0 (thermionref01_Check.l0 kq x3_2 x4_2 a0_0 a0_1 a0_2 l0_3 = some r) ∧ Aside0 (kq ≤ kj1) ∧ Aside0 (w'.heap[gb273]? = some (.cells #[.int .i64 a0_0, .int .i64 a0_1, .bool a0_2, (.slice A0_3 l0_3.length c0_3)] 24 (0, 0))) ∧ Aside0 (Below w.heap.size w w'))
     case atStart => exact ⟨(false), (0), aR, aR, H', ⟨Nat.le_refl _⟩, aBk BK273, aBl HB⟩
     case round =>
      clear H'
      try clear c5; try clear c9; try clear c10; try clear c10b0; try clear c10b1; try clear hcz11_0; try clear hcz11_1; try clear hcz11_2; try clear hcz11_3; try clear hcz6_0; try clear hcz6_1; try clear hcz6_2; try clear hcz6_3; try clear hcz8_0; try clear hcz8_1; try clear hcz8_2; try clear hcz8_3; try clear hfz11_0; try clear hfz11_1; try clear hfz11_2; try clear hfz11_3; try clear hfz6_0; try clear hfz6_1; try clear hfz6_2; try clear hfz6_3; try clear hfz8_0; try clear hfz8_1; try clear hfz8_2; try clear hfz8_3
      obtain ⟨x3_2, x4_2, rfl, rfl, HA, HK2, BK273, HB⟩ := hrel
      cases gk with
      | zero => exact absurd HA.out (by simp [thermionref01_Check.l0])
      | succ k2 =>
       have H := HA.out
       clear HA
       simp only [thermionref01_Check.l0] at H
       by_cases c12 : x4_2 < (l0_3.length : Int)
       ·rw [if_pos c12] at H
        have c12b0 := decide_eq_true c12
        clear c12
        by_cases c13 : 0 ≤ x4_2
        ·rw [if_pos c13] at H
         have c13b0 := decide_eq_true c13
         clear c13
         obtain ⟨t277, A140, H⟩ := Option.bind_eq_some_iff.mp H
         have A14 := Aside0.mk A140
         clear A140
         by_cases c15 : t277 = true
         ·subst c15
          have H1 : (some 2) = some r := by rw [if_pos rfl] at H; exact H
          clear H
          have H := H1
          clear H1
          obtain rfl := Option.some.inj H
          obtain ⟨⟨hcz16_0, hcz16_1, hcz16_2, hcz16_3⟩, hfz16_0, hfz16_1, hfz16_2, hfz16_3⟩ := aC4 BK273
          have p276 : 0 ≤ (x4_2 : Int) := aD
          have q276 : x4_2 < (l0_3.length : Int) := aD
          obtain ⟨ad276, e276, hx276_0⟩ := Kd.at_int HR0_3.out x4_2 p276 q276
          cases e276
          replace hx276_0 := (HB.out.cell (World.block_lt_of_cell? w _ hx276_0)).trans hx276_0
          replace p276 := eq_true p276
          replace q276 := eq_true q276
          go_wp2_with (first | ((with_reducible refine gate_callee (f := 73) rfl ?_); refine goesL_ (some 36) rfl rfl Try.func73 (by kernel_rfl) rfl #[.int .i64 (rd l0_3 x4_2), .int .i64 0, .int .i64 6] rfl aA ?_; (with_reducible refine (thermionref01_beyond.calls (rd l0_3 x4_2) 0 6 true _ A14.out).mono ?_); rintro e w' ⟨rfl, ⟨nd, rfl⟩⟩; refine ⟨_, rfl, ?_⟩))
          go_ret
          exact ⟨by first | rfl | (simp [*] <;> rfl), (aBl HB).out⟩
         ·replace c15 := Bool.eq_false_iff.mpr c15
          subst c15
          have H1 : (if x3_2 = true then (thermionref01_Check.l0 k2 true (wrap64 (x4_2 + 1)) a0_0 a0_1 a0_2 l0_3) else (thermionref01_Check.l0 k2 (decide ((rd l0_3 x4_2) > 0)) (wrap64 (x4_2 + 1)) a0_0 a0_1 a0_2 l0_3)) = some r := by rw [if_neg (show ¬ (false = true) by decide)] at H; exact H
          clear H
          have H := H1
          clear H1
          by_cases c17 : x3_2 = true
          ·subst c17
           have H1 : (thermionref01_Check.l0 k2 true (wrap64 (x4_2 + 1)) a0_0 a0_1 a0_2 l0_3) = some r := by rw [if_pos rfl] at H; exact H
           clear H
           have H := H1
           clear H1
           have H' := Aside0.mk H
           clear H
           obtain ⟨⟨hcz18_0, hcz18_1, hcz18_2, hcz18_3⟩, hfz18_0, hfz18_1, hfz18_2, hfz18_3⟩ := aC4 BK273
           have p276 : 0 ≤ (x4_2 : Int) := aD
           have q276 : x4_2 < (l0_3.length : Int) := aD
           obtain ⟨ad276, e276, hx276_0⟩ := Kd.at_int HR0_3.out x4_2 p276 q276
           cases e276
           replace hx276_0 := (HB.out.cell (World.block_lt_of_cell? w _ hx276_0)).trans hx276_0
           replace p276 := eq_true p276
           replace q276 := eq_true q276
           go_wp2_with (first | ((with_reducible refine gate_callee (f := 73) rfl ?_); refine goesL_ (some 36) rfl rfl Try.func73 (by kernel_rfl) rfl #[.int .i64 (rd l0_3 x4_2), .int .i64 0, .int .i64 6] rfl aA ?_; (with_reducible refine (thermionref01_beyond.calls (rd l0_3 x4_2) 0 6 false _ A14.out).mono ?_); rintro e w' ⟨rfl, ⟨nd, rfl⟩⟩; refine ⟨_, rfl, ?_⟩))
           go_roundg k2
           case measure => have := HJ1.out; have := HK2.out; omega
           case rel => exact ⟨(true), (wrap64 (x4_2 + 1)), aR, aR, H', ⟨by have := HJ1.out; have := HK2.out; omega⟩, aBk BK273, aBl HB⟩
          ·replace c17 := Bool.eq_false_iff.mpr c17
           subst c17
           have H1 : (thermionref01_Check.l0 k2 (decide ((rd l0_3 x4_2) > 0)) (wrap64 (x4_2 + 1)) a0_0 a0_1 a0_2 l0_3) = some r := by rw [if_neg (show ¬ (false = true) by decide)] at H; exact H
           clear H
           have H := H1
           clear H1
           have H' := Aside0.mk H
           clear H
           obtain ⟨⟨hcz19_0, hcz19_1, hcz19_2, hcz19_3⟩, hfz19_0, hfz19_1, hfz19_2, hfz19_3⟩ := aC4 BK273
           have p276 : 0 ≤ (x4_2 : Int) := aD
           have q276 : x4_2 < (l0_3.length : Int) := aD
           obtain ⟨ad276, e276, hx276_0⟩ := Kd.at_int HR0_3.out x4_2 p276 q276
           cases e276
           replace hx276_0 := (HB.out.cell (World.block_lt_of_cell? w _ hx276_0)).trans hx276_0
           replace p276 := eq_true p276
           replace q276 := eq_true q276
           go_wp2_with (first | ((with_reducible refine gate_callee (f := 73) rfl ?_); refine goesL_ (some 36) rfl rfl Try.func73 (by kernel_rfl) rfl #[.int .i64 (rd l0_3 x4_2), .int .i64 0, .int .i64 6] rfl aA ?_; (with_reducible refine (thermionref01_beyond.calls (rd l0_3 x4_2) 0 6 false _ A14.out).mono ?_); rintro e w' ⟨rfl, ⟨nd, rfl⟩⟩; refine ⟨_, rfl, ?_⟩; have p278 : 0 ≤ (x4_2 : Int) := aD; have q278 : x4_2 < (l0_3.length : Int) := aD; obtain ⟨ad278, e278, hx278_0⟩ := Kd.at_int HR0_3.out x4_2 p278 q278; obtain rfl : ad276 = ad278 := (by injection e278); replace hx278_0 := (HB.out.cell (World.block_lt_of_cell? w _ hx278_0)).trans hx278_0; replace p278 := eq_true p278; replace q278 := eq_true q278))
           go_roundg k2
           case measure => have := HJ1.out; have := HK2.out; omega
           case rel => exact ⟨(decide ((rd l0_3 x4_2) > 0)), (wrap64 (x4_2 + 1)), aR, aR, H', ⟨by have := HJ1.out; have := HK2.out; omega⟩, aBk BK273, aBl HB⟩
        ·rw [if_neg c13] at H
         exact absurd H (by simp)
       ·rw [if_neg c12] at H
        have c12b0 := decide_eq_false c12
        clear c12
        by_cases c20 : x3_2 = true
        ·subst c20
         have H1 : ((thermionref01_held.f k2 a0_0 a0_1 a0_2 l0_3).bind fun t279 => (thermionref01_Check.l1 k2 t279 0)) = some r := by rw [if_pos rfl] at H; exact H
         clear H
         have H := H1
         clear H1
         obtain ⟨t279, A210, H⟩ := Option.bind_eq_some_iff.mp H
         have A21 := Aside0.mk A210
         clear A210
         have H' := Aside0.mk H
         clear H
         obtain ⟨⟨hcz22_0, hcz22_1, hcz22_2, hcz22_3⟩, hfz22_0, hfz22_1, hfz22_2, hfz22_3⟩ := aC4 BK273
         go_wp2_with (first | ((with_reducible refine gate_callee (f := 84) rfl ?_); refine goesL_ (some 49) rfl rfl Try.func84 (by kernel_rfl) rfl #[.agg #[.int .i64 a0_0, .int .i64 a0_1, .bool a0_2, .slice A0_3 l0_3.length c0_3]] rfl aA ?_; (with_reducible refine (thermionref01_held.calls k2 a0_0 a0_1 a0_2 _ _ l0_3 t279 _ ?side1 ?side2 A21.out).mono ?_); (case side1 => exact aC HR0_3 HB); (case side2 => exact HC0_3.out); rintro e w23 ⟨v280, rfl, ho0, hb⟩; refine ⟨_, rfl, ?_⟩; have HO281 := Aside0.mk (Kd.R_lower ho0 (below_size (aBl HB).out)); replace BK273 := aBb BK273 hb; replace HB := aBs HB hb; (try clear hb hk hi); (try clear ho0)))
         go_loopg [6] k2 (fun kq v6 w' => ∃ (x6_3 : Int), v6 = .int .i64 x6_3 ∧ Aside0 (thermionref01_Check.l1 kq t279 x6_3 = some r) ∧ Aside0 (kq ≤ k2) ∧ Aside0 (Kd.R Kd.bool 4 w' w.heap.size (fun _ => True) v280 t279) ∧ Aside0 (w'.heap[gb273]? = some (.cells #[.int .i64 a0_0, .int .i64 a0_1, .bool a0_2, (.slice A0_3 l0_3.length c0_3)] 24 (0, 0))) ∧ Aside0 (Below w.heap.size w w'))
         case atStart => exact ⟨(0), aR, H', ⟨Nat.le_refl _⟩, aRk HO281, aBk BK273, aBl HB⟩
         case round =>
          clear H'
          try clear c5; try clear c9; try clear c10; try clear c10b0; try clear c10b1; try clear c12; try clear c12b0; try clear c13; try clear c13b0; try clear c15; try clear c17; try clear c20; try clear hcz11_0; try clear hcz11_1; try clear hcz11_2; try clear hcz11_3; try clear hcz16_0; try clear hcz16_1; try clear hcz16_2; try clear hcz16_3; try clear hcz18_0; try clear hcz18_1; try clear hcz18_2; try clear hcz18_3; try clear hcz19_0; try clear hcz19_1; try clear hcz19_2; try clear hcz19_3; try clear hcz22_0; try clear hcz22_1; try clear hcz22_2; try clear hcz22_3; try clear hcz6_0; try clear hcz6_1; try clear hcz6_2; try clear hcz6_3; try clear hcz8_0; try clear hcz8_1; try clear hcz8_2; try clear hcz8_3; try clear hfz11_0; try clear hfz11_1; try clear hfz11_2; try clear hfz11_3; try clear hfz16_0; try clear hfz16_1; try clear hfz16_2; try clear hfz16_3; try clear hfz18_0; try clear hfz18_1; try clear hfz18_2; try clear hfz18_3; try clear hfz19_0; try clear hfz19_1; try clear hfz19_2; try clear hfz19_3; try clear hfz22_0; try clear hfz22_1; try clear hfz22_2; try clear hfz22_3; try clear hfz6_0; try clear hfz6_1; try clear hfz6_2; try clear hfz6_3; try clear hfz8_0; try clear hfz8_1; try clear hfz8_2; try clear hfz8_3; try clear hx276_0; try clear hx278_0; try clear p276; try clear p278; try clear q276; try clear q278
          obtain ⟨x6_3, rfl, HA, HK3, HO_5, BK273, HB⟩ := hrel
          cases gk with
          | zero => exact absurd HA.out (by simp [thermionref01_Check.l1])
          | succ k3 =>
           have H := HA.out
           clear HA
           simp only [thermionref01_Check.l1] at H
           by_cases c24 : x6_3 < (t279.length : Int)
           ·rw [if_pos c24] at H
            have c24b0 := decide_eq_true c24
            clear c24
            by_cases c25 : 0 ≤ x6_3
            ·rw [if_pos c25] at H
             have c25b0 := decide_eq_true c25
             clear c25
             obtain ⟨bq26, hbq26⟩ : ∃ b_ : Bool, b_ = (rdOf false t279 x6_3) := ⟨_, rfl⟩
             replace H : (if bq26 = true then (thermionref01_Check.l1 k3 t279 (wrap64 (x6_3 + 1))) else (some 13)) = some r := by rw [← hbq26] at H; exact H
             have Nbq26 := Aside0.mk hbq26
             clear hbq26
             by_cases c27 : bq26 = true
             ·subst c27
              have H1 : (thermionref01_Check.l1 k3 t279 (wrap64 (x6_3 + 1))) = some r := by rw [if_pos rfl] at H; exact H
              clear H
              have H := H1
              clear H1
              have H' := Aside0.mk H
              clear H
              obtain ⟨Ao28, co28, eo28⟩ := Kd.R_slice HO_5.out
              subst eo28
              have p282 : 0 ≤ (x6_3 : Int) := aD
              have q282 : x6_3 < (t279.length : Int) := aD
              obtain ⟨ad282, e282, hx282_0⟩ := Kd.at_bool (Kd.R_reads' HO_5.out).2.2 x6_3 p282 q282
              (try rw [← Nbq26.out] at hx282_0)
              cases e282
              replace p282 := eq_true p282
              replace q282 := eq_true q282
              go_wp2
              go_roundg k3
              case measure => have := HJ1.out; have := HK2.out; have := HK3.out; omega
              case rel => exact ⟨(wrap64 (x6_3 + 1)), aR, H', ⟨by have := HJ1.out; have := HK2.out; have := HK3.out; omega⟩, aRk HO_5, aBk BK273, aBl HB⟩
             ·replace c27 := Bool.eq_false_iff.mpr c27
              subst c27
              have H1 : (some 13) = some r := by rw [if_neg (show ¬ (false = true) by decide)] at H; exact H
              clear H
              have H := H1
              clear H1
              obtain rfl := Option.some.inj H
              obtain ⟨Ao29, co29, eo29⟩ := Kd.R_slice HO_5.out
              subst eo29
              have p282 : 0 ≤ (x6_3 : Int) := aD
              have q282 : x6_3 < (t279.length : Int) := aD
              obtain ⟨ad282, e282, hx282_0⟩ := Kd.at_bool (Kd.R_reads' HO_5.out).2.2 x6_3 p282 q282
              (try rw [← Nbq26.out] at hx282_0)
              cases e282
              replace p282 := eq_true p282
              replace q282 := eq_true q282
              go_wp2
              go_ret
              exact ⟨by first | rfl | (simp [*] <;> rfl), (aBl HB).out⟩
            ·rw [if_neg c25] at H
             exact absurd H (by simp)
           ·rw [if_neg c24] at H
            have c24b0 := decide_eq_false c24
            clear c24
            obtain rfl := Option.some.inj H
            obtain ⟨Ao30, co30, eo30⟩ := Kd.R_slice HO_5.out
            subst eo30
            go_wp2
            go_ret
            exact ⟨by first | rfl | (simp [*] <;> rfl), (aBl HB).out⟩
        ·replace c20 := Bool.eq_false_iff.mpr c20
         subst c20
         have H1 : (some 7) = some r := by rw [if_neg (show ¬ (false = true) by decide)] at H; exact H
         clear H
         have H := H1
         clear H1
         obtain rfl := Option.some.inj H
         obtain ⟨⟨hcz31_0, hcz31_1, hcz31_2, hcz31_3⟩, hfz31_0, hfz31_1, hfz31_2, hfz31_3⟩ := aC4 BK273
         go_wp2
         go_ret
         exact ⟨by first | rfl | (simp [*] <;> rfl), (aBl HB).out⟩
    ·rw [if_neg c10] at H
     obtain ⟨c10b0, c10b1⟩ := aNe c10
     obtain rfl := Option.some.inj H
     obtain ⟨⟨hcz32_0, hcz32_1, hcz32_2, hcz32_3⟩, hfz32_0, hfz32_1, hfz32_2, hfz32_3⟩ := aC4 BK273
     go_wp2
     go_ret
     exact ⟨by first | rfl | (simp [*] <;> rfl), (aBl HB).out⟩
def thermionref01_greatest.l0 : Nat → Int → Int → Int → Int → Bool → List Int → Option (Int)
 | 0, _, _, _, _, _, _ => none
 | k + 1, x3, x4, x284000, x284001, x284002, x284003 => if x4 < (x284003.length : Int) then (if 0 ≤ x4 then (thermionref01_greatest.l0 k (mx x3 (rd x284003 x4)) (wrap64 (x4 + 1)) x284000 x284001 x284002 x284003) else (none)) else (some x3)
def thermionref01_greatest.f (k : Nat) (a0_0 : Int) (a0_1 : Int) (a0_2 : Bool) (l0_3 : List Int) : Option (Int) := thermionref01_greatest.l0 k 0 0 a0_0 a0_1 a0_2 l0_3
theorem thermionref01_greatest.calls (k : Nat) (a0_0 : Int) (a0_1 : Int) (a0_2 : Bool) (A0_3 : Option Addr) (c0_3 : Nat) (l0_3 : List Int) (r : Int) (w : World) (hr0_3 : Kd.C (Kd.int .i64) w A0_3 l0_3.length l0_3) (hc0_3 : l0_3.length ≤ c0_3) (h : thermionref01_greatest.f k a0_0 a0_1 a0_2 l0_3 = some r) :
  Calls Try.prog 87 #[.agg #[.int .i64 a0_0, .int .i64 a0_1, .bool a0_2, .slice A0_3 l0_3.length c0_3]] w fun e w' => e = .returned (.int .i64 r) ∧ Below w.heap.size w w' := by
 have hu24 := Try.underlying24
 have HR0_3 := Aside0.mk hr0_3
 have HC0_3 := Aside0.mk hc0_3
 clear hr0_3 hc0_3
 have HB := Aside0.mk (Below.refl w.heap.size w)
 have H : (thermionref01_greatest.l0 k 0 0 a0_0 a0_1 a0_2 l0_3) = some r := h
 clear h
 have H' := Aside0.mk H
 clear H
 go_enter Try.func87, Try.ntmps87
 go_wp2_with (first | ((with_reducible refine gate_dst (N := 1) rfl ?_); refine aBox 1 #[.int .i64 a0_0, .int .i64 a0_1, .bool a0_2, .slice A0_3 l0_3.length c0_3] 24 ?_; intro gb283 hg w2 hbox hb; have BK283 := Aside0.mk (hbox); have GW283 := aGe hg HB; have GE283 := aGe hg HB; replace HB := aBs HB hb; clear hb hbox hg))
 go_loopg [3, 4] k (fun kq v3 v4 w' => ∃ (x3_1 : Int) (x4_1 : Int), v3 = .int .i64 x3_1 ∧ v4 = .int .i64 x4_1 ∧ Aside0 (thermionref01_greatest.l0 kq x3_1 x4_1 a0_0 a0_1 a0_2 l0_3 = some r) ∧ Aside0 (kq ≤ k) ∧ Aside0 (w'.heap[gb283]? = some (.cells #[.int .i64 a0_0, .int .i64 a0_1, .bool a0_2, (.slice A0_3 l0_3.length c0_3)] 24 (0, 0))) ∧ Aside0 (Below w.heap.size w w'))
 case atStart => exact ⟨(0), (0), aR, aR, H', ⟨Nat.le_refl _⟩, aBk BK283, aBl HB⟩
 case round =>
  clear H'
  obtain ⟨x3_1, x4_1, rfl, rfl, HA, HK1, BK283, HB⟩ := hrel
  cases gk with
  | zero => exact absurd HA.out (by simp [thermionref01_greatest.l0])
  | succ k1 =>
   have H := HA.out
   clear HA
   simp only [thermionref01_greatest.l0] at H
   by_cases c3 : x4_1 < (l0_3.length : Int)
   ·rw [if_pos c3] at H
    have c3b0 := decide_eq_true c3
    clear c3
    by_cases c4 : 0 ≤ x4_1
    ·rw [if_pos c4] at H
     have c4b0 := decide_eq_true c4
     clear c4
     obtain ⟨ji5, hji5⟩ : ∃ j_ : Int, (mx x3_1 (rd l0_3 x4_1)) = j_ := ⟨_, rfl⟩
     replace H : (thermionref01_greatest.l0 k1 ji5 (wrap64 (x4_1 + 1)) a0_0 a0_1 a0_2 l0_3) = some r := by first | (rw [hji5] at H; exact H) | (simp only [hji5] at H ⊢; exact H)
     have hji5_ : (if x3_1 < (rd l0_3 x4_1) then (rd l0_3 x4_1) else x3_1) = ji5 := hji5
     have H' := Aside0.mk H
     clear H
     obtain ⟨⟨hcz6_0, hcz6_1, hcz6_2, hcz6_3⟩, hfz6_0, hfz6_1, hfz6_2, hfz6_3⟩ := aC4 BK283
     have p284 : 0 ≤ (x4_1 : Int) := aD
     have q284 : x4_1 < (l0_3.length : Int) := aD
     obtain ⟨ad284, e284, hx284_0⟩ := Kd.at_int HR0_3.out x4_1 p284 q284
     cases e284
     replace hx284_0 := (HB.out.cell (World.block_lt_of_cell? w _ hx284_0)).trans hx284_0
     replace p284 := eq_true p284
     replace q284 := eq_true q284
     go_wp2
     go_roundg k1
     case measure => have := HK1.out; omega
     case rel => exact ⟨(ji5), (wrap64 (x4_1 + 1)), (by first | rfl | (simp; done) | (simp only [← hji5] <;> (first | rfl | simp)) | (simp [*]; done)), aR, H', ⟨by have := HK1.out; omega⟩, aBk BK283, aBl HB⟩
    ·rw [if_neg c4] at H
     exact absurd H (by simp)
   ·rw [if_neg c3] at H
    have c3b0 := decide_eq_false c3
    clear c3
    obtain rfl := Option.some.inj H
    obtain ⟨⟨hcz7_0, hcz7_1, hcz7_2, hcz7_3⟩, hfz7_0, hfz7_1, hfz7_2, hfz7_3⟩ := aC4 BK283
    go_wp2
    go_ret
    exact ⟨by first | rfl | (simp [errW_none, errW_some] <;> rfl) | (simp [*, errW_none, errW_some] <;> rfl), (aBl HB).out⟩
def thermionref01_CheckVolts.l0 : Nat → List Int → Int → Option (Int)
 | 0, _, _ => none
 | k + 1, x1, x6 => if x6 < (x1.length : Int) then (if 0 ≤ x6 then ((thermionref01_beyond.f (rd x1 x6) (-1000000) 1000000).bind fun t289 => (if t289 = true then (some 2) else (thermionref01_CheckVolts.l0 k x1 (wrap64 (x6 + 1))))) else (none)) else (some 0)
def thermionref01_CheckVolts.f (k : Nat) (a0_0 : Int) (a0_1 : Int) (a0_2 : Bool) (l0_3 : List Int) (l1 : List Int) : Option (Int) := (thermionref01_Check.f k a0_0 a0_1 a0_2 l0_3).bind fun t286 => (if t286 = 0 then ((thermionref01_greatest.f k a0_0 a0_1 a0_2 l0_3).bind fun t287 => (if (l1.length : Int) = t287 then (thermionref01_CheckVolts.l0 k l1 0) else (some 3))) else (some t286))
theorem thermionref01_CheckVolts.calls (k : Nat) (a0_0 : Int) (a0_1 : Int) (a0_2 : Bool) (A0_3 : Option Addr) (c0_3 : Nat) (l0_3 : List Int) (A1 : Option Addr) (c1 : Nat) (l1 : List Int) (r : Int) (w : World) (hr0_3 : Kd.C (Kd.int .i64) w A0_3 l0_3.length l0_3) (hc0_3 : l0_3.length ≤ c0_3) (hr1 : Kd.C (Kd.int .i64) w A1 l1.length l1) (hc1 : l1.length ≤ c1) (h : thermionref01_CheckVolts.f k a0_0 a0_1 a0_2 l0_3 l1 = some r) :
  Calls Try.prog 42 #[.agg #[.int .i64 a0_0, .int .i64 a0_1, .bool a0_2, .slice A0_3 l0_3.length c0_3], .slice A1 l1.length c1] w fun e w' => e = .returned (.int .i64 r) ∧ Below w.heap.size w w' := by
 have hu24 := Try.underlying24
 have HR0_3 := Aside0.mk hr0_3
 have HC0_3 := Aside0.mk hc0_3
 clear hr0_3 hc0_3
 have HR1 := Aside0.mk hr1
 have HC1 := Aside0.mk hc1
 clear hr1 hc1
 have HB := Aside0.mk (Below.refl w.heap.size w)
 have H : ((thermionref01_Check.f k a0_0 a0_1 a0_2 l0_3).bind fun t286 => (if t286 = 0 then ((thermionref01_greatest.f k a0_0 a0_1 a0_2 l0_3).bind fun t287 => (if (l1.length : Int) = t287 then (thermionref01_CheckVolts.l0 k l1 0) else (some 3))) else (some t286))) = some r := h
 clear h
 obtain ⟨t286, A30, H⟩ := Option.bind_eq_some_iff.mp H
 have A3 := Aside0.mk A30
 clear A30
 by_cases c4 : t286 = 0
 ·rw [if_pos c4] at H
  obtain ⟨c4b0, c4b1⟩ := aEq c4
  clear c4
  obtain ⟨t287, A50, H⟩ := Option.bind_eq_some_iff.mp H
  have A5 := Aside0.mk A50
  clear A50
  by_cases c6 : (l1.length : Int) = t287
  ·rw [if_pos c6] at H
   obtain ⟨c6b0, c6b1⟩ := aEq c6
   clear c6
   have H' := Aside0.mk H
   clear H
   go_enter Try.func42, Try.ntmps42
   go_wp2_with (first | ((with_reducible refine gate_dst (N := 2) rfl ?_); refine aBox 2 #[.int .i64 a0_0, .int .i64 a0_1, .bool a0_2, .slice A0_3 l0_3.length c0_3] 24 ?_; intro gb285 hg w7 hbox hb; have BK285 := Aside0.mk (hbox); have GW285 := aGe hg HB; have GE285 := aGe hg HB; replace HB := aBs HB hb; clear hb hbox hg; obtain ⟨⟨hcz8_0, hcz8_1, hcz8_2, hcz8_3⟩, hfz8_0, hfz8_1, hfz8_2, hfz8_3⟩ := aC4 BK285) | ((with_reducible refine gate_callee (f := 40) rfl ?_); refine goesL_ (some 8) rfl rfl Try.func40 (by kernel_rfl) rfl #[.agg #[.int .i64 a0_0, .int .i64 a0_1, .bool a0_2, .slice A0_3 l0_3.length c0_3]] rfl aA ?_; (with_reducible refine (thermionref01_Check.calls k a0_0 a0_1 a0_2 _ _ l0_3 t286 _ ?side1 ?side2 A3.out).mono ?_); (case side1 => exact aC HR0_3 HB); (case side2 => exact HC0_3.out); rintro e w9 ⟨rfl, hb⟩; refine ⟨_, rfl, ?_⟩; replace BK285 := aBb BK285 hb; replace HB := aBs HB hb; (try clear hb hk hi); obtain ⟨⟨hcz10_0, hcz10_1, hcz10_2, hcz10_3⟩, hfz10_0, hfz10_1, hfz10_2, hfz10_3⟩ := aC4 BK285) | ((with_reducible refine gate_callee (f := 87) rfl ?_); refine goesL_ (some 15) rfl rfl Try.func87 (by kernel_rfl) rfl #[.agg #[.int .i64 a0_0, .int .i64 a0_1, .bool a0_2, .slice A0_3 l0_3.length c0_3]] rfl aA ?_; (with_reducible refine (thermionref01_greatest.calls k a0_0 a0_1 a0_2 _ _ l0_3 t287 _ ?side1 ?side2 A5.out).mono ?_); (case side1 => exact aC HR0_3 HB); (case side2 => exact HC0_3.out); rintro e w11 ⟨rfl, hb⟩; refine ⟨_, rfl, ?_⟩; replace BK285 := aBb BK285 hb; replace HB := aBs HB hb; (try clear hb hk hi)))
   go_loopg [6] k (fun kq v6 w' => ∃ (x6_1 : Int), v6 = .int .i64 x6_1 ∧ Aside0 (thermionref01_CheckVolts.l0 kq l1 x6_1 = some r) ∧ Aside0 (kq ≤ k) ∧ Aside0 (w'.heap[gb285]? = some (.cells #[.int .i64 a0_0, .int .i64 a0_1, .bool a0_2, (.slice A0_3 l0_3.length c0_3)] 24 (0, 0))) ∧ Aside0 (Below w.heap.size w w'))
   case atStart => exact ⟨(0), aR, H', ⟨Nat.le_refl _⟩, aBk BK285, aBl HB⟩
   case round =>
    clear H'
    try clear c1; try clear c4; try clear c4b0; try clear c4b1; try clear c6; try clear c6b0; try clear c6b1; try clear hcz10_0; try clear hcz10_1; try clear hcz10_2; try clear hcz10_3; try clear hcz8_0; try clear hcz8_1; try clear hcz8_2; try clear hcz8_3; try clear hfz10_0; try clear hfz10_1; try clear hfz10_2; try clear hfz10_3; try clear hfz8_0; try clear hfz8_1; try clear hfz8_2; try clear hfz8_3
    obtain ⟨x6_1, rfl, HA, HK1, BK285, HB⟩ := hrel
    cases gk with
    | zero => exact absurd HA.out (by simp [thermionref01_CheckVolts.l0])
    | succ k1 =>
     have H := HA.out
     clear HA
     simp only [thermionref01_CheckVolts.l0] at H
     by_cases c12 : x6_1 < (l1.length : Int)
     ·rw [if_pos c12] at H
      have c12b0 := decide_eq_true c12
      clear c12
      by_cases c13 : 0 ≤ x6_1
      ·rw [if_pos c13] at H
       have c13b0 := decide_eq_true c13
       clear c13
       obtain ⟨t289, A140, H⟩ := Option.bind_eq_some_iff.mp H
       have A14 := Aside0.mk A140
       clear A140
       by_cases c15 : t289 = true
       ·subst c15
        have H1 : (some 2) = some r := by rw [if_pos rfl] at H; exact H
        clear H
        have H := H1
        clear H1
        obtain rfl := Option.some.inj H
        have p288 : 0 ≤ (x6_1 : Int) := aD
        have q288 : x6_1 < (l1.length : Int) := aD
        obtain ⟨ad288, e288, hx288_0⟩ := Kd.at_int HR1.out x6_1 p288 q288
        cases e288
        replace hx288_0 := (HB.out.cell (World.block_lt_of_cell? w _ hx288_0)).trans hx288_0
        replace p288 := eq_true p288
        replace q288 := eq_true q288
        go_wp2_with (first | ((with_reducible refine gate_callee (f := 73) rfl ?_); refine goesL_ (some 27) rfl rfl Try.func73 (by kernel_rfl) rfl #[.int .i64 (rd l1 x6_1), .int .i64 (-1000000), .int .i64 1000000] rfl aA ?_; (with_reducible refine (thermionref01_beyond.calls (rd l1 x6_1) (-1000000) 1000000 true _ A14.out).mono ?_); rintro e w' ⟨rfl, ⟨nd, rfl⟩⟩; refine ⟨_, rfl, ?_⟩))
        go_ret
        exact ⟨by first | rfl | (simp [*] <;> rfl), (aBl HB).out⟩
       ·replace c15 := Bool.eq_false_iff.mpr c15
        subst c15
        have H1 : (thermionref01_CheckVolts.l0 k1 l1 (wrap64 (x6_1 + 1))) = some r := by rw [if_neg (show ¬ (false = true) by decide)] at H; exact H
        clear H
        have H := H1
        clear H1
        have H' := Aside0.mk H
        clear H
        have p288 : 0 ≤ (x6_1 : Int) := aD
        have q288 : x6_1 < (l1.length : Int) := aD
        obtain ⟨ad288, e288, hx288_0⟩ := Kd.at_int HR1.out x6_1 p288 q288
        cases e288
        replace hx288_0 := (HB.out.cell (World.block_lt_of_cell? w _ hx288_0)).trans hx288_0
        replace p288 := eq_true p288
        replace q288 := eq_true q288
        go_wp2_with (first | ((with_reducible refine gate_callee (f := 73) rfl ?_); refine goesL_ (some 27) rfl rfl Try.func73 (by kernel_rfl) rfl #[.int .i64 (rd l1 x6_1), .int .i64 (-1000000), .int .i64 1000000] rfl aA ?_; (with_reducible refine (thermionref01_beyond.calls (rd l1 x6_1) (-1000000) 1000000 false _ A14.out).mono ?_); rintro e w' ⟨rfl, ⟨nd, rfl⟩⟩; refine ⟨_, rfl, ?_⟩))
        go_roundg k1
        case measure => have := HK1.out; omega
        case rel => exact ⟨(wrap64 (x6_1 + 1)), aR, H', ⟨by have := HK1.out; omega⟩, aBk BK285, aBl HB⟩
      ·rw [if_neg c13] at H
       exact absurd H (by simp)
     ·rw [if_neg c12] at H
      have c12b0 := decide_eq_false c12
      clear c12
      obtain rfl := Option.some.inj H
      go_wp2
      go_ret
      exact ⟨by first | rfl | (simp [*] <;> rfl), (aBl HB).out⟩
  ·rw [if_neg c6] at H
   obtain ⟨c6b0, c6b1⟩ := aNe c6
   obtain rfl := Option.some.inj H
   go_enter Try.func42, Try.ntmps42
   go_wp2_with (first | ((with_reducible refine gate_dst (N := 2) rfl ?_); refine aBox 2 #[.int .i64 a0_0, .int .i64 a0_1, .bool a0_2, .slice A0_3 l0_3.length c0_3] 24 ?_; intro gb285 hg w16 hbox hb; have BK285 := Aside0.mk (hbox); have GW285 := aGe hg HB; have GE285 := aGe hg HB; replace HB := aBs HB hb; clear hb hbox hg; obtain ⟨⟨hcz17_0, hcz17_1, hcz17_2, hcz17_3⟩, hfz17_0, hfz17_1, hfz17_2, hfz17_3⟩ := aC4 BK285) | ((with_reducible refine gate_callee (f := 40) rfl ?_); refine goesL_ (some 8) rfl rfl Try.func40 (by kernel_rfl) rfl #[.agg #[.int .i64 a0_0, .int .i64 a0_1, .bool a0_2, .slice A0_3 l0_3.length c0_3]] rfl aA ?_; (with_reducible refine (thermionref01_Check.calls k a0_0 a0_1 a0_2 _ _ l0_3 t286 _ ?side1 ?side2 A3.out).mono ?_); (case side1 => exact aC HR0_3 HB); (case side2 => exact HC0_3.out); rintro e w18 ⟨rfl, hb⟩; refine ⟨_, rfl, ?_⟩; replace BK285 := aBb BK285 hb; replace HB := aBs HB hb; (try clear hb hk hi); obtain ⟨⟨hcz19_0, hcz19_1, hcz19_2, hcz19_3⟩, hfz19_0, hfz19_1, hfz19_2, hfz19_3⟩ := aC4 BK285) | ((with_reducible refine gate_callee (f := 87) rfl ?_); refine goesL_ (some 15) rfl rfl Try.func87 (by kernel_rfl) rfl #[.agg #[.int .i64 a0_0, .int .i64 a0_1, .bool a0_2, .slice A0_3 l0_3.length c0_3]] rfl aA ?_; (with_reducible refine (thermionref01_greatest.calls k a0_0 a0_1 a0_2 _ _ l0_3 t287 _ ?side1 ?side2 A5.out).mono ?_); (case side1 => exact aC HR0_3 HB); (case side2 => exact HC0_3.out); rintro e w20 ⟨rfl, hb⟩; refine ⟨_, rfl, ?_⟩; replace BK285 := aBb BK285 hb; replace HB := aBs HB hb; (try clear hb hk hi)))
   go_ret
   exact ⟨by first | rfl | (simp [*] <;> rfl), (aBl HB).out⟩
 ·rw [if_neg c4] at H
  obtain ⟨c4b0, c4b1⟩ := aNe c4
  obtain rfl := Option.some.inj H
  go_enter Try.func42, Try.ntmps42
  go_wp2_with (first | ((with_reducible refine gate_dst (N := 2) rfl ?_); refine aBox 2 #[.int .i64 a0_0, .int .i64 a0_1, .bool a0_2, .slice A0_3 l0_3.length c0_3] 24 ?_; intro gb285 hg w21 hbox hb; have BK285 := Aside0.mk (hbox); have GW285 := aGe hg HB; have GE285 := aGe hg HB; replace HB := aBs HB hb; clear hb hbox hg; obtain ⟨⟨hcz22_0, hcz22_1, hcz22_2, hcz22_3⟩, hfz22_0, hfz22_1, hfz22_2, hfz22_3⟩ := aC4 BK285) | ((with_reducible refine gate_callee (f := 40) rfl ?_); refine goesL_ (some 8) rfl rfl Try.func40 (by kernel_rfl) rfl #[.agg #[.int .i64 a0_0, .int .i64 a0_1, .bool a0_2, .slice A0_3 l0_3.length c0_3]] rfl aA ?_; (with_reducible refine (thermionref01_Check.calls k a0_0 a0_1 a0_2 _ _ l0_3 t286 _ ?side1 ?side2 A3.out).mono ?_); (case side1 => exact aC HR0_3 HB); (case side2 => exact HC0_3.out); rintro e w23 ⟨rfl, hb⟩; refine ⟨_, rfl, ?_⟩; replace BK285 := aBb BK285 hb; replace HB := aBs HB hb; (try clear hb hk hi)))
  go_ret
  exact ⟨by first | rfl | (simp [*] <;> rfl), (aBl HB).out⟩
end Go.Proofs.Ytndkkjpgnmahbaa.Print
end

section
namespace Go.Proofs.Ytndkkjpgnmahbaa.Print
open Go.RowKit YtndkkjpgnmahbaaW.PrintWords YtndkkjpgnmahbaaW.PrintLast YtndkkjpgnmahbaaW.PrintMore Ytndkkjpgnmahbaa.H Proofs.Field
def Ev {α : Type} (f : Nat → Option α) (r : α) : Prop := ∃ K, ∀ k, K ≤ k → f k = some r
theorem Ev.step {α : Type} {f g : Nat → Option α} {r : α} (hg : Ev g r) (K0 : Nat) (h : ∀ k, K0 ≤ k → f (k + 1) = g k) : Ev f r := by
 obtain ⟨K, hK⟩ := hg
 refine ⟨K + K0 + 1, fun k hk => ?_⟩
 obtain ⟨k, rfl⟩ : ∃ k', k = k' + 1 := ⟨k - 1, by omega⟩
 rw [h k (by omega)]
 exact hK k (by omega)
theorem Ev.now {α : Type} {f : Nat → Option α} {r : α} (h : ∀ k, f (k + 1) = some r) : Ev f r := ⟨1, fun k hk => by
 obtain ⟨k, rfl⟩ : ∃ k', k = k' + 1 := ⟨k - 1, by omega⟩
 exact h k⟩
section
variable {W H : Nat} {R : Bool} {C : List Int}
def unmarked (b : List Bool) (n : Nat) : Nat := unseen b n
theorem unmarked_set {b : List Bool} {i : Nat} (h : b.getD i false = false) (hi : i < b.length) : ∀ n, unmarked (b.set i true) n + (if i < n then 1 else 0) = unmarked b n
 | 0 => by rw [if_neg (by omega)]; rfl
 | n + 1 => by
  have ih := unmarked_set h hi n
  unfold unmarked at ih ⊢
  rw [unseen, unseen, getD_set hi]
  by_cases q : n = i
  ·subst q
   rw [if_neg (Nat.lt_irrefl n)] at ih
   rw [if_pos (show n = n from rfl), if_pos (show true = true from rfl), if_pos (show n < n + 1 by omega), h, if_neg (show ¬ false = true by simp)]
   omega
  ·rw [if_neg (show ¬ n = i from q)]
   by_cases r : i < n
   ·rw [if_pos (show i < n from r)] at ih; rw [if_pos (show i < n + 1 by omega)]; omega
   ·rw [if_neg (show ¬ i < n from r)] at ih; rw [if_neg (show ¬ i < n + 1 by omega)]; omega
def hput (i : Nat) (s : List Bool × Bool) (c : Int) : List Bool × Bool := if s.1.getD c.toNat false = true then (if s.1.getD i false = true then s else (s.1.set i true, true)) else s
structure Grow (W H : Nat) (R : Bool) (C : List Int) (s t : List Bool × Bool) : Prop where
 len : t.1.length = s.1.length
 mono : ∀ j, s.1.getD j false = true → t.1.getD j false = true
 sound : (∀ j, j < W * H → s.1.getD j false = true → (net W H R C).Reach j) → ∀ j, j < W * H → t.1.getD j false = true → (net W H R C).Reach j
 flag : t = s ∨ (t.2 = true ∧ unmarked t.1 (W * H) < unmarked s.1 (W * H))
namespace Grow
variable {s t u : List Bool × Bool}
theorem refl (s : List Bool × Bool) : Grow W H R C s s := ⟨rfl, fun _ h => h, fun h => h, .inl rfl⟩
theorem trans (h : Grow W H R C s t) (k : Grow W H R C t u) : Grow W H R C s u := by
 refine ⟨k.len.trans h.len, fun j hj => k.mono j (h.mono j hj), fun hs => k.sound (h.sound hs), ?_⟩
 rcases h.flag with rfl | ⟨a, b⟩
 ·exact k.flag
 ·rcases k.flag with rfl | ⟨c, d⟩
  ·exact .inr ⟨a, b⟩
  ·exact .inr ⟨c, by omega⟩
end Grow
theorem hput_grow {i : Nat} (hi : i < W * H) {s : List Bool × Bool} (hl : s.1.length = W * H) {c : Int} (hc : c ∈ aroundL W H R i) : Grow W H R C s (hput i s c) := by
 unfold hput
 split
 ·rename_i q
  split
  ·exact Grow.refl s
  ·rename_i r
   have r' : s.1.getD i false = false := by simpa using r
   have hil : i < s.1.length := by omega
   refine ⟨by simp, fun j hj => ?_, fun hs j hj hm => ?_, .inr ⟨rfl, ?_⟩⟩
   ·show (s.1.set i true).getD j false = true
    rw [getD_set hil]; split
    ·rfl
    ·exact hj
   ·have hm : (s.1.set i true).getD j false = true := hm
    rw [getD_set hil] at hm
    by_cases e : j = i
    ·subst e
     obtain ⟨h1, h2, h3⟩ := around_mem hc
     have h4 : wtR W H R j c = netM W H R j c.toNat := by unfold wtR; rw [if_pos ⟨h2, h3⟩]
     exact .step hj (by rw [h4] at h1; exact h1) (hs c.toNat (by omega) q)
    ·rw [if_neg e] at hm
     exact hs j hj hm
   ·have := unmarked_set r' hil (W * H)
    rw [if_pos hi] at this
    show unmarked (s.1.set i true) (W * H) < _
    omega
 ·exact Grow.refl s
theorem hputs_grow {i : Nat} (hi : i < W * H) : ∀ (l : List Int) (s : List Bool × Bool), s.1.length = W * H → (∀ c, c ∈ l → c ∈ aroundL W H R i) → Grow W H R C s (l.foldl (hput i) s)
 | [], s, _, _ => Grow.refl s
 | c :: l, s, hl, hc => by
  have h1 := hput_grow (C := C) hi hl (hc c List.mem_cons_self)
  exact h1.trans (hputs_grow hi l _ (by rw [h1.len]; exact hl) (fun x hx => hc x (List.mem_cons_of_mem _ hx)))
theorem hputs_done {i : Nat} : ∀ (l : List Int) (s : List Bool × Bool), (l.foldl (hput i) s = s) → s.2 = false → ∀ c, c ∈ l → s.1.getD c.toNat false = true → s.1.getD i false = true
 | [], s, _, _, c, hc, _ => by cases hc
 | a :: l, s, h, hf, c, hc, hm => by
  have keep : ∀ (l : List Int) (s : List Bool × Bool), s.2 = true → (l.foldl (hput i) s).2 = true := by
   intro l
   induction l with
   | nil => exact fun s h => h
   | cons a l ih =>
    intro s h
    refine ih _ ?_
    unfold hput
    split
    ·split
     ·exact h
     ·rfl
    ·exact h
  have ha : hput i s a = s := by
   unfold hput
   split
   ·rename_i q
    split
    ·rfl
    ·rename_i r
     exfalso
     have e : hput i s a = (s.1.set i true, true) := by unfold hput; rw [if_pos q, if_neg r]
     have := keep l (hput i s a) (by rw [e])
     rw [List.foldl_cons] at h
     rw [h, hf] at this
     cases this
   ·rfl
  rw [List.foldl_cons, ha] at h
  rcases List.mem_cons.1 hc with rfl | hc
  ·unfold hput at ha
   rw [if_pos hm] at ha
   by_cases r : s.1.getD i false = true
   ·exact r
   ·rw [if_neg r] at ha
    have := congrArg (·.2) ha
    simp [hf] at this
  ·exact hputs_done l s h hf c hc hm
def hcell (W H : Nat) (R : Bool) (s : List Bool × Bool) (i : Nat) : List Bool × Bool := (aroundL W H R i).foldl (hput i) s
def hround (W H : Nat) (R : Bool) (s : List Bool × Bool) : Nat → List Bool × Bool
 | 0 => s
 | n + 1 => hcell W H R (hround W H R s n) n
theorem hround_grow {s : List Bool × Bool} (hl : s.1.length = W * H) : ∀ n, n ≤ W * H → Grow W H R C s (hround W H R s n)
 | 0, _ => Grow.refl s
 | n + 1, hn => by
  have h1 : Grow W H R C s (hround W H R s n) := hround_grow hl n (by omega)
  exact h1.trans (hputs_grow (by omega) _ _ (by rw [h1.len]; exact hl) (fun c hc => hc))
theorem hround_still {s : List Bool × Bool} (hl : s.1.length = W * H) (hf : s.2 = false) : ∀ n, n ≤ W * H → (hround W H R s n).2 = false → hround W H R s n = s ∧ ∀ i, i < n → ∀ c, c ∈ aroundL W H R i → s.1.getD c.toNat false = true → s.1.getD i false = true
 | 0, _, _ => ⟨rfl, fun i hi => absurd hi (Nat.not_lt_zero i)⟩
 | n + 1, hn, h => by
  have g := hround_grow (R := R) (C := []) hl n (by omega)
  have h1 : Grow W H R [] (hround W H R s n) (hround W H R s (n + 1)) := hputs_grow (by omega) _ _ (by rw [g.len]; exact hl) (fun c hc => hc)
  have e : hround W H R s (n + 1) = hround W H R s n := by
   rcases h1.flag with e | ⟨a, _⟩
   ·exact e
   ·rw [h] at a; cases a
  obtain ⟨e2, h2⟩ := hround_still hl hf n (by omega) (by rw [← e]; exact h)
  refine ⟨e.trans e2, fun i hi c hc hm => ?_⟩
  by_cases q : i = n
  ·subst q
   have e3 : (aroundL W H R i).foldl (hput i) s = s := by
    have : hround W H R s (i + 1) = s := e.trans e2
    rw [hround, hcell, e2] at this
    exact this
   exact hputs_done _ s e3 hf c hc hm
  ·exact h2 i (by omega) c hc hm
end
end Go.Proofs.Ytndkkjpgnmahbaa.Print
end

section
namespace Go.Proofs.Ytndkkjpgnmahbaa.Print
open Go.RowKit YtndkkjpgnmahbaaW.PrintWords YtndkkjpgnmahbaaW.PrintLast YtndkkjpgnmahbaaW.PrintMore Ytndkkjpgnmahbaa.H Proofs.Field
section
variable {W H : Nat} {R : Bool} {C : List Int}
theorem held_l3 {i : Nat} (hi : i < W * H) (hWH : W * H ≤ 256) {l : List Int} (hl : l.length ≤ 100) (hm : ∀ c, c ∈ l → 0 ≤ c ∧ c < ((W * H : Nat) : Int)) {r : List Bool} :
  ∀ (d j : Nat) (s : List Bool × Bool), j + d = l.length → s.1.length = W * H → Ev (fun k => thermionref01_held.l2 k ((l.drop j).foldl (hput i) s).1 ((l.drop j).foldl (hput i) s).2 (wrap64 ((i : Int) + 1)) (W : Int) (H : Int) R C) r →
  Ev (fun k => thermionref01_held.l3 k s.1 s.2 (i : Int) l (j : Int) (W : Int) (H : Int) R C) r
 | 0, j, s, h, hs, he => by
  rw [List.drop_eq_nil_of_le (by omega)] at he
  refine he.step 0 (fun k _ => ?_)
  show thermionref01_held.l3 (k + 1) _ _ _ _ _ _ _ _ _ = _
  rw [thermionref01_held.l3, if_neg (by omega)]
  rfl
 | d + 1, j, s, h, hs, he => by
  have hj : j < l.length := by omega
  have hw : wrap64 ((j : Int) + 1) = ((j + 1 : Nat) : Int) := by rw [IntWalk.wrap64_in _ (by omega)]; omega
  obtain ⟨c0, c1⟩ := hm l[j] (List.getElem_mem hj)
  rw [List.drop_eq_getElem_cons hj, List.foldl_cons] at he
  have hs2 : (hput i s l[j]).1.length = W * H := by
   unfold hput
   split
   ·split
    ·exact hs
    ·simpa using hs
   ·exact hs
  refine (held_l3 hi hWH hl hm d (j + 1) (hput i s l[j]) (by omega) hs2 he).step 0 (fun k _ => ?_)
  show thermionref01_held.l3 (k + 1) _ _ _ _ _ _ _ _ _ = _
  rw [thermionref01_held.l3, if_pos (by omega), if_pos (by omega), rd_at l j hj, if_pos c0, if_pos (by omega), hw]
  show (if s.1.getD l[j].toNat false = true then _ else _) = _
  unfold hput
  by_cases q : s.1.getD l[j].toNat false = true
  ·rw [if_pos q, if_pos q, if_pos (by omega), if_pos (by omega)]
   show (if s.1.getD (i : Int).toNat false = true then _ else _) = _
   rw [Int.toNat_natCast]
   by_cases p : s.1.getD i false = true
   ·rw [if_pos p, if_pos p]
   ·rw [if_neg p, if_neg p]
  ·rw [if_neg q, if_neg q]
theorem held_l2 (hW : 1 ≤ W ∧ W ≤ 16) (hH : 1 ≤ H ∧ H ≤ 16) (hC : C.length = W * H) {r : List Bool} {s : List Bool × Bool} (hs : s.1.length = W * H)
  (he : Ev (fun k => thermionref01_held.l1 k (hround W H R s (W * H)).1 (hround W H R s (W * H)).2 (W : Int) (H : Int) R C) r) : ∀ d n, n + d = W * H → Ev (fun k => thermionref01_held.l2 k (hround W H R s n).1 (hround W H R s n).2 (n : Int) (W : Int) (H : Int) R C) r
 | 0, n, h => by
  obtain rfl : n = W * H := by omega
  refine he.step 0 (fun k _ => ?_)
  show thermionref01_held.l2 (k + 1) _ _ _ _ _ _ _ = _
  rw [thermionref01_held.l2, if_neg (by omega)]
 | d + 1, n, h => by
  have hWH : W * H ≤ 256 := Nat.mul_le_mul hW.2 hH.2
  have hw : wrap64 ((n : Int) + 1) = ((n + 1 : Nat) : Int) := by rw [IntWalk.wrap64_in _ (by omega)]; omega
  have ih := held_l2 hW hH hC hs he d (n + 1) (by omega)
  have hlen := around_len (W := W) (H := H) (R := R) (i := n)
  have g := hround_grow (R := R) (C := C) hs n (by omega)
  have h3 := held_l3 (R := R) (C := C) (i := n) (l := aroundL W H R n) (r := r) (by omega) hWH (by omega) (fun c hc => (around_mem hc).2) (aroundL W H R n).length 0 (hround W H R s n) (by omega) (by rw [g.len]; exact hs) (by rw [List.drop_zero, hw]; exact ih)
  refine h3.step 8 (fun k hk => ?_)
  obtain ⟨k, rfl⟩ : ∃ k', k = k' + 8 := ⟨k - 8, by omega⟩
  show thermionref01_held.l2 (k + 8 + 1) _ _ _ _ _ _ _ = _
  rw [thermionref01_held.l2, if_pos (by omega), obnd (around_eq hW hH (by omega) k)]
  rfl
theorem held_l1 (hW : 1 ≤ W ∧ W ≤ 16) (hH : 1 ≤ H ∧ H ≤ 16) (hC : C.length = W * H) : ∀ (m : Nat) (b : List Bool), b.length = W * H → unmarked b (W * H) ≤ m → (∀ j, j < W * H → b.getD j false = true → (net W H R C).Reach j) →
  ∃ r, Ev (fun k => thermionref01_held.l1 k b true (W : Int) (H : Int) R C) r ∧ r.length = W * H ∧ (∀ j, j < W * H → r.getD j false = true → (net W H R C).Reach j) ∧ (∀ j, b.getD j false = true → r.getD j false = true) ∧ ∀ i, i < W * H → ∀ c, c ∈ aroundL W H R i → r.getD c.toNat false = true → r.getD i false = true := fun m => by
 induction m with
 | zero =>
  intro b hb hu hs
  have g := hround_grow (R := R) (C := C) (s := (b, false)) hb (W * H) (Nat.le_refl _)
  have e : (hround W H R (b, false) (W * H)).2 = false := by
   rcases g.flag with e | ⟨_, e⟩
   ·rw [e]
   ·have e : unmarked _ _ < unmarked b (W * H) := e
    omega
  obtain ⟨e2, h2⟩ := hround_still (R := R) (s := (b, false)) hb rfl (W * H) (Nat.le_refl _) e
  refine ⟨b, ?_, hb, hs, fun j h => h, h2⟩
  refine Ev.step (held_l2 (C := C) (R := R) hW hH hC (s := (b, false)) hb ?_ (W * H) 0 (by omega)) 0 (fun k _ => ?_)
  ·rw [e2]
   refine Ev.now (fun k => ?_)
   rw [thermionref01_held.l1, if_neg (by simp)]
  ·show thermionref01_held.l1 (k + 1) _ _ _ _ _ _ = _
   rw [thermionref01_held.l1, if_pos rfl]
   rfl
 | succ m ih =>
  intro b hb hu hs
  have g := hround_grow (R := R) (C := C) (s := (b, false)) hb (W * H) (Nat.le_refl _)
  have start : ∀ r, Ev (fun k => thermionref01_held.l1 k (hround W H R (b, false) (W * H)).1 (hround W H R (b, false) (W * H)).2 (W : Int) (H : Int) R C) r → Ev (fun k => thermionref01_held.l1 k b true (W : Int) (H : Int) R C) r := fun r he => by
   refine Ev.step (held_l2 (C := C) (R := R) hW hH hC (s := (b, false)) hb he (W * H) 0 (by omega)) 0 (fun k _ => ?_)
   show thermionref01_held.l1 (k + 1) _ _ _ _ _ _ = _
   rw [thermionref01_held.l1, if_pos rfl]
   rfl
  cases e : (hround W H R (b, false) (W * H)).2 with
  | false =>
   obtain ⟨e2, h2⟩ := hround_still (R := R) (s := (b, false)) hb rfl (W * H) (Nat.le_refl _) e
   refine ⟨b, start b ?_, hb, hs, fun j h => h, h2⟩
   rw [e2]
   refine Ev.now (fun k => ?_)
   rw [thermionref01_held.l1, if_neg (by simp)]
  | true =>
   have hlt : unmarked (hround W H R (b, false) (W * H)).1 (W * H) < unmarked b (W * H) := by
    rcases g.flag with q | ⟨_, q⟩
    ·rw [q] at e; cases e
    ·exact q
   obtain ⟨r, h1, h2, h3, h4, h5⟩ := ih (hround W H R (b, false) (W * H)).1 (by rw [g.len]; exact hb) (by omega) (g.sound hs)
   exact ⟨r, start r (by rw [e]; exact h1), h2, h3, fun j hj => h4 j (g.mono j hj), h5⟩
def seedB (C : List Int) (n : Nat) : List Bool := (List.range C.length).map (fun j => decide (j < n ∧ 0 < fn C j))
theorem seedB_len (C : List Int) (n : Nat) : (seedB C n).length = C.length := by simp [seedB]
theorem seedB_get {C : List Int} {n j : Nat} (h : j < C.length) : (seedB C n).getD j false = decide (j < n ∧ 0 < fn C j) := by
 unfold seedB
 rw [List.getD_eq_getElem?_getD, List.getElem?_map, List.getElem?_range h]
 rfl
theorem seedB_zero (C : List Int) : List.replicate C.length false = seedB C 0 := by
 refine List.ext_getElem (by rw [seedB_len, List.length_replicate]) (fun k h1 h2 => ?_)
 simp [seedB]
theorem seedB_succ {C : List Int} {n : Nat} (hn : n < C.length) : (seedB C n).set n (decide (rd C (n : Int) > 0)) = seedB C (n + 1) := by
 refine List.ext_getElem (by rw [List.length_set, seedB_len, seedB_len]) (fun k h1 h2 => ?_)
 rw [List.getElem_set]
 show (if n = k then decide (fn C n > 0) else _) = _
 by_cases q : n = k
 ·subst q
  rw [if_pos rfl]
  simp [seedB]
 ·rw [if_neg q]
  simp only [seedB, List.getElem_map, List.getElem_range]
  congr 1
  exact propext ⟨fun h => ⟨by omega, h.2⟩, fun h => ⟨by omega, h.2⟩⟩
theorem held_l0 (hC : C.length ≤ 256) {r : List Bool} (he : Ev (fun k => thermionref01_held.l1 k (seedB C C.length) true (W : Int) (H : Int) R C) r) : ∀ d n, n + d = C.length → Ev (fun k => thermionref01_held.l0 k (seedB C n) (n : Int) (W : Int) (H : Int) R C) r
 | 0, n, h => by
  obtain rfl : n = C.length := by omega
  refine he.step 0 (fun k _ => ?_)
  show thermionref01_held.l0 (k + 1) _ _ _ _ _ _ = _
  rw [thermionref01_held.l0, if_neg (by omega)]
 | d + 1, n, h => by
  have hw : wrap64 ((n : Int) + 1) = ((n + 1 : Nat) : Int) := by rw [IntWalk.wrap64_in _ (by omega)]; omega
  refine (held_l0 hC he d (n + 1) (by omega)).step 0 (fun k _ => ?_)
  show thermionref01_held.l0 (k + 1) _ _ _ _ _ _ = _
  rw [thermionref01_held.l0, if_pos (by omega), if_pos (by omega), if_pos (by rw [seedB_len]; omega), hw, Int.toNat_natCast, seedB_succ (by omega)]
theorem around_of_M {i j : Nat} (hi : i < W * H) (hj : j < W * H) (h : 0 < netM W H R i j) : (j : Int) ∈ aroundL W H R i := by
 refine List.mem_filter.2 ⟨?_, ?_⟩
 ·obtain ⟨hW, he, hx, hy⟩ := cell_at hi
  obtain ⟨p, hp, e⟩ := List.mem_map.1 (nb_of_M hi hj h)
  have hu := up_ge (W := W) (i := i) hW
  have hcol := fun h => left_col (W := W) (i := i) h
  unfold nbs at hp
  simp only [List.mem_append] at hp
  unfold cand
  by_cases q : W = 1
  ·rw [if_pos q]
   rcases hp with hp | hp | hp | hp <;> split at hp <;> simp at hp
   ·have h1 := (hcol (by assumption)).2; subst hp; simp at e; subst e; simp; omega
   ·subst hp; simp at e; subst e; simp
   ·have h1 := hu.1 (by assumption); subst hp; simp at e; subst e; simp; omega
   ·subst hp; simp at e; subst e; simp; omega
  ·rw [if_neg q]
   rcases hp with hp | hp | hp | hp <;> split at hp <;> simp at hp
   ·have h1 := (hcol (by assumption)).2; subst hp; simp at e; subst e; simp; omega
   ·subst hp; simp at e; subst e; simp
   ·have h1 := hu.1 (by assumption); subst hp; simp at e; subst e; simp; omega
   ·subst hp; simp at e; subst e; simp
 ·unfold wtR
  rw [if_pos (by omega), Int.toNat_natCast]
  exact decide_eq_true h
theorem held_eq (hW : 1 ≤ W ∧ W ≤ 16) (hH : 1 ≤ H ∧ H ≤ 16) (hC : C.length = W * H) : ∃ r, Ev (fun k => thermionref01_held.f k (W : Int) (H : Int) R C) r ∧ r.length = C.length ∧ ∀ j, j < C.length → (r.getD j false = true ↔ (net W H R C).Reach j) := by
 have hWH : W * H ≤ 256 := Nat.mul_le_mul hW.2 hH.2
 obtain ⟨r, h1, h2, h3, h4, h5⟩ := held_l1 (R := R) hW hH hC (unmarked (seedB C C.length) (W * H)) (seedB C C.length) (by rw [seedB_len]; exact hC) (Nat.le_refl _) (fun j hj hm => by
  rw [seedB_get (by omega)] at hm
  exact .el hj (by simpa [net] using (of_decide_eq_true hm).2))
 refine ⟨r, ?_, by omega, fun j hj => ⟨h3 j (by omega), fun h => ?_⟩⟩
 ·obtain ⟨K, hK⟩ := held_l0 (W := W) (H := H) (R := R) (by omega) h1 C.length 0 (by omega)
  refine ⟨K, fun k hk => ?_⟩
  show thermionref01_held.f k _ _ _ _ = _
  unfold thermionref01_held.f
  rw [if_pos (by omega), Int.toNat_natCast, if_pos (by omega), seedB_zero]
  exact hK k hk
 ·induction h with
  | @el i hi he =>
   refine h4 i ?_
   rw [seedB_get (by omega)]
   exact decide_eq_true ⟨by omega, by simpa [net] using he⟩
  | @step i k hi hM hk ih =>
   have hkl : k < W * H := hk.lt
   refine h5 i hi (k : Int) (around_of_M hi hkl hM) ?_
   rw [Int.toNat_natCast]
   exact ih (by omega)
end
theorem beyond_eq (n a b : Int) : thermionref01_beyond.f n a b = some (decide (n < a ∨ b < n)) := by
 unfold thermionref01_beyond.f
 by_cases q : n < a
 ·rw [if_pos q, decide_eq_true (Or.inl q)]
 ·rw [if_neg q]
  congr 1
  exact decide_eq_decide.2 ⟨fun h => .inr h, fun h => h.resolve_left q⟩
theorem rdOf_at (r : List Bool) (j : Nat) : rdOf false r (j : Int) = r.getD j false := by
 unfold rdOf
 rw [Int.toNat_natCast]
section
variable {W H : Nat} {R : Bool} {C : List Int}
theorem check_l1_ok {r : List Bool} (hr : r.length ≤ 256) (h : ∀ i, i < r.length → r.getD i false = true) : ∀ d j, j + d = r.length → Ev (fun k => thermionref01_Check.l1 k r (j : Int)) 0
 | 0, j, hj => Ev.now (fun k => by rw [thermionref01_Check.l1, if_neg (by omega)])
 | d + 1, j, hj => by
  have hw : wrap64 ((j : Int) + 1) = ((j + 1 : Nat) : Int) := by rw [IntWalk.wrap64_in _ (by omega)]; omega
  refine (check_l1_ok hr h d (j + 1) (by omega)).step 0 (fun k _ => ?_)
  show thermionref01_Check.l1 (k + 1) _ _ = _
  rw [thermionref01_Check.l1, if_pos (by omega), if_pos (by omega), rdOf_at, if_pos (h j (by omega)), hw]
theorem check_l1_bad {r : List Bool} (hr : r.length ≤ 256) {i : Nat} (hi : i < r.length) (h : r.getD i false = false) : ∀ d j, j + d = i → Ev (fun k => thermionref01_Check.l1 k r (j : Int)) 13
 | 0, j, hj => Ev.now (fun k => by
  obtain rfl : j = i := by omega
  rw [thermionref01_Check.l1, if_pos (by omega), if_pos (by omega), rdOf_at, h, if_neg (by simp)])
 | d + 1, j, hj => by
  have hw : wrap64 ((j : Int) + 1) = ((j + 1 : Nat) : Int) := by rw [IntWalk.wrap64_in _ (by omega)]; omega
  by_cases q : r.getD j false = true
  ·refine (check_l1_bad hr hi h d (j + 1) (by omega)).step 0 (fun k _ => ?_)
   show thermionref01_Check.l1 (k + 1) _ _ = _
   rw [thermionref01_Check.l1, if_pos (by omega), if_pos (by omega), rdOf_at, if_pos q, hw]
  ·exact Ev.now (fun k => by rw [thermionref01_Check.l1, if_pos (by omega), if_pos (by omega), rdOf_at, if_neg q])
def endErr (W H : Nat) (R : Bool) (C : List Int) : Int := if ∃ e, e ∈ C ∧ (e < 0 ∨ 6 < e) then 2 else if ∀ e, e ∈ C → e = 0 then 7 else if looseB W H R C = true then 13 else 0
theorem Ev.bind {α β : Type} {f : Nat → Option α} {a : α} {g : Nat → α → Option β} {r : β} (h : Ev f a) (hg : Ev (fun k => g k a) r) : Ev (fun k => (f k).bind (g k)) r := by
 obtain ⟨K1, h1⟩ := h
 obtain ⟨K2, h2⟩ := hg
 refine ⟨K1 + K2, fun k hk => ?_⟩
 show (f k).bind (g k) = _
 rw [obnd (h1 k (by omega))]
 exact h2 k (by omega)
theorem check_l0 (hW : 1 ≤ W ∧ W ≤ 16) (hH : 1 ≤ H ∧ H ≤ 16) (hC : C.length = W * H) : ∀ (d n : Nat), n + d = C.length → (∀ j, j < n → 0 ≤ fn C j ∧ fn C j ≤ 6) → ∀ b : Bool, (b = true ↔ ∃ j, j < n ∧ 0 < fn C j) →
  Ev (fun k => thermionref01_Check.l0 k b (n : Int) (W : Int) (H : Int) R C) (endErr W H R C)
 | 0, n, h, hr, b, hb => by
  have hWH : W * H ≤ 256 := Nat.mul_le_mul hW.2 hH.2
  obtain rfl : n = C.length := by omega
  have h1 : ¬ ∃ e, e ∈ C ∧ (e < 0 ∨ 6 < e) := fun ⟨e, he, hb⟩ => by
   obtain ⟨j, hj, rfl⟩ := mem_fn he
   have := hr j hj
   omega
  unfold endErr
  rw [if_neg h1]
  cases b with
  | false =>
   rw [if_pos]
   ·refine Ev.now (fun k => ?_)
    rw [thermionref01_Check.l0, if_neg (by omega), if_neg (by simp)]
   ·intro e he
    obtain ⟨j, hj, rfl⟩ := mem_fn he
    have := hr j hj
    by_cases q : 0 < fn C j
    ·exact absurd (hb.2 ⟨j, hj, q⟩) (by simp)
    ·omega
  | true =>
   obtain ⟨j, hj, hp⟩ := hb.1 rfl
   rw [if_neg (fun h => by have := h _ (fn_mem hj); omega)]
   obtain ⟨r, e1, e2, e3⟩ := held_eq (R := R) hW hH hC
   have hend : Ev (fun k => thermionref01_Check.l1 k r 0) (if looseB W H R C = true then 13 else 0) := by
    cases q : looseB W H R C with
    | false =>
     have hl := (loose_iff hC (by omega)).1 q
     rw [if_neg (by simp)]
     exact check_l1_ok (by omega) (fun i hi => (e3 i (by omega)).2 (hl i (by omega))) r.length 0 (by omega)
    | true =>
     rw [if_pos rfl]
     have hn : ¬ ∀ i, i < r.length → r.getD i false = true := fun h => by
      have := (loose_iff (R := R) hC (by omega)).2 (fun i hi => (e3 i hi).1 (h i (by omega)))
      rw [q] at this; cases this
     obtain ⟨i, hi⟩ := Classical.not_forall.1 hn
     have hi2 : i < r.length := Classical.byContradiction fun q => hi (fun w => absurd w q)
     have hf : r.getD i false = false := by
      cases z : r.getD i false with
      | false => rfl
      | true => exact absurd (fun _ => z) hi
     exact check_l1_bad (by omega) hi2 hf i 0 (by omega)
   refine (Ev.bind (g := fun k t286 => thermionref01_Check.l1 k t286 0) e1 hend).step 0 (fun k _ => ?_)
   show thermionref01_Check.l0 (k + 1) _ _ _ _ _ _ = _
   rw [thermionref01_Check.l0, if_neg (by omega), if_pos rfl]
 | d + 1, n, h, hr, b, hb => by
  have hWH : W * H ≤ 256 := Nat.mul_le_mul hW.2 hH.2
  have hw : wrap64 ((n : Int) + 1) = ((n + 1 : Nat) : Int) := by rw [IntWalk.wrap64_in _ (by omega)]; omega
  have e : rd C (n : Int) = fn C n := rfl
  by_cases q : fn C n < 0 ∨ 6 < fn C n
  ·unfold endErr
   rw [if_pos ⟨_, fn_mem (show n < C.length by omega), q⟩]
   refine Ev.now (fun k => ?_)
   rw [thermionref01_Check.l0, if_pos (by omega), if_pos (by omega), e, obnd (beyond_eq _ _ _), decide_eq_true q, if_pos rfl]
  ·have hq : 0 ≤ fn C n ∧ fn C n ≤ 6 := by omega
   have ih := check_l0 hW hH hC d (n + 1) (by omega) (fun j hj => by
    by_cases z : j = n
    ·subst z; exact hq
    ·exact hr j (by omega)) (b || decide (fn C n > 0)) (by
     rw [Bool.or_eq_true, hb, decide_eq_true_iff]
     constructor
     ·rintro (⟨j, hj, hp⟩ | hp)
      ·exact ⟨j, by omega, hp⟩
      ·exact ⟨n, by omega, hp⟩
     ·rintro ⟨j, hj, hp⟩
      by_cases z : j = n
      ·subst z; exact .inr hp
      ·exact .inl ⟨j, by omega, hp⟩)
   refine ih.step 0 (fun k _ => ?_)
   show thermionref01_Check.l0 (k + 1) _ _ _ _ _ _ = _
   rw [thermionref01_Check.l0, if_pos (by omega), if_pos (by omega), e, obnd (beyond_eq _ _ _), decide_eq_false q, if_neg (by simp), hw]
   cases b <;> rfl
end
theorem refcheck_eq (W H : Int) (R : Bool) (C : List Int) : Ev (fun k => thermionref01_Check.f k W H R C) (checkErr W H R C) := by
 unfold checkErr
 by_cases q1 : W < 1 ∨ 16 < W
 ·rw [if_pos (by omega)]
  refine Ev.now (fun k => ?_)
  unfold thermionref01_Check.f
  rw [obnd (beyond_eq _ _ _), decide_eq_true q1, if_pos rfl, thermionref01_Check.j0, if_pos rfl]
 ·by_cases q2 : H < 1 ∨ 16 < H
  ·rw [if_pos (by omega)]
   refine Ev.now (fun k => ?_)
   unfold thermionref01_Check.f
   rw [obnd (beyond_eq _ _ _), decide_eq_false q1, if_neg (by simp), obnd (beyond_eq _ _ _), decide_eq_true q2, thermionref01_Check.j0, if_pos rfl]
  ·obtain ⟨W', rfl⟩ : ∃ W' : Nat, W = W' := ⟨W.toNat, by omega⟩
   obtain ⟨H', rfl⟩ : ∃ H' : Nat, H = H' := ⟨H.toNat, by omega⟩
   have hW : 1 ≤ W' ∧ W' ≤ 16 := by omega
   have hH : 1 ≤ H' ∧ H' ≤ 16 := by omega
   have hWH : W' * H' ≤ 256 := Nat.mul_le_mul hW.2 hH.2
   have w0 : wrap64 ((W' : Int) * (H' : Int)) = ((W' * H' : Nat) : Int) := by
    rw [← Int.natCast_mul]; exact IntWalk.wrap64_in _ (by omega)
   rw [if_neg (by omega), ← Int.natCast_mul, Int.toNat_natCast, Int.toNat_natCast]
   by_cases q3 : C.length = W' * H'
   ·rw [if_neg (by rw [q3]; simp)]
    have h0 := check_l0 (R := R) hW hH q3 C.length 0 (by omega) (fun j hj => absurd hj (Nat.not_lt_zero j)) false ⟨fun h => by simp at h, fun ⟨j, hj, _⟩ => absurd hj (Nat.not_lt_zero j)⟩
    refine h0.step 0 (fun k _ => ?_)
    show thermionref01_Check.f (k + 1) _ _ _ _ = _
    unfold thermionref01_Check.f
    rw [obnd (beyond_eq _ _ _), decide_eq_false q1, if_neg (by simp), obnd (beyond_eq _ _ _), decide_eq_false q2, thermionref01_Check.j0, if_neg (by simp), w0, if_pos (by rw [q3])]
    rfl
   ·rw [if_pos (by intro h; exact q3 (by exact Int.ofNat.inj h))]
    refine Ev.now (fun k => ?_)
    unfold thermionref01_Check.f
    rw [obnd (beyond_eq _ _ _), decide_eq_false q1, if_neg (by simp), obnd (beyond_eq _ _ _), decide_eq_false q2, thermionref01_Check.j0, if_neg (by simp), w0, if_neg (by intro h; exact q3 (by exact Int.ofNat.inj h))]
theorem refgreatest_go (W H : Int) (R : Bool) (C : List Int) (hl : C.length ≤ 1000000) : ∀ (d i : Nat) (x : Int), i + d = C.length → Ev (fun k => thermionref01_greatest.l0 k x (i : Int) W H R C) ((C.drop i).foldl max x)
 | 0, i, x, hi => by
  rw [List.drop_eq_nil_of_le (by omega)]
  exact Ev.now (fun k => by rw [thermionref01_greatest.l0, if_neg (by omega)]; rfl)
 | d + 1, i, x, hi => by
  have hil : i < C.length := by omega
  have hw : wrap64 ((i : Int) + 1) = ((i + 1 : Nat) : Int) := by rw [IntWalk.wrap64_in _ (by omega)]; omega
  rw [List.drop_eq_getElem_cons hil, List.foldl_cons]
  refine (refgreatest_go W H R C hl d (i + 1) (max x C[i]) (by omega)).step 0 (fun k _ => ?_)
  show thermionref01_greatest.l0 (k + 1) _ _ _ _ _ _ = _
  rw [thermionref01_greatest.l0, if_pos (by omega), if_pos (by omega), hw, mx_max, rd_at C i hil]
theorem refvolts_ok {v : List Int} (hl : v.length ≤ 100) (h : ∀ x, x ∈ v → -1000000 ≤ x ∧ x ≤ 1000000) : ∀ d j, j + d = v.length → Ev (fun k => thermionref01_CheckVolts.l0 k v (j : Int)) 0
 | 0, j, hj => Ev.now (fun k => by rw [thermionref01_CheckVolts.l0, if_neg (by omega)])
 | d + 1, j, hj => by
  have hw : wrap64 ((j : Int) + 1) = ((j + 1 : Nat) : Int) := by rw [IntWalk.wrap64_in _ (by omega)]; omega
  have hj2 : j < v.length := by omega
  have := h v[j] (List.getElem_mem hj2)
  refine (refvolts_ok hl h d (j + 1) (by omega)).step 0 (fun k _ => ?_)
  show thermionref01_CheckVolts.l0 (k + 1) _ _ = _
  rw [thermionref01_CheckVolts.l0, if_pos (by omega), if_pos (by omega), rd_at v j hj2, obnd (beyond_eq _ _ _), decide_eq_false (by omega), if_neg (by simp), hw]
theorem refvolts_bad {v : List Int} (hl : v.length ≤ 100) {i : Nat} (hi : i < v.length) (h : v[i] < -1000000 ∨ 1000000 < v[i]) : ∀ d j, j + d = i → Ev (fun k => thermionref01_CheckVolts.l0 k v (j : Int)) 2
 | 0, j, hj => Ev.now (fun k => by
  obtain rfl : j = i := by omega
  rw [thermionref01_CheckVolts.l0, if_pos (by omega), if_pos (by omega), rd_at v j hi, obnd (beyond_eq _ _ _), decide_eq_true h, if_pos rfl])
 | d + 1, j, hj => by
  have hw : wrap64 ((j : Int) + 1) = ((j + 1 : Nat) : Int) := by rw [IntWalk.wrap64_in _ (by omega)]; omega
  have hj2 : j < v.length := by omega
  by_cases q : v[j] < -1000000 ∨ 1000000 < v[j]
  ·exact Ev.now (fun k => by rw [thermionref01_CheckVolts.l0, if_pos (by omega), if_pos (by omega), rd_at v j hj2, obnd (beyond_eq _ _ _), decide_eq_true q, if_pos rfl])
  ·refine (refvolts_bad hl hi h d (j + 1) (by omega)).step 0 (fun k _ => ?_)
   show thermionref01_CheckVolts.l0 (k + 1) _ _ = _
   rw [thermionref01_CheckVolts.l0, if_pos (by omega), if_pos (by omega), rd_at v j hj2, obnd (beyond_eq _ _ _), decide_eq_false q, if_neg (by simp), hw]
theorem refvolts_eq (W H : Int) (R : Bool) (C v : List Int) : Ev (fun k => thermionref01_CheckVolts.f k W H R C v) (voltErr W H R C v) := by
 unfold voltErr
 have hck := refcheck_eq W H R C
 by_cases q : checkErr W H R C = 0
 ·rw [if_neg (by simpa using q)]
  obtain ⟨a1, a2, a3, a4, a5, a6, a7, a8⟩ := check_parts q
  have h256 : C.length ≤ 256 := by
   obtain ⟨W', rfl⟩ : ∃ W' : Nat, W = W' := ⟨W.toNat, by omega⟩
   obtain ⟨H', rfl⟩ : ∃ H' : Nat, H = H' := ⟨H.toNat, by omega⟩
   have hWH : W' * H' ≤ 256 := Nat.mul_le_mul (show W' ≤ 16 by omega) (show H' ≤ 16 by omega)
   rw [← Int.natCast_mul] at a5
   omega
  have hmax : C.foldl max 0 = maxOf C := foldl_max_zero (fun e he => (a6 e he).1) (fun h => by
   obtain ⟨e, he, _⟩ := a7
   rw [h] at he
   cases he)
  have hm6 : maxOf C ≤ 6 := by
   have hne : C ≠ [] := fun h => by
    obtain ⟨e, he, _⟩ := a7
    rw [h] at he
    cases he
   exact (a6 _ (maxOf_mem hne)).2
  have hgr := refgreatest_go W H R C (by omega) C.length 0 0 (by omega)
  rw [List.drop_zero, hmax] at hgr
  rw [q] at hck
  refine Ev.bind (g := fun k t293 => if t293 = 0 then ((thermionref01_greatest.f k W H R C).bind fun t294 => (if (v.length : Int) = t294 then (thermionref01_CheckVolts.l0 k v 0) else (some 3))) else (some t293)) hck ?_
  show Ev (fun k => if (0 : Int) = 0 then ((thermionref01_greatest.f k W H R C).bind fun t294 => (if (v.length : Int) = t294 then (thermionref01_CheckVolts.l0 k v 0) else (some 3))) else (some 0)) _
  simp only [if_true]
  refine Ev.bind (f := fun k => thermionref01_greatest.f k W H R C) (g := fun k t294 => if (v.length : Int) = t294 then (thermionref01_CheckVolts.l0 k v 0) else (some 3)) hgr ?_
  show Ev (fun k => if (v.length : Int) = maxOf C then (thermionref01_CheckVolts.l0 k v 0) else (some 3)) _
  by_cases q2 : (v.length : Int) = maxOf C
  ·rw [if_neg (by simpa using q2)]
   simp only [if_pos q2]
   by_cases q3 : ∃ x, x ∈ v ∧ (x < -1000000 ∨ 1000000 < x)
   ·rw [if_pos q3]
    obtain ⟨x, hx, hb⟩ := q3
    obtain ⟨i, hi, rfl⟩ := List.mem_iff_getElem.1 hx
    exact refvolts_bad (by omega) hi hb i 0 (by omega)
   ·rw [if_neg q3]
    refine refvolts_ok (by omega) (fun x hx => ?_) v.length 0 (by omega)
    have h1 : ¬ (x < -1000000 ∨ 1000000 < x) := fun h => q3 ⟨x, hx, h⟩
    omega
  ·rw [if_pos (by simpa using q2)]
   simp only [if_neg q2]
   exact ⟨0, fun k _ => rfl⟩
 ·rw [if_pos (by simpa using q)]
  refine (Ev.bind hck (g := fun k t293 => if t293 = 0 then ((thermionref01_greatest.f k W H R C).bind fun t294 => (if (v.length : Int) = t294 then (thermionref01_CheckVolts.l0 k v 0) else (some 3))) else (some t293)) ⟨0, fun k _ => if_neg q⟩)
end Go.Proofs.Ytndkkjpgnmahbaa.Print
end

section
namespace Go.Proofs.Field
section
variable {up : Bool} {W H : Nat} {R : Bool} {C v : List Int}
theorem take_set_ {b : List Int} {n i : Nat} {x : Int} : (b.set i x).take n = (b.take n).set i x := by
 apply List.ext_getElem
 ·simp
 ·intro j h1 h2
  simp [List.getElem_set]
theorem sweepTo_take (hC : C.length = W * H) {b : List Int} (hb : C.length ≤ b.length) : ∀ i, i ≤ C.length → (sweepTo up W H R C (b.take C.length) i) = ((sweepTo up W H R C b i).1.take C.length, (sweepTo up W H R C b i).2)
 | 0, _ => rfl
 | i + 1, hi => by
  rw [sweepTo, sweepTo, sweepTo_take hC hb i (by omega)]
  have hil : i < C.length := by omega
  have hr : relax up W H R ((sweepTo up W H R C b i).1.take C.length) i = relax up W H R (sweepTo up W H R C b i).1 i := by
   unfold relax
   congr 1
   refine under_congr (fun p hp => ?_)
   rw [fn_take (by rw [hC]; exact (nbs_lt (by rw [← hC]; exact hil) hp).1)]
  unfold swStep
  by_cases q : 0 < fn C i
  ·rw [if_pos q, if_pos q]
  ·rw [if_neg q, if_neg q]
   simp only [hr, fn_take hil]
   by_cases z : relax up W H R (sweepTo up W H R C b i).1 i ≠ fn (sweepTo up W H R C b i).1 i
   ·rw [if_pos z, if_pos z, take_set_]
   ·rw [if_neg z, if_neg z]
theorem leastTo_mem : ∀ m, leastTo C v m = 1000000 ∨ ∃ i, i < m ∧ 0 < fn C i ∧ volt C v i = leastTo C v m
 | 0 => .inl rfl
 | m + 1 => by
  rw [leastTo]
  by_cases q : 0 < fn C m
  ·rw [if_pos q]
   by_cases z : volt C v m ≤ leastTo C v m
   ·exact .inr ⟨m, by omega, q, by omega⟩
   ·rw [show min (leastTo C v m) (volt C v m) = leastTo C v m by omega]
    rcases leastTo_mem m with h | ⟨i, a, b, c⟩
    ·exact .inl h
    ·exact .inr ⟨i, by omega, b, c⟩
  ·rw [if_neg q]
   rcases leastTo_mem m with h | ⟨i, a, b, c⟩
   ·exact .inl h
   ·exact .inr ⟨i, by omega, b, c⟩
theorem mostTo_mem : ∀ m, mostTo C v m = -1000000 ∨ ∃ i, i < m ∧ 0 < fn C i ∧ volt C v i = mostTo C v m
 | 0 => .inl rfl
 | m + 1 => by
  rw [mostTo]
  by_cases q : 0 < fn C m
  ·rw [if_pos q]
   by_cases z : mostTo C v m ≤ volt C v m
   ·exact .inr ⟨m, by omega, q, by omega⟩
   ·rw [show max (mostTo C v m) (volt C v m) = mostTo C v m by omega]
    rcases mostTo_mem m with h | ⟨i, a, b, c⟩
    ·exact .inl h
    ·exact .inr ⟨i, by omega, b, c⟩
  ·rw [if_neg q]
   rcases mostTo_mem m with h | ⟨i, a, b, c⟩
   ·exact .inl h
   ·exact .inr ⟨i, by omega, b, c⟩
theorem volt_bounds2 (hV : Volted W H R C v) {i : Nat} (hi : i < C.length) (hp : 0 < fn C i) : -1000000 ≤ volt C v i ∧ volt C v i ≤ 1000000 := by
 have h1 := hV.vlen i hi
 have h2 := hV.vr ((fn C i).toNat - 1) (by omega)
 exact h2
theorem volt_minmax (hV : Volted W H R C v) {i : Nat} (hi : i < C.length) (hp : 0 < fn C i) : minOf (onOf C v) ≤ volt C v i ∧ volt C v i ≤ maxOf (onOf C v) := by
 have hm : volt C v i ∈ onOf C v := List.mem_map.2 ⟨fn C i, mem_elec.2 ⟨by omega, (hV.elr i hi).2, fn_mem hi⟩, rfl⟩
 exact ⟨minOf_le hm, le_maxOf hm⟩
theorem least_eq (hV : Volted W H R C v) : leastTo C v C.length = minOf (onOf C v) := by
 have h1 := lowest hV
 obtain ⟨j, hj, hp, e⟩ := on_volt (minOf_mem (on_ne hV))
 have h2 := volt_bounds2 hV hj hp
 rcases leastTo_mem (C := C) (v := v) C.length with h | ⟨i, a, b, c⟩
 ·omega
 ·have := (volt_minmax hV a b).1
  omega
theorem most_eq (hV : Volted W H R C v) : mostTo C v C.length = maxOf (onOf C v) := by
 have h1 := highest hV
 obtain ⟨j, hj, hp, e⟩ := on_volt (maxOf_mem (on_ne hV))
 have h2 := volt_bounds2 hV hj hp
 rcases mostTo_mem (C := C) (v := v) C.length with h | ⟨i, a, b, c⟩
 ·omega
 ·have := (volt_minmax hV a b).2
  omega
theorem laid_take (h : C.length ≤ 256) (x : Int) : (laid C v 256 x).take C.length = Go.Proofs.Ytndkkjpgnmahbaa.Print.firstTo C v x C.length := by
 apply List.ext_getElem
 ·simp [laid, Go.Proofs.Ytndkkjpgnmahbaa.Print.firstTo]; omega
 ·intro i h1 h2
  have hi : i < C.length := by simpa [Go.Proofs.Ytndkkjpgnmahbaa.Print.firstTo] using h2
  simp [laid, Go.Proofs.Ytndkkjpgnmahbaa.Print.firstTo, hi]
end
end Go.Proofs.Field
end

section
namespace Go.Proofs.Ytndkkjpgnmahbaa.Print
open Go.RowKit YtndkkjpgnmahbaaW.PrintWords YtndkkjpgnmahbaaW.PrintLast YtndkkjpgnmahbaaW.PrintMore Ytndkkjpgnmahbaa.H Proofs.Field
structure SR (w W : World) (gp g6 g9 : Nat) (pv : Array Value) (g1 c1 g2 c2 n : Nat) (lo hi : List Int) (k : Nat) (still : Bool) : Prop where
 old : Below w.heap.size w W
 p : W.heap[gp]? = some (.cells pv 24 (0, 0))
 r : W.heap[g6]? = some (.cells #[.slice none 0 0, .slice none 0 0, .int .i64 0, .bool false] 33 (0, 0))
 f : W.heap[g9]? = some (.cells #[.slice (some ⟨g1, 0, none⟩) n c1, .slice (some ⟨g2, 0, none⟩) n c2, .int .i64 (k : Int), .bool still] 33 (0, 0))
 r1 : Row4 W w.heap.size g1 c1 n lo
 r2 : Row4 W w.heap.size g2 c2 n hi
 ne : g1 ≠ g2
 n6 : g6 ≠ g9
 ge : w.heap.size ≤ g9 ∧ w.heap.size ≤ g6
namespace SR
variable {w W W1 : World} {gp g6 g9 : Nat} {pv : Array Value} {g1 c1 g2 c2 n : Nat} {lo hi l1 l2 : List Int} {k : Nat} {still : Bool}
theorem step (h : SR w W gp g6 g9 pv g1 c1 g2 c2 n lo hi k still) (hb : Below W.heap.size W W1) : SR w W1 gp g6 g9 pv g1 c1 g2 c2 n lo hi k still :=
 ⟨below_step h.old hb, blk_below h.p hb, blk_below h.r hb, blk_below h.f hb, h.r1.below hb, h.r2.below hb, h.ne, h.n6, h.ge⟩
theorem away1 (h : SR w W gp g6 g9 pv g1 c1 g2 c2 n lo hi k still) {g t : Nat} {cs : Array Value} (hg : W.heap[g]? = some (.cells cs t (0, 0))) (ht : (3 : Nat) ≠ t) : g ≠ g1 := fun e => Kd.R_ne h.r1.2 hg ht (by rw [e]; rfl)
theorem away2 (h : SR w W gp g6 g9 pv g1 c1 g2 c2 n lo hi k still) {g t : Nat} {cs : Array Value} (hg : W.heap[g]? = some (.cells cs t (0, 0))) (ht : (3 : Nat) ≠ t) : g ≠ g2 := fun e => Kd.R_ne h.r2.2 hg ht (by rw [e]; rfl)
theorem swept (h : SR w W gp g6 g9 pv g1 c1 g2 c2 n lo hi k still) (hb : Below w.heap.size w W1) (hk : KeepBut W W1 g1 (some g2)) (a1 : Row4 W1 w.heap.size g1 c1 n l1) (a2 : Row4 W1 w.heap.size g2 c2 n l2) : SR w W1 gp g6 g9 pv g1 c1 g2 c2 n l1 l2 k still :=
 ⟨hb, hk.blk h.p (h.away1 h.p (by decide)) (fun e => h.away2 h.p (by decide) (Option.some.inj e)), hk.blk h.r (h.away1 h.r (by decide)) (fun e => h.away2 h.r (by decide) (Option.some.inj e)), hk.blk h.f (h.away1 h.f (by decide)) (fun e => h.away2 h.f (by decide) (Option.some.inj e)), a1, a2, h.ne, h.n6, h.ge⟩
theorem puts (h : SR w W gp g6 g9 pv g1 c1 g2 c2 n lo hi k still) (b : Bool) : SR w (W.setCell ⟨g9, 3, none⟩ (.bool b)) gp g6 g9 pv g1 c1 g2 c2 n lo hi k b :=
 ⟨below_set h.old h.ge.1, blk_far (p := ⟨g9, 3, none⟩) h.p (blk_ne h.p h.f (by decide)) _, blk_far (p := ⟨g9, 3, none⟩) h.r h.n6 _, by rw [blk_set h.f 3]; rfl, h.r1.far (p := ⟨g9, 3, none⟩) (h.away1 h.f (by decide)).symm _, h.r2.far (p := ⟨g9, 3, none⟩) (h.away2 h.f (by decide)).symm _, h.ne, h.n6, h.ge⟩
theorem putk (h : SR w W gp g6 g9 pv g1 c1 g2 c2 n lo hi k still) : SR w (W.setCell ⟨g9, 2, none⟩ (.int .i64 ((k : Int) + 1))) gp g6 g9 pv g1 c1 g2 c2 n lo hi (k + 1) still :=
 ⟨below_set h.old h.ge.1, blk_far (p := ⟨g9, 2, none⟩) h.p (blk_ne h.p h.f (by decide)) _, blk_far (p := ⟨g9, 2, none⟩) h.r h.n6 _, by rw [blk_set h.f 2, show (k : Int) + 1 = ((k + 1 : Nat) : Int) by omega]; rfl, h.r1.far (p := ⟨g9, 2, none⟩) (h.away1 h.f (by decide)).symm _, h.r2.far (p := ⟨g9, 2, none⟩) (h.away2 h.f (by decide)).symm _, h.ne, h.n6, h.ge⟩
theorem row (h : SR w W gp g6 g9 pv g1 c1 g2 c2 n lo hi k still) (cs : Array Value) : Kd.R (Kd.int .i64) 3 (W.setRow g6 cs) w.heap.size (fun k_ => some k_ ≠ (Value.slice (some ⟨g2, 0, none⟩) n c2).ownBlock) (.slice (some ⟨g1, 0, none⟩) n c1) lo ∧ Kd.R (Kd.int .i64) 3 (W.setRow g6 cs) w.heap.size (fun k_ => some k_ ≠ (Value.slice (some ⟨g1, 0, none⟩) n c1).ownBlock) (.slice (some ⟨g2, 0, none⟩) n c2) hi ∧ Below w.heap.size w (W.setRow g6 cs) := by
 refine ⟨?_, ?_, ?_⟩
 ·exact Kd.R_mono (Kd.R_step (Kd.R_types h.r1.2 h.r (by decide)) (fun k hk _ => setRow_other _ _ _ _ hk.2)) (fun k hk e => h.ne (by rw [← hk.1]; exact Option.some.inj e))
 ·exact Kd.R_mono (Kd.R_step (Kd.R_types h.r2.2 h.r (by decide)) (fun k hk _ => setRow_other _ _ _ _ hk.2)) (fun k hk e => h.ne (by rw [← hk.1]; exact (Option.some.inj e).symm))
 ·exact ⟨h.old.os, h.old.tape, h.old.output, by rw [size_setRow]; exact h.old.size, fun i hi => by rw [setRow_other _ g6 i _ (by have := h.ge.2; omega)]; exact h.old.block i hi⟩
end SR
theorem sw_ok {up : Bool} {W H : Nat} {R : Bool} {C b : List Int} (h : Sweepable up W H R C b) (h256 : C.length ≤ 256) : SwOk up W H R C (b.take C.length) := by
 refine ⟨by rw [List.length_take, h.len]; omega, fun i hi j hj => ?_⟩
 rw [sweepTo_take h.cells (by rw [h.len]; exact h256) i hi, fn_take hj]
 exact h.range i hi j hj
def thermionref01_Solve.f := field_Solve.f
theorem thermionref01_Solve.calls (W : Int) (H : Int) (R : Bool) (A : Option Addr) (c : Nat) (C : List Int) (A1 : Option Addr) (c1 : Nat) (volts : List Int) (a2 : Int) (r1 : List Int) (r2 : List Int) (r3 : Int) (r4 : Bool) (r5 : Int) (w : World) (hr : Kd.C (Kd.int .i64) w A C.length C) (hc : C.length ≤ c) (hr1 : Kd.C (Kd.int .i64) w A1 volts.length volts) (hc1 : volts.length ≤ c1) (h : thermionref01_Solve.f W H R C volts a2 = some (r1, r2, r3, r4, r5)) :
  Calls Try.prog 26 #[.agg #[.int .i64 W, .int .i64 H, .bool R, .slice A C.length c], .slice A1 volts.length c1, .int .i64 a2] w fun e w' => ∃ v0_ v1_ : Value, e = .returned (.tuple #[.agg #[v0_, v1_, .int .i64 r3, .bool r4], .int .i64 r5]) ∧ Kd.R (Kd.int .i64) 3 w' w.heap.size (fun k_ => some k_ ≠ (v1_ : Value).ownBlock) v0_ r1 ∧ Kd.R (Kd.int .i64) 3 w' w.heap.size (fun k_ => some k_ ≠ (v0_ : Value).ownBlock) v1_ r2 ∧ Below w.heap.size w w' := by
 have HR := Aside0.mk hr
 have HC := Aside0.mk hc
 have HR1 := Aside0.mk hr1
 have HC1 := Aside0.mk hc1
 have HM := Aside0.mk (Mem.start w)
 have hu24 := Try.underlying24
 have hu22 := Try.underlying22
 have hu33 := Try.underlying33
 clear hr hc hr1 hc1
 obtain ⟨KV, hKV⟩ := refvolts_eq W H R C volts
 have HE := Aside0.mk (hKV KV (Nat.le_refl _))
 clear hKV
 unfold thermionref01_Solve.f field_Solve.f at h
 by_cases g0 : voltErr W H R C volts ≠ 0
 ·rw [if_pos g0] at h
  simp only [Option.some.injEq, Prod.mk.injEq] at h
  obtain ⟨rfl, rfl, rfl, rfl, h5⟩ := h
  rw [h5] at g0 HE
  have g1 : (r5 != 0) = true := bne_iff_ne.mpr g0
  clear g0 h5
  go_enter Try.func26, Try.ntmps26
  go_wp2_with (first
  | ((with_reducible refine gate_dst (N := 3) rfl ?_); refine ev_box HM.out rfl 24 (.tmp 0) rfl (cs := planV W H R A C.length c) rfl ?_; intro gp w1 hm1 hq1; clear hq1; have HM1 := Aside0.mk hm1; clear hm1 HM)
  | ((with_reducible refine gate_dst (N := 6) rfl ?_); refine ev_new HM1.out rfl 33 rfl info33 ?_; intro g6 w2 hm2 hq2; clear hq2; have HM2 := Aside0.mk hm2; clear hm2 HM1)
  | ((with_reducible refine gate_dst (N := 10) rfl ?_); refine ev_load HM2.out.second rfl 24 (.tmp 3) rfl rfl _ Try.underlying24 rfl size24 rfl ?_)
  | (go_at_call 42; refine (thermionref01_CheckVolts.calls KV W H R A c C A1 c1 volts _ _ (Kd.C_below HR.out HM2.out.below) HC.out (Kd.C_below HR1.out HM2.out.below) HC1.out HE.out).mono ?_; rintro e w3 ⟨rfl, hb3⟩; have HM3 := Aside0.mk (HM2.out.step hb3); clear hb3 HM2)
  | ((with_reducible refine gate_store (t := 33) (p := 6) rfl ?_); refine ev_store HM3.out rfl 33 (.tmp 6) (.tmp 15) rfl rfl (cs := #[.slice none 0 0, .slice none 0 0, .int .i64 0, .bool false]) rfl size33 rfl rfl (by simp [Value.oneCell']) ?_; intro w4 hm4 hq4; clear hq4; have HM9 := Aside0.mk hm4; clear hm4 HM3))
  (try simp only [Exit.inBlock, Exit.then])
  exact bodyPost_ret (results_row_tmp rfl _ _ g6 33 _ (0, 0) _ rfl HM9.out.head hu33 rfl (by rw [size33]; rfl)) rfl ⟨.slice none 0 0, .slice none 0 0, rfl, Kd.R_nil _ _ _ _ _, Kd.R_nil _ _ _ _ _, HM9.out.below⟩
 rw [if_neg g0] at h
 have g0' : voltErr W H R C volts = 0 := Classical.byContradiction fun q => g0 q
 rw [g0'] at HE
 by_cases g2 : a2 < 0 ∨ 200 < a2
 ·rw [if_pos g2] at h
  simp only [Option.some.injEq, Prod.mk.injEq] at h
  obtain ⟨rfl, rfl, rfl, rfl, rfl⟩ := h
  have b1 := decide_eq_true g2
  clear g0 g0' g2
  go_enter Try.func26, Try.ntmps26
  go_wp2_with (first
  | ((with_reducible refine gate_dst (N := 3) rfl ?_); refine ev_box HM.out rfl 24 (.tmp 0) rfl (cs := planV W H R A C.length c) rfl ?_; intro gp w1 hm1 hq1; clear hq1; have HM1 := Aside0.mk hm1; clear hm1 HM)
  | ((with_reducible refine gate_dst (N := 6) rfl ?_); refine ev_new HM1.out rfl 33 rfl info33 ?_; intro g6 w2 hm2 hq2; clear hq2; have HM2 := Aside0.mk hm2; clear hm2 HM1)
  | ((with_reducible refine gate_dst (N := 10) rfl ?_); refine ev_load HM2.out.second rfl 24 (.tmp 3) rfl rfl _ Try.underlying24 rfl size24 rfl ?_)
  | (go_at_call 42; refine (thermionref01_CheckVolts.calls KV W H R A c C A1 c1 volts _ _ (Kd.C_below HR.out HM2.out.below) HC.out (Kd.C_below HR1.out HM2.out.below) HC1.out HE.out).mono ?_; rintro e w3 ⟨rfl, hb3⟩; have HM3 := Aside0.mk (HM2.out.step hb3); clear hb3 HM2)
  | (go_at_call 73; refine (thermionref01_beyond.calls _ _ _ _ _ (beyond_eq _ _ _)).mono ?_; rintro e w3b ⟨rfl, hb3⟩; have HM4 := Aside0.mk (HM3.out.step (by first | exact hb3 | exact hb3.below)); clear hb3 HM3)
  | ((with_reducible refine gate_store (t := 33) (p := 6) rfl ?_); refine ev_store HM4.out rfl 33 (.tmp 6) (.tmp 19) rfl rfl (cs := #[.slice none 0 0, .slice none 0 0, .int .i64 0, .bool false]) rfl size33 rfl rfl (by simp [Value.oneCell']) ?_; intro w4 hm4 hq4; clear hq4; have HM9 := Aside0.mk hm4; clear hm4 HM4))
  (try simp only [Exit.inBlock, Exit.then])
  exact bodyPost_ret (results_row_tmp rfl _ _ g6 33 _ (0, 0) _ rfl HM9.out.head hu33 rfl (by rw [size33]; rfl)) rfl ⟨.slice none 0 0, .slice none 0 0, rfl, Kd.R_nil _ _ _ _ _, Kd.R_nil _ _ _ _ _, HM9.out.below⟩
 rw [if_neg g2] at h
 have b1 := decide_eq_false g2
 obtain ⟨W', H', rfl, rfl, hW, hH, hN, hCE, hV⟩ := volted_of g0'
 obtain ⟨N, rfl⟩ : ∃ N : Nat, a2 = N := ⟨a2.toNat, by omega⟩
 rw [Int.toNat_natCast, Int.toNat_natCast, Int.toNat_natCast] at h
 have HF : Aside0 ((solveN W' H' R C volts 256 N).1.take C.length = r1 ∧ (solveN W' H' R C volts 256 N).2.1.take C.length = r2 ∧ ((solveN W' H' R C volts 256 N).2.2.1 : Int) = r3 ∧ (solveN W' H' R C volts 256 N).2.2.2 = r4 ∧ (0 : Int) = r5) := ⟨by simpa only [Option.some.injEq, Prod.mk.injEq] using h⟩
 have HV := Aside0.mk hV
 obtain ⟨p1, p2, p3, p4, _⟩ := check_parts hCE
 have HWH : Aside0 ((1 ≤ W' ∧ W' ≤ 16) ∧ (1 ≤ H' ∧ H' ≤ 16) ∧ C.length ≤ 256) := ⟨⟨by omega, by omega, hN⟩⟩
 have HN2 : Aside0 (N ≤ 200) := ⟨by omega⟩
 have HL0 := Aside0.mk (lowR_laid hV hN)
 have HH0 := Aside0.mk (highR_laid hV hN)
 have HSS : Aside0 (solveN W' H' R C volts 256 N = sweeps W' H' R C N (laid C volts 256 (minOf (onOf C volts))) (laid C volts 256 (maxOf (onOf C volts))) 0 false) := ⟨rfl⟩
 have HLT : Aside0 (firstTo C volts (leastTo C volts C.length) C.length = (laid C volts 256 (minOf (onOf C volts))).take C.length ∧ firstTo C volts (mostTo C volts C.length) C.length = (laid C volts 256 (maxOf (onOf C volts))).take C.length) := ⟨by rw [least_eq hV, most_eq hV, laid_take hN, laid_take hN]; exact ⟨rfl, rfl⟩⟩
 have HBG : Aside0 (∀ (V : World), Below w.heap.size w V → Calls Try.prog 74 #[.agg (planV (W' : Int) (H' : Int) R A C.length c), .slice A1 volts.length c1] V fun e w' => ∃ vL vH : Value, e = .returned (.agg #[vL, vH, .int .i64 0, .bool false]) ∧ Two w' V.heap.size vL vH (firstTo C volts (leastTo C volts C.length) C.length) (firstTo C volts (mostTo C volts C.length) C.length) ∧ Below V.heap.size V w') := ⟨fun V hb => refbegin_calls (W' : Int) (H' : Int) R A c C A1 c1 volts V (Kd.C_below HR.out hb) (Kd.C_below HR1.out hb) hN (fun i hi => ⟨(HV.out.elr i hi).1, (HV.out.elr i hi).2, HV.out.vlen i hi⟩)⟩
 rw [HLT.out.1, HLT.out.2] at HBG
 have HLL : Aside0 (((laid C volts 256 (minOf (onOf C volts))).take C.length).length = C.length ∧ ((laid C volts 256 (maxOf (onOf C volts))).take C.length).length = C.length) := ⟨by rw [List.length_take, List.length_take, laid_length, laid_length]; omega⟩
 generalize laid C volts 256 (minOf (onOf C volts)) = lo0 at HL0 HSS HBG HLL
 generalize laid C volts 256 (maxOf (onOf C volts)) = hi0 at HH0 HSS HBG HLL
 clear hW hH hN hCE hV g0 g0' g2 h HLT p1 p2 p3 p4
 go_enter Try.func26, Try.ntmps26
 go_wp2_with (first
  | ((with_reducible refine gate_dst (N := 3) rfl ?_); refine ev_box HM.out rfl 24 (.tmp 0) rfl (cs := planV (W' : Int) (H' : Int) R A C.length c) rfl ?_; intro gp w1 hm1 hq1; clear hq1; have HM1 := Aside0.mk hm1; clear hm1 HM)
  | ((with_reducible refine gate_dst (N := 6) rfl ?_); refine ev_new HM1.out rfl 33 rfl info33 ?_; intro g6 w2 hm2 hq2; clear hq2; have HM2 := Aside0.mk hm2; clear hm2 HM1)
  | ((with_reducible refine gate_dst (N := 10) rfl ?_); refine ev_load HM2.out.second rfl 24 (.tmp 3) rfl rfl _ Try.underlying24 rfl size24 rfl ?_)
  | (go_at_call 42; refine (thermionref01_CheckVolts.calls KV (W' : Int) (H' : Int) R A c C A1 c1 volts _ _ (Kd.C_below HR.out HM2.out.below) HC.out (Kd.C_below HR1.out HM2.out.below) HC1.out HE.out).mono ?_; rintro e w3 ⟨rfl, hb3⟩; have HM3 := Aside0.mk (HM2.out.step hb3); clear hb3 HM2)
  | (go_at_call 73; refine (thermionref01_beyond.calls _ _ _ _ _ (beyond_eq _ _ _)).mono ?_; rintro e w3b ⟨rfl, hb3⟩; have HM4 := Aside0.mk (HM3.out.step (by first | exact hb3 | exact hb3.below)); clear hb3 HM3)
  | ((with_reducible refine gate_dst (N := 20) rfl ?_); refine ev_load HM4.out.second rfl 24 (.tmp 3) rfl rfl _ Try.underlying24 rfl size24 rfl ?_)
  | (go_at_call 74; refine (HBG.out _ HM4.out.below).mono ?_; rintro e w5 ⟨vL, vH, rfl, hT, hb⟩; obtain ⟨g1, d1, ee, hr1, _, _⟩ := row4_of hT.l (by rw [HLL.out.1]; exact HV.out.pos); rw [HLL.out.1] at ee hr1; obtain ⟨g2, d2, ee2, hr2, _, _⟩ := row4_of hT.h (by rw [HLL.out.2]; exact HV.out.pos); rw [HLL.out.2] at ee2 hr2; subst ee ee2; have HNE : Aside0 (g1 ≠ g2) := ⟨fun e => hT.l.1 g1 rfl (by rw [e]; rfl)⟩; have HT1 : Aside0 (Row4 w5 w.heap.size g1 d1 C.length (lo0.take C.length)) := ⟨⟨hr1.1, Kd.R_lower hr1.2 HM4.out.below.size⟩⟩; have HT2 : Aside0 (Row4 w5 w.heap.size g2 d2 C.length (hi0.take C.length)) := ⟨⟨hr2.1, Kd.R_lower hr2.2 HM4.out.below.size⟩⟩; have HM5 := Aside0.mk (HM4.out.step hb); clear hb hT hr1 hr2 HM4 HBG)
  | ((with_reducible refine gate_dst (N := 9) rfl ?_); refine ev_new (Mem.start w5) rfl 33 rfl info33 ?_; intro g9 w6 hm hq; have HX6 := Aside0.mk hm; clear hm hq)
  | ((with_reducible refine gate_store (t := 33) (p := 9) rfl ?_); refine ev_store HX6.out rfl 33 (.tmp 9) (.tmp 22) rfl rfl (cs := #[.slice (some ⟨g1, 0, none⟩) C.length d1, .slice (some ⟨g2, 0, none⟩) C.length d2, .int .i64 0, .bool false]) rfl size33 rfl rfl (by simp [Value.oneCell']) ?_; intro w7 hm hq; have HM7 := Aside0.mk (mem_join HM5.out hm); have HT1b := Aside0.mk (HT1.out.below hm.below); have HT2b := Aside0.mk (HT2.out.below hm.below); clear hm hq HX6 HM5 HT1 HT2))
 have HS0 : Aside0 (SR w w7 gp g6 g9 (planV (W' : Int) (H' : Int) R A C.length c) g1 d1 g2 d2 C.length (lo0.take C.length) (hi0.take C.length) 0 false) := ⟨⟨HM7.out.below, HM7.out.third, HM7.out.second, HM7.out.head, HT1b.out, HT2b.out, HNE.out, (HM7.out.ne _ List.mem_cons_self).symm, ⟨HM7.out.geh, HM7.out.drop.geh⟩⟩⟩
 clear HM7 HT1b HT2b HNE
 try simp only [Act.put, List.setIfInBounds_toArray, List.set_cons_zero, List.set_cons_succ]
 go_loopg [] N (fun kk w' => ∃ (k : Nat) (lo hi : List Int) (still : Bool), Aside0 (SR w w' gp g6 g9 (planV (W' : Int) (H' : Int) R A C.length c) g1 d1 g2 d2 C.length (lo.take C.length) (hi.take C.length) k still) ∧ Aside0 (k + kk = N) ∧ Aside0 (sweeps W' H' R C (N - k) lo hi k still = solveN W' H' R C volts 256 N) ∧ Aside0 (LowR W' H' R C volts lo ∧ HighR W' H' R C volts hi))
 case atStart => exact ⟨0, lo0, hi0, false, HS0, ⟨by omega⟩, ⟨HSS.out.symm⟩, ⟨HL0.out, HH0.out⟩⟩
 case round =>
  clear HS0 HSS HL0 HH0 HE b1 HR1 HC1 HLL
  obtain ⟨k, lo, hi, still, HS, HK, HSW, HLH⟩ := hrel
  have c2 : wr.cell? ⟨g9, 2, none⟩ = some (.int .i64 (k : Int)) := (blk_cell HS.out.f 2).trans rfl
  have c3 : wr.cell? ⟨g9, 3, none⟩ = some (.bool still) := (blk_cell HS.out.f 3).trans rfl
  have HEND : still = true ∨ ¬ k < N → Aside0 ((lo.take C.length, hi.take C.length, k, still) = (r1, r2, (solveN W' H' R C volts 256 N).2.2.1, r4)) := fun hq => ⟨by
   have h2 := HSW.out
   have h3 : sweeps W' H' R C (N - k) lo hi k still = (lo, hi, k, still) := by
    rcases hq with hq | hq
    ·subst hq
     cases N - k with
     | zero => rfl
     | succ m => rw [sweeps, if_pos rfl]
    ·rw [show N - k = 0 by omega]; rfl
   rw [h3] at h2
   obtain ⟨e1, e2, e3, e4, e5⟩ := HF.out
   rw [← h2] at e1 e2 e4 ⊢
   rw [← e1, ← e2, ← e4]⟩
  by_cases hk : k < N
  ·have h1 : decide (k < N) = true := decide_eq_true hk
   have h1b : decide ((k : Int) < (N : Int)) = true := decide_eq_true (by omega)
   cases still
   ·clear HEND
    have HN1 : Aside0 (sweeps W' H' R C (N - (k + 1)) (sweep false W' H' R C lo).1 (sweep true W' H' R C hi).1 (k + 1) (!(sweep false W' H' R C lo).2 && !(sweep true W' H' R C hi).2) = solveN W' H' R C volts 256 N) := ⟨by
     have h2 := HSW.out
     rw [show N - k = (N - (k + 1)) + 1 by omega, sweeps, if_neg (by simp)] at h2
     exact h2⟩
    obtain ⟨sl, hl2⟩ := sweepable_low HV.out HWH.out.1.2 HWH.out.2.1.2 HLH.out.1
    obtain ⟨sh, hh2⟩ := sweepable_high HV.out HWH.out.1.2 HWH.out.2.1.2 HLH.out.2
    have HLH2 := Aside0.mk (And.intro hl2 hh2)
    have HKN : Aside0 (k < N) := ⟨hk⟩
    have n1 : IntKind.i64.wrap ((k : Int) + 1) = (k : Int) + 1 := IntWalk.i64_in _ (by have := HN2.out; omega)
    have el : sweep false W' H' R C (lo.take C.length) = ((sweep false W' H' R C lo).1.take C.length, (sweep false W' H' R C lo).2) := sweepTo_take HV.out.len (by rw [sl.len]; exact HWH.out.2.2) C.length (Nat.le_refl _)
    have eh : sweep true W' H' R C (hi.take C.length) = ((sweep true W' H' R C hi).1.take C.length, (sweep true W' H' R C hi).2) := sweepTo_take HV.out.len (by rw [sh.len]; exact HWH.out.2.2) C.length (Nat.le_refl _)
    have hsw := fun V (hv : SR w V gp g6 g9 (planV (W' : Int) (H' : Int) R A C.length c) g1 d1 g2 d2 C.length (lo.take C.length) (hi.take C.length) k false) => refsweep_calls W' H' HWH.out.1 HWH.out.2.1 R A c C g1 d1 g2 d2 (lo.take C.length) (hi.take C.length) (k : Int) false w V hv.old HR.out HC.out HV.out.len hv.r1 hv.r2 hv.ne (fun i hi hv => sl.all i hi hv) (sw_ok sl HWH.out.2.2) (sw_ok sh HWH.out.2.2)
    rw [el, eh] at hsw
    have HSC := Aside0.mk hsw
    clear sl sh hl2 hh2 hk HSW HLH el eh hsw
    obtain ⟨lo1, hlo⟩ : ∃ x, (sweep false W' H' R C lo).1 = x := ⟨_, rfl⟩
    obtain ⟨s1, hs1⟩ : ∃ x, (sweep false W' H' R C lo).2 = x := ⟨_, rfl⟩
    obtain ⟨hi1, hhi⟩ : ∃ x, (sweep true W' H' R C hi).1 = x := ⟨_, rfl⟩
    obtain ⟨s2, hs2⟩ : ∃ x, (sweep true W' H' R C hi).2 = x := ⟨_, rfl⟩
    rw [hlo, hs1, hhi, hs2] at HN1 HSC
    rw [hlo, hhi] at HLH2
    clear hlo hs1 hhi hs2
    have HST2 : Aside0 ((!s1 && !s2) = !(s1 || s2)) := ⟨by cases s1 <;> cases s2 <;> rfl⟩
    go_wp2_with (first
     | ((with_reducible refine gate_dst (N := 32) rfl ?_); refine ev_load HS.out.p rfl 24 (.tmp 3) rfl rfl _ Try.underlying24 rfl size24 rfl ?_)
     | ((with_reducible refine gate_dst (N := 33) rfl ?_); refine ev_load HS.out.f rfl 33 (.tmp 9) rfl rfl _ Try.underlying33 rfl size33 rfl ?_)
     | (go_at_call 75; (with_reducible refine (HSC.out _ HS.out).mono ?_); rintro e w8 ⟨rfl, hb, hkb, ha1, ha2⟩; have HS5 := Aside0.mk (HS.out.swept hb hkb ha1 ha2); clear hb hkb ha1 ha2 HSC HS c2 c3; have c4 : w8.cell? ⟨g9, 2, none⟩ = some (.int .i64 (k : Int)) := (blk_cell HS5.out.f 2).trans rfl; have c5 : w8.cell? ⟨g9, 3, none⟩ = some (.bool false) := (blk_cell HS5.out.f 3).trans rfl; have f5 : w8.frozen? ⟨g9, 3, none⟩ = false := blk_frozen HS5.out.f 3; have f4 : w8.frozen? ⟨g9, 2, none⟩ = false := blk_frozen HS5.out.f 2))
    have HS6 := Aside0.mk ((HS5.out.puts (!s1 && !s2)).putk)
    go_roundg (N - (k + 1))
    case measure => have := HKN.out; have := HK.out; omega
    case rel => exact ⟨k + 1, lo1, hi1, _, HS6, ⟨by have := HKN.out; omega⟩, HN1, HLH2⟩
   ·have HEN := HEND (.inl rfl)
    clear HEND
    go_wp2_with (first
     | ((with_reducible refine gate_dst (N := 41) rfl ?_); refine ev_load HS.out.f rfl 33 (.tmp 9) rfl rfl _ Try.underlying33 rfl size33 rfl ?_)
     | ((with_reducible refine gate_store (t := 33) (p := 6) rfl ?_); refine ev_storeB HS.out.r rfl 33 (.tmp 6) (.tmp 41) rfl rfl rfl size33 rfl rfl (by simp [Value.oneCell']) ?_))
    (try simp only [Exit.inBlock, Exit.then])
    have hen := HEN.out
    simp only [Prod.mk.injEq] at hen
    obtain ⟨e1, e2, e3, e4⟩ := hen
    obtain ⟨_, _, f3, _, f5⟩ := HF.out
    subst e1 e2 e4 f5
    rw [← e3] at f3
    subst f3
    exact bodyPost_ret (results_row_tmp rfl _ _ g6 33 _ (0, 0) _ rfl (setRow_heap _ _ _ _ _ _ HS.out.r) hu33 rfl (by rw [size33]; rfl)) rfl ⟨_, _, rfl, (HS.out.row _).1, (HS.out.row _).2.1, (HS.out.row _).2.2⟩
  ·have h1 : decide (k < N) = false := decide_eq_false hk
   have h1b : decide ((k : Int) < (N : Int)) = false := decide_eq_false (by omega)
   have HEN := HEND (.inr hk)
   clear HEND
   go_wp2_with (first
    | ((with_reducible refine gate_dst (N := 41) rfl ?_); refine ev_load HS.out.f rfl 33 (.tmp 9) rfl rfl _ Try.underlying33 rfl size33 rfl ?_)
    | ((with_reducible refine gate_store (t := 33) (p := 6) rfl ?_); refine ev_storeB HS.out.r rfl 33 (.tmp 6) (.tmp 41) rfl rfl rfl size33 rfl rfl (by simp [Value.oneCell']) ?_))
   (try simp only [Exit.inBlock, Exit.then])
   have hen := HEN.out
   simp only [Prod.mk.injEq] at hen
   obtain ⟨e1, e2, e3, e4⟩ := hen
   obtain ⟨_, _, f3, _, f5⟩ := HF.out
   subst e1 e2 e4 f5
   rw [← e3] at f3
   subst f3
   exact bodyPost_ret (results_row_tmp rfl _ _ g6 33 _ (0, 0) _ rfl (setRow_heap _ _ _ _ _ _ HS.out.r) hu33 rfl (by rw [size33]; rfl)) rfl ⟨_, _, rfl, (HS.out.row _).1, (HS.out.row _).2.1, (HS.out.row _).2.2⟩
end Go.Proofs.Ytndkkjpgnmahbaa.Print
end

section
namespace Go.Proofs.Ytndkkjpgnmahbaa.Print
open Go.RowKit YtndkkjpgnmahbaaW.PrintWords YtndkkjpgnmahbaaW.PrintLast YtndkkjpgnmahbaaW.PrintMore Ytndkkjpgnmahbaa.H Proofs.Field
end Go.Proofs.Ytndkkjpgnmahbaa.Print
end

section
namespace Go.Proofs.Field
section
variable {W H : Nat} {R : Bool} {C v : List Int}
theorem chSum_under (e u : Int) (b : List Int) (l : List (Nat × Int)) : chSum C e u b l = under (fun k => if fn C k = e then 0 else u - fn b k) l := by
 unfold chSum under
 congr 1
 refine List.map_congr_left (fun p _ => ?_)
 show chOne C e u b p = p.2 * (if fn C p.1 = e then 0 else u - fn b p.1)
 unfold chOne
 split
 ·rw [Int.mul_zero]
 ·rfl
theorem chTo_sum (e u : Int) (b : List Int) : ∀ n, chTo W H R C e u b n = sumTo (fun i => if fn C i = e then chSum C e u b (nbs W H R i) else 0) n
 | 0 => rfl
 | n + 1 => by rw [chTo, sumTo, chTo_sum e u b n]
def flow (W H : Nat) (R : Bool) (C : List Int) (b : List Int) (i : Nat) : Int := (net W H R C).T i * fn b i - (net W H R C).S (fn b) i
theorem chTo_flow {e u : Int} {b : List Int} (hu : ∀ i, i < W * H → fn C i = e → fn b i = u) : chTo W H R C e u b (W * H) = sumTo (fun i => if fn C i = e then flow W H R C b i else 0) (W * H) := by
 rw [chTo_sum]
 refine sumTo_congr (fun i hi => ?_)
 by_cases q : fn C i = e
 ·rw [if_pos q, if_pos q, chSum_under, ← net_Sf (C := C) _ hi]
  unfold flow
  rw [hu i hi q, ← Net.S_const, ← Net.S_sub]
  refine Net.S_congr i (fun j hj => ?_)
  by_cases r : fn C j = e
  ·rw [if_pos r, hu j hj r]; omega
  ·rw [if_neg r]
 ·rw [if_neg q, if_neg q]
def inflow (W H : Nat) (R : Bool) (C : List Int) (k : Int) (b : List Int) : Int := sumTo (fun i => if fn C i = k then (net W H R C).S (fn b) i else 0) (W * H)
theorem chTo_inflow {k : Int} {b : List Int} (hu : ∀ i, i < W * H → fn C i = k → fn b i = 0) : chTo W H R C k 0 b (W * H) = - inflow W H R C k b := by
 rw [chTo_flow hu]
 unfold inflow
 rw [← Int.neg_one_mul, ← sumTo_mul]
 refine sumTo_congr (fun i hi => ?_)
 by_cases q : fn C i = k
 ·rw [if_pos q, if_pos q]
  unfold flow
  rw [hu i hi q]; omega
 ·rw [if_neg q, if_neg q]; omega
theorem inflow_le {k : Int} {b d : List Int} (h : ∀ i, i < W * H → fn b i ≤ fn d i) : inflow W H R C k b ≤ inflow W H R C k d := by
 unfold inflow
 refine sumTo_le (fun i hi => ?_)
 split
 ·exact Net.S_le (fun a b => netM_nonneg W H R a b) i h
 ·exact Int.le_refl _
theorem inflow_nonneg {k : Int} {b : List Int} (h : ∀ i, i < W * H → 0 ≤ fn b i) : 0 ≤ inflow W H R C k b := by
 unfold inflow
 refine sumTo_nonneg (fun i hi => ?_)
 split
 ·have := Net.S_le (N := net W H R C) (fun a b => netM_nonneg W H R a b) (a := fun _ => 0) (b := fn b) i (fun j hj => h j hj)
  rw [Net.S_const, Int.mul_zero] at this
  exact this
 ·exact Int.le_refl _
def unitV (m : Nat) (a : Int) (x : Int) : List Int := (List.replicate m 0).set (a.toNat - 1) x
theorem fn_unitV {m : Nat} {a x : Int} (ha : 1 ≤ a ∧ a ≤ (m : Int)) (i : Nat) : fn (unitV m a x) i = if i = a.toNat - 1 then x else 0 := by
 unfold unitV
 rw [fn_set (by rw [List.length_replicate]; omega)]
 split
 ·rfl
 ·unfold fn
  rw [List.getD_eq_getElem?_getD, List.getElem?_replicate]
  split <;> rfl
theorem volt_unitV {m : Nat} {a x : Int} (ha : 1 ≤ a ∧ a ≤ (m : Int)) {i : Nat} (hp : 0 < fn C i) : volt C (unitV m a x) i = if fn C i = a then x else 0 := by
 unfold volt
 rw [fn_unitV ha]
 by_cases q : fn C i = a
 ·rw [if_pos q, if_pos (by rw [q])]
 ·rw [if_neg q, if_neg (by omega)]
theorem there_back {m : Nat} {a k x : Int} (hx : 0 < x) (ha : 1 ≤ a ∧ a ≤ (m : Int)) (hk : 1 ≤ k ∧ k ≤ (m : Int)) (hV : Volted W H R C (unitV m a x)) {N : Nat} {lo hi : List Int}
  (hl : Low W H R C (volt C (unitV m a x)) N lo) (hh : High W H R C (volt C (unitV m k x)) N hi) (l0 : ∀ i, i < W * H → 0 ≤ fn lo i) (h0 : ∀ i, i < W * H → 0 ≤ fn hi i) :
  inflow W H R C k lo ≤ inflow W H R C a hi := by
 have g := Net.green (N := net W H R C) hV.fine.symm hl.2 hh.2 l0 h0
 have e1 : sumTo (fun i => if (net W H R C).el i = true then fn hi i * (net W H R C).S (fn lo) i else 0) (net W H R C).n = x * inflow W H R C k lo := by
  unfold inflow
  rw [← sumTo_mul]
  refine sumTo_congr (fun i hi => ?_)
  have hi' : i < C.length := by rw [hV.len]; exact hi
  by_cases q : 0 < fn C i
  ·rw [if_pos (by simpa [net] using q), hh.1.el i hi' q, volt_unitV hk q]
   by_cases r : fn C i = k
   ·rw [if_pos r, if_pos r]
   ·rw [if_neg r, if_neg r, Int.zero_mul, Int.mul_zero]
  ·rw [if_neg (by simpa [net] using q), if_neg (by omega), Int.mul_zero]
 have e2 : sumTo (fun i => if (net W H R C).el i = true then fn lo i * (net W H R C).S (fn hi) i else 0) (net W H R C).n = x * inflow W H R C a hi := by
  unfold inflow
  rw [← sumTo_mul]
  refine sumTo_congr (fun i hi => ?_)
  have hi' : i < C.length := by rw [hV.len]; exact hi
  by_cases q : 0 < fn C i
  ·rw [if_pos (by simpa [net] using q), hl.1.el i hi' q, volt_unitV ha q]
   by_cases r : fn C i = a
   ·rw [if_pos r, if_pos r]
   ·rw [if_neg r, if_neg r, Int.zero_mul, Int.mul_zero]
  ·rw [if_neg (by simpa [net] using q), if_neg (by omega), Int.mul_zero]
 rw [e1, e2] at g
 exact Int.le_of_mul_le_mul_left g hx
theorem solve_nonneg (hV : Volted W H R C v) (hv : ∀ i, i < C.length → 0 < fn C i → 0 ≤ volt C v i) {N : Nat} (hN : C.length ≤ N) (n : Nat) {i : Nat} (hi : i < W * H) : 0 ≤ fn (solveN W H R C v N n).1 i ∧ 0 ≤ fn (solveN W H R C v N n).2.1 i := by
 have hi' : i < C.length := by rw [hV.len]; exact hi
 obtain ⟨hp, h1, _, _, _⟩ := sweeps_pair hV.fine hV.len n 0 _ _ false ⟨laid_low hV hN, laid_high hV hN⟩
 have h3 := h1 i hi'
 have h4 := pair_between hV hp hi'
 have h5 : 0 ≤ fn (laid C v N (minOf (onOf C v))) i := by
  rw [fn_laid hN hi']
  split
  ·rename_i q; exact hv i hi' q
  ·obtain ⟨j, hj, hq, e⟩ := on_volt (minOf_mem (on_ne hV))
   rw [← e]; exact hv j hj hq
 exact ⟨Int.le_trans h5 h3, Int.le_trans (Int.le_trans h5 h3) h4⟩
end
end Go.Proofs.Field
end

section
namespace Go.Proofs.Ytndkkjpgnmahbaa.Print
open Go.RowKit YtndkkjpgnmahbaaW.PrintWords YtndkkjpgnmahbaaW.PrintLast YtndkkjpgnmahbaaW.PrintMore Ytndkkjpgnmahbaa.H Proofs.Field
theorem refhas_go (W H : Int) (R : Bool) (C : List Int) (e : Int) (hl : C.length ≤ 1000000) : ∀ (d i : Nat), i + d = C.length → Ev (fun k => thermionref01_has.l0 k e (i : Int) W H R C) (decide (0 < e) && (C.drop i).contains e)
 | 0, i, h => by
  rw [List.drop_eq_nil_of_le (by omega)]
  exact Ev.now (fun k => by rw [thermionref01_has.l0, if_neg (by omega)]; simp)
 | d + 1, i, h => by
  have hi : i < C.length := by omega
  have hw : wrap64 ((i : Int) + 1) = ((i + 1 : Nat) : Int) := by rw [IntWalk.wrap64_in _ (by omega)]; omega
  rw [List.drop_eq_getElem_cons hi, List.contains_cons]
  by_cases q : e > 0
  ·by_cases z : C[i] = e
   ·rw [show (e == C[i]) = true by simp [z], Bool.true_or, Bool.and_true, decide_eq_true q]
    exact Ev.now (fun k => by rw [thermionref01_has.l0, if_pos (by omega), if_pos q, if_pos (by omega), rd_at C i hi, if_pos z])
   ·rw [show (e == C[i]) = false by simp [Ne.symm z], Bool.false_or]
    refine (refhas_go W H R C e hl d (i + 1) (by omega)).step 0 (fun k _ => ?_)
    show thermionref01_has.l0 (k + 1) _ _ _ _ _ _ = _
    rw [thermionref01_has.l0, if_pos (by omega), if_pos q, if_pos (by omega), rd_at C i hi, if_neg z, hw]
  ·have ih := refhas_go W H R C e hl d (i + 1) (by omega)
   rw [show decide (0 < e) = false from decide_eq_false q, Bool.false_and] at ih ⊢
   refine ih.step 0 (fun k _ => ?_)
   show thermionref01_has.l0 (k + 1) _ _ _ _ _ _ = _
   rw [thermionref01_has.l0, if_pos (by omega), if_neg q, hw]
section
variable {W H : Nat} {R : Bool} {C v lo hi : List Int} {e u : Int} {i : Nat}
def chG (C : List Int) (e u : Int) (b : List Int) (k : Nat) : Int := if fn C k = e then 0 else u - fn b k
theorem chG_bound {b : List Int} {k : Nat} (hu : -1000000 ≤ u ∧ u ≤ 1000000) (hb : -1000000 ≤ fn b k ∧ fn b k ≤ 1000000) : -2000000 ≤ chG C e u b k ∧ chG C e u b k ≤ 2000000 := by
 unfold chG
 split <;> omega
theorem mul_64 {x y : Int} (h1 : 0 ≤ x) (h2 : x ≤ 32) (h3 : -2000000 ≤ y) (h4 : y ≤ 2000000) : -64000000 ≤ x * y ∧ x * y ≤ 64000000 := by
 have a1 := Int.mul_le_mul_of_nonneg_left h4 h1
 have a2 := Int.mul_le_mul_of_nonneg_left h3 h1
 omega
theorem charge_l1 (hW : 1 ≤ W ∧ W ≤ 16) (hH : 1 ≤ H ∧ H ≤ 16) (hC : C.length = W * H) (hi' : i < W * H) (hlo : lo.length = C.length) (hhi : hi.length = C.length) (he : 1 ≤ e ∧ e ≤ (v.length : Int) ∧ e ≤ 6) (hu : fn v (e.toNat - 1) = u) (hub : -1000000 ≤ u ∧ u ≤ 1000000)
  (hr : ∀ j, j < W * H → (-1000000 ≤ fn lo j ∧ fn lo j ≤ 1000000) ∧ (-1000000 ≤ fn hi j ∧ fn hi j ≤ 1000000)) {l : List Int} (hl : l.length ≤ 4) (hm : ∀ c, c ∈ l → 0 ≤ c ∧ c < ((W * H : Nat) : Int)) (z1 : Int) (z2 : Bool) {r : Int × Int} :
  ∀ (d j : Nat) (x y : Int), j + d = l.length → (-1000000000000 - 64000000 * (j : Int) ≤ x ∧ x ≤ 1000000000000 + 64000000 * (j : Int)) → (-1000000000000 - 64000000 * (j : Int) ≤ y ∧ y ≤ 1000000000000 + 64000000 * (j : Int)) →
  Ev (fun k => thermionref01_charge.l0 k v e (wrap64 ((i : Int) + 1)) W H R C lo hi z1 z2 (x + ((l.drop j).map (fun c => wtR W H R i c * chG C e u hi c.toNat)).sum) (y + ((l.drop j).map (fun c => wtR W H R i c * chG C e u lo c.toNat)).sum)) r →
  Ev (fun k => thermionref01_charge.l1 k v e (i : Int) l (j : Int) W H R C lo hi z1 z2 x y) r
 | 0, j, x, y, h, hx, hy, hE => by
  rw [List.drop_eq_nil_of_le (by omega)] at hE
  simp only [List.map_nil, List.sum_nil, Int.add_zero] at hE
  refine hE.step 0 (fun k _ => ?_)
  show thermionref01_charge.l1 (k + 1) _ _ _ _ _ _ _ _ _ _ _ _ _ _ _ = _
  rw [thermionref01_charge.l1, if_neg (by omega)]
 | d + 1, j, x, y, h, hx, hy, hE => by
  have hj : j < l.length := by omega
  have hj4 : j ≤ 4 := by omega
  have cj1 : (j : Int) < (l.length : Int) := by omega
  have cj2 : (0 : Int) ≤ (j : Int) := by omega
  have hw : wrap64 ((j : Int) + 1) = ((j + 1 : Nat) : Int) := by rw [IntWalk.wrap64_in _ (by clear hx hy hE; omega)]; clear hx hy hE; omega
  obtain ⟨c0, c1⟩ := hm l[j] (List.getElem_mem hj)
  have cC : l[j] < (C.length : Int) := by rw [hC]; exact c1
  have cl : l[j] < (lo.length : Int) := by rw [hlo]; exact cC
  have ch : l[j] < (hi.length : Int) := by rw [hhi]; exact cC
  have hrr := hr l[j].toNat (by clear hx hy hE; omega)
  have ce1 : 0 ≤ e - 1 := by have := he.1; clear hx hy hE hrr; omega
  have ce2 : e - 1 < (v.length : Int) := by have := he.2.1; clear hx hy hE hrr; omega
  have hwe : wrap64 (e - 1) = e - 1 := IntWalk.wrap64_in _ (by have := he.2.2; have := he.1; clear hx hy hE hrr; omega)
  have e4 : rd v (e - 1) = u := by rw [← hu]; unfold rd fn; congr 1; clear hx hy hE hrr; omega
  have g1 := chG_bound (C := C) (e := e) hub hrr.1
  have g2 := chG_bound (C := C) (e := e) hub hrr.2
  have w0 := wtR_nonneg W H R i l[j]
  have w1 := wtR_le (H := H) (R := R) (i := i) hW.2 l[j]
  have m1 := mul_64 w0 w1 g1.1 g1.2
  have m2 := mul_64 w0 w1 g2.1 g2.2
  rw [List.drop_eq_getElem_cons hj, List.map_cons, List.map_cons, List.sum_cons, List.sum_cons, ← Int.add_assoc, ← Int.add_assoc] at hE
  obtain ⟨P1, hP1⟩ : ∃ P, wtR W H R i l[j] * chG C e u hi l[j].toNat = P := ⟨_, rfl⟩
  obtain ⟨P2, hP2⟩ : ∃ P, wtR W H R i l[j] * chG C e u lo l[j].toNat = P := ⟨_, rfl⟩
  rw [hP1] at m2 hE
  rw [hP2] at m1 hE
  have hh : (j + 1) + d = l.length := by omega
  obtain ⟨x', hx'⟩ : ∃ z, x + P1 = z := ⟨_, rfl⟩
  obtain ⟨y', hy'⟩ : ∃ z, y + P2 = z := ⟨_, rfl⟩
  rw [hx', hy'] at hE
  have bx : -1000000000000 - 64000000 * ((j + 1 : Nat) : Int) ≤ x' ∧ x' ≤ 1000000000000 + 64000000 * ((j + 1 : Nat) : Int) := by clear hE hrr g1 g2 w0 w1 hP1 hP2 hw hwe e4 hy' hy; omega
  have by' : -1000000000000 - 64000000 * ((j + 1 : Nat) : Int) ≤ y' ∧ y' ≤ 1000000000000 + 64000000 * ((j + 1 : Nat) : Int) := by clear hE hrr g1 g2 w0 w1 hP1 hP2 hw hwe e4 hx' hx bx; omega
  have ih := charge_l1 hW hH hC hi' hlo hhi he hu hub hr hl hm z1 z2 d (j + 1) x' y' hh bx by' hE
  have vx : wrap64 (x + P1) = x' := by rw [hx']; exact IntWalk.wrap64_in _ (by clear hE ih hrr g1 g2 w0 w1 hP1 hP2 hw hwe e4 hy' hy hx' hx by'; omega)
  have vy : wrap64 (y + P2) = y' := by rw [hy']; exact IntWalk.wrap64_in _ (by clear hE ih hrr g1 g2 w0 w1 hP1 hP2 hw hwe e4 hy' hy hx' hx bx vx; omega)
  have p1 : wrap64 P1 = P1 := IntWalk.wrap64_in _ (by clear hE ih hrr g1 g2 w0 w1 hP1 hP2 hw hwe e4 hy' hy hx' hx bx by' vx vy; omega)
  have p2 : wrap64 P2 = P2 := IntWalk.wrap64_in _ (by clear hE ih hrr g1 g2 w0 w1 hP1 hP2 hw hwe e4 hy' hy hx' hx bx by' vx vy p1; omega)
  have q12 : wrap64 (u - fn hi l[j].toNat) = u - fn hi l[j].toNat ∧ wrap64 (u - fn lo l[j].toNat) = u - fn lo l[j].toNat := by
   clear hE ih g1 g2 w0 w1 hP1 hP2 hw hwe e4 hy' hy hx' hx bx by' vx vy p1 p2 m1 m2
   generalize fn hi l[j].toNat = a at hrr ⊢
   generalize fn lo l[j].toNat = b at hrr ⊢
   exact ⟨IntWalk.wrap64_in _ (by omega), IntWalk.wrap64_in _ (by omega)⟩
  clear bx by' m1 m2 g1 g2 w0 w1 hE hx hy hrr
  refine ih.step 2 (fun k hk => ?_)
  obtain ⟨k, rfl⟩ : ∃ k', k = k' + 2 := ⟨k - 2, (Nat.sub_add_cancel hk).symm⟩
  show thermionref01_charge.l1 (k + 2 + 1) _ _ _ _ _ _ _ _ _ _ _ _ _ _ _ = _
  have e1 : rd C l[j] = fn C l[j].toNat := rfl
  have e2 : rd hi l[j] = fn hi l[j].toNat := rfl
  have e3 : rd lo l[j] = fn lo l[j].toNat := rfl
  rw [thermionref01_charge.l1, if_pos cj1, if_pos cj2, rd_at l j hj, if_pos c0, if_pos cC, e1, hw]
  by_cases q : fn C l[j].toNat = e
  ·have q1 : P1 = 0 := by rw [← hP1]; unfold chG; rw [if_pos q, Int.mul_zero]
   have q2 : P2 = 0 := by rw [← hP2]; unfold chG; rw [if_pos q, Int.mul_zero]
   rw [if_pos q, ← hx', ← hy', q1, q2, Int.add_zero, Int.add_zero]
  ·have q1 : wtR W H R i l[j] * (u - fn hi l[j].toNat) = P1 := by rw [← hP1]; unfold chG; rw [if_neg q]
   have q2 : wtR W H R i l[j] * (u - fn lo l[j].toNat) = P2 := by rw [← hP2]; unfold chG; rw [if_neg q]
   rw [if_neg q, obnd (weight_eq hW hH R C hi' l[j] k), hwe, if_pos ce1, if_pos ce2, if_pos ch, obnd (weight_eq hW hH R C hi' l[j] k), if_pos cl, e2, e3, e4, q12.1, q12.2, q1, q2, p1, p2, vx, vy]
theorem charge_l0 (hW : 1 ≤ W ∧ W ≤ 16) (hH : 1 ≤ H ∧ H ≤ 16) (hC : C.length = W * H) (hlo : lo.length = C.length) (hhi : hi.length = C.length) (he : 1 ≤ e ∧ e ≤ (v.length : Int) ∧ e ≤ 6) (hu : fn v (e.toNat - 1) = u) (hub : -1000000 ≤ u ∧ u ≤ 1000000)
  (hr : ∀ j, j < W * H → (-1000000 ≤ fn lo j ∧ fn lo j ≤ 1000000) ∧ (-1000000 ≤ fn hi j ∧ fn hi j ≤ 1000000)) (z1 : Int) (z2 : Bool) :
  ∀ (d i : Nat), i + d = C.length → Ev (fun k => thermionref01_charge.l0 k v e (i : Int) W H R C lo hi z1 z2 (chTo W H R C e u hi i) (chTo W H R C e u lo i)) (chTo W H R C e u hi C.length, chTo W H R C e u lo C.length)
 | 0, i, h => by
  obtain rfl : i = C.length := by omega
  exact Ev.now (fun k => by rw [thermionref01_charge.l0, if_neg (Int.lt_irrefl _)])
 | d + 1, i, h => by
  have hWH : W * H ≤ 256 := Nat.mul_le_mul hW.2 hH.2
  have hil : i < W * H := by clear hr hu; omega
  have ci1 : (i : Int) < (C.length : Int) := by clear hr hu; omega
  have ci2 : (0 : Int) ≤ (i : Int) := by clear hr hu; omega
  have hiw : i ≤ W * H := by clear hr hu; omega
  have hi256 : i ≤ 256 := by clear hr hu; omega
  have hd : (i + 1) + d = C.length := by clear hr hu; omega
  have hw : wrap64 ((i : Int) + 1) = ((i + 1 : Nat) : Int) := by rw [IntWalk.wrap64_in _ (by omega)]; omega
  have e1 : rd C (i : Int) = fn C i := rfl
  have ih := charge_l0 hW hH hC hlo hhi he hu hub hr z1 z2 d (i + 1) hd
  have b1 := chTo_bound (R := R) (C := C) (e := e) (u := u) (b := hi) hub hW.2 (fun j hj => (hr j hj).2) i hiw
  have b2 := chTo_bound (R := R) (C := C) (e := e) (u := u) (b := lo) hub hW.2 (fun j hj => (hr j hj).1) i hiw
  by_cases q : fn C i = e
  ·have s1 : chTo W H R C e u hi (i + 1) = chTo W H R C e u hi i + ((aroundL W H R i).map (fun c => wtR W H R i c * chG C e u hi c.toNat)).sum := by
    rw [chTo, if_pos q, chSum_under, around_under hil]; rfl
   have s2 : chTo W H R C e u lo (i + 1) = chTo W H R C e u lo i + ((aroundL W H R i).map (fun c => wtR W H R i c * chG C e u lo c.toNat)).sum := by
    rw [chTo, if_pos q, chSum_under, around_under hil]; rfl
   have hlen := around_len (W := W) (H := H) (R := R) (i := i)
   have h1 := charge_l1 (R := R) hW hH hC hil hlo hhi he hu hub hr hlen (fun c hc => (around_mem hc).2) z1 z2 (aroundL W H R i).length 0 (chTo W H R C e u hi i) (chTo W H R C e u lo i) (Nat.zero_add _) (by generalize chTo W H R C e u hi i = a at b1 ⊢; clear b2 ih s1 s2 hw e1 hu hr; omega) (by generalize chTo W H R C e u lo i = a at b2 ⊢; clear b1 ih s1 s2 hw e1 hu hr; omega) (by rw [List.drop_zero, ← s1, ← s2, hw]; exact ih)
   refine h1.step 8 (fun k hk => ?_)
   obtain ⟨k, rfl⟩ : ∃ k', k = k' + 8 := ⟨k - 8, (Nat.sub_add_cancel hk).symm⟩
   show thermionref01_charge.l0 (k + 8 + 1) _ _ _ _ _ _ _ _ _ _ _ _ _ = _
   rw [thermionref01_charge.l0, if_pos ci1, if_pos ci2, e1, if_pos q, obnd (around_eq hW hH hil k)]
   rfl
  ·have s1 : chTo W H R C e u hi (i + 1) = chTo W H R C e u hi i := by rw [chTo, if_neg q, Int.add_zero]
   have s2 : chTo W H R C e u lo (i + 1) = chTo W H R C e u lo i := by rw [chTo, if_neg q, Int.add_zero]
   rw [s1, s2] at ih
   refine ih.step 0 (fun k _ => ?_)
   show thermionref01_charge.l0 (k + 1) _ _ _ _ _ _ _ _ _ _ _ _ _ = _
   rw [thermionref01_charge.l0, if_pos ci1, if_pos ci2, e1, if_neg q, hw]
end

def thermionlaw01_big.l0 : Nat → List (List Int) → Int → Int → Int → Bool → List Int → Option (Bool)
 | 0, _, _, _, _, _, _ => none
 | k + 1, x1, x5, x102000, x102001, x102002, x102003 => if x5 < (x1.length : Int) then (if 0 ≤ x5 then (if ((rd_L1 x1 x5).length : Int) > 300 then (some true) else (thermionlaw01_big.l0 k x1 (wrap64 (x5 + 1)) x102000 x102001 x102002 x102003)) else (none)) else (some (decide ((x102003.length : Int) > 300)))
def thermionlaw01_big.f (k : Nat) (a0_0 : Int) (a0_1 : Int) (a0_2 : Bool) (l0_3 : List Int) (l1 : List (List Int)) : Option (Bool) := thermionlaw01_big.l0 k l1 0 a0_0 a0_1 a0_2 l0_3
theorem thermionlaw01_big.calls (k : Nat) (a0_0 : Int) (a0_1 : Int) (a0_2 : Bool) (A0_3 : Option Addr) (c0_3 : Nat) (l0_3 : List Int) (A1 : Option Addr) (c1 : Nat) (l1 : List (List Int)) (r : Bool) (w : World) (hr0_3 : Kd.C (Kd.int .i64) w A0_3 l0_3.length l0_3) (hc0_3 : l0_3.length ≤ c0_3) (hr1 : Kd.C (Kd.slice 3 (Kd.int .i64)) w A1 l1.length l1) (hc1 : l1.length ≤ c1) (h : thermionlaw01_big.f k a0_0 a0_1 a0_2 l0_3 l1 = some r) :
  Calls Try.prog 19 #[.agg #[.int .i64 a0_0, .int .i64 a0_1, .bool a0_2, .slice A0_3 l0_3.length c0_3], .slice A1 l1.length c1] w fun e w' => e = .returned (.bool r) ∧ Below w.heap.size w w' := by
 have hu24 := Try.underlying24
 have HR0_3 := Aside0.mk hr0_3
 have HC0_3 := Aside0.mk hc0_3
 clear hr0_3 hc0_3
 have HR1 := Aside0.mk hr1
 have HC1 := Aside0.mk hc1
 clear hr1 hc1
 have HB := Aside0.mk (Below.refl w.heap.size w)
 have H : (thermionlaw01_big.l0 k l1 0 a0_0 a0_1 a0_2 l0_3) = some r := h
 clear h
 have H' := Aside0.mk H
 clear H
 go_enter Try.func19, Try.ntmps19
 go_wp2_with (first | ((with_reducible refine gate_dst (N := 2) rfl ?_); refine aBox 2 #[.int .i64 a0_0, .int .i64 a0_1, .bool a0_2, .slice A0_3 l0_3.length c0_3] 24 ?_; intro gb101 hg w3 hbox hb; have BK101 := Aside0.mk (hbox); have GW101 := aGe hg HB; have GE101 := aGe hg HB; replace HB := aBs HB hb; clear hb hbox hg))
 go_loopg [5] k (fun kq v5 w' => ∃ (x5_1 : Int), v5 = .int .i64 x5_1 ∧ Aside0 (thermionlaw01_big.l0 kq l1 x5_1 a0_0 a0_1 a0_2 l0_3 = some r) ∧ Aside0 (kq ≤ k) ∧ Aside0 (w'.heap[gb101]? = some (.cells #[.int .i64 a0_0, .int .i64 a0_1, .bool a0_2, (.slice A0_3 l0_3.length c0_3)] 24 (0, 0))) ∧ Aside0 (Below w.heap.size w w'))
 case atStart => exact ⟨(0), aR, H', ⟨Nat.le_refl _⟩, aBk BK101, aBl HB⟩
 case round =>
  clear H'
  try clear c1
  obtain ⟨x5_1, rfl, HA, HK1, BK101, HB⟩ := hrel
  cases gk with
  | zero => exact absurd HA.out (by simp [thermionlaw01_big.l0])
  | succ k1 =>
   have H := HA.out
   clear HA
   simp only [thermionlaw01_big.l0] at H
   by_cases c4 : x5_1 < (l1.length : Int)
   ·rw [if_pos c4] at H
    have c4b0 := decide_eq_true c4
    clear c4
    by_cases c5 : 0 ≤ x5_1
    ·rw [if_pos c5] at H
     have c5b0 := decide_eq_true c5
     clear c5
     by_cases c6 : ((rd_L1 l1 x5_1).length : Int) > 300
     ·rw [if_pos c6] at H
      have c6b0 := decide_eq_true c6
      have c6b1 : decide (300 < (rd_L1 l1 x5_1).length) = true := decide_eq_true (by omega)
      clear c6
      obtain rfl := Option.some.inj H
      have p102 : 0 ≤ (x5_1 : Int) := aD
      have q102 : x5_1 < (l1.length : Int) := aD
      obtain ⟨ad102, A102_0, c102_0, e102, hx102_0, hl102_0, hi102_0⟩ := at_L1 HR1.out x5_1 p102 q102
      cases e102
      replace hx102_0 := (HB.out.cell (World.block_lt_of_cell? w _ hx102_0)).trans hx102_0
      have HR102_0 := Aside0.mk hi102_0
      have HC102_0 := Aside0.mk hl102_0
      clear hi102_0 hl102_0
      replace p102 := eq_true p102
      replace q102 := eq_true q102
      go_wp2
      go_ret
      exact ⟨by first | rfl | (simp [errW_none, errW_some] <;> rfl) | (simp [*, errW_none, errW_some] <;> rfl), (aBl HB).out⟩
     ·rw [if_neg c6] at H
      have c6b0 := decide_eq_false c6
      have c6b1 : decide (300 < (rd_L1 l1 x5_1).length) = false := decide_eq_false (by omega)
      clear c6
      have H' := Aside0.mk H
      clear H
      have p102 : 0 ≤ (x5_1 : Int) := aD
      have q102 : x5_1 < (l1.length : Int) := aD
      obtain ⟨ad102, A102_0, c102_0, e102, hx102_0, hl102_0, hi102_0⟩ := at_L1 HR1.out x5_1 p102 q102
      cases e102
      replace hx102_0 := (HB.out.cell (World.block_lt_of_cell? w _ hx102_0)).trans hx102_0
      have HR102_0 := Aside0.mk hi102_0
      have HC102_0 := Aside0.mk hl102_0
      clear hi102_0 hl102_0
      replace p102 := eq_true p102
      replace q102 := eq_true q102
      go_wp2
      go_roundg k1
      case measure => have := HK1.out; omega
      case rel => exact ⟨(wrap64 (x5_1 + 1)), aR, H', ⟨by have := HK1.out; omega⟩, aBk BK101, aBl HB⟩
    ·rw [if_neg c5] at H
     exact absurd H (by simp)
   ·rw [if_neg c4] at H
    have c4b0 := decide_eq_false c4
    clear c4
    obtain rfl := Option.some.inj H
    obtain ⟨⟨hcz7_0, hcz7_1, hcz7_2, hcz7_3⟩, hfz7_0, hfz7_1, hfz7_2, hfz7_3⟩ := aC4 BK101
    go_wp2
    go_ret
    exact ⟨by first | rfl | (simp [errW_none, errW_some] <;> rfl) | (simp [*, errW_none, errW_some] <;> rfl), (aBl HB).out⟩
theorem big_go (W H : Int) (R : Bool) (C : List Int) (l : List (List Int)) (hl : l.length ≤ 1000) : ∀ (d i : Nat), i + d = l.length → thermionlaw01_big.l0 (d + 1) l (i : Int) W H R C = some ((l.drop i).any (fun x => decide (300 < x.length)) || decide (300 < C.length))
 | 0, i, h => by
  rw [thermionlaw01_big.l0, if_neg (by omega), List.drop_eq_nil_of_le (by omega)]
  have : decide ((C.length : Int) > 300) = decide (300 < C.length) := by
   by_cases q : 300 < C.length
   ·rw [decide_eq_true q, decide_eq_true (by omega)]
   ·rw [decide_eq_false q, decide_eq_false (by omega)]
  rw [this]
  rfl
 | d + 1, i, h => by
  have hi : i < l.length := by omega
  have hw : wrap64 ((i : Int) + 1) = ((i + 1 : Nat) : Int) := by rw [IntWalk.wrap64_in _ (by omega)]; omega
  have hr : rd_L1 l (i : Int) = l[i] := by simp [rd_L1, hi]
  rw [thermionlaw01_big.l0, if_pos (by omega), if_pos (by omega), hr, List.drop_eq_getElem_cons hi, List.any_cons]
  by_cases q : 300 < l[i].length
  ·rw [if_pos (by omega), decide_eq_true q, Bool.true_or, Bool.true_or]
  ·rw [if_neg (by omega), hw, big_go W H R C l hl d (i + 1) (by omega), decide_eq_false q, Bool.false_or]
theorem big_eq (W H : Int) (R : Bool) (C : List Int) (l : List (List Int)) (hl : l.length ≤ 1000) : thermionlaw01_big.f (l.length + 1) W H R C l = some (l.any (fun x => decide (300 < x.length)) || decide (300 < C.length)) := big_go W H R C l hl l.length 0 (by omega)
end Go.Proofs.Ytndkkjpgnmahbaa.Print
end

section
namespace Go.Proofs.Ytndkkjpgnmahbaa.H
open Go.RowKit YtndkkjpgnmahbaaW.PrintWords YtndkkjpgnmahbaaW.PrintLast YtndkkjpgnmahbaaW.PrintMore Go.Proofs.Ytndkkjpgnmahbaa.Print
namespace Mem
variable {w W W1 : World} {l : List (Nat × Array Value × TypeId)} {g : Nat} {old new : Array Value} {t : TypeId}
theorem keepd (h : Mem w W ((g, old, t) :: l)) (hK : KeepBut W W1 g none) (hB : Below w.heap.size w W1) (hg : W1.heap[g]? = some (.cells new t (0, 0))) : Mem w W1 ((g, new, t) :: l) := by
 refine ⟨hB, fun p hp => ?_, fun p hp => ?_, ?_⟩
 ·rcases List.mem_cons.1 hp with rfl | hp
  ·exact hg
  ·have h1 := h.blk p (List.mem_cons_of_mem _ hp)
   rw [hK.2 p.1 (blk_lt h1) (Ne.symm (h.ne p hp)) (by simp)]
   exact h1
 ·rcases List.mem_cons.1 hp with rfl | hp
  ·exact h.geh
  ·exact h.ge p (List.mem_cons_of_mem _ hp)
 ·have a := h.apart
  simp only [List.pairwise_cons] at a ⊢
  exact a
end Mem
end Go.Proofs.Ytndkkjpgnmahbaa.H
namespace Go.Proofs.Ytndkkjpgnmahbaa.Print
open Go.RowKit YtndkkjpgnmahbaaW.PrintWords YtndkkjpgnmahbaaW.PrintLast YtndkkjpgnmahbaaW.PrintMore Ytndkkjpgnmahbaa.H Proofs.Field
section
variable {P : Program} {ops : Array Oper} {o : Oper} {a : Act} {Q : Exit → Act → World → Prop} {K : Act → World → Prop} {w W : World} {l : List (Nat × Array Value × TypeId)}
theorem new_step {N : Option Tmp} (hm : Mem w W l) (hw : Region.wanted o (yielded ops a.tmps) = true) (hN : o.dst = N) (t : TypeId) (ho : o.op = .alloc t) {cs : Array Value} {s b : Nat} (hi : (P.info? t).map (fun i => (i.zero, i.size, i.bytes)) = some (some (.agg cs), s, b))
  (h : ∀ g W1, Mem w W1 ((g, cs, t) :: l) → K (a.put N (.pointer (some ⟨g, 0, none⟩))) W1) : if Region.wanted o (yielded ops a.tmps) = true then Oper.wp P o a W K Q else K (a.put N undef) W := by
 subst hN
 obtain ⟨i, hi1, hi2, _, _⟩ := info_parts hi
 refine event_step (w1 := W.alloc (.cells cs t (0, 0))) hw ?_ (h _ _ (hm.new rfl (blk_new W _) (below_alloc (Below.refl _ _) _)))
 unfold execOp
 simp [ho, Instr.alloc, zeroValue, typeInfo, hi1, hi2, newVar, newRow, newObj, Value.cells, Sem.run_bind, Result.andThen]
 rfl
theorem store_step {N : Option Tmp} {g : Nat} {old cs : Array Value} {t : TypeId} (hm : Mem w W ((g, old, t) :: l)) (hw : Region.wanted o (yielded ops a.tmps) = true) (hN : o.dst = N) (ty : TypeId) (x y : Operand) (ho : o.op = .store ty x y)
  (hx : a.eval x = .pointer (some ⟨g, 0, none⟩)) (hy : a.eval y = .agg cs) {n : Nat} (hi : (P.info? ty).map (·.size) = some n) (hold : old.size = n) (hs : cs.size = n) (h1 : cs.all (·.oneCell') = true)
  (h : ∀ W1, Mem w W1 ((g, cs, t) :: l) → K (a.put N undef) W1) : if Region.wanted o (yielded ops a.tmps) = true then Oper.wp P o a W K Q else K (a.put N undef) W := by
 subst hN
 rw [if_pos hw]
 exact wp_store_row ty x y ho g cs hx hy t old hm.head (by rw [hi, hs]) (by rw [hold, hs]) h1 (h _ (hm.row cs))
end
theorem dice_is {w0 W : World} {g : Nat} {s : Int} {l : List (Nat × Array Value × TypeId)} (h : Mem w0 W ((g, #[.int .u64 s], 79) :: l)) : IsS79 w0 W g s := ⟨h.head, h.geh⟩
theorem dice_row {w0 W W1 : World} {g : Nat} {s s' : Int} {l : List (Nat × Array Value × TypeId)} {v : Value} {ok : Nat → Prop} {r : List Int} (h : Mem w0 W ((g, #[.int .u64 s], 79) :: l)) (hK : KeepBut W W1 g none) (hB : Below w0.heap.size w0 W1) (hI : IsS79 w0 W1 g s')
  (hR : Kd.R (Kd.int .i64) 3 W1 W.heap.size ok v r) (hp : 0 < r.length) : ∃ g2 c cur, v = .slice (some ⟨g2, 0, none⟩) r.length c ∧ r.length ≤ c ∧ IsNums cur r ∧ Mem w0 W1 ((g2, cur, 3) :: (g, #[.int .u64 s'], 79) :: l) := by
 obtain ⟨g2, c, cur, rfl, a1, a2, a3, _, a5⟩ := R_mem hR hp
 have h1 := h.keepd hK hB hI.1
 refine ⟨g2, c, cur, rfl, a1, a5, h1.below, fun p hp => ?_, fun p hp => ?_, .cons (fun p hp => ?_) h1.apart⟩
 ·rcases List.mem_cons.1 hp with rfl | hp
  ·exact a2
  ·exact h1.blk p hp
 ·rcases List.mem_cons.1 hp with rfl | hp
  ·exact Nat.le_trans h.below.size a3
  ·exact h1.ge p hp
 ·have h3 : p.1 < W.heap.size := by
   rcases List.mem_cons.1 hp with rfl | hp
   ·exact blk_lt h.head
   ·exact blk_lt (h.blk p (List.mem_cons_of_mem _ hp))
  show g2 ≠ p.1
  omega
theorem plan_cells {W : World} {g : Nat} {Wd Hd : Int} {R : Bool} {A : Option Addr} {n c : Nat} (h : W.heap[g]? = some (.cells (planV Wd Hd R A n c) 24 (0, 0))) : W.cell? ⟨g, 0, none⟩ = some (.int .i64 Wd) ∧ W.cell? ⟨g, 1, none⟩ = some (.int .i64 Hd) ∧ W.cell? ⟨g, 2, none⟩ = some (.bool R) ∧ W.cell? ⟨g, 3, none⟩ = some (.slice A n c) :=
 ⟨(blk_cell h 0).trans rfl, (blk_cell h 1).trans rfl, (blk_cell h 2).trans rfl, (blk_cell h 3).trans rfl⟩
theorem pair_cells {W : World} {g : Nat} {cs : Array Value} {t : TypeId} {a b : Value} (h : W.heap[g]? = some (.cells cs t (0, 0))) (h0 : cs[0]? = some a) (h1 : cs[1]? = some b) : W.cell? ⟨g, 0, none⟩ = some a ∧ W.cell? ⟨g, 1, none⟩ = some b :=
 ⟨(blk_cell h 0).trans h0, (blk_cell h 1).trans h1⟩
end Go.Proofs.Ytndkkjpgnmahbaa.Print
end

section
namespace Go.Proofs.Ytndkkjpgnmahbaa.Print
open Go.RowKit YtndkkjpgnmahbaaW.PrintWords YtndkkjpgnmahbaaW.PrintLast YtndkkjpgnmahbaaW.PrintMore Ytndkkjpgnmahbaa.H Proofs.Field
theorem cells7 {a b c d e f g : Prop} (h1 : a ∧ b ∧ c ∧ d) (h2 : e ∧ f ∧ g) : a ∧ b ∧ c ∧ d ∧ e ∧ f ∧ g := ⟨h1.1, h1.2.1, h1.2.2.1, h1.2.2.2, h2⟩
section
variable {P : Program} {ops : Array Oper} {o : Oper} {a : Act} {Q : Exit → Act → World → Prop} {K : Act → World → Prop} {w W : World} {l : List (Nat × Array Value × TypeId)}
theorem new_stepB {N : Option Tmp} (hm : Mem w W l) (hw : Region.wanted o (yielded ops a.tmps) = true) (hN : o.dst = N) (t : TypeId) (ho : o.op = .alloc t) {cs : Array Value} {s b : Nat} (hi : (P.info? t).map (fun i => (i.zero, i.size, i.bytes)) = some (some (.agg cs), s, b))
  (h : ∀ g W1, Mem w W1 ((g, cs, t) :: l) → Below W.heap.size W W1 → K (a.put N (.pointer (some ⟨g, 0, none⟩))) W1) : if Region.wanted o (yielded ops a.tmps) = true then Oper.wp P o a W K Q else K (a.put N undef) W := by
 subst hN
 obtain ⟨i, hi1, hi2, _, _⟩ := info_parts hi
 refine event_step (w1 := W.alloc (.cells cs t (0, 0))) hw ?_ (h _ _ (hm.new rfl (blk_new W _) (below_alloc (Below.refl _ _) _)) (below_alloc (Below.refl _ _) _))
 unfold execOp
 simp [ho, Instr.alloc, zeroValue, typeInfo, hi1, hi2, newVar, newRow, newObj, Value.cells, Sem.run_bind, Result.andThen]
 rfl
theorem R_row {v : Value} {base : Nat} {ok : Nat → Prop} {xs : List Int} {g : Nat} {old cs : Array Value} {t : TypeId} (h : Kd.R (Kd.int .i64) 3 W base ok v xs) (hg : W.heap[g]? = some (.cells old t (0, 0))) (ht : 3 ≠ t) : Kd.R (Kd.int .i64) 3 (W.setRow g cs) base ok v xs := by
 have hne := Kd.R_ne h hg ht
 exact Kd.R_mono (Kd.R_step (Kd.R_tight rfl h) (fun k hk hlt => setRow_other W g k cs (fun e => hne (by rw [← e]; exact hk)))) (fun k hk => h.1 k hk.symm)
theorem store_stepB {N : Option Tmp} {g : Nat} {old cs : Array Value} {t : TypeId} {v : Value} {base : Nat} {ok : Nat → Prop} {xs : List Int} (hm : Mem w W ((g, old, t) :: l)) (hw : Region.wanted o (yielded ops a.tmps) = true) (hN : o.dst = N) (ty : TypeId) (x y : Operand) (ho : o.op = .store ty x y)
  (hx : a.eval x = .pointer (some ⟨g, 0, none⟩)) (hy : a.eval y = .agg cs) {k : Nat} (hi : (P.info? ty).map (·.size) = some k) (hold : old.size = k) (hs : cs.size = k) (h1 : cs.all (·.oneCell') = true)
  (hr : Kd.R (Kd.int .i64) 3 W base ok v xs) (hg : 3 ≠ t)
  (h : ∀ W1, Mem w W1 ((g, cs, t) :: l) → Kd.R (Kd.int .i64) 3 W1 base ok v xs → K (a.put N undef) W1) : if Region.wanted o (yielded ops a.tmps) = true then Oper.wp P o a W K Q else K (a.put N undef) W := by
 subst hN
 rw [if_pos hw]
 exact wp_store_row ty x y ho g cs hx hy t old hm.head (by rw [hi, hs]) (by rw [hold, hs]) h1 (h _ (hm.row cs) (R_row hr hm.head hg))
end
def Word64 (x : Int) : Prop := (Lit.int .i64 x).wf = true
theorem Word64.range {x : Int} (h : Word64 x) : -9223372036854775808 ≤ x ∧ x ≤ 9223372036854775807 := by
 unfold Word64 at h
 simp only [Lit.wf, Bool.and_eq_true, decide_eq_true_eq] at h
 have e1 : IntKind.min .i64 = -9223372036854775808 := by decide
 have e2 : IntKind.max .i64 = 9223372036854775807 := by decide
 omega
section
variable {H : Type} {enc : TypeId × Value → H} {W : World} {base : Nat} {sp : Nat → Bool} {held : Bool} {n : Nat} {cs : List Value} {x : DataW H × List MemPlace}
theorem trod_int3 (h : DataW.trod enc Try.prog W base sp held n 3 cs = some x) : ∃ y, cs = [.int .i64 y] ∧ Word64 y := by
 obtain ⟨y, rfl, _, hw⟩ := DataW.trod_int Try.underlying3 h
 exact ⟨y, rfl, hw⟩
theorem trod_bool4 (h : DataW.trod enc Try.prog W base sp held n 4 cs = some x) : ∃ y, cs = [.bool y] := by
 obtain ⟨y, rfl, _⟩ := DataW.trod_bool Try.underlying4 h
 exact ⟨y, rfl⟩
theorem pick_list {α : Type} (m : Nat) (P : Nat → α → Prop) (h : ∀ i, i < m → ∃ y, P i y) : ∃ xs : List α, xs.length = m ∧ ∀ i (hi : i < xs.length), P i xs[i] := by
 induction m with
 | zero => exact ⟨[], rfl, fun i hi => absurd hi (by simp)⟩
 | succ m ih =>
  obtain ⟨xs, hl, hx⟩ := ih (fun i hi => h i (by omega))
  obtain ⟨y, hy⟩ := h m (by omega)
  refine ⟨xs ++ [y], by simp [hl], fun i hi => ?_⟩
  by_cases q : i < xs.length
  ·rw [List.getElem_append_left q]
   exact hx i q
  ·have : i = m := by rw [List.length_append, List.length_singleton] at hi; omega
   subst this
   rw [List.getElem_append_right (by omega)]
   simpa [hl] using hy
theorem trod_list {α : Type} {d : Kd α} {t e : TypeId} {Wf : α → Prop} (ht : Try.prog.underlying t = some (.slice e)) (hsz : Try.prog.cellsOf e = d.sz) (hopen : ∀ n cs x, DataW.trod enc Try.prog W base sp held n e cs = some x → ∃ y, d.K W y cs ∧ Wf y)
  (h : DataW.trod enc Try.prog W base sp held n t cs = some x) : ∃ (A : Option Addr) (xs : List α) (c : Nat), cs = [.slice A xs.length c] ∧ xs.length ≤ c ∧ c ≤ maxLen ∧ d.C W A xs.length xs ∧ ∀ y, y ∈ xs → Wf y := by
 rcases DataW.trod_slice ht h with ⟨rfl, _⟩ | ⟨a, len, cap, elems, rest, m, _, rfl, _, hb, hl, hm, hlen, hel, _, _⟩
 ·exact ⟨none, [], 0, rfl, by simp, by simp, ⟨rfl, by simp, fun h => absurd h (by simp)⟩, fun y hy => by cases hy⟩
 ·have each : ∀ i, i < len → ∃ y, (∃ ci, ci.length = d.sz ∧ d.K W y ci ∧ ∀ j u, ci[j]? = some u → W.cell? (a.add (i * d.sz + j)) = some u) ∧ Wf y := by
   intro i hi
   have h1 := hel i hi
   rw [List.getElem?_eq_getElem (by omega), Option.bind_eq_some_iff] at h1
   obtain ⟨ci, hci, htr⟩ := h1
   obtain ⟨y, hK, hW⟩ := hopen _ _ _ htr
   obtain ⟨_, hcl, hcc⟩ := World.cells?_some hci
   rw [hsz] at hcl hcc
   refine ⟨y, ⟨ci, hcl, hK, fun j u hu => ?_⟩, hW⟩
   have hj : j < d.sz := by
    have := (List.getElem?_eq_some_iff.1 hu).1
    omega
   have := hcc j hj
   rw [hu] at this
   rw [← this, add_add]
  obtain ⟨xs, hxl, hxs⟩ := pick_list len _ each
  refine ⟨some a, xs, cap, by rw [hxl], by omega, hm, ⟨rfl, ?_, fun _ => ⟨a, rfl, fun j p hj => ?_⟩⟩, fun y hy => ?_⟩
  ·have : maxLen ≤ 9223372036854775807 := by unfold maxLen; omega
   omega
  ·obtain ⟨hj1, hj2⟩ := List.getElem?_eq_some_iff.1 hj
   have := (hxs j hj1).1
   rw [hj2] at this
   exact this
  ·obtain ⟨i, hi, rfl⟩ := List.mem_iff_getElem.1 hy
   exact (hxs i hi).2
theorem cells3 : Try.prog.cellsOf 3 = 1 := by kernel_rfl
theorem cells4 : Try.prog.cellsOf 4 = 1 := by kernel_rfl
theorem cells22 : Try.prog.cellsOf 22 = 1 := by kernel_rfl
theorem cells24 : Try.prog.cellsOf 24 = 4 := by kernel_rfl
theorem trod_field {t : TypeId} {fs : Array Field} (ht : Try.prog.underlying t = some (.struct fs)) (h : DataW.trod enc Try.prog W base sp held n t cs = some x) :
  cs.length = Try.prog.cellsOf t ∧ ∀ (i : Nat) (f : Field), fs[i]? = some f → ∃ m y, DataW.trod enc Try.prog W base sp held m f.type ((cs.drop f.offset).take (Try.prog.cellsOf f.type)) = some y := by
 obtain ⟨xs, m, _, _, hl, hlen, hf⟩ := DataW.trod_struct ht h
 refine ⟨hl, fun i f hi => ?_⟩
 have h1 := hf i f hi
 have hix : i < xs.length := by
  have := (Array.getElem?_eq_some_iff.1 hi).1
  omega
 rw [List.getElem?_eq_getElem hix] at h1
 exact ⟨m, _, h1⟩
theorem trod_at {t : TypeId} {fs : Array Field} (ht : Try.prog.underlying t = some (.struct fs)) (h : DataW.trod enc Try.prog W base sp held n t cs = some x) (i : Nat) (ty off k : Nat) {f : Field} (hi : fs[i]? = some f) (h1 : f.type = ty) (h2 : f.offset = off) (h3 : Try.prog.cellsOf ty = k) :
  ∃ m y, DataW.trod enc Try.prog W base sp held m ty ((cs.drop off).take k) = some y := by
 obtain ⟨m, y, e⟩ := (trod_field ht h).2 i f hi
 rw [h1, h2, h3] at e
 exact ⟨m, y, e⟩
theorem trod_ints (h : DataW.trod enc Try.prog W base sp held n 22 cs = some x) : ∃ (A : Option Addr) (xs : List Int) (c : Nat), cs = [.slice A xs.length c] ∧ xs.length ≤ c ∧ c ≤ maxLen ∧ (Kd.int .i64).C W A xs.length xs ∧ ∀ y, y ∈ xs → Word64 y :=
 trod_list (d := Kd.int .i64) Try.underlying22 cells3 (fun _ _ _ h => by
  obtain ⟨y, rfl, hw⟩ := trod_int3 h
  exact ⟨y, rfl, hw⟩) h
theorem trod_plan (h : DataW.trod enc Try.prog W base sp held n 24 cs = some x) : ∃ (Wd Hd : Int) (R : Bool) (A : Option Addr) (L : List Int) (c : Nat), cs = [.int .i64 Wd, .int .i64 Hd, .bool R, .slice A L.length c] ∧ Word64 Wd ∧ Word64 Hd ∧ L.length ≤ c ∧ c ≤ maxLen ∧ (Kd.int .i64).C W A L.length L ∧ ∀ y, y ∈ L → Word64 y := by
 have hl := (trod_field Try.underlying24 h).1
 rw [cells24] at hl
 obtain ⟨m0, y0, h0⟩ := trod_at Try.underlying24 h 0 3 0 _ rfl rfl rfl cells3
 obtain ⟨m1, y1, h1⟩ := trod_at Try.underlying24 h 1 3 1 _ rfl rfl rfl cells3
 obtain ⟨m2, y2, h2⟩ := trod_at Try.underlying24 h 2 4 2 _ rfl rfl rfl cells4
 obtain ⟨m3, y3, h3⟩ := trod_at Try.underlying24 h 3 22 3 _ rfl rfl rfl cells22
 obtain ⟨a, e0, w0⟩ := trod_int3 h0
 obtain ⟨b, e1, w1⟩ := trod_int3 h1
 obtain ⟨r, e2⟩ := trod_bool4 h2
 obtain ⟨A, L, c, e3, hc, hm, hC, hw⟩ := trod_ints h3
 match cs, hl with
 | [c0, c1, c2, c3], _ =>
  simp at e0 e1 e2 e3
  subst e0
  subst e1
  subst e2
  subst e3
  exact ⟨a, b, r, A, L, c, rfl, w0, w1, hc, hm, hC, hw⟩
end
def field_Copy.f (a0_0 : Int) (a0_1 : Int) (a0_2 : Bool) (l0_3 : List Int) : Option (Int × Int × Bool × List Int) := (slices_Clone_int_int.f l0_3).bind fun t300 => (some (a0_0, a0_1, a0_2, t300))
theorem field_Copy.calls (a0_0 : Int) (a0_1 : Int) (a0_2 : Bool) (A0_3 : Option Addr) (c0_3 : Nat) (l0_3 : List Int) (r1 : Int) (r2 : Int) (r3 : Bool) (r4 : List Int) (w : World) (hr0_3 : Kd.C (Kd.int .i64) w A0_3 l0_3.length l0_3) (hc0_3 : l0_3.length ≤ c0_3) (h : field_Copy.f a0_0 a0_1 a0_2 l0_3 = some (r1, r2, r3, r4)) :
  Calls Try.prog 46 #[.agg #[.int .i64 a0_0, .int .i64 a0_1, .bool a0_2, .slice A0_3 l0_3.length c0_3]] w fun e w' => ∃ v3_ : Value, e = .returned (.agg #[.int .i64 r1, .int .i64 r2, .bool r3, v3_]) ∧ Kd.R (Kd.int .i64) 3 w' w.heap.size (fun _ => True) v3_ r4 ∧ Below w.heap.size w w' := by
 have hu24 := Try.underlying24
 have HR0_3 := Aside0.mk hr0_3
 have HC0_3 := Aside0.mk hc0_3
 clear hr0_3 hc0_3
 have HB := Aside0.mk (Below.refl w.heap.size w)
 have H : ((slices_Clone_int_int.f l0_3).bind fun t300 => (some (a0_0, a0_1, a0_2, t300))) = some (r1, r2, r3, r4) := h
 clear h
 obtain ⟨t300, A20, H⟩ := Option.bind_eq_some_iff.mp H
 have A2 := Aside0.mk A20
 clear A20
 simp only [Option.some.injEq, Prod.mk.injEq] at H
 obtain ⟨rfl, rfl, rfl, rfl⟩ := H
 go_enter Try.func46, Try.ntmps46
 go_wp2_with (first | ((with_reducible refine gate_dst (N := 1) rfl ?_); refine aBox 1 #[.int .i64 a0_0, .int .i64 a0_1, .bool a0_2, .slice A0_3 l0_3.length c0_3] 24 ?_; intro gb298 hg w3 hbox hb; have BK298 := Aside0.mk (hbox); have GW298 := aGe hg HB; have GE298 := aGe hg HB; replace HB := aBs HB hb; clear hb hbox hg) | ((with_reducible refine gate_dst (N := 2) rfl ?_); refine aBox 2 #[.int .i64 0, .int .i64 0, .bool false, .slice none 0 0] 24 ?_; intro gb299 hg w4 hbox hb; have BK299 := Aside0.mk (hbox); have GW299 := aGe hg HB; have GE299 := aGe hg HB; replace HB := aBs HB hb; have NB298_299 := aNl hg BK298; have NB299_298 := aNg hg BK298; replace BK298 := aBb BK298 hb; clear hb hbox hg; have hnb5 := NB298_299.out; have hnc5 := NB299_298.out; obtain ⟨⟨hcz6_0, hcz6_1, hcz6_2, hcz6_3⟩, hfz6_0, hfz6_1, hfz6_2, hfz6_3⟩ := aC4 BK298) | ((with_reducible refine gate_callee (f := 72) rfl ?_); refine goesL_ (some 5) rfl rfl Try.func72 (by kernel_rfl) rfl #[.slice A0_3 l0_3.length c0_3] rfl aA ?_; (with_reducible refine (slices_Clone_int_int.calls _ _ l0_3 t300 _ ?side1 ?side2 A2.out).mono ?_); (case side1 => exact aC HR0_3 HB); (case side2 => exact HC0_3.out); rintro e w7 ⟨v301, rfl, ho0, hb⟩; refine ⟨_, rfl, ?_⟩; have HO302 := Aside0.mk (Kd.R_lower ho0 (below_size (aBl HB).out)); replace BK298 := aBb BK298 hb; replace BK299 := aBb BK299 hb; replace HB := aBs HB hb; (try clear hb hk hi); (try clear ho0); obtain ⟨Ao8, co8, eo8⟩ := Kd.R_slice HO302.out; subst eo8; obtain ⟨⟨hcz9_0, hcz9_1, hcz9_2, hcz9_3⟩, hfz9_0, hfz9_1, hfz9_2, hfz9_3⟩ := aC4 BK298; obtain ⟨⟨hcz10_0, hcz10_1, hcz10_2, hcz10_3⟩, hfz10_0, hfz10_1, hfz10_2, hfz10_3⟩ := aC4 BK299))
 refine bodyPost_ret (results_cell_row rfl _ _ gb299 24 #[.int .i64 a0_0, .int .i64 a0_1, .bool a0_2, .slice Ao8 t300.length co8] (0, 0) _ rfl (by (with_reducible repeat (first | refine blk_drewN ?_ _ | refine blk_drew ?_ | refine blk_alloc ?_ _)); refine blk_put (cs := #[.int .i64 a0_0, .int .i64 a0_1, .bool a0_2, .slice none 0 0]) ?_ 3 _ rfl; (with_reducible repeat (first | refine blk_drewN ?_ _ | refine blk_drew ?_ | refine blk_alloc ?_ _)); refine blk_put (cs := #[.int .i64 a0_0, .int .i64 a0_1, .bool false, .slice none 0 0]) ?_ 2 _ rfl; (with_reducible repeat (first | refine blk_drewN ?_ _ | refine blk_drew ?_ | refine blk_alloc ?_ _)); refine blk_put (cs := #[.int .i64 a0_0, .int .i64 0, .bool false, .slice none 0 0]) ?_ 1 _ rfl; (with_reducible repeat (first | refine blk_drewN ?_ _ | refine blk_drew ?_ | refine blk_alloc ?_ _)); refine blk_put (cs := #[.int .i64 0, .int .i64 0, .bool false, .slice none 0 0]) ?_ 0 _ rfl; (with_reducible repeat (first | refine blk_drewN ?_ _ | refine blk_drew ?_ | refine blk_alloc ?_ _)); refine blk_far ?_ NB299_298.out _; (with_reducible repeat (first | refine blk_drewN ?_ _ | refine blk_drew ?_ | refine blk_alloc ?_ _)); exact BK299.out) Try.underlying24 rfl (by kernel_rfl)) rfl ?_
 exact ⟨_, by first | rfl | (simp [errW_none, errW_some] <;> rfl) | (simp [*, errW_none, errW_some] <;> rfl), by (with_reducible repeat (first | apply Kd.R_alloc | apply Kd.R_drewN | apply Kd.R_drew)); exact Kd.R_mono (Kd.R_far (p := ⟨gb299, 3, none⟩) (Kd.R_far (p := ⟨gb299, 2, none⟩) (Kd.R_far (p := ⟨gb299, 1, none⟩) (Kd.R_far (p := ⟨gb299, 0, none⟩) (Kd.R_far (p := ⟨gb298, 3, none⟩) (Kd.R_types (Kd.R_types HO302.out BK298.out (by decide)) BK299.out (by decide)) (fun _ hk => hk.1.2) (.slice Ao8 t300.length co8)) (fun _ hk => hk.2) (.int .i64 a0_0)) (fun _ hk => hk.2) (.int .i64 a0_1)) (fun _ hk => hk.2) (.bool a0_2)) (fun _ hk => hk.2) (.slice Ao8 t300.length co8)) (fun _ hk => trivial), (aBl HB).out⟩

mutual
def field_apart.j0 : Nat → List Int → Bool → Int → Int → Bool → List Int → Option (Int)
 | 0, _, _, _, _, _, _ => none
 | k + 1, x2, x22, x472000, x472001, x472002, x472003 => if x22 = true then (some 2) else (field_apart.l0 k x2 x2 (x2.length : Int) 0 x472000 x472001 x472002 x472003)
def field_apart.l0 : Nat → List Int → List Int → Int → Int → Int → Int → Bool → List Int → Option (Int)
 | 0, _, _, _, _, _, _, _, _ => none
 | k + 1, x2, x23, x24, x25, x472000, x472001, x472002, x472003 => if x25 < x24 then (if 0 ≤ x25 then (if x25 < (x23.length : Int) then ((field_has.f k x472000 x472001 x472002 x472003 (rd x23 x25)).bind fun t474 => (if t474 = true then (field_apart.l0 k x2 x23 x24 (wrap64 (x25 + 1)) x472000 x472001 x472002 x472003) else (some 7))) else (none)) else (none)) else (field_apart.l1 k x2 x2 (x2.length : Int) 0)
def field_apart.l1 : Nat → List Int → List Int → Int → Int → Option (Int)
 | 0, _, _, _, _ => none
 | k + 1, x2, x34, x35, x36 => if x36 < x35 then (if 0 ≤ x36 then (if x36 < (x34.length : Int) then (if x36 ≤ (x2.length : Int) then ((slices_Contains_int_int.f k (x2.take (x36 : Int).toNat) (rd x34 x36)).bind fun t477 => (if t477 = true then (some 9) else (field_apart.l1 k x2 x34 x35 (wrap64 (x36 + 1))))) else (none)) else (none)) else (none)) else (some 0)
end
def field_apart.f (k : Nat) (a0_0 : Int) (a0_1 : Int) (a0_2 : Bool) (l0_3 : List Int) (a1 : Int) (l2 : List Int) : Option (Int) := (field_Check.f a0_0 a0_1 a0_2 l0_3).bind fun t472 => (if t472 = 0 then (if a1 < 0 then (field_apart.j0 k l2 true a0_0 a0_1 a0_2 l0_3) else (field_apart.j0 k l2 (decide (a1 > 200)) a0_0 a0_1 a0_2 l0_3)) else (some t472))
theorem field_apart.calls (k : Nat) (a0_0 : Int) (a0_1 : Int) (a0_2 : Bool) (A0_3 : Option Addr) (c0_3 : Nat) (l0_3 : List Int) (a1 : Int) (A2 : Option Addr) (c2 : Nat) (l2 : List Int) (r : Int) (w : World) (hr0_3 : Kd.C (Kd.int .i64) w A0_3 l0_3.length l0_3) (hc0_3 : l0_3.length ≤ c0_3) (hr2 : Kd.C (Kd.int .i64) w A2 l2.length l2) (hc2 : l2.length ≤ c2) (h : field_apart.f k a0_0 a0_1 a0_2 l0_3 a1 l2 = some r) :
  Calls Try.prog 91 #[.agg #[.int .i64 a0_0, .int .i64 a0_1, .bool a0_2, .slice A0_3 l0_3.length c0_3], .int .i64 a1, .slice A2 l2.length c2] w fun e w' => e = .returned (.int .i64 r) ∧ Below w.heap.size w w' := by
 have hu24 := Try.underlying24
 have HR0_3 := Aside0.mk hr0_3
 have HC0_3 := Aside0.mk hc0_3
 clear hr0_3 hc0_3
 have HR2 := Aside0.mk hr2
 have HC2 := Aside0.mk hc2
 clear hr2 hc2
 have HB := Aside0.mk (Below.refl w.heap.size w)
 have H : ((field_Check.f a0_0 a0_1 a0_2 l0_3).bind fun t472 => (if t472 = 0 then (if a1 < 0 then (field_apart.j0 k l2 true a0_0 a0_1 a0_2 l0_3) else (field_apart.j0 k l2 (decide (a1 > 200)) a0_0 a0_1 a0_2 l0_3)) else (some t472))) = some r := h
 clear h
 obtain ⟨t472, A40, H⟩ := Option.bind_eq_some_iff.mp H
 have A4 := Aside0.mk A40
 clear A40
 by_cases c5 : t472 = 0
 ·rw [if_pos c5] at H
  obtain ⟨c5b0, c5b1⟩ := aEq c5
  clear c5
  have HC6 := Aside0.mk H
  clear H
  go_enter Try.func91, Try.ntmps91
  go_upto_region 4 with (first | ((with_reducible refine gate_dst (N := 3) rfl ?_); refine aBox 3 #[.int .i64 a0_0, .int .i64 a0_1, .bool a0_2, .slice A0_3 l0_3.length c0_3] 24 ?_; intro gb471 hg w7 hbox hb; have BK471 := Aside0.mk (hbox); have GW471 := aGe hg HB; have GE471 := aGe hg HB; replace HB := aBs HB hb; clear hb hbox hg; obtain ⟨⟨hcz8_0, hcz8_1, hcz8_2, hcz8_3⟩, hfz8_0, hfz8_1, hfz8_2, hfz8_3⟩ := aC4 BK471) | ((with_reducible refine gate_callee (f := 39) rfl ?_); refine goesL_ (some 13) rfl rfl Try.func39 (by kernel_rfl) rfl #[.agg #[.int .i64 a0_0, .int .i64 a0_1, .bool a0_2, .slice A0_3 l0_3.length c0_3]] rfl aA ?_; (with_reducible refine (field_Check.calls a0_0 a0_1 a0_2 _ _ l0_3 t472 _ ?side1 ?side2 A4.out).mono ?_); (case side1 => exact aC HR0_3 HB); (case side2 => exact HC0_3.out); rintro e w9 ⟨rfl, hb⟩; refine ⟨_, rfl, ?_⟩; replace BK471 := aBb BK471 hb; replace HB := aBs HB hb; (try clear hb hk hi)))
  (try simp only [Act.put, List.setIfInBounds_toArray, List.set_cons_zero, List.set_cons_succ])
  go_cut [22] (fun v22 wc => ∃ (kq : Nat) (x22_5 : Bool), v22 = .bool x22_5 ∧ Aside0 (field_apart.j0 kq l2 x22_5 a0_0 a0_1 a0_2 l0_3 = some r) ∧ Aside0 (kq ≤ k) ∧ Aside0 (wc.heap[gb471]? = some (.cells #[.int .i64 a0_0, .int .i64 a0_1, .bool a0_2, (.slice A0_3 l0_3.length c0_3)] 24 (0, 0))) ∧ Aside0 (Below w.heap.size w wc))
  case first =>
   have H := HC6.out
   clear HC6
   by_cases c10 : a1 < 0
   ·rw [if_pos c10] at H
    have c10b0 := decide_eq_true c10
    clear c10
    (first | rw [c10b0] | (simp only [i64_w, i32_w]; rw [c10b0]) | skip)
    have H' := Aside0.mk H
    clear H
    go_wp2
    go_meet
    case rel => exact ⟨_, (true), aR, H', ⟨by first | omega | exact Nat.le_refl _⟩, aBk BK471, aBl HB⟩
   ·rw [if_neg c10] at H
    have c10b0 := decide_eq_false c10
    clear c10
    (first | rw [c10b0] | (simp only [i64_w, i32_w]; rw [c10b0]) | skip)
    have H' := Aside0.mk H
    clear H
    go_wp2
    go_meet
    case rel => exact ⟨_, (decide (a1 > 200)), aR, H', ⟨by first | omega | exact Nat.le_refl _⟩, aBk BK471, aBl HB⟩
  case rest =>
   clear HC6
   try clear c2; try clear c5; try clear c5b0; try clear c5b1; try clear c10; try clear c10b0; try clear hcz8_0; try clear hcz8_1; try clear hcz8_2; try clear hcz8_3; try clear hfz8_0; try clear hfz8_1; try clear hfz8_2; try clear hfz8_3
   obtain ⟨kq, x22_5, rfl, HA, HJ5, BK471, HB⟩ := hcut
   cases kq with
   | zero => exact absurd HA.out (by simp [field_apart.j0])
   | succ kj5 =>
    have H := HA.out
    clear HA
    simp only [field_apart.j0] at H
    by_cases c11 : x22_5 = true
    ·subst c11
     have H1 : (some 2) = some r := by rw [if_pos rfl] at H; exact H
     clear H
     have H := H1
     clear H1
     obtain rfl := Option.some.inj H
     go_wp2
     go_ret
     exact ⟨by first | rfl | (simp [*] <;> rfl), (aBl HB).out⟩
    ·replace c11 := Bool.eq_false_iff.mpr c11
     subst c11
     have H1 : (field_apart.l0 kj5 l2 l2 (l2.length : Int) 0 a0_0 a0_1 a0_2 l0_3) = some r := by rw [if_neg (show ¬ (false = true) by decide)] at H; exact H
     clear H
     have H := H1
     clear H1
     have H' := Aside0.mk H
     clear H
     go_wp2
     go_loopg [25] kj5 (fun kq v25 w' => ∃ (x25_2 : Int), v25 = .int .i64 x25_2 ∧ Aside0 (field_apart.l0 kq l2 l2 (l2.length : Int) x25_2 a0_0 a0_1 a0_2 l0_3 = some r) ∧ Aside0 (kq ≤ kj5) ∧ Aside0 (w'.heap[gb471]? = some (.cells #[.int .i64 a0_0, .int .i64 a0_1, .bool a0_2, (.slice A0_3 l0_3.length c0_3)] 24 (0, 0))) ∧ Aside0 (Below w.heap.size w w'))
     case atStart => exact ⟨(0), aR, H', ⟨Nat.le_refl _⟩, aBk BK471, aBl HB⟩
     case round =>
      clear H'
      try clear c2; try clear c5; try clear c5b0; try clear c5b1; try clear c10; try clear c10b0; try clear c11; try clear hcz8_0; try clear hcz8_1; try clear hcz8_2; try clear hcz8_3; try clear hfz8_0; try clear hfz8_1; try clear hfz8_2; try clear hfz8_3
      obtain ⟨x25_2, rfl, HA, HK2, BK471, HB⟩ := hrel
      cases gk with
      | zero => exact absurd HA.out (by simp [field_apart.l0])
      | succ k2 =>
       have H := HA.out
       clear HA
       simp only [field_apart.l0] at H
       by_cases c12 : x25_2 < (l2.length : Int)
       ·rw [if_pos c12] at H
        have c12b0 := decide_eq_true c12
        clear c12
        by_cases c13 : 0 ≤ x25_2
        ·rw [if_pos c13] at H
         have c13b0 := decide_eq_true c13
         clear c13
         by_cases c14 : x25_2 < (l2.length : Int)
         ·rw [if_pos c14] at H
          have c14b0 := decide_eq_true c14
          clear c14
          obtain ⟨t474, A150, H⟩ := Option.bind_eq_some_iff.mp H
          have A15 := Aside0.mk A150
          clear A150
          by_cases c16 : t474 = true
          ·subst c16
           have H1 : (field_apart.l0 k2 l2 l2 (l2.length : Int) (wrap64 (x25_2 + 1)) a0_0 a0_1 a0_2 l0_3) = some r := by rw [if_pos rfl] at H; exact H
           clear H
           have H := H1
           clear H1
           have H' := Aside0.mk H
           clear H
           have p473 : 0 ≤ (x25_2 : Int) := aD
           have q473 : x25_2 < (l2.length : Int) := aD
           obtain ⟨ad473, e473, hx473_0⟩ := Kd.at_int HR2.out x25_2 p473 q473
           cases e473
           replace hx473_0 := (HB.out.cell (World.block_lt_of_cell? w _ hx473_0)).trans hx473_0
           replace p473 := eq_true p473
           replace q473 := eq_true q473
           obtain ⟨⟨hcz17_0, hcz17_1, hcz17_2, hcz17_3⟩, hfz17_0, hfz17_1, hfz17_2, hfz17_3⟩ := aC4 BK471
           go_wp2_with (first | ((with_reducible refine gate_callee (f := 77) rfl ?_); refine goesL_ (some 31) rfl rfl Try.func77 (by kernel_rfl) rfl #[.agg #[.int .i64 a0_0, .int .i64 a0_1, .bool a0_2, .slice A0_3 l0_3.length c0_3], .int .i64 (rd l2 x25_2)] rfl aA ?_; (with_reducible refine (field_has.calls k2 a0_0 a0_1 a0_2 _ _ l0_3 (rd l2 x25_2) true _ ?side1 ?side2 A15.out).mono ?_); (case side1 => exact aC HR0_3 HB); (case side2 => exact HC0_3.out); rintro e w18 ⟨rfl, hb⟩; refine ⟨_, rfl, ?_⟩; replace BK471 := aBb BK471 hb; replace HB := aBs HB hb; (try clear hb hk hi)))
           go_roundg k2
           case measure => have := HJ5.out; have := HK2.out; omega
           case rel => exact ⟨(wrap64 (x25_2 + 1)), aR, H', ⟨by have := HJ5.out; have := HK2.out; omega⟩, aBk BK471, aBl HB⟩
          ·replace c16 := Bool.eq_false_iff.mpr c16
           subst c16
           have H1 : (some 7) = some r := by rw [if_neg (show ¬ (false = true) by decide)] at H; exact H
           clear H
           have H := H1
           clear H1
           obtain rfl := Option.some.inj H
           have p473 : 0 ≤ (x25_2 : Int) := aD
           have q473 : x25_2 < (l2.length : Int) := aD
           obtain ⟨ad473, e473, hx473_0⟩ := Kd.at_int HR2.out x25_2 p473 q473
           cases e473
           replace hx473_0 := (HB.out.cell (World.block_lt_of_cell? w _ hx473_0)).trans hx473_0
           replace p473 := eq_true p473
           replace q473 := eq_true q473
           obtain ⟨⟨hcz19_0, hcz19_1, hcz19_2, hcz19_3⟩, hfz19_0, hfz19_1, hfz19_2, hfz19_3⟩ := aC4 BK471
           go_wp2_with (first | ((with_reducible refine gate_callee (f := 77) rfl ?_); refine goesL_ (some 31) rfl rfl Try.func77 (by kernel_rfl) rfl #[.agg #[.int .i64 a0_0, .int .i64 a0_1, .bool a0_2, .slice A0_3 l0_3.length c0_3], .int .i64 (rd l2 x25_2)] rfl aA ?_; (with_reducible refine (field_has.calls k2 a0_0 a0_1 a0_2 _ _ l0_3 (rd l2 x25_2) false _ ?side1 ?side2 A15.out).mono ?_); (case side1 => exact aC HR0_3 HB); (case side2 => exact HC0_3.out); rintro e w20 ⟨rfl, hb⟩; refine ⟨_, rfl, ?_⟩; replace BK471 := aBb BK471 hb; replace HB := aBs HB hb; (try clear hb hk hi)))
           go_ret
           exact ⟨by first | rfl | (simp [*] <;> rfl), (aBl HB).out⟩
         ·rw [if_neg c14] at H
          exact absurd H (by simp)
        ·rw [if_neg c13] at H
         exact absurd H (by simp)
       ·rw [if_neg c12] at H
        have c12b0 := decide_eq_false c12
        clear c12
        have H' := Aside0.mk H
        clear H
        go_wp2
        go_loopg [36] k2 (fun kq v36 w' => ∃ (x36_3 : Int), v36 = .int .i64 x36_3 ∧ Aside0 (field_apart.l1 kq l2 l2 (l2.length : Int) x36_3 = some r) ∧ Aside0 (kq ≤ k2) ∧ Aside0 (w'.heap[gb471]? = some (.cells #[.int .i64 a0_0, .int .i64 a0_1, .bool a0_2, (.slice A0_3 l0_3.length c0_3)] 24 (0, 0))) ∧ Aside0 (Below w.heap.size w w'))
        case atStart => exact ⟨(0), aR, H', ⟨Nat.le_refl _⟩, aBk BK471, aBl HB⟩
        case round =>
         clear H'
         try clear c2; try clear c5; try clear c5b0; try clear c5b1; try clear c10; try clear c10b0; try clear c11; try clear c12; try clear c12b0; try clear c13; try clear c13b0; try clear c14; try clear c14b0; try clear c16; try clear hcz17_0; try clear hcz17_1; try clear hcz17_2; try clear hcz17_3; try clear hcz19_0; try clear hcz19_1; try clear hcz19_2; try clear hcz19_3; try clear hcz8_0; try clear hcz8_1; try clear hcz8_2; try clear hcz8_3; try clear hfz17_0; try clear hfz17_1; try clear hfz17_2; try clear hfz17_3; try clear hfz19_0; try clear hfz19_1; try clear hfz19_2; try clear hfz19_3; try clear hfz8_0; try clear hfz8_1; try clear hfz8_2; try clear hfz8_3; try clear hx473_0; try clear p473; try clear q473
         obtain ⟨x36_3, rfl, HA, HK3, BK471, HB⟩ := hrel
         cases gk with
         | zero => exact absurd HA.out (by simp [field_apart.l1])
         | succ k3 =>
          have H := HA.out
          clear HA
          simp only [field_apart.l1] at H
          by_cases c21 : x36_3 < (l2.length : Int)
          ·rw [if_pos c21] at H
           have c21b0 := decide_eq_true c21
           clear c21
           by_cases c22 : 0 ≤ x36_3
           ·rw [if_pos c22] at H
            have c22b0 := decide_eq_true c22
            clear c22
            by_cases c23 : x36_3 < (l2.length : Int)
            ·rw [if_pos c23] at H
             have c23b0 := decide_eq_true c23
             clear c23
             have c24b0 := eq_true (aD : 0 ≤ x36_3)
             by_cases c25 : x36_3 ≤ (l2.length : Int)
             ·rw [if_pos c25] at H
              have c25b0 := eq_true c25
              have c25b1 := decide_eq_true c25
              clear c25
              obtain ⟨t477, A260, H⟩ := Option.bind_eq_some_iff.mp H
              have A26 := Aside0.mk A260
              clear A260
              by_cases c27 : t477 = true
              ·subst c27
               have H1 : (some 9) = some r := by rw [if_pos rfl] at H; exact H
               clear H
               have H := H1
               clear H1
               obtain rfl := Option.some.inj H
               have p475 : 0 ≤ (x36_3 : Int) := aD
               have q475 : x36_3 < (l2.length : Int) := aD
               obtain ⟨ad475, e475, hx475_0⟩ := Kd.at_int HR2.out x36_3 p475 q475
               cases e475
               replace hx475_0 := (HB.out.cell (World.block_lt_of_cell? w _ hx475_0)).trans hx475_0
               replace p475 := eq_true p475
               replace q475 := eq_true q475
               obtain ⟨i028, hi028, _, hsz28, _⟩ := info_parts info3
               obtain ⟨hcut28, hA28, hC28⟩ := print_take_of (P := Try.prog) (Value.int .i64) 0 22 3 .i64 Try.underlying22 hi028 hsz28 (some ad475) c2 l2 x36_3 (aD) (aD) HC2.out
               have HR476 := Aside0.mk (Kd.C_of_reads (h1 := fun _ => rfl) (hA28 _ (Kd.reads_of_C HR2.out)))
               have HC476 := Aside0.mk hC28
               clear hA28 hC28 hi028 hsz28
               go_wp2_with (first | ((with_reducible refine gate_callee (f := 88) rfl ?_); refine goesL_ (some 45) rfl rfl Try.func88 (by kernel_rfl) rfl #[.slice (some ad475) (l2.take (x36_3 : Int).toNat).length c2, .int .i64 (rd l2 x36_3)] rfl (by (try simp only [List.map_toArray, List.map_cons, List.map_nil]); first | done | (rw [show (l2.take (x36_3 : Int).toNat).length = x36_3.toNat from (by rw [List.length_take]; have h_ : (x36_3 : Int) ≤ (l2.length : Int) := aD; omega)] <;> rfl) | rfl | (simp only [List.length_drop, List.length_take]; rfl)) ?_; (with_reducible refine (slices_Contains_int_int.calls k3 _ _ (l2.take (x36_3 : Int).toNat) (rd l2 x36_3) true _ ?side1 ?side2 A26.out).mono ?_); (case side1 => exact aC HR476 HB); (case side2 => exact HC476.out); rintro e w' ⟨rfl, ⟨nd, rfl⟩⟩; refine ⟨_, rfl, ?_⟩))
               go_ret
               exact ⟨by first | rfl | (simp [*] <;> rfl), (aBl HB).out⟩
              ·replace c27 := Bool.eq_false_iff.mpr c27
               subst c27
               have H1 : (field_apart.l1 k3 l2 l2 (l2.length : Int) (wrap64 (x36_3 + 1))) = some r := by rw [if_neg (show ¬ (false = true) by decide)] at H; exact H
               clear H
               have H := H1
               clear H1
               have H' := Aside0.mk H
               clear H
               have p475 : 0 ≤ (x36_3 : Int) := aD
               have q475 : x36_3 < (l2.length : Int) := aD
               obtain ⟨ad475, e475, hx475_0⟩ := Kd.at_int HR2.out x36_3 p475 q475
               cases e475
               replace hx475_0 := (HB.out.cell (World.block_lt_of_cell? w _ hx475_0)).trans hx475_0
               replace p475 := eq_true p475
               replace q475 := eq_true q475
               obtain ⟨i029, hi029, _, hsz29, _⟩ := info_parts info3
               obtain ⟨hcut29, hA29, hC29⟩ := print_take_of (P := Try.prog) (Value.int .i64) 0 22 3 .i64 Try.underlying22 hi029 hsz29 (some ad475) c2 l2 x36_3 (aD) (aD) HC2.out
               have HR476 := Aside0.mk (Kd.C_of_reads (h1 := fun _ => rfl) (hA29 _ (Kd.reads_of_C HR2.out)))
               have HC476 := Aside0.mk hC29
               clear hA29 hC29 hi029 hsz29
               go_wp2_with (first | ((with_reducible refine gate_callee (f := 88) rfl ?_); refine goesL_ (some 45) rfl rfl Try.func88 (by kernel_rfl) rfl #[.slice (some ad475) (l2.take (x36_3 : Int).toNat).length c2, .int .i64 (rd l2 x36_3)] rfl (by (try simp only [List.map_toArray, List.map_cons, List.map_nil]); first | done | (rw [show (l2.take (x36_3 : Int).toNat).length = x36_3.toNat from (by rw [List.length_take]; have h_ : (x36_3 : Int) ≤ (l2.length : Int) := aD; omega)] <;> rfl) | rfl | (simp only [List.length_drop, List.length_take]; rfl)) ?_; (with_reducible refine (slices_Contains_int_int.calls k3 _ _ (l2.take (x36_3 : Int).toNat) (rd l2 x36_3) false _ ?side1 ?side2 A26.out).mono ?_); (case side1 => exact aC HR476 HB); (case side2 => exact HC476.out); rintro e w' ⟨rfl, ⟨nd, rfl⟩⟩; refine ⟨_, rfl, ?_⟩))
               go_roundg k3
               case measure => have := HJ5.out; have := HK2.out; have := HK3.out; omega
               case rel => exact ⟨(wrap64 (x36_3 + 1)), aR, H', ⟨by have := HJ5.out; have := HK2.out; have := HK3.out; omega⟩, aBk BK471, aBl HB⟩
             ·rw [if_neg c25] at H
              exact absurd H (by simp)
            ·rw [if_neg c23] at H
             exact absurd H (by simp)
           ·rw [if_neg c22] at H
            exact absurd H (by simp)
          ·rw [if_neg c21] at H
           have c21b0 := decide_eq_false c21
           clear c21
           obtain rfl := Option.some.inj H
           go_wp2
           go_ret
           exact ⟨by first | rfl | (simp [*] <;> rfl), (aBl HB).out⟩
 ·rw [if_neg c5] at H
  obtain ⟨c5b0, c5b1⟩ := aNe c5
  obtain rfl := Option.some.inj H
  go_enter Try.func91, Try.ntmps91
  go_wp2_with (first | ((with_reducible refine gate_dst (N := 3) rfl ?_); refine aBox 3 #[.int .i64 a0_0, .int .i64 a0_1, .bool a0_2, .slice A0_3 l0_3.length c0_3] 24 ?_; intro gb471 hg w30 hbox hb; have BK471 := Aside0.mk (hbox); have GW471 := aGe hg HB; have GE471 := aGe hg HB; replace HB := aBs HB hb; clear hb hbox hg; obtain ⟨⟨hcz31_0, hcz31_1, hcz31_2, hcz31_3⟩, hfz31_0, hfz31_1, hfz31_2, hfz31_3⟩ := aC4 BK471) | ((with_reducible refine gate_callee (f := 39) rfl ?_); refine goesL_ (some 13) rfl rfl Try.func39 (by kernel_rfl) rfl #[.agg #[.int .i64 a0_0, .int .i64 a0_1, .bool a0_2, .slice A0_3 l0_3.length c0_3]] rfl aA ?_; (with_reducible refine (field_Check.calls a0_0 a0_1 a0_2 _ _ l0_3 t472 _ ?side1 ?side2 A4.out).mono ?_); (case side1 => exact aC HR0_3 HB); (case side2 => exact HC0_3.out); rintro e w32 ⟨rfl, hb⟩; refine ⟨_, rfl, ?_⟩; replace BK471 := aBb BK471 hb; replace HB := aBs HB hb; (try clear hb hk hi)))
  go_ret
  exact ⟨by first | rfl | (simp [*] <;> rfl), (aBl HB).out⟩
def field_Influence.f (k : Nat) (a0_0 : Int) (a0_1 : Int) (a0_2 : Bool) (l0_3 : List Int) (a1 : Int) (a2 : Int) (a3 : Int) : Option (Int × Int × Int) := (field_apart.f k a0_0 a0_1 a0_2 l0_3 a1 (([a2, a3] : List Int))).bind fun t483 => (if t483 = 0 then ((slices_Max_int_int.f l0_3).bind fun t484 => (if 0 ≤ t484 then (if (t484 : Int).toNat ≤ 35184372088832 then ((some (List.replicate (t484 : Int).toNat 0 : List Int)).bind fun y485 => (if 0 ≤ (wrap64 (a2 - 1)) then (if (wrap64 (a2 - 1)) < (y485.length : Int) then ((field_Charge.f a0_0 a0_1 a0_2 l0_3 (y485.set ((wrap64 (a2 - 1)) : Int).toNat 1000000) a1 a3).bind fun bt489 => (some (wrap64 (-bt489.2.1), wrap64 (-bt489.1), bt489.2.2))) else (none)) else (none))) else (none)) else (none))) else (some (0, 0, t483)))
theorem field_Influence.calls (k : Nat) (a0_0 : Int) (a0_1 : Int) (a0_2 : Bool) (A0_3 : Option Addr) (c0_3 : Nat) (l0_3 : List Int) (a1 : Int) (a2 : Int) (a3 : Int) (r1 : Int) (r2 : Int) (r3 : Int) (w : World) (hr0_3 : Kd.C (Kd.int .i64) w A0_3 l0_3.length l0_3) (hc0_3 : l0_3.length ≤ c0_3) (h : field_Influence.f k a0_0 a0_1 a0_2 l0_3 a1 a2 a3 = some (r1, r2, r3)) :
  Calls Try.prog 52 #[.agg #[.int .i64 a0_0, .int .i64 a0_1, .bool a0_2, .slice A0_3 l0_3.length c0_3], .int .i64 a1, .int .i64 a2, .int .i64 a3] w fun e w' => e = .returned (.tuple #[.agg #[.int .i64 r1, .int .i64 r2], .int .i64 r3]) ∧ Below w.heap.size w w' := by
 have hu24 := Try.underlying24
 have hu42 := Try.underlying42
 have HR0_3 := Aside0.mk hr0_3
 have HC0_3 := Aside0.mk hc0_3
 clear hr0_3 hc0_3
 have HB := Aside0.mk (Below.refl w.heap.size w)
 have H : ((field_apart.f k a0_0 a0_1 a0_2 l0_3 a1 (([a2, a3] : List Int))).bind fun t483 => (if t483 = 0 then ((slices_Max_int_int.f l0_3).bind fun t484 => (if 0 ≤ t484 then (if (t484 : Int).toNat ≤ 35184372088832 then ((some (List.replicate (t484 : Int).toNat 0 : List Int)).bind fun y485 => (if 0 ≤ (wrap64 (a2 - 1)) then (if (wrap64 (a2 - 1)) < (y485.length : Int) then ((field_Charge.f a0_0 a0_1 a0_2 l0_3 (y485.set ((wrap64 (a2 - 1)) : Int).toNat 1000000) a1 a3).bind fun bt489 => (some (wrap64 (-bt489.2.1), wrap64 (-bt489.1), bt489.2.2))) else (none)) else (none))) else (none)) else (none))) else (some (0, 0, t483)))) = some (r1, r2, r3) := h
 clear h
 obtain ⟨y480, hy480⟩ : ∃ y_ : List Int, y_ = (([a2, a3] : List Int)) := ⟨_, rfl⟩
 replace H : ((field_apart.f k a0_0 a0_1 a0_2 l0_3 a1 y480).bind fun t483 => (if t483 = 0 then ((slices_Max_int_int.f l0_3).bind fun t484 => (if 0 ≤ t484 then (if (t484 : Int).toNat ≤ 35184372088832 then ((some (List.replicate (t484 : Int).toNat 0 : List Int)).bind fun y485 => (if 0 ≤ (wrap64 (a2 - 1)) then (if (wrap64 (a2 - 1)) < (y485.length : Int) then ((field_Charge.f a0_0 a0_1 a0_2 l0_3 (y485.set ((wrap64 (a2 - 1)) : Int).toNat 1000000) a1 a3).bind fun bt489 => (some (wrap64 (-bt489.2.1), wrap64 (-bt489.1), bt489.2.2))) else (none)) else (none))) else (none)) else (none))) else (some (0, 0, t483)))) = some (r1, r2, r3) := by first | (rw [hy480]; with_reducible exact H) | (rw [hy480]; exact (Option.bind_some _ _).symm.trans H) | (rw [hy480]; exact H) | exact H
 have Ny480 := Aside0.mk hy480
 clear hy480
 obtain ⟨t483, A50, H⟩ := Option.bind_eq_some_iff.mp H
 have A5 := Aside0.mk A50
 clear A50
 by_cases c6 : t483 = 0
 ·rw [if_pos c6] at H
  obtain ⟨c6b0, c6b1⟩ := aEq c6
  clear c6
  obtain ⟨t484, A70, H⟩ := Option.bind_eq_some_iff.mp H
  have A7 := Aside0.mk A70
  clear A70
  by_cases c8 : 0 ≤ t484
  ·rw [if_pos c8] at H
   have c8b0 := eq_true c8
   have c8b1 := decide_eq_true c8
   clear c8
   by_cases c9 : (t484 : Int).toNat ≤ 35184372088832
   ·rw [if_pos c9] at H
    have c9b0 := eq_true c9
    have c9b1 := decide_eq_true c9
    clear c9
    obtain ⟨y485, hy485⟩ : ∃ y_ : List Int, y_ = (List.replicate (t484 : Int).toNat 0) := ⟨_, rfl⟩
    replace H : (if 0 ≤ (wrap64 (a2 - 1)) then (if (wrap64 (a2 - 1)) < (y485.length : Int) then ((field_Charge.f a0_0 a0_1 a0_2 l0_3 (y485.set ((wrap64 (a2 - 1)) : Int).toNat 1000000) a1 a3).bind fun bt489 => (some (wrap64 (-bt489.2.1), wrap64 (-bt489.1), bt489.2.2))) else (none)) else (none)) = some (r1, r2, r3) := by first | (rw [hy485]; with_reducible exact H) | (rw [hy485]; exact (Option.bind_some _ _).symm.trans H) | (rw [hy485]; exact H) | exact H
    have Ny485 := Aside0.mk hy485
    clear hy485
    obtain ⟨ji10, hji10⟩ : ∃ j_ : Int, (wrap64 (a2 - 1)) = j_ := ⟨_, rfl⟩
    replace H : (if 0 ≤ (ji10) then (if (ji10) < (y485.length : Int) then ((field_Charge.f a0_0 a0_1 a0_2 l0_3 (y485.set ((ji10) : Int).toNat 1000000) a1 a3).bind fun bt489 => (some (wrap64 (-bt489.2.1), wrap64 (-bt489.1), bt489.2.2))) else (none)) else (none)) = some (r1, r2, r3) := by first | (rw [hji10] at H; exact H) | (simp only [hji10] at H ⊢; exact H)
    (try rw [hji10] at A5)
    (try rw [hji10] at A7)
    have hji10w : (IntKind.i64.wrap (a2 - 1)) = ji10 := (i64_w _).trans hji10
    by_cases c11 : 0 ≤ (ji10)
    ·rw [if_pos c11] at H
     have c11b0 := decide_eq_true c11
     clear c11
     by_cases c12 : (ji10) < (y485.length : Int)
     ·rw [if_pos c12] at H
      have c12b0 := decide_eq_true c12
      clear c12
      obtain ⟨y488, hy488⟩ : ∃ y_ : List Int, y_ = (y485.set ((ji10) : Int).toNat 1000000) := ⟨_, rfl⟩
      replace H : ((field_Charge.f a0_0 a0_1 a0_2 l0_3 y488 a1 a3).bind fun bt489 => (some (wrap64 (-bt489.2.1), wrap64 (-bt489.1), bt489.2.2))) = some (r1, r2, r3) := by first | (rw [hy488]; with_reducible exact H) | (rw [hy488]; exact (Option.bind_some _ _).symm.trans H) | (rw [hy488]; exact H) | exact H
      have Ny488 := Aside0.mk hy488
      clear hy488
      replace H := Option.bind_eq_some_iff.mp H
      obtain ⟨⟨t489, t490, t491⟩, A140, H⟩ := H
      replace H : (some (wrap64 (-t490), wrap64 (-t489), t491)) = some (r1, r2, r3) := H
      have A14 := Aside0.mk A140
      clear A140
      simp only [Option.some.injEq, Prod.mk.injEq] at H
      obtain ⟨rfl, rfl, rfl⟩ := H
      go_enter Try.func52, Try.ntmps52
      go_wp2_with (first | ((with_reducible refine gate_dst (N := 4) rfl ?_); refine aBox 4 #[.int .i64 a0_0, .int .i64 a0_1, .bool a0_2, .slice A0_3 l0_3.length c0_3] 24 ?_; intro gb478 hg w15 hbox hb; have BK478 := Aside0.mk (hbox); have GW478 := aGe hg HB; have GE478 := aGe hg HB; replace HB := aBs HB hb; clear hb hbox hg) | ((with_reducible refine gate_dst (N := 8) rfl ?_); refine aBox 8 #[.int .i64 0, .int .i64 0] 42 ?_; intro gb479 hg w16 hbox hb; have BK479 := Aside0.mk (hbox); have GW479 := aGe hg HB; have GE479 := aGe hg HB; replace HB := aBs HB hb; have NB478_479 := aNl hg BK478; have NB479_478 := aNg hg BK478; replace BK478 := aBb BK478 hb; clear hb hbox hg; have hnb17 := NB478_479.out; have hnc17 := NB479_478.out; obtain ⟨⟨hcz18_0, hcz18_1, hcz18_2, hcz18_3⟩, hfz18_0, hfz18_1, hfz18_2, hfz18_3⟩ := aC4 BK478) | ((with_reducible refine gate_dst (N := 18) rfl ?_); refine Kd.R_lit (Kd.int .i64) _ 3 ?hg (N := 18) ?hd (xs := ([a2, a3] : List Int)) (inner := [.int .i64 a2, .int .i64 a3]) (ok := fun _ => True) (okp := fun _ => True) ?hr ?hp (fun _ hk => hk) trivial (Below.refl _ _) (Nat.le_refl _) (by simp) ?_; (case hd => rfl); (case hg => rfl); (case hr => first | (go_simp; done) | (go_simp; rfl)); (case hp => exact (Reps.one (show Kd.M (Kd.int .i64) _ _ _ a2 [.int .i64 a2] from rfl) (Reps.one (show Kd.M (Kd.int .i64) _ _ _ a3 [.int .i64 a3] from rfl) (Reps.none _ _)))); intro v481 w19 ho20 hb hg_ hnew_; clear hg_ hnew_; (first | rw [← Ny480.out] at ho20 | (simp only [Int.reduceToNat] at ho20; rw [← Ny480.out] at ho20)); have HO482 := Aside0.mk (Kd.R_lower ho20 (below_size (aBl HB).out)); replace BK478 := aBb BK478 hb; replace BK479 := aBb BK479 hb; replace HB := aBs HB hb; clear hb ho20; obtain ⟨Ao21, co21, eo21⟩ := Kd.R_slice HO482.out; subst eo21) | ((with_reducible refine gate_callee (f := 91) rfl ?_); refine goesL_ (some 19) rfl rfl Try.func91 (by kernel_rfl) rfl #[.agg #[.int .i64 a0_0, .int .i64 a0_1, .bool a0_2, .slice A0_3 l0_3.length c0_3], .int .i64 a1, .slice Ao21 y480.length co21] rfl aA ?_; (with_reducible refine (field_apart.calls k a0_0 a0_1 a0_2 _ _ l0_3 a1 _ _ y480 t483 _ ?side1 ?side2 ?side3 ?side4 A5.out).mono ?_); (case side1 => exact aC HR0_3 HB); (case side2 => exact HC0_3.out); (case side3 => repeat (first | exact (Kd.R_reads' HO482.out).2.2 | (with_reducible refine Kd.C_alloc ?_ _) | (with_reducible refine Kd.C_drewN ?_ _) | (with_reducible refine Kd.C_drew ?_))); (case side4 => exact (Kd.R_reads' HO482.out).2.1); rintro e w22 ⟨rfl, hb⟩; refine ⟨_, rfl, ?_⟩; replace HO482 := aRb HO482 hb; replace BK478 := aBb BK478 hb; replace BK479 := aBb BK479 hb; replace HB := aBs HB hb; (try clear hb hk hi); obtain ⟨⟨hcz23_0, hcz23_1, hcz23_2, hcz23_3⟩, hfz23_0, hfz23_1, hfz23_2, hfz23_3⟩ := aC4 BK478) | ((with_reducible refine gate_callee (f := 82) rfl ?_); refine goesL_ (some 26) rfl rfl Try.func82 (by kernel_rfl) rfl #[.slice A0_3 l0_3.length c0_3] rfl aA ?_; (with_reducible refine (slices_Max_int_int.calls _ _ l0_3 t484 _ ?side1 ?side2 A7.out).mono ?_); (case side1 => exact aC HR0_3 HB); (case side2 => exact HC0_3.out); rintro e w' ⟨rfl, ⟨nd, rfl⟩⟩; refine ⟨_, rfl, ?_⟩; (try (rw [drewN_self w22]; generalize hq_ : World.drewN w22 _ = w22; replace HO482 : Aside0 (Kd.R (Kd.int .i64) 3 w22 w.heap.size (fun _ => True) (.slice Ao21 y480.length co21) y480) := ⟨by rw [← hq_]; exact (aRk HO482).out⟩; replace BK478 : Aside0 (w22.heap[gb478]? = some (.cells #[.int .i64 a0_0, .int .i64 a0_1, .bool a0_2, .slice A0_3 l0_3.length c0_3] 24 (0, 0))) := ⟨by rw [← hq_]; exact (aBk BK478).out⟩; replace BK479 : Aside0 (w22.heap[gb479]? = some (.cells #[.int .i64 0, .int .i64 0] 42 (0, 0))) := ⟨by rw [← hq_]; exact (aBk BK479).out⟩; replace HB : Aside0 (Below w.heap.size w w22) := ⟨by rw [← hq_]; exact (aBl HB).out⟩; clear hq_))) | ((with_reducible refine gate_dst (N := 27) rfl ?_); refine Kd.R_make (Kd.int .i64) _ 3 rfl (N := 27) rfl 22 _ _ rfl t484 rfl rfl Try.underlying22 (.int .i64 0) 8 info3 rfl (by decide) (by omega) 0 (ok := fun _ => True) (okp := fun _ => True) rfl (fun _ hk => hk) trivial (aD) (Nat.le_trans (Nat.mul_le_mul_right _ (aD : t484.toNat ≤ 35184372088832)) (by omega)) (Below.refl _ _) (Nat.le_refl _) ?_; intro v486 w24 ho25 hb hg_ hnew_; clear hg_ hnew_; (first | rw [← Ny485.out] at ho25 | (simp only [Int.reduceToNat] at ho25; rw [← Ny485.out] at ho25)); have HO487 := Aside0.mk (Kd.R_lower (Kd.R_new' ho25 (Kd.R_lt (aRk HO482).out)) (below_size (aBl HB).out)); replace HO482 := Aside0.mk (Kd.R_elder' (aRk HO482).out (Kd.R_base ho25) hb); replace BK478 := aBb BK478 hb; replace BK479 := aBb BK479 hb; replace HB := aBs HB hb; clear hb ho25; have p13 : 0 ≤ ((ji10) : Int) := aD; have q13 : ((ji10) : Int) < ((y485.length : Int) : Int) := aD; obtain ⟨go13, co13, eo13, gb13, gl13, cl13, HG13⟩ := Kd.R_form HO487.out (by omega); (first | cases eo13 | (injection eo13 with ea_ en_ ec_; (first | subst ea_ | (injection ea_ with ea_; subst ea_)); subst ec_; clear en_)); have GB13 := Aside0.mk gb13; have GG13 := Aside0.mk HG13; clear gb13 gl13 HG13; obtain ⟨hx13_0, hf13_0⟩ := Kd.R_celln 0 HO487.out ((ji10) : Int) p13 q13; replace p13 := eq_true p13; replace q13 := eq_true q13; have n_ := Aside0.mk (Kd.R_mono (ok' := (fun k_ => some k_ ≠ (.slice Ao21 y480.length co21 : Value).ownBlock)) HO487.out (fun k_ hk => hk.2)); clear HO487; have HO487 := n_; clear n_; obtain ⟨hy26_, hz26_⟩ := Kd.R_celln 0 HO487.out ((ji10) : Int) (aD) (aD); have HP26 := Kd.R_putg HO487.out ((ji10) : Int) 1000000) | ((with_reducible refine gate_store (t := 3) (p := 31) rfl ?_); refine store_event (t := 3) (p := 31) (v := ?vo_w27) (w1 := (w24.setCell ⟨go13, ((ji10) : Int).toNat, none⟩ (.int .i64 1000000))) ?hg ?ho ?hn ?hr ?_; (case ho => rfl); (case hg => rfl); (case hn => rfl); (case hr => first | (go_simp; done) | (go_simp; rfl)); intro w27 hw; have hg : w24.grownBy w27 (some go13) := (by rw [hw]; exact HP26.2); have hp_ : Kd.R (Kd.int .i64) 3 w27 w.heap.size (fun k_ => some k_ ≠ (.slice Ao21 y480.length co21 : Value).ownBlock) (.slice (some ⟨go13, 0, none⟩) y485.length co13) y488 := (by rw [hw, Ny488.out]; exact HP26.1); clear HP26; replace BK478 := (aBg BK478 hg (Kd.R_ne HO487.out BK478.out (by decide))); replace BK479 := (aBg BK479 hg (Kd.R_ne HO487.out BK479.out (by decide))); replace HO482 := Aside0.mk (Kd.R_after (v := (.slice (some ⟨go13, 0, none⟩) y485.length co13)) (v1 := (.slice (some ⟨go13, 0, none⟩) y485.length co13)) (ok := (fun _ => True)) (aRk HO482).out hg (.inl rfl)); replace HO487 := Aside0.mk (hp_); replace HB := Aside0.mk ((by rw [hw]; exact below_set (HB.out) GB13.out : Below w.heap.size w w27)); clear hg hw hp_; obtain ⟨⟨hcz28_0, hcz28_1, hcz28_2, hcz28_3⟩, hfz28_0, hfz28_1, hfz28_2, hfz28_3⟩ := aC4 BK478) | ((with_reducible refine gate_callee (f := 30) rfl ?_); refine goesL_ (some 37) rfl rfl Try.func30 (by kernel_rfl) rfl #[.agg #[.int .i64 a0_0, .int .i64 a0_1, .bool a0_2, .slice A0_3 l0_3.length c0_3], .slice (some ⟨go13, 0, none⟩) y488.length co13, .int .i64 a1, .int .i64 a3] rfl (by (try simp only [List.map_toArray, List.map_cons, List.map_nil]); first | done | (rw [show y488.length = y485.length from (Kd.R_reads' HO487.out).1.symm] <;> rfl) | rfl | (simp only [List.length_drop, List.length_take]; rfl)) ?_; (with_reducible refine (field_Charge.calls a0_0 a0_1 a0_2 _ _ l0_3 _ _ y488 a1 a3 t489 t490 t491 _ ?side1 ?side2 ?side3 ?side4 A14.out).mono ?_); (case side1 => exact aC HR0_3 HB); (case side2 => exact HC0_3.out); (case side3 => repeat (first | exact (Kd.R_reads' HO487.out).2.2 | (with_reducible refine Kd.C_alloc ?_ _) | (with_reducible refine Kd.C_drewN ?_ _) | (with_reducible refine Kd.C_drew ?_))); (case side4 => rw [show y488.length = y485.length from (Kd.R_reads' HO487.out).1.symm]; exact (Kd.R_reads' HO487.out).2.1); rintro e w29 ⟨rfl, hb⟩; refine ⟨_, rfl, ?_⟩; replace HO482 := aRb HO482 hb; replace HO487 := aRb HO487 hb; replace BK478 := aBb BK478 hb; replace BK479 := aBb BK479 hb; replace HB := aBs HB hb; (try clear hb hk hi)) | ((with_reducible refine gate_dst (N := 12) rfl ?_); refine aBox 12 #[.int .i64 0, .int .i64 0] 42 ?_; intro gb492 hg w30 hbox hb; replace HO482 := aRb HO482 hb; replace HO487 := aRb HO487 hb; have BK492 := Aside0.mk (hbox); have GW492 := aGe hg HB; have GE492 := aGe hg HB; replace HB := aBs HB hb; have NB478_492 := aNl hg BK478; have NB492_478 := aNg hg BK478; replace BK478 := aBb BK478 hb; have NB479_492 := aNl hg BK479; have NB492_479 := aNg hg BK479; replace BK479 := aBb BK479 hb; clear hb hbox hg; have hnb31 := NB492_478.out; have hnc31 := NB478_492.out; have hnb32 := NB492_479.out; have hnc32 := NB479_492.out; obtain ⟨⟨hcz33_0, hcz33_1⟩, hfz33_0, hfz33_1⟩ := aC2 BK492; obtain ⟨⟨hcz34_0, hcz34_1⟩, hfz34_0, hfz34_1⟩ := aC2 BK479))
      refine bodyPost_ret (results_ct rfl _ _ gb479 42 #[.int .i64 (wrap64 (-t490)), .int .i64 (wrap64 (-t489))] (0, 0) _ rfl (by (with_reducible repeat (first | refine blk_drewN ?_ _ | refine blk_drew ?_ | refine blk_alloc ?_ _)); refine blk_put (cs := #[.int .i64 (wrap64 (-t490)), .int .i64 0]) ?_ 1 _ rfl; (with_reducible repeat (first | refine blk_drewN ?_ _ | refine blk_drew ?_ | refine blk_alloc ?_ _)); refine blk_put (cs := #[.int .i64 0, .int .i64 0]) ?_ 0 _ rfl; (with_reducible repeat (first | refine blk_drewN ?_ _ | refine blk_drew ?_ | refine blk_alloc ?_ _)); refine blk_far ?_ NB479_492.out _; (with_reducible repeat (first | refine blk_drewN ?_ _ | refine blk_drew ?_ | refine blk_alloc ?_ _)); refine blk_far ?_ NB479_492.out _; (with_reducible repeat (first | refine blk_drewN ?_ _ | refine blk_drew ?_ | refine blk_alloc ?_ _)); exact BK479.out) Try.underlying42 rfl (by kernel_rfl)) rfl ?_
      exact ⟨by first | rfl | (simp [errW_none, errW_some] <;> rfl) | (simp only [← hji10]; first | rfl | (simp [errW_none, errW_some] <;> rfl)) | (simp [*, errW_none, errW_some] <;> rfl), (aBl HB).out⟩
     ·rw [if_neg c12] at H
      exact absurd H (by simp)
    ·rw [if_neg c11] at H
     exact absurd H (by simp)
   ·rw [if_neg c9] at H
    exact absurd H (by simp)
  ·rw [if_neg c8] at H
   exact absurd H (by simp)
 ·rw [if_neg c6] at H
  obtain ⟨c6b0, c6b1⟩ := aNe c6
  simp only [Option.some.injEq, Prod.mk.injEq] at H
  obtain ⟨rfl, rfl, rfl⟩ := H
  go_enter Try.func52, Try.ntmps52
  go_wp2_with (first | ((with_reducible refine gate_dst (N := 4) rfl ?_); refine aBox 4 #[.int .i64 a0_0, .int .i64 a0_1, .bool a0_2, .slice A0_3 l0_3.length c0_3] 24 ?_; intro gb478 hg w35 hbox hb; have BK478 := Aside0.mk (hbox); have GW478 := aGe hg HB; have GE478 := aGe hg HB; replace HB := aBs HB hb; clear hb hbox hg) | ((with_reducible refine gate_dst (N := 8) rfl ?_); refine aBox 8 #[.int .i64 0, .int .i64 0] 42 ?_; intro gb479 hg w36 hbox hb; have BK479 := Aside0.mk (hbox); have GW479 := aGe hg HB; have GE479 := aGe hg HB; replace HB := aBs HB hb; have NB478_479 := aNl hg BK478; have NB479_478 := aNg hg BK478; replace BK478 := aBb BK478 hb; clear hb hbox hg; have hnb37 := NB478_479.out; have hnc37 := NB479_478.out; obtain ⟨⟨hcz38_0, hcz38_1, hcz38_2, hcz38_3⟩, hfz38_0, hfz38_1, hfz38_2, hfz38_3⟩ := aC4 BK478) | ((with_reducible refine gate_dst (N := 18) rfl ?_); refine Kd.R_lit (Kd.int .i64) _ 3 ?hg (N := 18) ?hd (xs := ([a2, a3] : List Int)) (inner := [.int .i64 a2, .int .i64 a3]) (ok := fun _ => True) (okp := fun _ => True) ?hr ?hp (fun _ hk => hk) trivial (Below.refl _ _) (Nat.le_refl _) (by simp) ?_; (case hd => rfl); (case hg => rfl); (case hr => first | (go_simp; done) | (go_simp; rfl)); (case hp => exact (Reps.one (show Kd.M (Kd.int .i64) _ _ _ a2 [.int .i64 a2] from rfl) (Reps.one (show Kd.M (Kd.int .i64) _ _ _ a3 [.int .i64 a3] from rfl) (Reps.none _ _)))); intro v481 w39 ho40 hb hg_ hnew_; clear hg_ hnew_; (first | rw [← Ny480.out] at ho40 | (simp only [Int.reduceToNat] at ho40; rw [← Ny480.out] at ho40)); have HO482 := Aside0.mk (Kd.R_lower ho40 (below_size (aBl HB).out)); replace BK478 := aBb BK478 hb; replace BK479 := aBb BK479 hb; replace HB := aBs HB hb; clear hb ho40; obtain ⟨Ao41, co41, eo41⟩ := Kd.R_slice HO482.out; subst eo41) | ((with_reducible refine gate_callee (f := 91) rfl ?_); refine goesL_ (some 19) rfl rfl Try.func91 (by kernel_rfl) rfl #[.agg #[.int .i64 a0_0, .int .i64 a0_1, .bool a0_2, .slice A0_3 l0_3.length c0_3], .int .i64 a1, .slice Ao41 y480.length co41] rfl aA ?_; (with_reducible refine (field_apart.calls k a0_0 a0_1 a0_2 _ _ l0_3 a1 _ _ y480 t483 _ ?side1 ?side2 ?side3 ?side4 A5.out).mono ?_); (case side1 => exact aC HR0_3 HB); (case side2 => exact HC0_3.out); (case side3 => repeat (first | exact (Kd.R_reads' HO482.out).2.2 | (with_reducible refine Kd.C_alloc ?_ _) | (with_reducible refine Kd.C_drewN ?_ _) | (with_reducible refine Kd.C_drew ?_))); (case side4 => exact (Kd.R_reads' HO482.out).2.1); rintro e w42 ⟨rfl, hb⟩; refine ⟨_, rfl, ?_⟩; replace HO482 := aRb HO482 hb; replace BK478 := aBb BK478 hb; replace BK479 := aBb BK479 hb; replace HB := aBs HB hb; (try clear hb hk hi); obtain ⟨⟨hcz43_0, hcz43_1⟩, hfz43_0, hfz43_1⟩ := aC2 BK479))
  refine bodyPost_ret (results_ct rfl _ _ gb479 42 #[.int .i64 0, .int .i64 0] (0, 0) _ rfl (by (with_reducible repeat (first | refine blk_drewN ?_ _ | refine blk_drew ?_ | refine blk_alloc ?_ _)); refine blk_put (cs := #[.int .i64 0, .int .i64 0]) ?_ 1 _ rfl; (with_reducible repeat (first | refine blk_drewN ?_ _ | refine blk_drew ?_ | refine blk_alloc ?_ _)); refine blk_put (cs := #[.int .i64 0, .int .i64 0]) ?_ 0 _ rfl; (with_reducible repeat (first | refine blk_drewN ?_ _ | refine blk_drew ?_ | refine blk_alloc ?_ _)); exact BK479.out) Try.underlying42 rfl (by kernel_rfl)) rfl ?_
  exact ⟨by first | rfl | (simp [*] <;> rfl), (aBl HB).out⟩
theorem contains_ev (l : List Int) (b : Int) (hl : l.length ≤ 1000000) {k : Nat} (hk : l.length + 1 ≤ k) : slices_Contains_int_int.f k l b = some (l.contains b) :=
 at_rounds (g := fun k => slices_Contains_int_int.f k l b) (fun k => slices_Contains_int_int.mono l b k) hk (contains_int l b hl rfl)
theorem has_ev (W H : Int) (R : Bool) (C : List Int) (e : Int) (hl : C.length ≤ 1000000) {k : Nat} (hk : C.length + 1 ≤ k) : field_has.f k W H R C e = some (hasB C e) := by
 obtain ⟨d, rfl⟩ : ∃ d, k = C.length + 1 + d := ⟨k - (C.length + 1), by omega⟩
 exact has_eq W H R C e hl d
def dupFrom (l : List Int) (i : Nat) : Nat → Bool
 | 0 => false
 | d + 1 => (l.take i).contains (fn l i) || dupFrom l (i + 1) d
def apartErr (W H : Int) (R : Bool) (C : List Int) (n : Int) (l : List Int) : Int :=
 if checkErr W H R C ≠ 0 then checkErr W H R C else if n < 0 ∨ 200 < n then 2 else if l.all (hasB C) = false then 7 else if dupFrom l 0 l.length = true then 9 else 0
theorem apart_l1 (l : List Int) (hl : l.length ≤ 1000) : ∀ (d i k : Nat), i + d = l.length → d + l.length + 2 ≤ k → field_apart.l1 k l l (l.length : Int) (i : Int) = some (if dupFrom l i d = true then 9 else 0)
 | 0, i, k, h, hk => by
  obtain ⟨k, rfl⟩ : ∃ k', k = k' + 1 := ⟨k - 1, by omega⟩
  rw [field_apart.l1, if_neg (by omega), dupFrom, if_neg (by simp)]
 | d + 1, i, k, h, hk => by
  obtain ⟨k, rfl⟩ : ∃ k', k = k' + 1 := ⟨k - 1, by omega⟩
  have hw : wrap64 ((i : Int) + 1) = ((i + 1 : Nat) : Int) := by rw [IntWalk.wrap64_in _ (by omega)]; omega
  rw [field_apart.l1, if_pos (by omega), if_pos (by omega), if_pos (by omega), if_pos (by omega), Int.toNat_natCast, rd_fn l i (by omega), obind (contains_ev _ _ (by rw [List.length_take]; omega) (by rw [List.length_take]; omega)), dupFrom]
  cases q : (l.take i).contains (fn l i) with
  | true => rw [if_pos rfl, if_pos (by simp)]
  | false =>
   rw [if_neg (by simp), hw, apart_l1 l hl d (i + 1) k (by omega) (by omega), Bool.false_or]
theorem apart_l0 (W H : Int) (R : Bool) (C l : List Int) (hC : C.length ≤ 1000) (hl : l.length ≤ 1000) : ∀ (d i k : Nat), i + d = l.length → d + 2 * l.length + C.length + 5 ≤ k →
  field_apart.l0 k l l (l.length : Int) (i : Int) W H R C = some (if (l.drop i).all (hasB C) = false then 7 else if dupFrom l 0 l.length = true then 9 else 0)
 | 0, i, k, h, hk => by
  obtain ⟨k, rfl⟩ : ∃ k', k = k' + 1 := ⟨k - 1, by omega⟩
  have h1 := apart_l1 l hl l.length 0 k (by omega) (by omega)
  rw [field_apart.l0, if_neg (by omega), List.drop_eq_nil_of_le (by omega)]
  exact h1
 | d + 1, i, k, h, hk => by
  obtain ⟨k, rfl⟩ : ∃ k', k = k' + 1 := ⟨k - 1, by omega⟩
  have hw : wrap64 ((i : Int) + 1) = ((i + 1 : Nat) : Int) := by rw [IntWalk.wrap64_in _ (by omega)]; omega
  have hil : i < l.length := by omega
  have e : fn l i = l[i] := by unfold fn; rw [List.getD_eq_getElem?_getD, List.getElem?_eq_getElem hil]; rfl
  rw [field_apart.l0, if_pos (by omega), if_pos (by omega), if_pos (by omega), rd_fn l i hil, obind (has_ev W H R C _ (by omega) (by omega)), List.drop_eq_getElem_cons hil, List.all_cons, ← e]
  cases q : hasB C (fn l i) with
  | true => rw [if_pos rfl, hw, apart_l0 W H R C l hC hl d (i + 1) k (by omega) (by omega), Bool.true_and]
  | false => rw [if_neg (by simp), if_pos (by simp)]
theorem apart_eq (W H : Int) (R : Bool) (C l : List Int) (n : Int) (hC : C.length ≤ 1000) (hl : l.length ≤ 1000) {k : Nat} (hk : 3 * l.length + C.length + 6 ≤ k) : field_apart.f k W H R C n l = some (apartErr W H R C n l) := by
 obtain ⟨k, rfl⟩ : ∃ k', k = k' + 1 := ⟨k - 1, by omega⟩
 unfold field_apart.f apartErr
 rw [obind (show field_Check.f W H R C = some (checkErr W H R C) from rfl)]
 by_cases q : checkErr W H R C = 0
 ·rw [if_pos q, if_neg (show ¬ checkErr W H R C ≠ 0 from fun f => f q)]
  by_cases r : n < 0
  ·rw [if_pos r, field_apart.j0, if_pos rfl, if_pos (.inl r)]
  ·rw [if_neg r, field_apart.j0]
   by_cases t : n > 200
   ·rw [if_pos (by simpa using t), if_pos (.inr t)]
   ·have h0 := apart_l0 W H R C l hC hl l.length 0 k (by omega) (by omega)
    rw [List.drop_zero] at h0
    rw [if_neg (by simpa using t), if_neg (by omega)]
    exact h0
 ·rw [if_neg q, if_pos q]
theorem hasB_mem {C : List Int} {e : Int} : hasB C e = true ↔ 0 < e ∧ e ∈ C := by
 unfold hasB
 rw [Bool.and_eq_true, decide_eq_true_eq, List.contains_iff_mem]
theorem apart_two {W H : Int} {R : Bool} {C : List Int} {n a b : Int} (hck : checkErr W H R C = 0) (hn : 0 ≤ n ∧ n ≤ 200) (hab : a ≠ b) : apartErr W H R C n [a, b] = if hasB C a = true ∧ hasB C b = true then 0 else 7 := by
 unfold apartErr
 rw [if_neg (by simpa using hck), if_neg (by omega)]
 by_cases q : hasB C a = true ∧ hasB C b = true
 ·rw [if_pos q, if_neg (by simp [q.1, q.2]), if_neg]
  simp [dupFrom, fn, Ne.symm hab]
 ·rw [if_neg q, if_pos]
  simp only [List.all_cons, List.all_nil, Bool.and_true]
  cases h1 : hasB C a <;> cases h2 : hasB C b <;> simp_all
theorem unit_right {W H : Int} {R : Bool} {C : List Int} {m : Nat} {a : Int} (hck : checkErr W H R C = 0) (hm : maxOf C = m) (ha : 1 ≤ a ∧ a ≤ m) : voltErr W H R C (unitV m a 1000000) = 0 := by
 unfold voltErr
 rw [if_neg (by simpa using hck), if_neg (by unfold unitV; rw [List.length_set, List.length_replicate, hm]; simp), if_neg]
 rintro ⟨v, hv, hb⟩
 obtain ⟨i, hi, rfl⟩ := mem_fn hv
 rw [fn_unitV ha] at hb
 split at hb <;> omega
theorem has_max {C : List Int} {m : Nat} {a : Int} (hm : maxOf C = m) (h : hasB C a = true) : 1 ≤ a ∧ a ≤ m := by
 obtain ⟨h1, h2⟩ := hasB_mem.1 h
 have := le_maxOf h2
 omega
theorem influence_eq {W H : Nat} {R : Bool} {C : List Int} {n m : Nat} {a b : Int} (hck : checkErr W H R C = 0) (hn : n ≤ 200) (hab : a ≠ b) (hm : maxOf C = m) (ha : hasB C a = true) (hb : hasB C b = true) {k : Nat} (hk : C.length + 12 ≤ k) :
  ∃ (hV : Volted W H R C (unitV m a 1000000)), C.length ≤ 256 ∧ field_Influence.f k W H R C n a b = some (inflow W H R C b (solveN W H R C (unitV m a 1000000) 256 n).1, inflow W H R C b (solveN W H R C (unitV m a 1000000) 256 n).2.1, 0) := by
 have ha' := has_max hm ha
 have hb' := has_max hm hb
 have hv := unit_right hck hm ha'
 obtain ⟨W', H', eW, eH, hW16, hH16, h256, _, hV⟩ := volted_of hv
 obtain rfl : W = W' := by omega
 obtain rfl : H = H' := by omega
 refine ⟨hV, h256, ?_⟩
 have hne := check_ne hck
 have hm6 : m ≤ 6 := by
  obtain ⟨i, hi, e⟩ := mem_fn (maxOf_mem hne)
  have := (hV.elr i hi).2
  omega
 have hp := solve_pair hV h256 n
 have hr := fun j (hj : j < C.length) => solve_range hV h256 n hj
 obtain ⟨t1, t2⟩ := bounds_len hV h256 n
 have hs := solve_eq (n := n) hv hn
 have hz : ∀ i, i < W * H → fn C i = b → volt C (unitV m a 1000000) i = 0 := fun i hi e => by
  rw [volt_unitV ha' (by rw [e]; omega), if_neg (by rw [e]; exact Ne.symm hab)]
 have hub : fn (unitV m a 1000000) (b.toNat - 1) = 0 := by rw [fn_unitV ha', if_neg (by omega)]
 have hlo : ∀ i, i < W * H → fn C i = b → fn (solveN W H R C (unitV m a 1000000) 256 n).1 i = 0 := fun i hi e => by
  rw [hp.low.1.el i (by rw [hV.len]; exact hi) (by omega)]; exact hz i hi e
 have hhi : ∀ i, i < W * H → fn C i = b → fn (solveN W H R C (unitV m a 1000000) 256 n).2.1 i = 0 := fun i hi e => by
  rw [hp.high.1.el i (by rw [hV.len]; exact hi) (by omega)]; exact hz i hi e
 have hlen := hV.len
 obtain ⟨A, hA⟩ : ∃ A, solveN W H R C (unitV m a 1000000) 256 n = A := ⟨_, rfl⟩
 rw [hA] at hr t1 t2 hs hlo hhi ⊢
 have c1 : chTo W H R C b 0 (A.1.take C.length) C.length = - inflow W H R C b A.1 := by
  have e := chTo_inflow (W := W) (H := H) (R := R) (C := C) (k := b) (b := A.1.take C.length) (fun i hi e => by rw [fn_take (by omega)]; exact hlo i hi e)
  rw [← hlen] at e
  rw [e]
  unfold inflow
  congr 1
  refine sumTo_congr (fun i hi => ?_)
  by_cases q : fn C i = b
  ·rw [if_pos q, if_pos q]; exact Net.S_congr i (fun j hj => fn_take (by rw [hlen]; exact hj))
  ·rw [if_neg q, if_neg q]
 have c2 : chTo W H R C b 0 (A.2.1.take C.length) C.length = - inflow W H R C b A.2.1 := by
  have e := chTo_inflow (W := W) (H := H) (R := R) (C := C) (k := b) (b := A.2.1.take C.length) (fun i hi e => by rw [fn_take (by omega)]; exact hhi i hi e)
  rw [← hlen] at e
  rw [e]
  unfold inflow
  congr 1
  refine sumTo_congr (fun i hi => ?_)
  by_cases q : fn C i = b
  ·rw [if_pos q, if_pos q]; exact Net.S_congr i (fun j hj => fn_take (by rw [hlen]; exact hj))
  ·rw [if_neg q, if_neg q]
 have d1 := chTo_bound (W := W) (H := H) (R := R) (C := C) (e := b) (u := 0) (b := A.1.take C.length) (by omega) hW16 (fun j hj => by rw [fn_take (by omega)]; exact (hr j (by omega)).1) C.length (by omega)
 have d2 := chTo_bound (W := W) (H := H) (R := R) (C := C) (e := b) (u := 0) (b := A.2.1.take C.length) (by omega) hW16 (fun j hj => by rw [fn_take (by omega)]; exact (hr j (by omega)).2) C.length (by omega)
 have hch : field_Charge.f W H R C (unitV m a 1000000) n b = some (chTo W H R C b 0 (A.2.1.take C.length) C.length, chTo W H R C b 0 (A.1.take C.length) C.length, 0) := by
  unfold field_Charge.f
  rw [obind hs]
  show (if (0 : Int) ≠ 0 then _ else if hasB C b = false then _ else _) = _
  rw [if_neg (by simp), if_neg (by rw [hb]; simp), hub, Int.toNat_natCast, Int.toNat_natCast]
 rw [c1, c2] at hch
 rw [c1] at d1
 rw [c2] at d2
 have hap : apartErr W H R C n [a, b] = 0 := by rw [apart_two hck (by omega) hab]; exact if_pos ⟨ha, hb⟩
 unfold field_Influence.f
 rw [obind (apart_eq W H R C [a, b] n (by omega) (by simp) (by simp; omega)), hap, if_pos rfl]
 have hmx : slices_Max_int_int.f C = some (m : Int) := by unfold slices_Max_int_int.f; rw [if_neg hne, hm]
 have hwa : wrap64 (a - 1) = a - 1 := IntWalk.wrap64_in _ (by omega)
 rw [obind hmx, if_pos (by omega), Int.toNat_natCast, if_pos (by omega), obind rfl, hwa, if_pos (by omega), if_pos (by rw [List.length_replicate]; omega)]
 have hu : (List.replicate m (0 : Int)).set (a - 1).toNat 1000000 = unitV m a 1000000 := by
  unfold unitV
  rw [show (a - 1).toNat = a.toNat - 1 by omega]
 rw [hu, obind hch]
 show some (wrap64 (- - inflow W H R C b A.1), wrap64 (- - inflow W H R C b A.2.1), (0 : Int)) = _
 rw [IntWalk.wrap64_in _ (by omega), IntWalk.wrap64_in _ (by omega), Int.neg_neg, Int.neg_neg]
theorem influence_both {W H : Nat} {R : Bool} {C : List Int} {n n' m : Nat} {a b : Int} (hm : maxOf C = m) (ha : hasB C a = true) (hb : hasB C b = true) (h256 : C.length ≤ 256)
  (hV : Volted W H R C (unitV m a 1000000)) (hV' : Volted W H R C (unitV m b 1000000)) :
  inflow W H R C b (solveN W H R C (unitV m a 1000000) 256 n).1 ≤ inflow W H R C a (solveN W H R C (unitV m b 1000000) 256 n').2.1 ∧ 0 ≤ inflow W H R C b (solveN W H R C (unitV m a 1000000) 256 n).1 := by
 have ha' := has_max hm ha
 have hb' := has_max hm hb
 have z : ∀ c, 1 ≤ c ∧ c ≤ (m : Int) → ∀ i, i < C.length → 0 < fn C i → 0 ≤ volt C (unitV m c 1000000) i := fun c hc i _ hp => by
  rw [volt_unitV hc hp]; split <;> omega
 have l0 := fun i (hi : i < W * H) => (solve_nonneg hV (z a ha') h256 n hi).1
 have h0 := fun i (hi : i < W * H) => (solve_nonneg hV' (z b hb') h256 n' hi).2
 exact ⟨there_back (by omega) ha' hb' hV (solve_pair hV h256 n).low (solve_pair hV' h256 n').high l0 h0, inflow_nonneg l0⟩

end Go.Proofs.Ytndkkjpgnmahbaa.Print
end

section
namespace Go.Proofs.Field
open Go.RowKit YtndkkjpgnmahbaaW.PrintWords YtndkkjpgnmahbaaW.PrintLast YtndkkjpgnmahbaaW.PrintMore Go.Proofs.Ytndkkjpgnmahbaa.Print
def colOf (W : Nat) (dx : Int) (i : Nat) : Int := wrap64 (((i % W : Nat) : Int) + dx)
def linOf (W : Nat) (dy : Int) (i : Nat) : Int := wrap64 (((i / W : Nat) : Int) + dy)
def fitsB (W H : Nat) (dx dy : Int) (i : Nat) : Bool := decide (0 ≤ colOf W dx i ∧ colOf W dx i < W ∧ 0 ≤ linOf W dy i ∧ linOf W dy i < H)
def tgt (W : Nat) (dx dy : Int) (i : Nat) : Nat := (linOf W dy i).toNat * W + (colOf W dx i).toNat
def clearTo (C : List Int) (e : Int) : Nat → List Int
 | 0 => C
 | n + 1 => if fn C n = e then (clearTo C e n).set n 0 else clearTo C e n
def tosTo (W : Nat) (C : List Int) (e dx dy : Int) : Nat → List Int
 | 0 => []
 | n + 1 => if fn C n = e then tosTo W C e dx dy n ++ [((tgt W dx dy n : Nat) : Int)] else tosTo W C e dx dy n
def putTo (l : List Int) (e : Int) (out : List Int) : Nat → List Int
 | 0 => out
 | n + 1 => (putTo l e out n).set (fn l n).toNat e
theorem clearTo_length (C : List Int) (e : Int) : ∀ n, (clearTo C e n).length = C.length
 | 0 => rfl
 | n + 1 => by rw [clearTo]; split <;> simp [clearTo_length C e n]
theorem putTo_length (l : List Int) (e : Int) (out : List Int) : ∀ n, (putTo l e out n).length = out.length
 | 0 => rfl
 | n + 1 => by rw [putTo, List.length_set, putTo_length]
theorem tosTo_length (W : Nat) (C : List Int) (e dx dy : Int) : ∀ n, (tosTo W C e dx dy n).length ≤ n
 | 0 => Nat.le_refl _
 | n + 1 => by
  have := tosTo_length W C e dx dy n
  rw [tosTo]
  split
  ·rw [List.length_append]; simp; omega
  ·omega
theorem tgt_lt {W H : Nat} {dx dy : Int} {i : Nat} (h : fitsB W H dx dy i = true) : tgt W dx dy i < W * H := by
 unfold fitsB at h
 have h := of_decide_eq_true h
 obtain ⟨c, hc⟩ : ∃ c : Nat, colOf W dx i = c := ⟨(colOf W dx i).toNat, by omega⟩
 obtain ⟨l, hl⟩ : ∃ l : Nat, linOf W dy i = l := ⟨(linOf W dy i).toNat, by omega⟩
 unfold tgt
 rw [hc, hl] at h ⊢
 simp only [Int.toNat_natCast]
 have h1 : (l + 1) * W ≤ H * W := Nat.mul_le_mul_right W (by omega)
 rw [Nat.add_mul, Nat.mul_comm H W] at h1
 omega
def AllFit (W H : Nat) (C : List Int) (e dx dy : Int) (n : Nat) : Prop := ∀ i, i < n → fn C i = e → fitsB W H dx dy i = true
theorem tos_range {W H : Nat} {C : List Int} {e dx dy : Int} : ∀ {n : Nat}, AllFit W H C e dx dy n → ∀ t, t ∈ tosTo W C e dx dy n → ∃ k : Nat, t = k ∧ k < W * H
 | 0, _, t, h => by simp [tosTo] at h
 | n + 1, hf, t, h => by
  have ih := tos_range (n := n) (fun i hi he => hf i (by omega) he) t
  rw [tosTo] at h
  split at h
  next q =>
   rcases List.mem_append.1 h with h | h
   ·exact ih h
   ·exact ⟨_, List.mem_singleton.1 h, tgt_lt (hf n (by omega) q)⟩
  next => exact ih h
def unfitB (W H : Nat) (C : List Int) (e dx dy : Int) : Bool := (List.range C.length).any (fun i => decide (fn C i = e) && !fitsB W H dx dy i)
def takenB (C l : List Int) (e : Int) : Bool := l.any (fun t => decide (fn C t.toNat ≠ 0) && decide (fn C t.toNat ≠ e))
def shOut (W : Nat) (C : List Int) (e dx dy : Int) : List Int := putTo (tosTo W C e dx dy C.length) e (clearTo C e C.length) (tosTo W C e dx dy C.length).length
def shiftE (W H : Int) (R : Bool) (C : List Int) (e dx dy : Int) : Int × Int × Bool × List Int × Int :=
 if checkErr W H R C ≠ 0 then (0, 0, false, [], checkErr W H R C) else if hasB C e = false then (0, 0, false, [], 7) else
 if unfitB W.toNat H.toNat C e dx dy = true then (0, 0, false, [], 2) else if takenB C (tosTo W.toNat C e dx dy C.length) e = true then (0, 0, false, [], 9) else
 if checkErr W H R (shOut W.toNat C e dx dy) ≠ 0 then (0, 0, false, [], checkErr W H R (shOut W.toNat C e dx dy)) else (W, H, R, shOut W.toNat C e dx dy, 0)
theorem unfit_at {W H : Nat} {C : List Int} {e dx dy : Int} {i : Nat} (hi : i < C.length) (he : fn C i = e) (h : fitsB W H dx dy i = false) : unfitB W H C e dx dy = true := by
 unfold unfitB
 rw [List.any_eq_true]
 exact ⟨i, List.mem_range.2 hi, by rw [h, he]; simp⟩
theorem unfit_none {W H : Nat} {C : List Int} {e dx dy : Int} (h : AllFit W H C e dx dy C.length) : unfitB W H C e dx dy = false := by
 unfold unfitB
 rw [List.any_eq_false]
 intro i hi
 have hi := List.mem_range.1 hi
 by_cases q : fn C i = e
 ·rw [h i hi q]; simp
 ·simp [q]
theorem taken_at {C l : List Int} {e : Int} {j : Nat} (hj : j < l.length) (h1 : fn C (fn l j).toNat ≠ 0) (h2 : fn C (fn l j).toNat ≠ e) : takenB C l e = true := by
 unfold takenB
 rw [List.any_eq_true]
 exact ⟨fn l j, fn_mem hj, by simp [h1, h2]⟩
theorem taken_none {C l : List Int} {e : Int} (h : ∀ j, j < l.length → fn C (fn l j).toNat = 0 ∨ fn C (fn l j).toNat = e) : takenB C l e = false := by
 unfold takenB
 rw [List.any_eq_false]
 intro t ht
 obtain ⟨j, hj, rfl⟩ := mem_fn ht
 rcases h j hj with q | q
 ·simp [q]
 ·simp [q]
end Go.Proofs.Field
namespace Go.Proofs.Ytndkkjpgnmahbaa.Print
open Go.RowKit YtndkkjpgnmahbaaW.PrintWords YtndkkjpgnmahbaaW.PrintLast YtndkkjpgnmahbaaW.PrintMore Ytndkkjpgnmahbaa.H Proofs.Field
structure ShM (w W : World) (l : List (Nat × Array Value × TypeId)) (gO N cO : Nat) (out : List Int) (vT : Value) (tl : List Int) : Prop where
 m : Mem w W l
 o : Kd.R (Kd.int .i64) 3 W w.heap.size (fun _ => True) (.slice (some ⟨gO, 0, none⟩) N cO) out
 t : Kd.R (Kd.int .i64) 3 W w.heap.size (fun k => k ≠ gO) vT tl
 t24 : ∀ p, p ∈ l → p.2.2 = 24
namespace ShM
variable {w W W1 : World} {l : List (Nat × Array Value × TypeId)} {gO N cO : Nat} {out : List Int} {vT : Value} {tl : List Int}
theorem ne (h : ShM w W l gO N cO out vT tl) : ∀ p, p ∈ l → p.1 ≠ gO := fun p hp e => by
 have h1 := h.m.blk p hp
 rw [h.t24 p hp] at h1
 exact Kd.R_ne h.o h1 (by decide) (by rw [e]; rfl)
theorem gO_ge (h : ShM w W l gO N cO out vT tl) : w.heap.size ≤ gO := Kd.R_base h.o gO rfl
theorem step (h : ShM w W l gO N cO out vT tl) (hb : Below W.heap.size W W1) : ShM w W1 l gO N cO out vT tl := ⟨h.m.step hb, Kd.R_below h.o hb, Kd.R_below h.t hb, h.t24⟩
theorem put (h : ShM w W l gO N cO out vT tl) (i : Nat) (x : Int) : ShM w (W.setCell ⟨gO, i, none⟩ (.int .i64 x)) l gO N cO (out.set i x) vT tl := by
 refine ⟨⟨below_set h.m.below h.gO_ge, fun p hp => blk_far (p := ⟨gO, i, none⟩) (h.m.blk p hp) (h.ne p hp) _, h.m.ge, h.m.apart⟩, ?_, Kd.R_far (p := ⟨gO, i, none⟩) h.t (fun k hk => hk) _, h.t24⟩
 have h1 := Kd.R_putn (enc := Value.int .i64) (h1 := fun _ => rfl) h.o (i : Int) x
 rw [Int.toNat_natCast] at h1
 exact h1
theorem app {v1 : Value} {tl1 : List Int} (h : ShM w W l gO N cO out vT tl) (hR : Kd.R (Kd.int .i64) 3 W1 w.heap.size (fun k => k ≠ gO) v1 tl1) (hg : W.grownBy W1 vT.ownBlock) : ShM w W1 l gO N cO out v1 tl1 := by
 refine ⟨h.m.grown hg (fun k hk => Kd.R_base h.t k hk) (fun p hp => ?_), Kd.R_grown2 h.o rfl hg (fun k hk e => ?_), hR, h.t24⟩
 ·have h1 := h.m.blk p hp
  rw [h.t24 p hp] at h1
  exact Kd.R_ne h.t h1 (by decide)
 ·have h1 := h.t.1 k hk
  injection e with e
  exact h1 e
theorem cell (h : ShM w W l gO N cO out vT tl) {i : Nat} (hi : i < N) : W.cell? ⟨gO, i, none⟩ = some (.int .i64 (fn out i)) ∧ W.frozen? ⟨gO, i, none⟩ = false := by
 have h1 := Kd.R_celln (enc := Value.int .i64) (h1 := fun _ => rfl) (0 : Int) h.o (i : Int) (by omega) (by omega)
 rw [Int.toNat_natCast] at h1
 refine ⟨h1.1.trans ?_, h1.2⟩
 unfold fn
 simp [rdOf]
theorem fresh (h : ShM w W l gO N cO out vT tl) : ∀ k, W.heap.size ≤ k → k ≠ gO := fun k hk e => by
 subst e
 have := Kd.R_lt h.o k rfl
 omega
end ShM
end Go.Proofs.Ytndkkjpgnmahbaa.Print
end

section
namespace Go.Proofs.Ytndkkjpgnmahbaa.Print
open Go.RowKit YtndkkjpgnmahbaaW.PrintWords YtndkkjpgnmahbaaW.PrintLast YtndkkjpgnmahbaaW.PrintMore Ytndkkjpgnmahbaa.H Proofs.Field
def thermionref01_Copy.f (a0_0 : Int) (a0_1 : Int) (a0_2 : Bool) (l0_3 : List Int) : Option (Int × Int × Bool × List Int) := (some (([] : List Int) : List Int)).bind fun y227 => (if y227.length + l0_3.length < 17592186044416 then (some (a0_0, a0_1, a0_2, (y227 ++ l0_3))) else (none))
theorem thermionref01_Copy.calls (a0_0 : Int) (a0_1 : Int) (a0_2 : Bool) (A0_3 : Option Addr) (c0_3 : Nat) (l0_3 : List Int) (r1 : Int) (r2 : Int) (r3 : Bool) (r4 : List Int) (w : World) (hr0_3 : Kd.C (Kd.int .i64) w A0_3 l0_3.length l0_3) (hc0_3 : l0_3.length ≤ c0_3) (h : thermionref01_Copy.f a0_0 a0_1 a0_2 l0_3 = some (r1, r2, r3, r4)) :
  Calls Try.prog 24 #[.agg #[.int .i64 a0_0, .int .i64 a0_1, .bool a0_2, .slice A0_3 l0_3.length c0_3]] w fun e w' => ∃ v3_ : Value, e = .returned (.agg #[.int .i64 r1, .int .i64 r2, .bool r3, v3_]) ∧ Kd.R (Kd.int .i64) 3 w' w.heap.size (fun _ => True) v3_ r4 ∧ Below w.heap.size w w' := by
 have hu24 := Try.underlying24
 have HR0_3 := Aside0.mk hr0_3
 have HC0_3 := Aside0.mk hc0_3
 clear hr0_3 hc0_3
 have HB := Aside0.mk (Below.refl w.heap.size w)
 have H : ((some (([] : List Int) : List Int)).bind fun y227 => (if y227.length + l0_3.length < 17592186044416 then (some (a0_0, a0_1, a0_2, (y227 ++ l0_3))) else (none))) = some (r1, r2, r3, r4) := h
 clear h
 obtain ⟨y227, hy227⟩ : ∃ y_ : List Int, y_ = (([] : List Int)) := ⟨_, rfl⟩
 replace H : (if y227.length + l0_3.length < 17592186044416 then (some (a0_0, a0_1, a0_2, (y227 ++ l0_3))) else (none)) = some (r1, r2, r3, r4) := by first | (rw [hy227]; with_reducible exact H) | (have H2_ := (Option.bind_some _ _).symm.trans H; rw [hy227]; with_reducible exact H2_) | (have H2_ := (Option.bind_some _ _).symm.trans H; with_reducible exact H2_) | with_reducible exact H | (rw [hy227]; exact H) | exact H
 have Ny227 := Aside0.mk hy227
 clear hy227
 by_cases c2 : y227.length + l0_3.length < 17592186044416
 ·rw [if_pos c2] at H
  have LMc2 := Aside0.mk c2
  clear c2
  obtain ⟨y230, hy230⟩ : ∃ y_ : List Int, y_ = (y227 ++ l0_3) := ⟨_, rfl⟩
  replace H : (some (a0_0, a0_1, a0_2, y230)) = some (r1, r2, r3, r4) := by first | (rw [hy230]; with_reducible exact H) | (have H2_ := (Option.bind_some _ _).symm.trans H; rw [hy230]; with_reducible exact H2_) | (have H2_ := (Option.bind_some _ _).symm.trans H; with_reducible exact H2_) | with_reducible exact H | (rw [hy230]; exact H) | exact H
  have Ny230 := Aside0.mk hy230
  clear hy230
  simp only [Option.some.injEq, Prod.mk.injEq] at H
  obtain ⟨rfl, rfl, rfl, rfl⟩ := H
  go_enter Try.func24, Try.ntmps24
  go_wp2_with (first | ((with_reducible refine gate_dst (N := 1) rfl ?_); refine aBox 1 #[.int .i64 a0_0, .int .i64 a0_1, .bool a0_2, .slice A0_3 l0_3.length c0_3] 24 ?_; intro gb225 hg w3 hbox hb; have BK225 := Aside0.mk (hbox); have GW225 := aGe hg HB; have GE225 := aGe hg HB; replace HB := aBs HB hb; clear hb hbox hg) | ((with_reducible refine gate_dst (N := 2) rfl ?_); refine aBox 2 #[.int .i64 0, .int .i64 0, .bool false, .slice none 0 0] 24 ?_; intro gb226 hg w4 hbox hb; have BK226 := Aside0.mk (hbox); have GW226 := aGe hg HB; have GE226 := aGe hg HB; replace HB := aBs HB hb; have NB225_226 := aNl hg BK225; have NB226_225 := aNg hg BK225; replace BK225 := aBb BK225 hb; clear hb hbox hg) | ((with_reducible refine gate_dst (N := 3) rfl ?_); refine Kd.R_lit (Kd.int .i64) _ 3 ?hg (N := 3) ?hd (xs := ([] : List Int)) (inner := []) (ok := fun _ => True) (okp := fun _ => True) ?hr ?hp (fun _ hk => hk) trivial (Below.refl _ _) (Nat.le_refl _) (by simp) ?_; (case hd => rfl); (case hg => rfl); (case hr => first | (go_simp; done) | (go_simp; rfl)); (case hp => exact (Reps.none _ _)); intro v228 w5 ho6 hb hg_ hnew_; clear hg_ hnew_; (first | rw [← Ny227.out] at ho6 | (simp only [Int.reduceToNat] at ho6; rw [← Ny227.out] at ho6)); have HO229 := Aside0.mk (Kd.R_lower ho6 (below_size (aBl HB).out)); replace BK225 := aBb BK225 hb; replace BK226 := aBb BK226 hb; replace HB := aBs HB hb; clear hb ho6; have hnb7 := NB225_226.out; have hnc7 := NB226_225.out; obtain ⟨⟨hcz8_0, hcz8_1, hcz8_2, hcz8_3⟩, hfz8_0, hfz8_1, hfz8_2, hfz8_3⟩ := aC4 BK225) | ((with_reducible refine gate_builtin (b := .append) (xs := #[.tmp 3, .tmp 5]) rfl ?_); at_builtin; refine Kd.R_append_rows (Kd.int .i64) (w0 := w) w.heap.size rfl (.tmp 3) (.tmp 5) 22 3 (.int .i64 0) 8 rfl Try.underlying22 info3 rfl (by decide) (by omega) v228 y227 l0_3 _ _ _ (fun _ => True) (fun _ => False) rfl rfl ?aO ?aR (fun _ _ h => h) (fun _ h => h.elim) ?aF ?aB ?aS ?aL ?_; (case aR => exact aC HR0_3 HB); (case aB => exact (aBl HB).out); (case aF => exact (fun _ _ => trivial)); (case aO => exact (aRk HO229).out); (case aS => exact (below_size (aBl HB).out)); (case aL => have := LMc2.out; omega); intro v231 w9 ho hb hg hat; rw [← Ny230.out] at ho; replace BK225 := (aBg BK225 hg (Kd.R_ne HO229.out BK225.out (by decide))); replace BK226 := (aBg BK226 hg (Kd.R_ne HO229.out BK226.out (by decide))); replace HB := Aside0.mk (hb); have HO232 := Aside0.mk (ho); clear HO229; clear ho hb hg hat; obtain ⟨Ao10, co10, eo10⟩ := Kd.R_slice HO232.out; subst eo10; obtain ⟨⟨hcz11_0, hcz11_1, hcz11_2, hcz11_3⟩, hfz11_0, hfz11_1, hfz11_2, hfz11_3⟩ := aC4 BK225; obtain ⟨⟨hcz12_0, hcz12_1, hcz12_2, hcz12_3⟩, hfz12_0, hfz12_1, hfz12_2, hfz12_3⟩ := aC4 BK226))
  refine bodyPost_ret (results_cell_row rfl _ _ gb226 24 #[.int .i64 a0_0, .int .i64 a0_1, .bool a0_2, .slice Ao10 y230.length co10] (0, 0) _ rfl (by (with_reducible repeat (first | refine blk_drewN ?_ _ | refine blk_drew ?_ | refine blk_alloc ?_ _)); refine blk_put (cs := #[.int .i64 a0_0, .int .i64 a0_1, .bool a0_2, .slice none 0 0]) ?_ 3 _ rfl; (with_reducible repeat (first | refine blk_drewN ?_ _ | refine blk_drew ?_ | refine blk_alloc ?_ _)); refine blk_put (cs := #[.int .i64 a0_0, .int .i64 a0_1, .bool false, .slice none 0 0]) ?_ 2 _ rfl; (with_reducible repeat (first | refine blk_drewN ?_ _ | refine blk_drew ?_ | refine blk_alloc ?_ _)); refine blk_put (cs := #[.int .i64 a0_0, .int .i64 0, .bool false, .slice none 0 0]) ?_ 1 _ rfl; (with_reducible repeat (first | refine blk_drewN ?_ _ | refine blk_drew ?_ | refine blk_alloc ?_ _)); refine blk_put (cs := #[.int .i64 0, .int .i64 0, .bool false, .slice none 0 0]) ?_ 0 _ rfl; (with_reducible repeat (first | refine blk_drewN ?_ _ | refine blk_drew ?_ | refine blk_alloc ?_ _)); refine blk_far ?_ NB226_225.out _; (with_reducible repeat (first | refine blk_drewN ?_ _ | refine blk_drew ?_ | refine blk_alloc ?_ _)); exact BK226.out) Try.underlying24 rfl (by kernel_rfl)) rfl ?_
  exact ⟨_, by first | rfl | (simp [errW_none, errW_some] <;> rfl) | (simp [*, errW_none, errW_some] <;> rfl), by (with_reducible repeat (first | apply Kd.R_alloc | apply Kd.R_drewN | apply Kd.R_drew)); exact Kd.R_mono (Kd.R_far (p := ⟨gb226, 3, none⟩) (Kd.R_far (p := ⟨gb226, 2, none⟩) (Kd.R_far (p := ⟨gb226, 1, none⟩) (Kd.R_far (p := ⟨gb226, 0, none⟩) (Kd.R_far (p := ⟨gb225, 3, none⟩) (Kd.R_types (Kd.R_types HO232.out BK225.out (by decide)) BK226.out (by decide)) (fun _ hk => hk.1.2) (.slice Ao10 y230.length co10)) (fun _ hk => hk.2) (.int .i64 a0_0)) (fun _ hk => hk.2) (.int .i64 a0_1)) (fun _ hk => hk.2) (.bool a0_2)) (fun _ hk => hk.2) (.slice Ao10 y230.length co10)) (fun _ hk => trivial), (aBl HB).out⟩
 ·rw [if_neg c2] at H
  exact absurd H (by simp)
def thermionref01_SameInts.l0 : Nat → List Int → List Int → Int → Option (Bool)
 | 0, _, _, _ => none
 | k + 1, x0, x1, x5 => if x5 < (x0.length : Int) then (if 0 ≤ x5 then (if x5 < (x1.length : Int) then (if (rd x0 x5) = (rd x1 x5) then (thermionref01_SameInts.l0 k x0 x1 (wrap64 (x5 + 1))) else (some false)) else (none)) else (none)) else (some true)
def thermionref01_SameInts.f (k : Nat) (l0 : List Int) (l1 : List Int) : Option (Bool) := if (l0.length : Int) = (l1.length : Int) then (thermionref01_SameInts.l0 k l0 l1 0) else (some false)
theorem thermionref01_SameInts.calls (k : Nat) (A0 : Option Addr) (c0 : Nat) (l0 : List Int) (A1 : Option Addr) (c1 : Nat) (l1 : List Int) (r : Bool) (w : World) (hr0 : Kd.C (Kd.int .i64) w A0 l0.length l0) (hc0 : l0.length ≤ c0) (hr1 : Kd.C (Kd.int .i64) w A1 l1.length l1) (hc1 : l1.length ≤ c1) (h : thermionref01_SameInts.f k l0 l1 = some r) :
  Calls Try.prog 76 #[.slice A0 l0.length c0, .slice A1 l1.length c1] w fun e w' => e = .returned (.bool r) ∧ Drawn0 w w' := by
 have HR0 := Aside0.mk hr0
 have HC0 := Aside0.mk hc0
 clear hr0 hc0
 have HR1 := Aside0.mk hr1
 have HC1 := Aside0.mk hc1
 clear hr1 hc1
 have H : (if (l0.length : Int) = (l1.length : Int) then (thermionref01_SameInts.l0 k l0 l1 0) else (some false)) = some r := h
 clear h
 by_cases c3 : (l0.length : Int) = (l1.length : Int)
 ·rw [if_pos c3] at H
  obtain ⟨c3b0, c3b1⟩ := aEq c3
  have c3b2 : (l0.length == l1.length) = true := by first | simpa using c3 | (simp at c3 ⊢; omega)
  clear c3
  have H' := Aside0.mk H
  clear H
  go_enter Try.func76, Try.ntmps76
  go_wp2
  repeat (go_quiet (fail); try go_wp2)
  go_loopg [5] k (fun kq v5 w' => ∃ (x5_1 : Int), v5 = .int .i64 x5_1 ∧ Aside0 (thermionref01_SameInts.l0 kq l0 l1 x5_1 = some r) ∧ Aside0 (kq ≤ k) ∧ Drawn0 w w')
  case atStart => exact ⟨(0), aR, H', ⟨Nat.le_refl _⟩, by repeat (first | exact Drawn0.refl _ | apply Drawn0.step)⟩
  case round =>
   clear H'
   try clear c1; try clear c3; try clear c3b0; try clear c3b1; try clear c3b2
   obtain ⟨x5_1, rfl, HA, HK1, ⟨m1, rfl⟩⟩ := hrel
   cases gk with
   | zero => exact absurd HA.out (by simp [thermionref01_SameInts.l0])
   | succ k1 =>
    have H := HA.out
    clear HA
    simp only [thermionref01_SameInts.l0] at H
    by_cases c4 : x5_1 < (l0.length : Int)
    ·rw [if_pos c4] at H
     have c4b0 := decide_eq_true c4
     clear c4
     by_cases c5 : 0 ≤ x5_1
     ·rw [if_pos c5] at H
      have c5b0 := decide_eq_true c5
      clear c5
      by_cases c6 : x5_1 < (l1.length : Int)
      ·rw [if_pos c6] at H
       have c6b0 := decide_eq_true c6
       clear c6
       by_cases c7 : (rd l0 x5_1) = (rd l1 x5_1)
       ·rw [if_pos c7] at H
        obtain ⟨c7b0, c7b1⟩ := aEq c7
        clear c7
        have H' := Aside0.mk H
        clear H
        have p233 : 0 ≤ (x5_1 : Int) := aD
        have q233 : x5_1 < (l0.length : Int) := aD
        obtain ⟨ad233, e233, hx233_0⟩ := Kd.at_int HR0.out x5_1 p233 q233
        cases e233
        replace p233 := eq_true p233
        replace q233 := eq_true q233
        have p234 : 0 ≤ (x5_1 : Int) := aD
        have q234 : x5_1 < (l1.length : Int) := aD
        obtain ⟨ad234, e234, hx234_0⟩ := Kd.at_int HR1.out x5_1 p234 q234
        cases e234
        replace p234 := eq_true p234
        replace q234 := eq_true q234
        go_wp2
        repeat (go_quiet (fail); try go_wp2)
        go_roundg k1
        case measure => have := HK1.out; omega
        case rel => exact ⟨(wrap64 (x5_1 + 1)), aR, H', ⟨by have := HK1.out; omega⟩, by repeat (first | exact Drawn0.refl _ | apply Drawn0.step)⟩
       ·rw [if_neg c7] at H
        obtain ⟨c7b0, c7b1⟩ := aNe c7
        obtain rfl := Option.some.inj H
        have p233 : 0 ≤ (x5_1 : Int) := aD
        have q233 : x5_1 < (l0.length : Int) := aD
        obtain ⟨ad233, e233, hx233_0⟩ := Kd.at_int HR0.out x5_1 p233 q233
        cases e233
        replace p233 := eq_true p233
        replace q233 := eq_true q233
        have p234 : 0 ≤ (x5_1 : Int) := aD
        have q234 : x5_1 < (l1.length : Int) := aD
        obtain ⟨ad234, e234, hx234_0⟩ := Kd.at_int HR1.out x5_1 p234 q234
        cases e234
        replace p234 := eq_true p234
        replace q234 := eq_true q234
        go_wp2
        repeat (go_quiet (fail); try go_wp2)
        go_ret
        exact ⟨by first | rfl | (simp; done) | (simp [*]; done), by repeat (first | exact Drawn0.refl _ | apply Drawn0.step)⟩
      ·rw [if_neg c6] at H
       exact absurd H (by simp)
     ·rw [if_neg c5] at H
      exact absurd H (by simp)
    ·rw [if_neg c4] at H
     have c4b0 := decide_eq_false c4
     clear c4
     obtain rfl := Option.some.inj H
     go_wp2
     repeat (go_quiet (fail); try go_wp2)
     go_ret
     exact ⟨by first | rfl | (simp; done) | (simp [*]; done), by repeat (first | exact Drawn0.refl _ | apply Drawn0.step)⟩
 ·rw [if_neg c3] at H
  obtain ⟨c3b0, c3b1⟩ := aNe c3
  have c3b2 : (l0.length == l1.length) = false := by first | simpa using c3 | (simp at c3 ⊢; omega)
  obtain rfl := Option.some.inj H
  go_enter Try.func76, Try.ntmps76
  go_wp2
  repeat (go_quiet (fail); try go_wp2)
  go_ret
  exact ⟨by first | rfl | (simp; done) | (simp [*]; done), by repeat (first | exact Drawn0.refl _ | apply Drawn0.step)⟩
def thermionref01_Same.f (k : Nat) (a0_0 : Int) (a0_1 : Int) (a0_2 : Bool) (l0_3 : List Int) (a1_0 : Int) (a1_1 : Int) (a1_2 : Bool) (l1_3 : List Int) : Option (Bool) := if a0_0 = a1_0 then (if a0_1 = a1_1 then (if (a0_2 == a1_2) = true then ((thermionref01_SameInts.f k l0_3 l1_3).bind fun t237 => (some t237)) else (some false)) else (some false)) else (some false)
theorem thermionref01_Same.calls (k : Nat) (a0_0 : Int) (a0_1 : Int) (a0_2 : Bool) (A0_3 : Option Addr) (c0_3 : Nat) (l0_3 : List Int) (a1_0 : Int) (a1_1 : Int) (a1_2 : Bool) (A1_3 : Option Addr) (c1_3 : Nat) (l1_3 : List Int) (r : Bool) (w : World) (hr0_3 : Kd.C (Kd.int .i64) w A0_3 l0_3.length l0_3) (hc0_3 : l0_3.length ≤ c0_3) (hr1_3 : Kd.C (Kd.int .i64) w A1_3 l1_3.length l1_3) (hc1_3 : l1_3.length ≤ c1_3) (h : thermionref01_Same.f k a0_0 a0_1 a0_2 l0_3 a1_0 a1_1 a1_2 l1_3 = some r) :
  Calls Try.prog 29 #[.agg #[.int .i64 a0_0, .int .i64 a0_1, .bool a0_2, .slice A0_3 l0_3.length c0_3], .agg #[.int .i64 a1_0, .int .i64 a1_1, .bool a1_2, .slice A1_3 l1_3.length c1_3]] w fun e w' => e = .returned (.bool r) ∧ Below w.heap.size w w' := by
 have hu24 := Try.underlying24
 have HR0_3 := Aside0.mk hr0_3
 have HC0_3 := Aside0.mk hc0_3
 clear hr0_3 hc0_3
 have HR1_3 := Aside0.mk hr1_3
 have HC1_3 := Aside0.mk hc1_3
 clear hr1_3 hc1_3
 have HB := Aside0.mk (Below.refl w.heap.size w)
 have H : (if a0_0 = a1_0 then (if a0_1 = a1_1 then (if (a0_2 == a1_2) = true then ((thermionref01_SameInts.f k l0_3 l1_3).bind fun t237 => (some t237)) else (some false)) else (some false)) else (some false)) = some r := h
 clear h
 by_cases c3 : a0_0 = a1_0
 ·rw [if_pos c3] at H
  obtain ⟨c3b0, c3b1⟩ := aEq c3
  clear c3
  by_cases c4 : a0_1 = a1_1
  ·rw [if_pos c4] at H
   obtain ⟨c4b0, c4b1⟩ := aEq c4
   clear c4
   by_cases c5 : (a0_2 == a1_2) = true
   ·rw [if_pos c5] at H
    have c5b0 : (a0_2 == a1_2) = true := c5
    (try (have c5b1 : decide (a0_2 = a1_2) = true := by simpa using c5))
    (try (have c5b2 : (a0_2 == a1_2) = true := by simpa using c5))
    clear c5
    obtain ⟨t237, A60, H⟩ := Option.bind_eq_some_iff.mp H
    have A6 := Aside0.mk A60
    clear A60
    obtain rfl := Option.some.inj H
    go_enter Try.func29, Try.ntmps29
    go_wp2_with (first | ((with_reducible refine gate_dst (N := 2) rfl ?_); refine aBox 2 #[.int .i64 a0_0, .int .i64 a0_1, .bool a0_2, .slice A0_3 l0_3.length c0_3] 24 ?_; intro gb235 hg w7 hbox hb; have BK235 := Aside0.mk (hbox); have GW235 := aGe hg HB; have GE235 := aGe hg HB; replace HB := aBs HB hb; clear hb hbox hg) | ((with_reducible refine gate_dst (N := 3) rfl ?_); refine aBox 3 #[.int .i64 a1_0, .int .i64 a1_1, .bool a1_2, .slice A1_3 l1_3.length c1_3] 24 ?_; intro gb236 hg w8 hbox hb; have BK236 := Aside0.mk (hbox); have GW236 := aGe hg HB; have GE236 := aGe hg HB; replace HB := aBs HB hb; have NB235_236 := aNl hg BK235; have NB236_235 := aNg hg BK235; replace BK235 := aBb BK235 hb; clear hb hbox hg; have hnb9 := NB235_236.out; have hnc9 := NB236_235.out; obtain ⟨⟨hcz10_0, hcz10_1, hcz10_2, hcz10_3⟩, hfz10_0, hfz10_1, hfz10_2, hfz10_3⟩ := aC4 BK235; obtain ⟨⟨hcz11_0, hcz11_1, hcz11_2, hcz11_3⟩, hfz11_0, hfz11_1, hfz11_2, hfz11_3⟩ := aC4 BK236) | (go_at_call 76; (with_reducible refine (thermionref01_SameInts.calls k _ _ l0_3 _ _ l1_3 t237 _ ?side1 ?side2 ?side3 ?side4 A6.out).mono ?_); (case side1 => exact aC HR0_3 HB); (case side2 => exact HC0_3.out); (case side3 => exact aC HR1_3 HB); (case side4 => exact HC1_3.out); rintro e w' ⟨rfl, ⟨nd, rfl⟩⟩))
    go_ret
    exact ⟨by first | rfl | (simp [errW_none, errW_some] <;> rfl) | (simp [*, errW_none, errW_some] <;> rfl), (aBl HB).out⟩
   ·rw [if_neg c5] at H
    have c5b0 : (a0_2 == a1_2) = false := by simpa using c5
    (try (have c5b1 : decide (a0_2 = a1_2) = false := by simpa using c5))
    (try (have c5b2 : (a0_2 == a1_2) = false := by simpa using c5))
    (try (have c5b3 : ¬ (a0_2 = a1_2) := by simpa using c5))
    clear c5
    obtain rfl := Option.some.inj H
    go_enter Try.func29, Try.ntmps29
    go_wp2_with (first | ((with_reducible refine gate_dst (N := 2) rfl ?_); refine aBox 2 #[.int .i64 a0_0, .int .i64 a0_1, .bool a0_2, .slice A0_3 l0_3.length c0_3] 24 ?_; intro gb235 hg w12 hbox hb; have BK235 := Aside0.mk (hbox); have GW235 := aGe hg HB; have GE235 := aGe hg HB; replace HB := aBs HB hb; clear hb hbox hg) | ((with_reducible refine gate_dst (N := 3) rfl ?_); refine aBox 3 #[.int .i64 a1_0, .int .i64 a1_1, .bool a1_2, .slice A1_3 l1_3.length c1_3] 24 ?_; intro gb236 hg w13 hbox hb; have BK236 := Aside0.mk (hbox); have GW236 := aGe hg HB; have GE236 := aGe hg HB; replace HB := aBs HB hb; have NB235_236 := aNl hg BK235; have NB236_235 := aNg hg BK235; replace BK235 := aBb BK235 hb; clear hb hbox hg; have hnb14 := NB235_236.out; have hnc14 := NB236_235.out; obtain ⟨⟨hcz15_0, hcz15_1, hcz15_2, hcz15_3⟩, hfz15_0, hfz15_1, hfz15_2, hfz15_3⟩ := aC4 BK235; obtain ⟨⟨hcz16_0, hcz16_1, hcz16_2, hcz16_3⟩, hfz16_0, hfz16_1, hfz16_2, hfz16_3⟩ := aC4 BK236))
    go_ret
    exact ⟨by first | rfl | (simp [errW_none, errW_some] <;> rfl) | (simp [*, errW_none, errW_some] <;> rfl), (aBl HB).out⟩
  ·rw [if_neg c4] at H
   obtain ⟨c4b0, c4b1⟩ := aNe c4
   obtain rfl := Option.some.inj H
   go_enter Try.func29, Try.ntmps29
   go_wp2_with (first | ((with_reducible refine gate_dst (N := 2) rfl ?_); refine aBox 2 #[.int .i64 a0_0, .int .i64 a0_1, .bool a0_2, .slice A0_3 l0_3.length c0_3] 24 ?_; intro gb235 hg w17 hbox hb; have BK235 := Aside0.mk (hbox); have GW235 := aGe hg HB; have GE235 := aGe hg HB; replace HB := aBs HB hb; clear hb hbox hg) | ((with_reducible refine gate_dst (N := 3) rfl ?_); refine aBox 3 #[.int .i64 a1_0, .int .i64 a1_1, .bool a1_2, .slice A1_3 l1_3.length c1_3] 24 ?_; intro gb236 hg w18 hbox hb; have BK236 := Aside0.mk (hbox); have GW236 := aGe hg HB; have GE236 := aGe hg HB; replace HB := aBs HB hb; have NB235_236 := aNl hg BK235; have NB236_235 := aNg hg BK235; replace BK235 := aBb BK235 hb; clear hb hbox hg; have hnb19 := NB235_236.out; have hnc19 := NB236_235.out; obtain ⟨⟨hcz20_0, hcz20_1, hcz20_2, hcz20_3⟩, hfz20_0, hfz20_1, hfz20_2, hfz20_3⟩ := aC4 BK235; obtain ⟨⟨hcz21_0, hcz21_1, hcz21_2, hcz21_3⟩, hfz21_0, hfz21_1, hfz21_2, hfz21_3⟩ := aC4 BK236))
   go_ret
   exact ⟨by first | rfl | (simp [errW_none, errW_some] <;> rfl) | (simp [*, errW_none, errW_some] <;> rfl), (aBl HB).out⟩
 ·rw [if_neg c3] at H
  obtain ⟨c3b0, c3b1⟩ := aNe c3
  obtain rfl := Option.some.inj H
  go_enter Try.func29, Try.ntmps29
  go_wp2_with (first | ((with_reducible refine gate_dst (N := 2) rfl ?_); refine aBox 2 #[.int .i64 a0_0, .int .i64 a0_1, .bool a0_2, .slice A0_3 l0_3.length c0_3] 24 ?_; intro gb235 hg w22 hbox hb; have BK235 := Aside0.mk (hbox); have GW235 := aGe hg HB; have GE235 := aGe hg HB; replace HB := aBs HB hb; clear hb hbox hg) | ((with_reducible refine gate_dst (N := 3) rfl ?_); refine aBox 3 #[.int .i64 a1_0, .int .i64 a1_1, .bool a1_2, .slice A1_3 l1_3.length c1_3] 24 ?_; intro gb236 hg w23 hbox hb; have BK236 := Aside0.mk (hbox); have GW236 := aGe hg HB; have GE236 := aGe hg HB; replace HB := aBs HB hb; have NB235_236 := aNl hg BK235; have NB236_235 := aNg hg BK235; replace BK235 := aBb BK235 hb; clear hb hbox hg; have hnb24 := NB235_236.out; have hnc24 := NB236_235.out; obtain ⟨⟨hcz25_0, hcz25_1, hcz25_2, hcz25_3⟩, hfz25_0, hfz25_1, hfz25_2, hfz25_3⟩ := aC4 BK235; obtain ⟨⟨hcz26_0, hcz26_1, hcz26_2, hcz26_3⟩, hfz26_0, hfz26_1, hfz26_2, hfz26_3⟩ := aC4 BK236))
  go_ret
  exact ⟨by first | rfl | (simp [errW_none, errW_some] <;> rfl) | (simp [*, errW_none, errW_some] <;> rfl), (aBl HB).out⟩



theorem rd_get (b : List Int) (i : Nat) (h : i < b.length) : rd b (i : Int) = b[i] := by
 unfold rd
 simp [h]
theorem refints_go (a b : List Int) (hl : a.length = b.length) (h1 : a.length ≤ 1000000) : ∀ (d i : Nat), i + d = a.length → Ev (fun k => thermionref01_SameInts.l0 k a b (i : Int)) (decide (a.drop i = b.drop i))
 | 0, i, h => Ev.now (fun k => by
  show thermionref01_SameInts.l0 (k + 1) _ _ _ = _
  rw [thermionref01_SameInts.l0, if_neg (by omega), List.drop_eq_nil_of_le (by omega), List.drop_eq_nil_of_le (by omega)]
  simp)
 | d + 1, i, h => by
  have hi : i < a.length := by omega
  have hj : i < b.length := by omega
  have hw : wrap64 ((i : Int) + 1) = ((i + 1 : Nat) : Int) := by rw [IntWalk.wrap64_in _ (by omega)]; omega
  rw [List.drop_eq_getElem_cons hi, List.drop_eq_getElem_cons hj]
  generalize hx : a.drop (i + 1) = xa
  generalize hy : b.drop (i + 1) = xb
  by_cases q : a[i] = b[i]
  ·have ih := refints_go a b hl h1 d (i + 1) (by omega)
   rw [hx, hy] at ih
   have e : decide (a[i] :: xa = b[i] :: xb) = decide (xa = xb) := by rw [q]; simp
   rw [e]
   refine ih.step 0 (fun k _ => ?_)
   show thermionref01_SameInts.l0 (k + 1) _ _ _ = _
   rw [thermionref01_SameInts.l0, if_pos (by omega), if_pos (by omega), if_pos (by omega), rd_get a i hi, rd_get b i hj, if_pos q, hw]
  ·have e : decide (a[i] :: xa = b[i] :: xb) = false := by simp [q]
   rw [e]
   exact Ev.now (fun k => by
    show thermionref01_SameInts.l0 (k + 1) _ _ _ = _
    rw [thermionref01_SameInts.l0, if_pos (by omega), if_pos (by omega), if_pos (by omega), rd_get a i hi, rd_get b i hj, if_neg q])
theorem refints_eq (a b : List Int) (h1 : a.length ≤ 1000000) : Ev (fun k => thermionref01_SameInts.f k a b) (decide (a = b)) := by
 unfold thermionref01_SameInts.f
 by_cases q : a.length = b.length
 ·have h := refints_go a b q h1 a.length 0 (by omega)
  rw [List.drop_zero, List.drop_zero] at h
  obtain ⟨K, hK⟩ := h
  exact ⟨K, fun k hk => (if_pos (by omega)).trans (hK k hk)⟩
 ·have e : decide (a = b) = false := decide_eq_false (fun h => q (by rw [h]))
  rw [e]
  exact ⟨0, fun k _ => if_neg (by omega)⟩
theorem refsame_eq (W H : Int) (R : Bool) (C : List Int) (W2 H2 : Int) (R2 : Bool) (C2 : List Int) (h1 : C.length ≤ 1000000) : Ev (fun k => thermionref01_Same.f k W H R C W2 H2 R2 C2) (decide (W = W2 ∧ H = H2 ∧ R = R2 ∧ C = C2)) := by
 unfold thermionref01_Same.f
 by_cases a : W = W2
 ·by_cases b : H = H2
  ·by_cases c : R = R2
   ·obtain ⟨K, hK⟩ := refints_eq C C2 h1
    refine ⟨K, fun k hk => ?_⟩
    have h2 : thermionref01_SameInts.f k C C2 = some (decide (C = C2)) := hK k hk
    show (if W = W2 then _ else _) = _
    rw [if_pos a, if_pos b, if_pos (by simp [c]), h2]
    simp [a, b, c]
   ·exact ⟨0, fun k _ => by
     show (if W = W2 then _ else _) = _
     rw [if_pos a, if_pos b, if_neg (by simp [c])]; simp [c]⟩
  ·exact ⟨0, fun k _ => by
    show (if W = W2 then _ else _) = _
    rw [if_pos a, if_neg b]; simp [b]⟩
 ·exact ⟨0, fun k _ => by
   show (if W = W2 then _ else _) = _
   rw [if_neg a]; simp [a]⟩
theorem refcopy_eq (W H : Int) (R : Bool) (C : List Int) (h : C.length ≤ 1000000) : thermionref01_Copy.f W H R C = some (W, H, R, C) := by
 unfold thermionref01_Copy.f
 show (if _ then _ else _) = _
 rw [if_pos (by simp; omega)]
 rfl
theorem ourcopy_eq (W H : Int) (R : Bool) (C : List Int) (h : C.length ≤ 1000000) : field_Copy.f W H R C = some (W, H, R, C) := by
 unfold field_Copy.f
 unfold slices_Clone_int_int.f
 rw [if_pos h]
 rfl
end Go.Proofs.Ytndkkjpgnmahbaa.Print
end
