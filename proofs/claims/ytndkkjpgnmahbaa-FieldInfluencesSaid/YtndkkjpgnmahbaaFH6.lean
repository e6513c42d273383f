/- Part 6 of the texts of a claim about Ytndkkjpgnmahbaa, put together by a program of this work: what the Go functions do, and that their calls do so. -/
import Derived.Test.YtndkkjpgnmahbaaFH5
import Derived.Test.YtndkkjpgnmahbaaFH4
import Derived.Test.YtndkkjpgnmahbaaFH2
import Derived.Test.YtndkkjpgnmahbaaFH3
import Derived.IntWalk
import Derived.SizedLaws
import Derived.ChangeSlices
import Derived.WalkKit
import Derived.ProofKit
import Derived.OpenShut
import Derived.ChangeOld
section
namespace Go.Proofs.Ytndkkjpgnmahbaa.Print
open Go.RowKit Go.Proofs.YtndkkjpgnmahbaaW.PrintWords Go.Proofs.YtndkkjpgnmahbaaW.PrintLast Go.Proofs.YtndkkjpgnmahbaaW.PrintMore Go.Proofs.Field
set_option linter.unusedVariables false
theorem contains_ev (l : List Int) (b : Int) (hl : l.length ≤ 1000000) {k : Nat} (hk : l.length + 1 ≤ k) : slices_Contains_int_int.f k l b = some (l.contains b) :=
 at_rounds (g := fun k => slices_Contains_int_int.f k l b) (fun k => slices_Contains_int_int.mono l b k) hk (contains_int l b hl rfl)
theorem has_ev (W H : Int) (R : Bool) (C : List Int) (e : Int) (hl : C.length ≤ 1000000) {k : Nat} (hk : C.length + 1 ≤ k) : field_has.f k W H R C e = some (hasB C e) := by
 obtain ⟨d, rfl⟩ : ∃ d, k = C.length + 1 + d := ⟨k - (C.length + 1), by omega⟩
 exact has_eq W H R C e hl d
def dupFrom (l : List Int) (i : Nat) : Nat → Bool
 | 0 => false
 | d + 1 => (l.take i).contains (fn l i) || dupFrom l (i + 1) d
def apartErr (W H : Int) (R : Bool) (C : List Int) (n : Int) (l : List Int) : Int :=
 if checkErr W H R C ≠ 0 then checkErr W H R C else if n < 0 ∨ 200 < n then 2 else if l.all (hasB C) = false then 7 else if dupFrom l 0 l.length = true then 9 else 0
theorem apart_l1 (l : List Int) (hl : l.length ≤ 1000) : ∀ (d i k : Nat), i + d = l.length → d + l.length + 2 ≤ k → field_apart.l1 k l l (l.length : Int) (i : Int) = some (if dupFrom l i d = true then 9 else 0)
 | 0, i, k, h, hk => by
  obtain ⟨k, rfl⟩ : ∃ k', k = k' + 1 := ⟨k - 1, by omega⟩
  rw [field_apart.l1, if_neg (by omega), dupFrom, if_neg (by simp)]
 | d + 1, i, k, h, hk => by
  obtain ⟨k, rfl⟩ : ∃ k', k = k' + 1 := ⟨k - 1, by omega⟩
  have hw : wrap64 ((i : Int) + 1) = ((i + 1 : Nat) : Int) := by rw [IntWalk.wrap64_in _ (by omega)]; omega
  rw [field_apart.l1, if_pos (by omega), if_pos (by omega), if_pos (by omega), if_pos (by omega), Int.toNat_natCast, rd_fn l i (by omega), obind (contains_ev _ _ (by rw [List.length_take]; omega) (by rw [List.length_take]; omega)), dupFrom]
  cases q : (l.take i).contains (fn l i) with
  | true => rw [if_pos rfl, if_pos (by simp)]
  | false =>
   rw [if_neg (by simp), hw, apart_l1 l hl d (i + 1) k (by omega) (by omega), Bool.false_or]
theorem apart_l0 (W H : Int) (R : Bool) (C l : List Int) (hC : C.length ≤ 1000) (hl : l.length ≤ 1000) : ∀ (d i k : Nat), i + d = l.length → d + 2 * l.length + C.length + 5 ≤ k →
  field_apart.l0 k l l (l.length : Int) (i : Int) W H R C = some (if (l.drop i).all (hasB C) = false then 7 else if dupFrom l 0 l.length = true then 9 else 0)
 | 0, i, k, h, hk => by
  obtain ⟨k, rfl⟩ : ∃ k', k = k' + 1 := ⟨k - 1, by omega⟩
  have h1 := apart_l1 l hl l.length 0 k (by omega) (by omega)
  rw [field_apart.l0, if_neg (by omega), List.drop_eq_nil_of_le (by omega)]
  exact h1
 | d + 1, i, k, h, hk => by
  obtain ⟨k, rfl⟩ : ∃ k', k = k' + 1 := ⟨k - 1, by omega⟩
  have hw : wrap64 ((i : Int) + 1) = ((i + 1 : Nat) : Int) := by rw [IntWalk.wrap64_in _ (by omega)]; omega
  have hil : i < l.length := by omega
  have e : fn l i = l[i] := by unfold fn; rw [List.getD_eq_getElem?_getD, List.getElem?_eq_getElem hil]; rfl
  rw [field_apart.l0, if_pos (by omega), if_pos (by omega), if_pos (by omega), rd_fn l i hil, obind (has_ev W H R C _ (by omega) (by omega)), List.drop_eq_getElem_cons hil, List.all_cons, ← e]
  cases q : hasB C (fn l i) with
  | true => rw [if_pos rfl, hw, apart_l0 W H R C l hC hl d (i + 1) k (by omega) (by omega), Bool.true_and]
  | false => rw [if_neg (by simp), if_pos (by simp)]
theorem apart_eq (W H : Int) (R : Bool) (C l : List Int) (n : Int) (hC : C.length ≤ 1000) (hl : l.length ≤ 1000) {k : Nat} (hk : 3 * l.length + C.length + 6 ≤ k) : field_apart.f k W H R C n l = some (apartErr W H R C n l) := by
 obtain ⟨k, rfl⟩ : ∃ k', k = k' + 1 := ⟨k - 1, by omega⟩
 unfold field_apart.f apartErr
 rw [obind (show field_Check.f W H R C = some (checkErr W H R C) from rfl)]
 by_cases q : checkErr W H R C = 0
 ·rw [if_pos q, if_neg (show ¬ checkErr W H R C ≠ 0 from fun f => f q)]
  by_cases r : n < 0
  ·rw [if_pos r, field_apart.j0, if_pos rfl, if_pos (.inl r)]
  ·rw [if_neg r, field_apart.j0]
   by_cases t : n > 200
   ·rw [if_pos (by simpa using t), if_pos (.inr t)]
   ·have h0 := apart_l0 W H R C l hC hl l.length 0 k (by omega) (by omega)
    rw [List.drop_zero] at h0
    rw [if_neg (by simpa using t), if_neg (by omega)]
    exact h0
 ·rw [if_neg q, if_pos q]
theorem hasB_mem {C : List Int} {e : Int} : hasB C e = true ↔ 0 < e ∧ e ∈ C := by
 unfold hasB
 rw [Bool.and_eq_true, decide_eq_true_eq, List.contains_iff_mem]
theorem apart_two {W H : Int} {R : Bool} {C : List Int} {n a b : Int} (hck : checkErr W H R C = 0) (hn : 0 ≤ n ∧ n ≤ 200) (hab : a ≠ b) : apartErr W H R C n [a, b] = if hasB C a = true ∧ hasB C b = true then 0 else 7 := by
 unfold apartErr
 rw [if_neg (by simpa using hck), if_neg (by omega)]
 by_cases q : hasB C a = true ∧ hasB C b = true
 ·rw [if_pos q, if_neg (by simp [q.1, q.2]), if_neg]
  simp [dupFrom, fn, Ne.symm hab]
 ·rw [if_neg q, if_pos]
  simp only [List.all_cons, List.all_nil, Bool.and_true]
  cases h1 : hasB C a <;> cases h2 : hasB C b <;> simp_all
theorem unit_right {W H : Int} {R : Bool} {C : List Int} {m : Nat} {a : Int} (hck : checkErr W H R C = 0) (hm : maxOf C = m) (ha : 1 ≤ a ∧ a ≤ m) : voltErr W H R C (unitV m a 1000000) = 0 := by
 unfold voltErr
 rw [if_neg (by simpa using hck), if_neg (by unfold unitV; rw [List.length_set, List.length_replicate, hm]; simp), if_neg]
 rintro ⟨v, hv, hb⟩
 obtain ⟨i, hi, rfl⟩ := mem_fn hv
 rw [fn_unitV ha] at hb
 split at hb <;> omega
theorem has_max {C : List Int} {m : Nat} {a : Int} (hm : maxOf C = m) (h : hasB C a = true) : 1 ≤ a ∧ a ≤ m := by
 obtain ⟨h1, h2⟩ := hasB_mem.1 h
 have := le_maxOf h2
 omega
theorem influence_eq {W H : Nat} {R : Bool} {C : List Int} {n m : Nat} {a b : Int} (hck : checkErr W H R C = 0) (hn : n ≤ 200) (hab : a ≠ b) (hm : maxOf C = m) (ha : hasB C a = true) (hb : hasB C b = true) {k : Nat} (hk : C.length + 12 ≤ k) :
  ∃ (hV : Volted W H R C (unitV m a 1000000)), C.length ≤ 256 ∧ field_Influence.f k W H R C n a b = some (inflow W H R C b (solveN W H R C (unitV m a 1000000) 256 n).1, inflow W H R C b (solveN W H R C (unitV m a 1000000) 256 n).2.1, 0) := by
 have ha' := has_max hm ha
 have hb' := has_max hm hb
 have hv := unit_right hck hm ha'
 obtain ⟨W', H', eW, eH, hW16, hH16, h256, _, hV⟩ := volted_of hv
 obtain rfl : W = W' := by omega
 obtain rfl : H = H' := by omega
 refine ⟨hV, h256, ?_⟩
 have hne := check_ne hck
 have hm6 : m ≤ 6 := by
  obtain ⟨i, hi, e⟩ := mem_fn (maxOf_mem hne)
  have := (hV.elr i hi).2
  omega
 have hp := solve_pair hV h256 n
 have hr := fun j (hj : j < C.length) => solve_range hV h256 n hj
 obtain ⟨t1, t2⟩ := bounds_len hV h256 n
 have hs := solve_eq (n := n) hv hn
 have hz : ∀ i, i < W * H → fn C i = b → volt C (unitV m a 1000000) i = 0 := fun i hi e => by
  rw [volt_unitV ha' (by rw [e]; omega), if_neg (by rw [e]; exact Ne.symm hab)]
 have hub : fn (unitV m a 1000000) (b.toNat - 1) = 0 := by rw [fn_unitV ha', if_neg (by omega)]
 have hlo : ∀ i, i < W * H → fn C i = b → fn (solveN W H R C (unitV m a 1000000) 256 n).1 i = 0 := fun i hi e => by
  rw [hp.low.1.el i (by rw [hV.len]; exact hi) (by omega)]; exact hz i hi e
 have hhi : ∀ i, i < W * H → fn C i = b → fn (solveN W H R C (unitV m a 1000000) 256 n).2.1 i = 0 := fun i hi e => by
  rw [hp.high.1.el i (by rw [hV.len]; exact hi) (by omega)]; exact hz i hi e
 have hlen := hV.len
 obtain ⟨A, hA⟩ : ∃ A, solveN W H R C (unitV m a 1000000) 256 n = A := ⟨_, rfl⟩
 rw [hA] at hr t1 t2 hs hlo hhi ⊢
 have c1 : chTo W H R C b 0 (A.1.take C.length) C.length = - inflow W H R C b A.1 := by
  have e := chTo_inflow (W := W) (H := H) (R := R) (C := C) (k := b) (b := A.1.take C.length) (fun i hi e => by rw [fn_take (by omega)]; exact hlo i hi e)
  rw [← hlen] at e
  rw [e]
  unfold inflow
  congr 1
  refine sumTo_congr (fun i hi => ?_)
  by_cases q : fn C i = b
  ·rw [if_pos q, if_pos q]; exact Net.S_congr i (fun j hj => fn_take (by rw [hlen]; exact hj))
  ·rw [if_neg q, if_neg q]
 have c2 : chTo W H R C b 0 (A.2.1.take C.length) C.length = - inflow W H R C b A.2.1 := by
  have e := chTo_inflow (W := W) (H := H) (R := R) (C := C) (k := b) (b := A.2.1.take C.length) (fun i hi e => by rw [fn_take (by omega)]; exact hhi i hi e)
  rw [← hlen] at e
  rw [e]
  unfold inflow
  congr 1
  refine sumTo_congr (fun i hi => ?_)
  by_cases q : fn C i = b
  ·rw [if_pos q, if_pos q]; exact Net.S_congr i (fun j hj => fn_take (by rw [hlen]; exact hj))
  ·rw [if_neg q, if_neg q]
 have d1 := chTo_bound (W := W) (H := H) (R := R) (C := C) (e := b) (u := 0) (b := A.1.take C.length) (by omega) hW16 (fun j hj => by rw [fn_take (by omega)]; exact (hr j (by omega)).1) C.length (by omega)
 have d2 := chTo_bound (W := W) (H := H) (R := R) (C := C) (e := b) (u := 0) (b := A.2.1.take C.length) (by omega) hW16 (fun j hj => by rw [fn_take (by omega)]; exact (hr j (by omega)).2) C.length (by omega)
 have hch : field_Charge.f W H R C (unitV m a 1000000) n b = some (chTo W H R C b 0 (A.2.1.take C.length) C.length, chTo W H R C b 0 (A.1.take C.length) C.length, 0) := by
  unfold field_Charge.f
  rw [obind hs]
  show (if (0 : Int) ≠ 0 then _ else if hasB C b = false then _ else _) = _
  rw [if_neg (by simp), if_neg (by rw [hb]; simp), hub, Int.toNat_natCast, Int.toNat_natCast]
 rw [c1, c2] at hch
 rw [c1] at d1
 rw [c2] at d2
 have hap : apartErr W H R C n [a, b] = 0 := by rw [apart_two hck (by omega) hab]; exact if_pos ⟨ha, hb⟩
 unfold field_Influence.f
 rw [obind (apart_eq W H R C [a, b] n (by omega) (by simp) (by simp; omega)), hap, if_pos rfl]
 have hmx : slices_Max_int_int.f C = some (m : Int) := by unfold slices_Max_int_int.f; rw [if_neg hne, hm]
 have hwa : wrap64 (a - 1) = a - 1 := IntWalk.wrap64_in _ (by omega)
 rw [obind hmx, if_pos (by omega), Int.toNat_natCast, if_pos (by omega), obind rfl, hwa, if_pos (by omega), if_pos (by rw [List.length_replicate]; omega)]
 have hu : (List.replicate m (0 : Int)).set (a - 1).toNat 1000000 = unitV m a 1000000 := by
  unfold unitV
  rw [show (a - 1).toNat = a.toNat - 1 by omega]
 rw [hu, obind hch]
 show some (wrap64 (- - inflow W H R C b A.1), wrap64 (- - inflow W H R C b A.2.1), (0 : Int)) = _
 rw [IntWalk.wrap64_in _ (by omega), IntWalk.wrap64_in _ (by omega), Int.neg_neg, Int.neg_neg]
theorem influence_both {W H : Nat} {R : Bool} {C : List Int} {n n' m : Nat} {a b : Int} (hm : maxOf C = m) (ha : hasB C a = true) (hb : hasB C b = true) (h256 : C.length ≤ 256)
  (hV : Volted W H R C (unitV m a 1000000)) (hV' : Volted W H R C (unitV m b 1000000)) :
  inflow W H R C b (solveN W H R C (unitV m a 1000000) 256 n).1 ≤ inflow W H R C a (solveN W H R C (unitV m b 1000000) 256 n').2.1 ∧ 0 ≤ inflow W H R C b (solveN W H R C (unitV m a 1000000) 256 n).1 := by
 have ha' := has_max hm ha
 have hb' := has_max hm hb
 have z : ∀ c, 1 ≤ c ∧ c ≤ (m : Int) → ∀ i, i < C.length → 0 < fn C i → 0 ≤ volt C (unitV m c 1000000) i := fun c hc i _ hp => by
  rw [volt_unitV hc hp]; split <;> omega
 have l0 := fun i (hi : i < W * H) => (solve_nonneg hV (z a ha') h256 n hi).1
 have h0 := fun i (hi : i < W * H) => (solve_nonneg hV' (z b hb') h256 n' hi).2
 exact ⟨there_back (by omega) ha' hb' hV (solve_pair hV h256 n).low (solve_pair hV' h256 n').high l0 h0, inflow_nonneg l0⟩
end Go.Proofs.Ytndkkjpgnmahbaa.Print
end

section
namespace Go.Proofs.Ytndkkjpgnmahbaa.Print
open Go.RowKit Go.Proofs.YtndkkjpgnmahbaaW.PrintWords Go.Proofs.YtndkkjpgnmahbaaW.PrintLast Go.Proofs.YtndkkjpgnmahbaaW.PrintMore
attribute [local go_sem] max2_int min2_int max_two min_two max_three min_three max_four min_four
set_option linter.unusedVariables false
set_option linter.unusedSimpArgs false
mutual
def thermionref01_askable.l0 : Nat → List Int → Int → Int → Int → Bool → List Int → Option (Int)
 | 0, _, _, _, _, _, _ => none
 | k + 1, x2, x8, x532000, x532001, x532002, x532003 => if x8 < (x2.length : Int) then (if 0 ≤ x8 then ((thermionref01_has.f k x532000 x532001 x532002 x532003 (rd x2 x8)).bind fun t535 => (if t535 = true then (thermionref01_askable.l0 k x2 (wrap64 (x8 + 1)) x532000 x532001 x532002 x532003) else (some 7))) else (none)) else (thermionref01_askable.l1 k x2 0)
def thermionref01_askable.l1 : Nat → List Int → Int → Option (Int)
 | 0, _, _ => none
 | k + 1, x2, x9 => if x9 < (x2.length : Int) then (thermionref01_askable.l2 k x2 x9 0) else (some 0)
def thermionref01_askable.l2 : Nat → List Int → Int → Int → Option (Int)
 | 0, _, _, _ => none
 | k + 1, x2, x9, x10 => if x10 < x9 then (if 0 ≤ x9 then (if x9 < (x2.length : Int) then (if 0 ≤ x10 then (if x10 < (x2.length : Int) then (if (rd x2 x9) = (rd x2 x10) then (some 9) else (thermionref01_askable.l2 k x2 x9 (wrap64 (x10 + 1)))) else (none)) else (none)) else (none)) else (none)) else (thermionref01_askable.l1 k x2 (wrap64 (x9 + 1)))
end
def thermionref01_askable.f (k : Nat) (a0_0 : Int) (a0_1 : Int) (a0_2 : Bool) (l0_3 : List Int) (a1 : Int) (l2 : List Int) : Option (Int) := (thermionref01_Check.f k a0_0 a0_1 a0_2 l0_3).bind fun t532 => (if t532 = 0 then ((thermionref01_beyond.f a1 0 200).bind fun t533 => (if t533 = true then (some 2) else (thermionref01_askable.l0 k l2 0 a0_0 a0_1 a0_2 l0_3))) else (some t532))
def thermionref01_askable.T17 : Bool × List (List Nat × List Nat) := (true, [([], []), ([], []), ([0, 1], [0, 1]), ([2], [2]), ([], []), ([], []), ([4, 5], [4, 5]), ([6], [6]), ([3, 7], [3, 7])])
def thermionref01_askable.B17 : List Nat := [0, 0, 3, 7, 0, 0, 48, 112, 255]
theorem thermionref01_askable.tab17 : rtab .any (opsOf Try.f92 17) = thermionref01_askable.T17 := by kernel_rfl
theorem thermionref01_askable.bits17 : waitsOk thermionref01_askable.T17.2 thermionref01_askable.B17 = true := by kernel_rfl
set_option maxHeartbeats 8000000 in
set_option maxRecDepth 100000 in
theorem thermionref01_askable.calls (k : Nat) (a0_0 : Int) (a0_1 : Int) (a0_2 : Bool) (A0_3 : Option Addr) (c0_3 : Nat) (l0_3 : List Int) (a1 : Int) (A2 : Option Addr) (c2 : Nat) (l2 : List Int) (r : Int) (w : World) (hr0_3 : Kd.C (Kd.int .i64) w A0_3 l0_3.length l0_3) (hc0_3 : l0_3.length ≤ c0_3) (hr2 : Kd.C (Kd.int .i64) w A2 l2.length l2) (hc2 : l2.length ≤ c2) (h : thermionref01_askable.f k a0_0 a0_1 a0_2 l0_3 a1 l2 = some r) :
  Calls Try.prog 92 #[.agg #[.int .i64 a0_0, .int .i64 a0_1, .bool a0_2, .slice A0_3 l0_3.length c0_3], .int .i64 a1, .slice A2 l2.length c2] w fun e w' => e = .returned (.int .i64 r) ∧ Below w.heap.size w w' := by
 have hu24 := Try.underlying24
 have HR0_3 := Aside0.mk hr0_3
 have HC0_3 := Aside0.mk hc0_3
 clear hr0_3 hc0_3
 have HR2 := Aside0.mk hr2
 have HC2 := Aside0.mk hc2
 clear hr2 hc2
 have HB := Aside0.mk (Below.refl w.heap.size w)
 have H : ((thermionref01_Check.f k a0_0 a0_1 a0_2 l0_3).bind fun t532 => (if t532 = 0 then ((thermionref01_beyond.f a1 0 200).bind fun t533 => (if t533 = true then (some 2) else (thermionref01_askable.l0 k l2 0 a0_0 a0_1 a0_2 l0_3))) else (some t532))) = some r := h
 clear h
 obtain ⟨t532, A40, H⟩ := Option.bind_eq_some_iff.mp H
 have A4 := Aside0.mk A40
 clear A40
 by_cases c5 : t532 = 0
 ·rw [if_pos c5] at H
  obtain ⟨c5b0, c5b1⟩ := aEq c5
  clear c5
  obtain ⟨t533, A60, H⟩ := Option.bind_eq_some_iff.mp H
  have A6 := Aside0.mk A60
  clear A60
  by_cases c7 : t533 = true
  ·subst c7
   have H1 : (some 2) = some r := by rw [if_pos rfl] at H; exact H
   clear H
   have H := H1
   clear H1
   obtain rfl := Option.some.inj H
   go_enter Try.func92, Try.ntmps92
   go_wp2_with (first | ((with_reducible refine gate_dst (N := 3) rfl ?_); refine aBox 3 #[.int .i64 a0_0, .int .i64 a0_1, .bool a0_2, .slice A0_3 l0_3.length c0_3] 24 ?_; intro gb531 hg w8 hbox hb; have BK531 := Aside0.mk (hbox); have GW531 := aGe hg HB; have GE531 := aGe hg HB; replace HB := aBs HB hb; clear hb hbox hg; obtain ⟨⟨hcz9_0, hcz9_1, hcz9_2, hcz9_3⟩, hfz9_0, hfz9_1, hfz9_2, hfz9_3⟩ := aC4 BK531) | ((with_reducible refine gate_callee (f := 40) rfl ?_); refine goesL_ (some 12) rfl rfl Try.func40 (by kernel_rfl) rfl #[.agg #[.int .i64 a0_0, .int .i64 a0_1, .bool a0_2, .slice A0_3 l0_3.length c0_3]] rfl aA ?_; (with_reducible refine (thermionref01_Check.calls k a0_0 a0_1 a0_2 _ _ l0_3 t532 _ ?side1 ?side2 A4.out).mono ?_); (case side1 => exact aC HR0_3 HB); (case side2 => exact HC0_3.out); rintro e w10 ⟨rfl, hb⟩; refine ⟨_, rfl, ?_⟩; replace BK531 := aBb BK531 hb; replace HB := aBs HB hb; (try clear hb); (try clear hb2); (try clear hk); (try clear hi)) | ((with_reducible refine gate_callee (f := 73) rfl ?_); refine goesL_ (some 17) rfl rfl Try.func73 (by kernel_rfl) rfl #[.int .i64 a1, .int .i64 0, .int .i64 200] rfl aA ?_; (with_reducible refine (thermionref01_beyond.calls a1 0 200 true _ A6.out).mono ?_); rintro e w' ⟨rfl, ⟨nd, rfl⟩⟩; refine ⟨_, rfl, ?_⟩))
   go_ret
   exact ⟨by first | rfl | (simp [errW_none, errW_some] <;> rfl) | (simp [*, errW_none, errW_some] <;> rfl), (aBl HB).out⟩
  ·replace c7 := Bool.eq_false_iff.mpr c7
   subst c7
   have H1 : (thermionref01_askable.l0 k l2 0 a0_0 a0_1 a0_2 l0_3) = some r := by rw [if_neg (show ¬ (false = true) by decide)] at H; exact H
   clear H
   have H := H1
   clear H1
   have H' := Aside0.mk H
   clear H
   go_enter Try.func92, Try.ntmps92
   go_wp2_with (first | ((with_reducible refine gate_dst (N := 3) rfl ?_); refine aBox 3 #[.int .i64 a0_0, .int .i64 a0_1, .bool a0_2, .slice A0_3 l0_3.length c0_3] 24 ?_; intro gb531 hg w11 hbox hb; have BK531 := Aside0.mk (hbox); have GW531 := aGe hg HB; have GE531 := aGe hg HB; replace HB := aBs HB hb; clear hb hbox hg; obtain ⟨⟨hcz12_0, hcz12_1, hcz12_2, hcz12_3⟩, hfz12_0, hfz12_1, hfz12_2, hfz12_3⟩ := aC4 BK531) | ((with_reducible refine gate_callee (f := 40) rfl ?_); refine goesL_ (some 12) rfl rfl Try.func40 (by kernel_rfl) rfl #[.agg #[.int .i64 a0_0, .int .i64 a0_1, .bool a0_2, .slice A0_3 l0_3.length c0_3]] rfl aA ?_; (with_reducible refine (thermionref01_Check.calls k a0_0 a0_1 a0_2 _ _ l0_3 t532 _ ?side1 ?side2 A4.out).mono ?_); (case side1 => exact aC HR0_3 HB); (case side2 => exact HC0_3.out); rintro e w13 ⟨rfl, hb⟩; refine ⟨_, rfl, ?_⟩; replace BK531 := aBb BK531 hb; replace HB := aBs HB hb; (try clear hb); (try clear hb2); (try clear hk); (try clear hi)) | ((with_reducible refine gate_callee (f := 73) rfl ?_); refine goesL_ (some 17) rfl rfl Try.func73 (by kernel_rfl) rfl #[.int .i64 a1, .int .i64 0, .int .i64 200] rfl aA ?_; (with_reducible refine (thermionref01_beyond.calls a1 0 200 false _ A6.out).mono ?_); rintro e w' ⟨rfl, ⟨nd, rfl⟩⟩; refine ⟨_, rfl, ?_⟩))
   go_loopg [8] k (fun kq v8 w' => ∃ (x8_1 : Int), v8 = .int .i64 x8_1 ∧ Aside0 (thermionref01_askable.l0 kq l2 x8_1 a0_0 a0_1 a0_2 l0_3 = some r) ∧ Aside0 (kq ≤ k) ∧ Aside0 (w'.heap[gb531]? = some (.cells #[.int .i64 a0_0, .int .i64 a0_1, .bool a0_2, (.slice A0_3 l0_3.length c0_3)] 24 (0, 0))) ∧ Aside0 (Below w.heap.size w w'))
   case atStart => exact ⟨(0), aR, H', ⟨Nat.le_refl _⟩, aBk BK531, aBl HB⟩
   case round =>
    clear H'
    try clear c2; try clear p2; try clear c4; try clear c5; try clear c5b0; try clear c5b1; try clear c7; try clear c9; try clear hcz12_0; try clear hcz12_1; try clear hcz12_2; try clear hcz12_3; try clear hcz9_0; try clear hcz9_1; try clear hcz9_2; try clear hcz9_3; try clear hfz12_0; try clear hfz12_1; try clear hfz12_2; try clear hfz12_3; try clear hfz9_0; try clear hfz9_1; try clear hfz9_2; try clear hfz9_3
    obtain ⟨x8_1, rfl, HA, HK1, BK531, HB⟩ := hrel
    cases gk with
    | zero => exact absurd HA.out (by simp [thermionref01_askable.l0])
    | succ k1 =>
     have H := HA.out
     clear HA
     simp only [thermionref01_askable.l0] at H
     by_cases c14 : x8_1 < (l2.length : Int)
     ·rw [if_pos c14] at H
      have c14b0 := decide_eq_true c14
      clear c14
      by_cases c15 : 0 ≤ x8_1
      ·rw [if_pos c15] at H
       have c15b0 := decide_eq_true c15
       clear c15
       obtain ⟨t535, A160, H⟩ := Option.bind_eq_some_iff.mp H
       have A16 := Aside0.mk A160
       clear A160
       by_cases c17 : t535 = true
       ·subst c17
        have H1 : (thermionref01_askable.l0 k1 l2 (wrap64 (x8_1 + 1)) a0_0 a0_1 a0_2 l0_3) = some r := by rw [if_pos rfl] at H; exact H
        clear H
        have H := H1
        clear H1
        have H' := Aside0.mk H
        clear H
        try go_wp2
        have n0_ := Aside0.mk (blk_drew BK531.out)
        have n1_ := Aside0.mk (below_drew1 HB.out)
        clear BK531 HB
        have BK531 := n0_
        have HB := n1_
        clear n0_ n1_
        have p534 : 0 ≤ (x8_1 : Int) := aD
        have q534 : x8_1 < (l2.length : Int) := aD
        obtain ⟨ad534, e534, hx534_0⟩ := Kd.at_int HR2.out x8_1 p534 q534
        have hw534_0 := hx534_0
        cases e534
        replace hx534_0 := (HB.out.cell (World.block_lt_of_cell? w _ hx534_0)).trans hx534_0
        replace p534 := eq_true p534
        replace q534 := eq_true q534
        refine start_ (n := 7) (S := fun w' => w'.cell? ⟨gb531, 0, none⟩ = some (.int .i64 a0_0) ∧ w'.cell? ⟨gb531, 1, none⟩ = some (.int .i64 a0_1) ∧ w'.cell? ⟨gb531, 2, none⟩ = some (.bool a0_2) ∧ w'.cell? ⟨gb531, 3, none⟩ = some (.slice A0_3 l0_3.length c0_3) ∧ w'.cell? (ad534.add (x8_1).toNat) = some (.int .i64 (rd l2 x8_1))) (ds := []) #[false, false, false, false, false, false, false] (by kernel_rfl) rfl rfl ⟨(blk_cell BK531.out 0).trans rfl, (blk_cell BK531.out 1).trans rfl, (blk_cell BK531.out 2).trans rfl, (blk_cell BK531.out 3).trans rfl, ((HB.out.cell (World.block_lt_of_cell? w _ hw534_0)).trans hw534_0)⟩ (fun hHeld => ?_)
        generalize wr.drew = w18 at BK531 HB hx534_0 hHeld ⊢
        refine pure_ (i := 1) (N := some 25) (v := ?_) (a' := ?_) (bS 7 2) rfl rfl (by kernel_rfl) (fun _ _ _ h => h) (Or.inl ⟨by rfl, ?_⟩) ?_ ?_; rotate_left; (· intro w'; go_simp; with_reducible rfl); rotate_left; (· simp only [Act.put, sT, sZ, sS, i64_w, i32_w]; rfl)
        refine pure_ (i := 2) (N := some 26) (v := ?_) (a' := ?_) (bS 7 6) rfl rfl (by kernel_rfl) (fun _ _ _ h => h) (Or.inl ⟨by rfl, ?_⟩) ?_ ?_; rotate_left; (· intro w'; go_simp; with_reducible rfl); rotate_left; (· simp only [Act.put, sT, sZ, sS, i64_w, i32_w]; rfl)
        refine pure_ (i := 3) (N := some 27) (v := ?_) (a' := ?_) (bS 7 14) rfl rfl (by kernel_rfl) (fun _ _ _ h => h) (Or.inl ⟨by rfl, ?_⟩) ?_ ?_; rotate_left; (· intro w'; go_simp; with_reducible rfl); rotate_left; (· simp only [Act.put, sT, sZ, sS, i64_w, i32_w]; rfl)
        refine take_ (i := 0) (N := some 24) (v := ?_) (a' := ?_) (bS 7 15) rfl rfl (by kernel_rfl) (fun _ _ _ h => h) (Or.inl ⟨by rfl, ?_⟩) hHeld ?_ ?_; rotate_left; (· rintro w' ⟨s0, s1, s2, s3, s4⟩; go_simp; with_reducible rfl); rotate_left; (· simp only [Act.put, sT, sZ, sS, i64_w, i32_w]; rfl)
        refine take_ (i := 4) (N := some 28) (v := ?_) (a' := ?_) (bS 7 31) rfl rfl (by kernel_rfl) (fun _ _ _ h => h) (Or.inl ⟨by rfl, ?_⟩) hHeld ?_ ?_; rotate_left; (· rintro w' ⟨s0, s1, s2, s3, s4⟩; go_simp; with_reducible rfl); rotate_left; (· simp only [Act.put, sT, sZ, sS, i64_w, i32_w]; rfl)
        refine one_ (i := 5) (N := some 29) (bS 7 63) rfl rfl (by kernel_rfl) (by decide) (fun K hK => ?_)
        refine goes_ Try.func79 (by kernel_rfl) rfl #[.agg #[.int .i64 a0_0, .int .i64 a0_1, .bool a0_2, .slice A0_3 l0_3.length c0_3], .int .i64 (rd l2 x8_1)] (by rfl) rfl rfl aA ?_
        with_reducible refine (thermionref01_has.calls k1 a0_0 a0_1 a0_2 _ _ l0_3 (rd l2 x8_1) true _ ?side1 ?side2 A16.out).mono ?_
        (case side1 => exact aC HR0_3 HB)
        (case side2 => exact HC0_3.out)
        rintro e w19 ⟨rfl, hb⟩
        refine ⟨_, rfl, ?_⟩
        have n0_ := aBb BK531 hb
        have n1_ := aBs HB hb
        clear BK531 HB
        have BK531 := n0_
        have HB := n1_
        clear n0_ n1_
        (try clear hb)
        (try clear hb2)
        (try clear hk)
        (try clear hi)
        refine hK.out _ _ ⟨(blk_cell BK531.out 0).trans rfl, (blk_cell BK531.out 1).trans rfl, (blk_cell BK531.out 2).trans rfl, (blk_cell BK531.out 3).trans rfl, ((HB.out.cell (World.block_lt_of_cell? w _ hw534_0)).trans hw534_0)⟩ (fun hHeld => ?_)
        clear hK K
        refine norm_ (a' := ?_) ?_ ?_
        rotate_left
        ·show Act.put _ (some 29) _ = _
         simp only [Act.put, sT, sZ, sS, i64_w, i32_w]
         rfl
        refine pure_ (i := 6) (N := some 30) (v := ?_) (a' := ?_) (bS 7 127) rfl rfl (by kernel_rfl) (fun _ _ _ h => h) (Or.inl ⟨by rfl, ?_⟩) ?_ ?_; rotate_left; (· intro w'; go_simp; with_reducible rfl); rotate_left; (· simp only [Act.put, sT, sZ, sS, i64_w, i32_w]; rfl)
        refine done_ (by kernel_rfl) ?_
        try go_wp2
        go_roundg k1
        case measure => have := HK1.out; omega
        case rel => exact ⟨(wrap64 (x8_1 + 1)), aR, H', ⟨by have := HK1.out; omega⟩, aBk BK531, aBl HB⟩
       ·replace c17 := Bool.eq_false_iff.mpr c17
        subst c17
        have H1 : (some 7) = some r := by rw [if_neg (show ¬ (false = true) by decide)] at H; exact H
        clear H
        have H := H1
        clear H1
        obtain rfl := Option.some.inj H
        try go_wp2
        have n0_ := Aside0.mk (blk_drew BK531.out)
        have n1_ := Aside0.mk (below_drew1 HB.out)
        clear BK531 HB
        have BK531 := n0_
        have HB := n1_
        clear n0_ n1_
        have p534 : 0 ≤ (x8_1 : Int) := aD
        have q534 : x8_1 < (l2.length : Int) := aD
        obtain ⟨ad534, e534, hx534_0⟩ := Kd.at_int HR2.out x8_1 p534 q534
        have hw534_0 := hx534_0
        cases e534
        replace hx534_0 := (HB.out.cell (World.block_lt_of_cell? w _ hx534_0)).trans hx534_0
        replace p534 := eq_true p534
        replace q534 := eq_true q534
        refine start_ (n := 7) (S := fun w' => w'.cell? ⟨gb531, 0, none⟩ = some (.int .i64 a0_0) ∧ w'.cell? ⟨gb531, 1, none⟩ = some (.int .i64 a0_1) ∧ w'.cell? ⟨gb531, 2, none⟩ = some (.bool a0_2) ∧ w'.cell? ⟨gb531, 3, none⟩ = some (.slice A0_3 l0_3.length c0_3) ∧ w'.cell? (ad534.add (x8_1).toNat) = some (.int .i64 (rd l2 x8_1))) (ds := []) #[false, false, false, false, false, false, false] (by kernel_rfl) rfl rfl ⟨(blk_cell BK531.out 0).trans rfl, (blk_cell BK531.out 1).trans rfl, (blk_cell BK531.out 2).trans rfl, (blk_cell BK531.out 3).trans rfl, ((HB.out.cell (World.block_lt_of_cell? w _ hw534_0)).trans hw534_0)⟩ (fun hHeld => ?_)
        generalize wr.drew = w20 at BK531 HB hx534_0 hHeld ⊢
        refine pure_ (i := 1) (N := some 25) (v := ?_) (a' := ?_) (bS 7 2) rfl rfl (by kernel_rfl) (fun _ _ _ h => h) (Or.inl ⟨by rfl, ?_⟩) ?_ ?_; rotate_left; (· intro w'; go_simp; with_reducible rfl); rotate_left; (· simp only [Act.put, sT, sZ, sS, i64_w, i32_w]; rfl)
        refine pure_ (i := 2) (N := some 26) (v := ?_) (a' := ?_) (bS 7 6) rfl rfl (by kernel_rfl) (fun _ _ _ h => h) (Or.inl ⟨by rfl, ?_⟩) ?_ ?_; rotate_left; (· intro w'; go_simp; with_reducible rfl); rotate_left; (· simp only [Act.put, sT, sZ, sS, i64_w, i32_w]; rfl)
        refine pure_ (i := 3) (N := some 27) (v := ?_) (a' := ?_) (bS 7 14) rfl rfl (by kernel_rfl) (fun _ _ _ h => h) (Or.inl ⟨by rfl, ?_⟩) ?_ ?_; rotate_left; (· intro w'; go_simp; with_reducible rfl); rotate_left; (· simp only [Act.put, sT, sZ, sS, i64_w, i32_w]; rfl)
        refine take_ (i := 0) (N := some 24) (v := ?_) (a' := ?_) (bS 7 15) rfl rfl (by kernel_rfl) (fun _ _ _ h => h) (Or.inl ⟨by rfl, ?_⟩) hHeld ?_ ?_; rotate_left; (· rintro w' ⟨s0, s1, s2, s3, s4⟩; go_simp; with_reducible rfl); rotate_left; (· simp only [Act.put, sT, sZ, sS, i64_w, i32_w]; rfl)
        refine take_ (i := 4) (N := some 28) (v := ?_) (a' := ?_) (bS 7 31) rfl rfl (by kernel_rfl) (fun _ _ _ h => h) (Or.inl ⟨by rfl, ?_⟩) hHeld ?_ ?_; rotate_left; (· rintro w' ⟨s0, s1, s2, s3, s4⟩; go_simp; with_reducible rfl); rotate_left; (· simp only [Act.put, sT, sZ, sS, i64_w, i32_w]; rfl)
        refine one_ (i := 5) (N := some 29) (bS 7 63) rfl rfl (by kernel_rfl) (by decide) (fun K hK => ?_)
        refine goes_ Try.func79 (by kernel_rfl) rfl #[.agg #[.int .i64 a0_0, .int .i64 a0_1, .bool a0_2, .slice A0_3 l0_3.length c0_3], .int .i64 (rd l2 x8_1)] (by rfl) rfl rfl aA ?_
        with_reducible refine (thermionref01_has.calls k1 a0_0 a0_1 a0_2 _ _ l0_3 (rd l2 x8_1) false _ ?side1 ?side2 A16.out).mono ?_
        (case side1 => exact aC HR0_3 HB)
        (case side2 => exact HC0_3.out)
        rintro e w21 ⟨rfl, hb⟩
        refine ⟨_, rfl, ?_⟩
        have n0_ := aBb BK531 hb
        have n1_ := aBs HB hb
        clear BK531 HB
        have BK531 := n0_
        have HB := n1_
        clear n0_ n1_
        (try clear hb)
        (try clear hb2)
        (try clear hk)
        (try clear hi)
        refine hK.out _ _ ⟨(blk_cell BK531.out 0).trans rfl, (blk_cell BK531.out 1).trans rfl, (blk_cell BK531.out 2).trans rfl, (blk_cell BK531.out 3).trans rfl, ((HB.out.cell (World.block_lt_of_cell? w _ hw534_0)).trans hw534_0)⟩ (fun hHeld => ?_)
        clear hK K
        refine norm_ (a' := ?_) ?_ ?_
        rotate_left
        ·show Act.put _ (some 29) _ = _
         simp only [Act.put, sT, sZ, sS, i64_w, i32_w]
         rfl
        refine pure_ (i := 6) (N := some 30) (v := ?_) (a' := ?_) (bS 7 127) rfl rfl (by kernel_rfl) (fun _ _ _ h => h) (Or.inl ⟨by rfl, ?_⟩) ?_ ?_; rotate_left; (· intro w'; go_simp; with_reducible rfl); rotate_left; (· simp only [Act.put, sT, sZ, sS, i64_w, i32_w]; rfl)
        refine done_ (by kernel_rfl) ?_
        try go_wp2
        go_ret
        exact ⟨by first | rfl | (simp [errW_none, errW_some] <;> rfl) | (simp [*, errW_none, errW_some] <;> rfl), (aBl HB).out⟩
      ·rw [if_neg c15] at H
       exact absurd H (by simp)
     ·rw [if_neg c14] at H
      have c14b0 := decide_eq_false c14
      clear c14
      have H' := Aside0.mk H
      clear H
      go_wp2
      go_loopg [9] k1 (fun kq v9 w' => ∃ (x9_2 : Int), v9 = .int .i64 x9_2 ∧ Aside0 (thermionref01_askable.l1 kq l2 x9_2 = some r) ∧ Aside0 (kq ≤ k1) ∧ Aside0 (w'.heap[gb531]? = some (.cells #[.int .i64 a0_0, .int .i64 a0_1, .bool a0_2, (.slice A0_3 l0_3.length c0_3)] 24 (0, 0))) ∧ Aside0 (Below w.heap.size w w'))
      case atStart => exact ⟨(0), aR, H', ⟨Nat.le_refl _⟩, aBk BK531, aBl HB⟩
      case round =>
       clear H'
       try clear c1; try clear c2; try clear p2; try clear c4; try clear c5; try clear c5b0; try clear c5b1; try clear p5; try clear q5; try clear hx5; try clear p6; try clear c7; try clear c9; try clear c14; try clear c14b0; try clear c15; try clear c15b0; try clear c17; try clear hcz12_0; try clear hcz12_1; try clear hcz12_2; try clear hcz12_3; try clear hcz9_0; try clear hcz9_1; try clear hcz9_2; try clear hcz9_3; try clear hfz12_0; try clear hfz12_1; try clear hfz12_2; try clear hfz12_3; try clear hfz9_0; try clear hfz9_1; try clear hfz9_2; try clear hfz9_3; try clear hx534_0; try clear p2; try clear p534; try clear q534
       obtain ⟨x9_2, rfl, HA, HK2, BK531, HB⟩ := hrel
       cases gk with
       | zero => exact absurd HA.out (by simp [thermionref01_askable.l1])
       | succ k2 =>
        have H := HA.out
        clear HA
        simp only [thermionref01_askable.l1] at H
        by_cases c22 : x9_2 < (l2.length : Int)
        ·rw [if_pos c22] at H
         have c22b0 := decide_eq_true c22
         clear c22
         have H' := Aside0.mk H
         clear H
         go_wp2
         go_loopg [10] k2 (fun kq v10 w' => ∃ (x10_3 : Int), v10 = .int .i64 x10_3 ∧ Aside0 (thermionref01_askable.l2 kq l2 x9_2 x10_3 = some r) ∧ Aside0 (kq ≤ k2) ∧ Aside0 (w'.heap[gb531]? = some (.cells #[.int .i64 a0_0, .int .i64 a0_1, .bool a0_2, (.slice A0_3 l0_3.length c0_3)] 24 (0, 0))) ∧ Aside0 (Below w.heap.size w w'))
         case atStart => exact ⟨(0), aR, H', ⟨Nat.le_refl _⟩, aBk BK531, aBl HB⟩
         case round =>
          clear H'
          try clear c1; try clear c2; try clear p2; try clear c4; try clear c5; try clear c5b0; try clear c5b1; try clear p5; try clear q5; try clear hx5; try clear p6; try clear c7; try clear c9; try clear c14; try clear c14b0; try clear c15; try clear c15b0; try clear c17; try clear c22; try clear c22b0; try clear hcz12_0; try clear hcz12_1; try clear hcz12_2; try clear hcz12_3; try clear hcz9_0; try clear hcz9_1; try clear hcz9_2; try clear hcz9_3; try clear hfz12_0; try clear hfz12_1; try clear hfz12_2; try clear hfz12_3; try clear hfz9_0; try clear hfz9_1; try clear hfz9_2; try clear hfz9_3; try clear hx534_0; try clear p2; try clear p5; try clear p534; try clear p6; try clear q5; try clear q534
          obtain ⟨x10_3, rfl, HA, HK3, BK531, HB⟩ := hrel
          cases gk with
          | zero => exact absurd HA.out (by simp [thermionref01_askable.l2])
          | succ k3 =>
           have H := HA.out
           clear HA
           simp only [thermionref01_askable.l2] at H
           by_cases c23 : x10_3 < x9_2
           ·rw [if_pos c23] at H
            have c23b0 := decide_eq_true c23
            clear c23
            by_cases c24 : 0 ≤ x9_2
            ·rw [if_pos c24] at H
             have c24b0 := decide_eq_true c24
             clear c24
             by_cases c25 : x9_2 < (l2.length : Int)
             ·rw [if_pos c25] at H
              have c25b0 := decide_eq_true c25
              clear c25
              by_cases c26 : 0 ≤ x10_3
              ·rw [if_pos c26] at H
               have c26b0 := decide_eq_true c26
               clear c26
               by_cases c27 : x10_3 < (l2.length : Int)
               ·rw [if_pos c27] at H
                have c27b0 := decide_eq_true c27
                clear c27
                by_cases c28 : (rd l2 x9_2) = (rd l2 x10_3)
                ·rw [if_pos c28] at H
                 obtain ⟨c28b0, c28b1⟩ := aEq c28
                 clear c28
                 obtain rfl := Option.some.inj H
                 try go_wp2
                 have n0_ := Aside0.mk (blk_drew BK531.out)
                 have n1_ := Aside0.mk (below_drew1 HB.out)
                 clear BK531 HB
                 have BK531 := n0_
                 have HB := n1_
                 clear n0_ n1_
                 have p536 : 0 ≤ (x9_2 : Int) := aD
                 have q536 : x9_2 < (l2.length : Int) := aD
                 obtain ⟨ad536, e536, hx536_0⟩ := Kd.at_int HR2.out x9_2 p536 q536
                 have hw536_0 := hx536_0
                 cases e536
                 replace hx536_0 := (HB.out.cell (World.block_lt_of_cell? w _ hx536_0)).trans hx536_0
                 replace p536 := eq_true p536
                 replace q536 := eq_true q536
                 have p537 : 0 ≤ (x10_3 : Int) := aD
                 have q537 : x10_3 < (l2.length : Int) := aD
                 obtain ⟨ad537, e537, hx537_0⟩ := Kd.at_int HR2.out x10_3 p537 q537
                 have hw537_0 := hx537_0
                 obtain rfl : ad536 = ad537 := (by injection e537)
                 replace hx537_0 := (HB.out.cell (World.block_lt_of_cell? w _ hx537_0)).trans hx537_0
                 replace p537 := eq_true p537
                 replace q537 := eq_true q537
                 refine start_ (n := 9) (S := fun w' => w'.cell? (ad536.add (x9_2).toNat) = some (.int .i64 (rd l2 x9_2)) ∧ w'.cell? (ad536.add (x10_3).toNat) = some (.int .i64 (rd l2 x10_3))) (ds := []) #[false, false, false, false, false, false, false, false, false] (by kernel_rfl) rfl rfl ⟨((HB.out.cell (World.block_lt_of_cell? w _ hw536_0)).trans hw536_0), ((HB.out.cell (World.block_lt_of_cell? w _ hw537_0)).trans hw537_0)⟩ (fun hHeld => ?_); refine with_tabW thermionref01_askable.tab17 thermionref01_askable.bits17 (fun HT_ HW_ => ?_)
                 generalize wr.drew = w29 at BK531 HB hx536_0 hx537_0 hHeld ⊢
                 refine pu_ 0 42 (bS 9 1) HT_ ?_
                 refine pu_ 1 43 (bS 9 3) HT_ ?_
                 refine pu_ 2 44 (bS 9 7) HT_ ?_
                 refine pu_ 4 46 (bS 9 23) HT_ ?_
                 refine pu_ 5 47 (bS 9 55) HT_ ?_
                 refine pu_ 6 48 (bS 9 119) HT_ ?_
                 refine ta_ 3 45 (bS 9 127) HT_ HW_ hHeld ?_
                 refine ta_ 7 49 (bS 9 255) HT_ HW_ hHeld ?_
                 refine pu_ 8 50 (bS 9 511) HT_ ?_
                 refine done_ (done_of HT_.out (by kernel_rfl)) ?_
                 try go_wp2
                 go_ret
                 exact ⟨by first | rfl | (simp [errW_none, errW_some] <;> rfl) | (simp [*, errW_none, errW_some] <;> rfl), (aBl HB).out⟩
                ·rw [if_neg c28] at H
                 obtain ⟨c28b0, c28b1⟩ := aNe c28
                 have H' := Aside0.mk H
                 clear H
                 try go_wp2
                 have n0_ := Aside0.mk (blk_drew BK531.out)
                 have n1_ := Aside0.mk (below_drew1 HB.out)
                 clear BK531 HB
                 have BK531 := n0_
                 have HB := n1_
                 clear n0_ n1_
                 have p536 : 0 ≤ (x9_2 : Int) := aD
                 have q536 : x9_2 < (l2.length : Int) := aD
                 obtain ⟨ad536, e536, hx536_0⟩ := Kd.at_int HR2.out x9_2 p536 q536
                 have hw536_0 := hx536_0
                 cases e536
                 replace hx536_0 := (HB.out.cell (World.block_lt_of_cell? w _ hx536_0)).trans hx536_0
                 replace p536 := eq_true p536
                 replace q536 := eq_true q536
                 have p537 : 0 ≤ (x10_3 : Int) := aD
                 have q537 : x10_3 < (l2.length : Int) := aD
                 obtain ⟨ad537, e537, hx537_0⟩ := Kd.at_int HR2.out x10_3 p537 q537
                 have hw537_0 := hx537_0
                 obtain rfl : ad536 = ad537 := (by injection e537)
                 replace hx537_0 := (HB.out.cell (World.block_lt_of_cell? w _ hx537_0)).trans hx537_0
                 replace p537 := eq_true p537
                 replace q537 := eq_true q537
                 refine start_ (n := 9) (S := fun w' => w'.cell? (ad536.add (x9_2).toNat) = some (.int .i64 (rd l2 x9_2)) ∧ w'.cell? (ad536.add (x10_3).toNat) = some (.int .i64 (rd l2 x10_3))) (ds := []) #[false, false, false, false, false, false, false, false, false] (by kernel_rfl) rfl rfl ⟨((HB.out.cell (World.block_lt_of_cell? w _ hw536_0)).trans hw536_0), ((HB.out.cell (World.block_lt_of_cell? w _ hw537_0)).trans hw537_0)⟩ (fun hHeld => ?_); refine with_tabW thermionref01_askable.tab17 thermionref01_askable.bits17 (fun HT_ HW_ => ?_)
                 generalize wr.drew = w30 at BK531 HB hx536_0 hx537_0 hHeld ⊢
                 refine pu_ 0 42 (bS 9 1) HT_ ?_
                 refine pu_ 1 43 (bS 9 3) HT_ ?_
                 refine pu_ 2 44 (bS 9 7) HT_ ?_
                 refine pu_ 4 46 (bS 9 23) HT_ ?_
                 refine pu_ 5 47 (bS 9 55) HT_ ?_
                 refine pu_ 6 48 (bS 9 119) HT_ ?_
                 refine ta_ 3 45 (bS 9 127) HT_ HW_ hHeld ?_
                 refine ta_ 7 49 (bS 9 255) HT_ HW_ hHeld ?_
                 refine pu_ 8 50 (bS 9 511) HT_ ?_
                 refine done_ (done_of HT_.out (by kernel_rfl)) ?_
                 try go_wp2
                 go_roundg k3
                 case measure => have := HK1.out; have := HK2.out; have := HK3.out; omega
                 case rel => exact ⟨(wrap64 (x10_3 + 1)), aR, H', ⟨by have := HK1.out; have := HK2.out; have := HK3.out; omega⟩, aBk BK531, aBl HB⟩
               ·rw [if_neg c27] at H
                exact absurd H (by simp)
              ·rw [if_neg c26] at H
               exact absurd H (by simp)
             ·rw [if_neg c25] at H
              exact absurd H (by simp)
            ·rw [if_neg c24] at H
             exact absurd H (by simp)
           ·rw [if_neg c23] at H
            have c23b0 := decide_eq_false c23
            clear c23
            have H' := Aside0.mk H
            clear H
            go_wp2
            go_roundg k3
            case measure => have := HK1.out; have := HK2.out; have := HK3.out; omega
            case rel => exact ⟨(wrap64 (x9_2 + 1)), aR, H', ⟨by have := HK1.out; have := HK2.out; have := HK3.out; omega⟩, aBk BK531, aBl HB⟩
        ·rw [if_neg c22] at H
         have c22b0 := decide_eq_false c22
         clear c22
         obtain rfl := Option.some.inj H
         go_wp2
         go_ret
         exact ⟨by first | rfl | (simp [errW_none, errW_some] <;> rfl) | (simp [*, errW_none, errW_some] <;> rfl), (aBl HB).out⟩
 ·rw [if_neg c5] at H
  obtain ⟨c5b0, c5b1⟩ := aNe c5
  obtain rfl := Option.some.inj H
  go_enter Try.func92, Try.ntmps92
  go_wp2_with (first | ((with_reducible refine gate_dst (N := 3) rfl ?_); refine aBox 3 #[.int .i64 a0_0, .int .i64 a0_1, .bool a0_2, .slice A0_3 l0_3.length c0_3] 24 ?_; intro gb531 hg w31 hbox hb; have BK531 := Aside0.mk (hbox); have GW531 := aGe hg HB; have GE531 := aGe hg HB; replace HB := aBs HB hb; clear hb hbox hg; obtain ⟨⟨hcz32_0, hcz32_1, hcz32_2, hcz32_3⟩, hfz32_0, hfz32_1, hfz32_2, hfz32_3⟩ := aC4 BK531) | ((with_reducible refine gate_callee (f := 40) rfl ?_); refine goesL_ (some 12) rfl rfl Try.func40 (by kernel_rfl) rfl #[.agg #[.int .i64 a0_0, .int .i64 a0_1, .bool a0_2, .slice A0_3 l0_3.length c0_3]] rfl aA ?_; (with_reducible refine (thermionref01_Check.calls k a0_0 a0_1 a0_2 _ _ l0_3 t532 _ ?side1 ?side2 A4.out).mono ?_); (case side1 => exact aC HR0_3 HB); (case side2 => exact HC0_3.out); rintro e w33 ⟨rfl, hb⟩; refine ⟨_, rfl, ?_⟩; replace BK531 := aBb BK531 hb; replace HB := aBs HB hb; (try clear hb); (try clear hb2); (try clear hk); (try clear hi)))
  go_ret
  exact ⟨by first | rfl | (simp [errW_none, errW_some] <;> rfl) | (simp [*, errW_none, errW_some] <;> rfl), (aBl HB).out⟩
def thermionref01_influence.f (k : Nat) (a0_0 : Int) (a0_1 : Int) (a0_2 : Bool) (l0_3 : List Int) (a1 : Int) (a2 : Int) (a3 : Int) : Option (Int × Int) := (thermionref01_greatest.f k a0_0 a0_1 a0_2 l0_3).bind fun t540 => (if 0 ≤ t540 then (if (t540 : Int).toNat ≤ 35184372088832 then ((some (List.replicate (t540 : Int).toNat 0 : List Int)).bind fun y541 => (if 0 ≤ (wrap64 (a2 - 1)) then (if (wrap64 (a2 - 1)) < (y541.length : Int) then ((some (y541.set ((wrap64 (a2 - 1)) : Int).toNat 1000000 : List Int)).bind fun y544 => ((thermionref01_Solve.f a0_0 a0_1 a0_2 l0_3 y544 a1).bind fun bt545 => ((thermionref01_charge.f k a0_0 a0_1 a0_2 l0_3 y544 bt545.1 bt545.2.1 bt545.2.2.1 bt545.2.2.2.1 a3).bind fun bt555 => (some (wrap64 (-bt555.2), wrap64 (-bt555.1)))))) else (none)) else (none))) else (none)) else (none))
set_option maxHeartbeats 8000000 in
set_option maxRecDepth 100000 in
theorem thermionref01_influence.calls (k : Nat) (a0_0 : Int) (a0_1 : Int) (a0_2 : Bool) (A0_3 : Option Addr) (c0_3 : Nat) (l0_3 : List Int) (a1 : Int) (a2 : Int) (a3 : Int) (r1 : Int) (r2 : Int) (w : World) (hr0_3 : Kd.C (Kd.int .i64) w A0_3 l0_3.length l0_3) (hc0_3 : l0_3.length ≤ c0_3) (h : thermionref01_influence.f k a0_0 a0_1 a0_2 l0_3 a1 a2 a3 = some (r1, r2)) :
  Calls Try.prog 93 #[.agg #[.int .i64 a0_0, .int .i64 a0_1, .bool a0_2, .slice A0_3 l0_3.length c0_3], .int .i64 a1, .int .i64 a2, .int .i64 a3] w fun e w' => e = .returned (.agg #[.int .i64 r1, .int .i64 r2]) ∧ Below w.heap.size w w' := by
 have hu24 := Try.underlying24
 have hu42 := Try.underlying42
 have hu33 := Try.underlying33
 have HR0_3 := Aside0.mk hr0_3
 have HC0_3 := Aside0.mk hc0_3
 clear hr0_3 hc0_3
 have HB := Aside0.mk (Below.refl w.heap.size w)
 have H : ((thermionref01_greatest.f k a0_0 a0_1 a0_2 l0_3).bind fun t540 => (if 0 ≤ t540 then (if (t540 : Int).toNat ≤ 35184372088832 then ((some (List.replicate (t540 : Int).toNat 0 : List Int)).bind fun y541 => (if 0 ≤ (wrap64 (a2 - 1)) then (if (wrap64 (a2 - 1)) < (y541.length : Int) then ((some (y541.set ((wrap64 (a2 - 1)) : Int).toNat 1000000 : List Int)).bind fun y544 => ((thermionref01_Solve.f a0_0 a0_1 a0_2 l0_3 y544 a1).bind fun bt545 => ((thermionref01_charge.f k a0_0 a0_1 a0_2 l0_3 y544 bt545.1 bt545.2.1 bt545.2.2.1 bt545.2.2.2.1 a3).bind fun bt555 => (some (wrap64 (-bt555.2), wrap64 (-bt555.1)))))) else (none)) else (none))) else (none)) else (none))) = some (r1, r2) := h
 clear h
 obtain ⟨t540, A50, H⟩ := Option.bind_eq_some_iff.mp H
 have A5 := Aside0.mk A50
 clear A50
 by_cases c6 : 0 ≤ t540
 ·rw [if_pos c6] at H
  have c6b0 := eq_true c6
  have c6b1 := decide_eq_true c6
  clear c6
  by_cases c7 : (t540 : Int).toNat ≤ 35184372088832
  ·rw [if_pos c7] at H
   have c7b0 := eq_true c7
   have c7b1 := decide_eq_true c7
   clear c7
   obtain ⟨y541, hy541⟩ : ∃ y_ : List Int, y_ = (List.replicate (t540 : Int).toNat 0) := ⟨_, rfl⟩
   replace H : (if 0 ≤ (wrap64 (a2 - 1)) then (if (wrap64 (a2 - 1)) < (y541.length : Int) then ((some (y541.set ((wrap64 (a2 - 1)) : Int).toNat 1000000 : List Int)).bind fun y544 => ((thermionref01_Solve.f a0_0 a0_1 a0_2 l0_3 y544 a1).bind fun bt545 => ((thermionref01_charge.f k a0_0 a0_1 a0_2 l0_3 y544 bt545.1 bt545.2.1 bt545.2.2.1 bt545.2.2.2.1 a3).bind fun bt555 => (some (wrap64 (-bt555.2), wrap64 (-bt555.1)))))) else (none)) else (none)) = some (r1, r2) := by first | (rw [hy541]; with_reducible exact H) | (have H2_ := (Option.bind_some _ _).symm.trans H; rw [hy541]; with_reducible exact H2_) | (have H2_ := (Option.bind_some _ _).symm.trans H; with_reducible exact H2_) | with_reducible exact H | (rw [hy541]; exact H) | exact H
   have Ny541 := Aside0.mk hy541
   clear hy541
   obtain ⟨ji8, hji8⟩ : ∃ j_ : Int, (wrap64 (a2 - 1)) = j_ := ⟨_, rfl⟩
   replace H : (if 0 ≤ (ji8) then (if (ji8) < (y541.length : Int) then ((some (y541.set ((ji8) : Int).toNat 1000000 : List Int)).bind fun y544 => ((thermionref01_Solve.f a0_0 a0_1 a0_2 l0_3 y544 a1).bind fun bt545 => ((thermionref01_charge.f k a0_0 a0_1 a0_2 l0_3 y544 bt545.1 bt545.2.1 bt545.2.2.1 bt545.2.2.2.1 a3).bind fun bt555 => (some (wrap64 (-bt555.2), wrap64 (-bt555.1)))))) else (none)) else (none)) = some (r1, r2) := by first | (rw [hji8] at H; exact H) | (simp only [hji8] at H ⊢; exact H)
   (try rw [hji8] at A5)
   have hji8w : (IntKind.i64.wrap (a2 - 1)) = ji8 := (i64_w _).trans hji8
   by_cases c9 : 0 ≤ (ji8)
   ·rw [if_pos c9] at H
    have c9b0 := decide_eq_true c9
    clear c9
    by_cases c10 : (ji8) < (y541.length : Int)
    ·rw [if_pos c10] at H
     have c10b0 := decide_eq_true c10
     clear c10
     obtain ⟨y544, hy544⟩ : ∃ y_ : List Int, y_ = (y541.set ((ji8) : Int).toNat 1000000) := ⟨_, rfl⟩
     replace H : ((thermionref01_Solve.f a0_0 a0_1 a0_2 l0_3 y544 a1).bind fun bt545 => ((thermionref01_charge.f k a0_0 a0_1 a0_2 l0_3 y544 bt545.1 bt545.2.1 bt545.2.2.1 bt545.2.2.2.1 a3).bind fun bt555 => (some (wrap64 (-bt555.2), wrap64 (-bt555.1))))) = some (r1, r2) := by first | (rw [hy544]; with_reducible exact H) | (have H2_ := (Option.bind_some _ _).symm.trans H; rw [hy544]; with_reducible exact H2_) | (have H2_ := (Option.bind_some _ _).symm.trans H; with_reducible exact H2_) | with_reducible exact H | (rw [hy544]; exact H) | exact H
     have Ny544 := Aside0.mk hy544
     clear hy544
     replace H := Option.bind_eq_some_iff.mp H
     obtain ⟨⟨t545, t548, t551, t552, t553⟩, A120, H⟩ := H
     replace H : ((thermionref01_charge.f k a0_0 a0_1 a0_2 l0_3 y544 t545 t548 t551 t552 a3).bind fun bt555 => (some (wrap64 (-bt555.2), wrap64 (-bt555.1)))) = some (r1, r2) := H
     have A12 := Aside0.mk A120
     clear A120
     replace H := Option.bind_eq_some_iff.mp H
     obtain ⟨⟨t555, t556⟩, A130, H⟩ := H
     replace H : (some (wrap64 (-t556), wrap64 (-t555))) = some (r1, r2) := H
     have A13 := Aside0.mk A130
     clear A130
     simp only [Option.some.injEq, Prod.mk.injEq] at H
     obtain ⟨rfl, rfl⟩ := H
     go_enter Try.func93, Try.ntmps93
     go_wp2_with (first | ((with_reducible refine gate_dst (N := 4) rfl ?_); refine aBox 4 #[.int .i64 a0_0, .int .i64 a0_1, .bool a0_2, .slice A0_3 l0_3.length c0_3] 24 ?_; intro gb538 hg w14 hbox hb; have BK538 := Aside0.mk (hbox); have GW538 := aGe hg HB; have GE538 := aGe hg HB; replace HB := aBs HB hb; clear hb hbox hg) | ((with_reducible refine gate_dst (N := 8) rfl ?_); refine aBox 8 #[.int .i64 0, .int .i64 0] 42 ?_; intro gb539 hg w15 hbox hb; have BK539 := Aside0.mk (hbox); have GW539 := aGe hg HB; have GE539 := aGe hg HB; replace HB := aBs HB hb; have NB538_539 := aNl hg BK538; have NB539_538 := aNg hg BK538; replace BK538 := aBb BK538 hb; clear hb hbox hg; have hnb16 := NB538_539.out; have hnc16 := NB539_538.out; obtain ⟨⟨hcz17_0, hcz17_1, hcz17_2, hcz17_3⟩, hfz17_0, hfz17_1, hfz17_2, hfz17_3⟩ := aC4 BK538) | ((with_reducible refine gate_callee (f := 87) rfl ?_); refine goesL_ (some 14) rfl rfl Try.func87 (by kernel_rfl) rfl #[.agg #[.int .i64 a0_0, .int .i64 a0_1, .bool a0_2, .slice A0_3 l0_3.length c0_3]] rfl aA ?_; (with_reducible refine (thermionref01_greatest.calls k a0_0 a0_1 a0_2 _ _ l0_3 t540 _ ?side1 ?side2 A5.out).mono ?_); (case side1 => exact aC HR0_3 HB); (case side2 => exact HC0_3.out); rintro e w18 ⟨rfl, hb⟩; refine ⟨_, rfl, ?_⟩; replace BK538 := aBb BK538 hb; replace BK539 := aBb BK539 hb; replace HB := aBs HB hb; (try clear hb); (try clear hb2); (try clear hk); (try clear hi)) | ((with_reducible refine gate_dst (N := 15) rfl ?_); refine Kd.R_make (Kd.int .i64) _ 3 rfl (N := 15) rfl 22 _ _ rfl t540 rfl rfl Try.underlying22 (.int .i64 0) 8 info3 rfl (by decide) (by omega) 0 (ok := fun _ => True) (okp := fun _ => True) rfl (fun _ hk => hk) trivial (aD) (Nat.le_trans (Nat.mul_le_mul_right _ (aD : t540.toNat ≤ 35184372088832)) (by omega)) (Below.refl _ _) (Nat.le_refl _) ?_; intro v542 w19 ho20 hb hg_ hnew_; clear hg_ hnew_; (first | rw [← Ny541.out] at ho20 | (simp only [Int.reduceToNat] at ho20; rw [← Ny541.out] at ho20)); have HO543 := Aside0.mk (Kd.R_lower ho20 (below_size (aBl HB).out)); replace BK538 := aBb BK538 hb; replace BK539 := aBb BK539 hb; replace HB := aBs HB hb; clear hb ho20; have p11 : 0 ≤ ((ji8) : Int) := aD; have q11 : ((ji8) : Int) < ((y541.length : Int) : Int) := aD; obtain ⟨go11, co11, eo11, gb11, gl11, cl11, HG11⟩ := Kd.R_form HO543.out (by omega); (first | cases eo11 | (injection eo11 with ea_ en_ ec_; (first | subst ea_ | (injection ea_ with ea_; subst ea_)); subst ec_; clear en_)); have GB11 := Aside0.mk gb11; have GG11 := Aside0.mk HG11; clear gb11 gl11 HG11; obtain ⟨hx11_0, hf11_0⟩ := Kd.R_celln 0 HO543.out ((ji8) : Int) p11 q11; replace p11 := eq_true p11; replace q11 := eq_true q11; obtain ⟨hy21_, hz21_⟩ := Kd.R_celln 0 HO543.out ((ji8) : Int) (aD) (aD); have HP21 := Kd.R_putg HO543.out ((ji8) : Int) 1000000) | ((with_reducible refine gate_store (t := 3) (p := 19) rfl ?_); refine store_event (t := 3) (p := 19) (v := ?vo_w22) (w1 := (w19.setCell ⟨go11, ((ji8) : Int).toNat, none⟩ (.int .i64 1000000))) ?hg ?ho ?hn ?hr ?_; (case ho => rfl); (case hg => rfl); (case hn => rfl); (case hr => first | (go_simp; done) | (go_simp; rfl)); intro w22 hw; have hg : w19.grownBy w22 (some go11) := (by rw [hw]; exact HP21.2); have hp_ : Kd.R (Kd.int .i64) 3 w22 w.heap.size (fun _ => True) (.slice (some ⟨go11, 0, none⟩) y541.length co11) y544 := (by rw [hw, Ny544.out]; exact HP21.1); clear HP21; replace BK538 := (aBg BK538 hg (Kd.R_ne HO543.out BK538.out (by decide))); replace BK539 := (aBg BK539 hg (Kd.R_ne HO543.out BK539.out (by decide))); replace HO543 := Aside0.mk (hp_); replace HB := Aside0.mk ((by rw [hw]; exact below_set (HB.out) GB11.out : Below w.heap.size w w22)); clear hg hw hp_; obtain ⟨⟨hcz23_0, hcz23_1, hcz23_2, hcz23_3⟩, hfz23_0, hfz23_1, hfz23_2, hfz23_3⟩ := aC4 BK538) | ((with_reducible refine gate_callee (f := 26) rfl ?_); refine goesL_ (some 24) rfl rfl Try.func26 (by kernel_rfl) rfl #[.agg #[.int .i64 a0_0, .int .i64 a0_1, .bool a0_2, .slice A0_3 l0_3.length c0_3], .slice (some ⟨go11, 0, none⟩) y544.length co11, .int .i64 a1] rfl (by (try simp only [List.map_toArray, List.map_cons, List.map_nil]); first | done | (rw [show y544.length = y541.length from (Kd.R_reads' HO543.out).1.symm] <;> rfl) | rfl | (simp only [List.length_drop, List.length_take]; rfl)) ?_; (with_reducible refine (thermionref01_Solve.calls a0_0 a0_1 a0_2 _ _ l0_3 _ _ y544 a1 t545 t548 t551 t552 t553 _ ?side1 ?side2 ?side3 ?side4 A12.out).mono ?_); (case side1 => exact aC HR0_3 HB); (case side2 => exact HC0_3.out); (case side3 => repeat (first | exact (Kd.R_reads' HO543.out).2.2 | (with_reducible refine Kd.C_alloc ?_ _) | (with_reducible refine Kd.C_drewN ?_ _) | (with_reducible refine Kd.C_drew ?_))); (case side4 => rw [show y544.length = y541.length from (Kd.R_reads' HO543.out).1.symm]; exact (Kd.R_reads' HO543.out).2.1); rintro e w24 ⟨v546, v549, rfl, ho0, ho1, hb⟩; refine ⟨_, rfl, ?_⟩; have HO547 := Aside0.mk (Kd.R_lower (Kd.R_new' ho0 (Kd.R_lt (aRk HO543).out)) (below_size (aBl HB).out)); have HO550 := Aside0.mk (Kd.R_lower (Kd.R_new' ho1 (Kd.R_lt (aRk HO543).out)) (below_size (aBl HB).out)); replace HO543 := Aside0.mk (Kd.R_mono (Kd.R_told (Kd.R_told (Kd.R_old (aRk HO543).out hb) (Kd.R_base ho0)) (Kd.R_base ho1)) (fun _ h_ => h_.1)); replace BK538 := aBb BK538 hb; replace BK539 := aBb BK539 hb; replace HB := aBs HB hb; (try clear hb); (try clear hb2); (try clear hk); (try clear hi); (try clear ho0); (try clear ho1)) | ((with_reducible refine gate_dst (N := 10) rfl ?_); refine aBox 10 #[.slice none 0 0, .slice none 0 0, .int .i64 0, .bool false] 33 ?_; intro gb554 hg w25 hbox hb; replace HO543 := aRb HO543 hb; replace HO547 := aRb HO547 hb; replace HO550 := aRb HO550 hb; have BK554 := Aside0.mk (hbox); have GW554 := aGe hg HB; have GE554 := aGe hg HB; replace HB := aBs HB hb; have NB538_554 := aNl hg BK538; have NB554_538 := aNg hg BK538; replace BK538 := aBb BK538 hb; have NB539_554 := aNl hg BK539; have NB554_539 := aNg hg BK539; replace BK539 := aBb BK539 hb; clear hb hbox hg; obtain ⟨Ao26, co26, eo26⟩ := Kd.R_slice HO547.out; subst eo26; have hnb27 := NB554_538.out; have hnc27 := NB538_554.out; have hnb28 := NB554_539.out; have hnc28 := NB539_554.out; obtain ⟨⟨hcz29_0, hcz29_1, hcz29_2, hcz29_3⟩, hfz29_0, hfz29_1, hfz29_2, hfz29_3⟩ := aC4 BK554; obtain ⟨Ao30, co30, eo30⟩ := Kd.R_slice HO550.out; subst eo30; obtain ⟨⟨hcz31_0, hcz31_1, hcz31_2, hcz31_3⟩, hfz31_0, hfz31_1, hfz31_2, hfz31_3⟩ := aC4 BK538) | ((with_reducible refine gate_callee (f := 80) rfl ?_); refine goesL_ (some 31) rfl rfl Try.func80 (by kernel_rfl) rfl #[.agg #[.int .i64 a0_0, .int .i64 a0_1, .bool a0_2, .slice A0_3 l0_3.length c0_3], .slice (some ⟨go11, 0, none⟩) y544.length co11, .agg #[.slice Ao26 t545.length co26, .slice Ao30 t548.length co30, .int .i64 t551, .bool t552], .int .i64 a3] rfl (by (try simp only [List.map_toArray, List.map_cons, List.map_nil]); first | done | (rw [show y544.length = y541.length from (Kd.R_reads' HO543.out).1.symm] <;> rfl) | rfl | (simp only [List.length_drop, List.length_take]; rfl)) ?_; (with_reducible refine (thermionref01_charge.calls k a0_0 a0_1 a0_2 _ _ l0_3 _ _ y544 _ _ t545 _ _ t548 t551 t552 a3 t555 t556 _ ?side1 ?side2 ?side3 ?side4 ?side5 ?side6 ?side7 ?side8 A13.out).mono ?_); (case side1 => exact Kd.C_below HR0_3.out (aBl HB).out); (case side2 => exact HC0_3.out); (case side3 => refine (Kd.R_reads' (e := 3) (base := w.heap.size) (ok := fun k_ => ((True ∧ some k_ ≠ (.slice Ao26 t545.length co26 : Value).ownBlock) ∧ some k_ ≠ (.slice Ao30 t548.length co30 : Value).ownBlock)) (n := y541.length) (c := co11) ?_).2.2; exact (by (with_reducible repeat (first | apply Kd.R_alloc | apply Kd.R_drewN | apply Kd.R_drew)); exact (Kd.R_mono (Kd.R_far (p := ⟨gb554, 3, none⟩) (Kd.R_far (p := ⟨gb554, 2, none⟩) (Kd.R_far (p := ⟨gb554, 1, none⟩) (Kd.R_far (p := ⟨gb554, 0, none⟩) (Kd.R_types HO543.out BK554.out (by decide)) (fun _ hk => hk.2) (.slice Ao26 t545.length co26)) (fun _ hk => hk.2) (.slice Ao30 t548.length co30)) (fun _ hk => hk.2) (.int .i64 t551)) (fun _ hk => hk.2) (.bool t552)) (fun _ h_ => h_.1)))); (case side4 => rw [show y544.length = y541.length from (Kd.R_reads' HO543.out).1.symm]; exact (Kd.R_reads' HO543.out).2.1); (case side5 => refine (Kd.R_reads' (e := 3) (base := w.heap.size) (ok := fun k_ => (some k_ ≠ (.slice Ao30 t548.length co30 : Value).ownBlock ∧ some k_ ≠ (.slice (some ⟨go11, 0, none⟩) y541.length co11 : Value).ownBlock)) (n := t545.length) (c := co26) ?_).2.2; exact (by (with_reducible repeat (first | apply Kd.R_alloc | apply Kd.R_drewN | apply Kd.R_drew)); exact (Kd.R_mono (Kd.R_far (p := ⟨gb554, 3, none⟩) (Kd.R_far (p := ⟨gb554, 2, none⟩) (Kd.R_far (p := ⟨gb554, 1, none⟩) (Kd.R_far (p := ⟨gb554, 0, none⟩) (Kd.R_types HO547.out BK554.out (by decide)) (fun _ hk => hk.2) (.slice Ao26 t545.length co26)) (fun _ hk => hk.2) (.slice Ao30 t548.length co30)) (fun _ hk => hk.2) (.int .i64 t551)) (fun _ hk => hk.2) (.bool t552)) (fun _ h_ => h_.1)))); (case side6 => exact (Kd.R_reads' HO547.out).2.1); (case side7 => refine (Kd.R_reads' (e := 3) (base := w.heap.size) (ok := fun k_ => (some k_ ≠ (.slice Ao26 t545.length co26 : Value).ownBlock ∧ some k_ ≠ (.slice (some ⟨go11, 0, none⟩) y541.length co11 : Value).ownBlock)) (n := t548.length) (c := co30) ?_).2.2; exact (by (with_reducible repeat (first | apply Kd.R_alloc | apply Kd.R_drewN | apply Kd.R_drew)); exact (Kd.R_mono (Kd.R_far (p := ⟨gb554, 3, none⟩) (Kd.R_far (p := ⟨gb554, 2, none⟩) (Kd.R_far (p := ⟨gb554, 1, none⟩) (Kd.R_far (p := ⟨gb554, 0, none⟩) (Kd.R_types HO550.out BK554.out (by decide)) (fun _ hk => hk.2) (.slice Ao26 t545.length co26)) (fun _ hk => hk.2) (.slice Ao30 t548.length co30)) (fun _ hk => hk.2) (.int .i64 t551)) (fun _ hk => hk.2) (.bool t552)) (fun _ h_ => h_.1)))); (case side8 => exact (Kd.R_reads' HO550.out).2.1); rintro e w32 ⟨rfl, hb⟩; refine ⟨_, rfl, ?_⟩; replace HO543 := Aside0.mk (Kd.R_below (by (with_reducible repeat (first | apply Kd.R_alloc | apply Kd.R_drewN | apply Kd.R_drew)); exact (Kd.R_mono (Kd.R_far (p := ⟨gb554, 3, none⟩) (Kd.R_far (p := ⟨gb554, 2, none⟩) (Kd.R_far (p := ⟨gb554, 1, none⟩) (Kd.R_far (p := ⟨gb554, 0, none⟩) (Kd.R_types HO543.out BK554.out (by decide)) (fun _ hk => hk.2) (.slice Ao26 t545.length co26)) (fun _ hk => hk.2) (.slice Ao30 t548.length co30)) (fun _ hk => hk.2) (.int .i64 t551)) (fun _ hk => hk.2) (.bool t552)) (fun _ h_ => h_.1))) hb); replace HO547 := Aside0.mk (Kd.R_below (by (with_reducible repeat (first | apply Kd.R_alloc | apply Kd.R_drewN | apply Kd.R_drew)); exact (Kd.R_mono (Kd.R_far (p := ⟨gb554, 3, none⟩) (Kd.R_far (p := ⟨gb554, 2, none⟩) (Kd.R_far (p := ⟨gb554, 1, none⟩) (Kd.R_far (p := ⟨gb554, 0, none⟩) (Kd.R_types HO547.out BK554.out (by decide)) (fun _ hk => hk.2) (.slice Ao26 t545.length co26)) (fun _ hk => hk.2) (.slice Ao30 t548.length co30)) (fun _ hk => hk.2) (.int .i64 t551)) (fun _ hk => hk.2) (.bool t552)) (fun _ h_ => h_.1))) hb); replace HO550 := Aside0.mk (Kd.R_below (by (with_reducible repeat (first | apply Kd.R_alloc | apply Kd.R_drewN | apply Kd.R_drew)); exact (Kd.R_mono (Kd.R_far (p := ⟨gb554, 3, none⟩) (Kd.R_far (p := ⟨gb554, 2, none⟩) (Kd.R_far (p := ⟨gb554, 1, none⟩) (Kd.R_far (p := ⟨gb554, 0, none⟩) (Kd.R_types HO550.out BK554.out (by decide)) (fun _ hk => hk.2) (.slice Ao26 t545.length co26)) (fun _ hk => hk.2) (.slice Ao30 t548.length co30)) (fun _ hk => hk.2) (.int .i64 t551)) (fun _ hk => hk.2) (.bool t552)) (fun _ h_ => h_.1))) hb); replace BK538 := Aside0.mk (blk_below (g := gb538) (o := .cells #[.int .i64 a0_0, .int .i64 a0_1, .bool a0_2, .slice A0_3 l0_3.length c0_3] 24 (0, 0)) (by (with_reducible repeat (first | refine blk_drewN ?_ _ | refine blk_drew ?_ | refine blk_alloc ?_ _)); refine blk_far ?_ NB538_554.out _; (with_reducible repeat (first | refine blk_drewN ?_ _ | refine blk_drew ?_ | refine blk_alloc ?_ _)); refine blk_far ?_ NB538_554.out _; (with_reducible repeat (first | refine blk_drewN ?_ _ | refine blk_drew ?_ | refine blk_alloc ?_ _)); refine blk_far ?_ NB538_554.out _; (with_reducible repeat (first | refine blk_drewN ?_ _ | refine blk_drew ?_ | refine blk_alloc ?_ _)); refine blk_far ?_ NB538_554.out _; (with_reducible repeat (first | refine blk_drewN ?_ _ | refine blk_drew ?_ | refine blk_alloc ?_ _)); exact BK538.out) hb); replace BK539 := Aside0.mk (blk_below (g := gb539) (o := .cells #[.int .i64 0, .int .i64 0] 42 (0, 0)) (by (with_reducible repeat (first | refine blk_drewN ?_ _ | refine blk_drew ?_ | refine blk_alloc ?_ _)); refine blk_far ?_ NB539_554.out _; (with_reducible repeat (first | refine blk_drewN ?_ _ | refine blk_drew ?_ | refine blk_alloc ?_ _)); refine blk_far ?_ NB539_554.out _; (with_reducible repeat (first | refine blk_drewN ?_ _ | refine blk_drew ?_ | refine blk_alloc ?_ _)); refine blk_far ?_ NB539_554.out _; (with_reducible repeat (first | refine blk_drewN ?_ _ | refine blk_drew ?_ | refine blk_alloc ?_ _)); refine blk_far ?_ NB539_554.out _; (with_reducible repeat (first | refine blk_drewN ?_ _ | refine blk_drew ?_ | refine blk_alloc ?_ _)); exact BK539.out) hb); replace BK554 := Aside0.mk (blk_below (g := gb554) (o := .cells #[.slice Ao26 t545.length co26, .slice Ao30 t548.length co30, .int .i64 t551, .bool t552] 33 (0, 0)) (by (with_reducible repeat (first | refine blk_drewN ?_ _ | refine blk_drew ?_ | refine blk_alloc ?_ _)); refine blk_put (cs := #[.slice Ao26 t545.length co26, .slice Ao30 t548.length co30, .int .i64 t551, .bool false]) ?_ 3 _ rfl; (with_reducible repeat (first | refine blk_drewN ?_ _ | refine blk_drew ?_ | refine blk_alloc ?_ _)); refine blk_put (cs := #[.slice Ao26 t545.length co26, .slice Ao30 t548.length co30, .int .i64 0, .bool false]) ?_ 2 _ rfl; (with_reducible repeat (first | refine blk_drewN ?_ _ | refine blk_drew ?_ | refine blk_alloc ?_ _)); refine blk_put (cs := #[.slice Ao26 t545.length co26, .slice none 0 0, .int .i64 0, .bool false]) ?_ 1 _ rfl; (with_reducible repeat (first | refine blk_drewN ?_ _ | refine blk_drew ?_ | refine blk_alloc ?_ _)); refine blk_put (cs := #[.slice none 0 0, .slice none 0 0, .int .i64 0, .bool false]) ?_ 0 _ rfl; (with_reducible repeat (first | refine blk_drewN ?_ _ | refine blk_drew ?_ | refine blk_alloc ?_ _)); exact BK554.out) hb); replace HB := aBs HB hb; (try clear hb); (try clear hb2); (try clear hk); (try clear hi)) | ((with_reducible refine gate_dst (N := 12) rfl ?_); refine aBox 12 #[.int .i64 0, .int .i64 0] 42 ?_; intro gb557 hg w33 hbox hb; replace HO543 := aRb HO543 hb; replace HO547 := aRb HO547 hb; replace HO550 := aRb HO550 hb; have BK557 := Aside0.mk (hbox); have GW557 := aGe hg HB; have GE557 := aGe hg HB; replace HB := aBs HB hb; have NB538_557 := aNl hg BK538; have NB557_538 := aNg hg BK538; replace BK538 := aBb BK538 hb; have NB539_557 := aNl hg BK539; have NB557_539 := aNg hg BK539; replace BK539 := aBb BK539 hb; have NB554_557 := aNl hg BK554; have NB557_554 := aNg hg BK554; replace BK554 := aBb BK554 hb; clear hb hbox hg; have hnb34 := NB557_538.out; have hnc34 := NB538_557.out; have hnb35 := NB557_539.out; have hnc35 := NB539_557.out; have hnb36 := NB557_554.out; have hnc36 := NB554_557.out; obtain ⟨⟨hcz37_0, hcz37_1⟩, hfz37_0, hfz37_1⟩ := aC2 BK557; obtain ⟨⟨hcz38_0, hcz38_1⟩, hfz38_0, hfz38_1⟩ := aC2 BK539))
     refine bodyPost_ret (results_cell_row rfl _ _ gb539 42 #[.int .i64 (wrap64 (-t556)), .int .i64 (wrap64 (-t555))] (0, 0) _ rfl (by (with_reducible repeat (first | refine blk_drewN ?_ _ | refine blk_drew ?_ | refine blk_alloc ?_ _)); refine blk_put (cs := #[.int .i64 (wrap64 (-t556)), .int .i64 0]) ?_ 1 _ rfl; (with_reducible repeat (first | refine blk_drewN ?_ _ | refine blk_drew ?_ | refine blk_alloc ?_ _)); refine blk_put (cs := #[.int .i64 0, .int .i64 0]) ?_ 0 _ rfl; (with_reducible repeat (first | refine blk_drewN ?_ _ | refine blk_drew ?_ | refine blk_alloc ?_ _)); refine blk_far ?_ NB539_557.out _; (with_reducible repeat (first | refine blk_drewN ?_ _ | refine blk_drew ?_ | refine blk_alloc ?_ _)); refine blk_far ?_ NB539_557.out _; (with_reducible repeat (first | refine blk_drewN ?_ _ | refine blk_drew ?_ | refine blk_alloc ?_ _)); exact BK539.out) Try.underlying42 rfl (by kernel_rfl)) rfl ?_
     exact ⟨by first | rfl | (simp [errW_none, errW_some] <;> rfl) | (simp only [← hji8]; first | rfl | (simp [errW_none, errW_some] <;> rfl)) | (simp [*, errW_none, errW_some] <;> rfl), (aBl HB).out⟩
    ·rw [if_neg c10] at H
     exact absurd H (by simp)
   ·rw [if_neg c9] at H
    exact absurd H (by simp)
  ·rw [if_neg c7] at H
   exact absurd H (by simp)
 ·rw [if_neg c6] at H
  exact absurd H (by simp)
def thermionref01_Influence.f (k : Nat) (a0_0 : Int) (a0_1 : Int) (a0_2 : Bool) (l0_3 : List Int) (a1 : Int) (a2 : Int) (a3 : Int) : Option (Int × Int × Int) := (thermionref01_askable.f k a0_0 a0_1 a0_2 l0_3 a1 (([a2, a3] : List Int))).bind fun t563 => (if t563 = 0 then ((thermionref01_influence.f k a0_0 a0_1 a0_2 l0_3 a1 a2 a3).bind fun bt564 => (some (bt564.1, bt564.2, 0))) else (some (0, 0, t563)))
set_option maxHeartbeats 8000000 in
set_option maxRecDepth 100000 in
theorem thermionref01_Influence.calls (k : Nat) (a0_0 : Int) (a0_1 : Int) (a0_2 : Bool) (A0_3 : Option Addr) (c0_3 : Nat) (l0_3 : List Int) (a1 : Int) (a2 : Int) (a3 : Int) (r1 : Int) (r2 : Int) (r3 : Int) (w : World) (hr0_3 : Kd.C (Kd.int .i64) w A0_3 l0_3.length l0_3) (hc0_3 : l0_3.length ≤ c0_3) (h : thermionref01_Influence.f k a0_0 a0_1 a0_2 l0_3 a1 a2 a3 = some (r1, r2, r3)) :
  Calls Try.prog 55 #[.agg #[.int .i64 a0_0, .int .i64 a0_1, .bool a0_2, .slice A0_3 l0_3.length c0_3], .int .i64 a1, .int .i64 a2, .int .i64 a3] w fun e w' => e = .returned (.tuple #[.agg #[.int .i64 r1, .int .i64 r2], .int .i64 r3]) ∧ Below w.heap.size w w' := by
 have hu24 := Try.underlying24
 have hu42 := Try.underlying42
 have HR0_3 := Aside0.mk hr0_3
 have HC0_3 := Aside0.mk hc0_3
 clear hr0_3 hc0_3
 have HB := Aside0.mk (Below.refl w.heap.size w)
 have H : ((thermionref01_askable.f k a0_0 a0_1 a0_2 l0_3 a1 (([a2, a3] : List Int))).bind fun t563 => (if t563 = 0 then ((thermionref01_influence.f k a0_0 a0_1 a0_2 l0_3 a1 a2 a3).bind fun bt564 => (some (bt564.1, bt564.2, 0))) else (some (0, 0, t563)))) = some (r1, r2, r3) := h
 clear h
 obtain ⟨y560, hy560⟩ : ∃ y_ : List Int, y_ = (([a2, a3] : List Int)) := ⟨_, rfl⟩
 replace H : ((thermionref01_askable.f k a0_0 a0_1 a0_2 l0_3 a1 y560).bind fun t563 => (if t563 = 0 then ((thermionref01_influence.f k a0_0 a0_1 a0_2 l0_3 a1 a2 a3).bind fun bt564 => (some (bt564.1, bt564.2, 0))) else (some (0, 0, t563)))) = some (r1, r2, r3) := by first | (rw [hy560]; with_reducible exact H) | (have H2_ := (Option.bind_some _ _).symm.trans H; rw [hy560]; with_reducible exact H2_) | (have H2_ := (Option.bind_some _ _).symm.trans H; with_reducible exact H2_) | with_reducible exact H | (rw [hy560]; exact H) | exact H
 have Ny560 := Aside0.mk hy560
 clear hy560
 obtain ⟨t563, A50, H⟩ := Option.bind_eq_some_iff.mp H
 have A5 := Aside0.mk A50
 clear A50
 by_cases c6 : t563 = 0
 ·rw [if_pos c6] at H
  obtain ⟨c6b0, c6b1⟩ := aEq c6
  clear c6
  replace H := Option.bind_eq_some_iff.mp H
  obtain ⟨⟨t564, t565⟩, A70, H⟩ := H
  replace H : (some (t564, t565, 0)) = some (r1, r2, r3) := H
  have A7 := Aside0.mk A70
  clear A70
  simp only [Option.some.injEq, Prod.mk.injEq] at H
  obtain ⟨rfl, rfl, rfl⟩ := H
  go_enter Try.func55, Try.ntmps55
  go_wp2_with (first | ((with_reducible refine gate_dst (N := 4) rfl ?_); refine aBox 4 #[.int .i64 a0_0, .int .i64 a0_1, .bool a0_2, .slice A0_3 l0_3.length c0_3] 24 ?_; intro gb558 hg w8 hbox hb; have BK558 := Aside0.mk (hbox); have GW558 := aGe hg HB; have GE558 := aGe hg HB; replace HB := aBs HB hb; clear hb hbox hg) | ((with_reducible refine gate_dst (N := 8) rfl ?_); refine aBox 8 #[.int .i64 0, .int .i64 0] 42 ?_; intro gb559 hg w9 hbox hb; have BK559 := Aside0.mk (hbox); have GW559 := aGe hg HB; have GE559 := aGe hg HB; replace HB := aBs HB hb; have NB558_559 := aNl hg BK558; have NB559_558 := aNg hg BK558; replace BK558 := aBb BK558 hb; clear hb hbox hg; have hnb10 := NB558_559.out; have hnc10 := NB559_558.out; obtain ⟨⟨hcz11_0, hcz11_1, hcz11_2, hcz11_3⟩, hfz11_0, hfz11_1, hfz11_2, hfz11_3⟩ := aC4 BK558) | ((with_reducible refine gate_dst (N := 15) rfl ?_); refine Kd.R_lit (Kd.int .i64) _ 3 ?hg (N := 15) ?hd (xs := ([a2, a3] : List Int)) (inner := [.int .i64 a2, .int .i64 a3]) (ok := fun _ => True) (okp := fun _ => True) ?hr ?hp (fun _ hk => hk) trivial (Below.refl _ _) (Nat.le_refl _) (by simp) ?_; (case hd => rfl); (case hg => rfl); (case hr => first | (go_simp; done) | (go_simp; rfl)); (case hp => exact (Reps.one (show Kd.M (Kd.int .i64) _ _ _ a2 [.int .i64 a2] from rfl) (Reps.one (show Kd.M (Kd.int .i64) _ _ _ a3 [.int .i64 a3] from rfl) (Reps.none _ _)))); intro v561 w12 ho13 hb hg_ hnew_; clear hg_ hnew_; (first | rw [← Ny560.out] at ho13 | (simp only [Int.reduceToNat] at ho13; rw [← Ny560.out] at ho13)); have HO562 := Aside0.mk (Kd.R_lower ho13 (below_size (aBl HB).out)); replace BK558 := aBb BK558 hb; replace BK559 := aBb BK559 hb; replace HB := aBs HB hb; clear hb ho13; obtain ⟨Ao14, co14, eo14⟩ := Kd.R_slice HO562.out; subst eo14) | ((with_reducible refine gate_callee (f := 92) rfl ?_); refine goesL_ (some 16) rfl rfl Try.func92 (by kernel_rfl) rfl #[.agg #[.int .i64 a0_0, .int .i64 a0_1, .bool a0_2, .slice A0_3 l0_3.length c0_3], .int .i64 a1, .slice Ao14 y560.length co14] rfl aA ?_; (with_reducible refine (thermionref01_askable.calls k a0_0 a0_1 a0_2 _ _ l0_3 a1 _ _ y560 t563 _ ?side1 ?side2 ?side3 ?side4 A5.out).mono ?_); (case side1 => exact aC HR0_3 HB); (case side2 => exact HC0_3.out); (case side3 => repeat (first | exact (Kd.R_reads' HO562.out).2.2 | (with_reducible refine Kd.C_alloc ?_ _) | (with_reducible refine Kd.C_drewN ?_ _) | (with_reducible refine Kd.C_drew ?_))); (case side4 => exact (Kd.R_reads' HO562.out).2.1); rintro e w15 ⟨rfl, hb⟩; refine ⟨_, rfl, ?_⟩; replace HO562 := aRb HO562 hb; replace BK558 := aBb BK558 hb; replace BK559 := aBb BK559 hb; replace HB := aBs HB hb; (try clear hb); (try clear hb2); (try clear hk); (try clear hi); obtain ⟨⟨hcz16_0, hcz16_1, hcz16_2, hcz16_3⟩, hfz16_0, hfz16_1, hfz16_2, hfz16_3⟩ := aC4 BK558) | ((with_reducible refine gate_callee (f := 93) rfl ?_); refine goesL_ (some 25) rfl rfl Try.func93 (by kernel_rfl) rfl #[.agg #[.int .i64 a0_0, .int .i64 a0_1, .bool a0_2, .slice A0_3 l0_3.length c0_3], .int .i64 a1, .int .i64 a2, .int .i64 a3] rfl aA ?_; (with_reducible refine (thermionref01_influence.calls k a0_0 a0_1 a0_2 _ _ l0_3 a1 a2 a3 t564 t565 _ ?side1 ?side2 A7.out).mono ?_); (case side1 => exact aC HR0_3 HB); (case side2 => exact HC0_3.out); rintro e w17 ⟨rfl, hb⟩; refine ⟨_, rfl, ?_⟩; replace HO562 := aRb HO562 hb; replace BK558 := aBb BK558 hb; replace BK559 := aBb BK559 hb; replace HB := aBs HB hb; (try clear hb); (try clear hb2); (try clear hk); (try clear hi); obtain ⟨⟨hcz18_0, hcz18_1⟩, hfz18_0, hfz18_1⟩ := aC2 BK559))
  refine bodyPost_ret (results_ct rfl _ _ gb559 42 #[.int .i64 t564, .int .i64 t565] (0, 0) _ rfl (by (with_reducible repeat (first | refine blk_drewN ?_ _ | refine blk_drew ?_ | refine blk_alloc ?_ _)); refine blk_put (cs := #[.int .i64 t564, .int .i64 0]) ?_ 1 _ rfl; (with_reducible repeat (first | refine blk_drewN ?_ _ | refine blk_drew ?_ | refine blk_alloc ?_ _)); refine blk_put (cs := #[.int .i64 0, .int .i64 0]) ?_ 0 _ rfl; (with_reducible repeat (first | refine blk_drewN ?_ _ | refine blk_drew ?_ | refine blk_alloc ?_ _)); exact BK559.out) Try.underlying42 rfl (by kernel_rfl)) rfl ?_
  exact ⟨by first | rfl | (simp [errW_none, errW_some] <;> rfl) | (simp [*, errW_none, errW_some] <;> rfl), (aBl HB).out⟩
 ·rw [if_neg c6] at H
  obtain ⟨c6b0, c6b1⟩ := aNe c6
  simp only [Option.some.injEq, Prod.mk.injEq] at H
  obtain ⟨rfl, rfl, rfl⟩ := H
  go_enter Try.func55, Try.ntmps55
  go_wp2_with (first | ((with_reducible refine gate_dst (N := 4) rfl ?_); refine aBox 4 #[.int .i64 a0_0, .int .i64 a0_1, .bool a0_2, .slice A0_3 l0_3.length c0_3] 24 ?_; intro gb558 hg w19 hbox hb; have BK558 := Aside0.mk (hbox); have GW558 := aGe hg HB; have GE558 := aGe hg HB; replace HB := aBs HB hb; clear hb hbox hg) | ((with_reducible refine gate_dst (N := 8) rfl ?_); refine aBox 8 #[.int .i64 0, .int .i64 0] 42 ?_; intro gb559 hg w20 hbox hb; have BK559 := Aside0.mk (hbox); have GW559 := aGe hg HB; have GE559 := aGe hg HB; replace HB := aBs HB hb; have NB558_559 := aNl hg BK558; have NB559_558 := aNg hg BK558; replace BK558 := aBb BK558 hb; clear hb hbox hg; have hnb21 := NB558_559.out; have hnc21 := NB559_558.out; obtain ⟨⟨hcz22_0, hcz22_1, hcz22_2, hcz22_3⟩, hfz22_0, hfz22_1, hfz22_2, hfz22_3⟩ := aC4 BK558) | ((with_reducible refine gate_dst (N := 15) rfl ?_); refine Kd.R_lit (Kd.int .i64) _ 3 ?hg (N := 15) ?hd (xs := ([a2, a3] : List Int)) (inner := [.int .i64 a2, .int .i64 a3]) (ok := fun _ => True) (okp := fun _ => True) ?hr ?hp (fun _ hk => hk) trivial (Below.refl _ _) (Nat.le_refl _) (by simp) ?_; (case hd => rfl); (case hg => rfl); (case hr => first | (go_simp; done) | (go_simp; rfl)); (case hp => exact (Reps.one (show Kd.M (Kd.int .i64) _ _ _ a2 [.int .i64 a2] from rfl) (Reps.one (show Kd.M (Kd.int .i64) _ _ _ a3 [.int .i64 a3] from rfl) (Reps.none _ _)))); intro v561 w23 ho24 hb hg_ hnew_; clear hg_ hnew_; (first | rw [← Ny560.out] at ho24 | (simp only [Int.reduceToNat] at ho24; rw [← Ny560.out] at ho24)); have HO562 := Aside0.mk (Kd.R_lower ho24 (below_size (aBl HB).out)); replace BK558 := aBb BK558 hb; replace BK559 := aBb BK559 hb; replace HB := aBs HB hb; clear hb ho24; obtain ⟨Ao25, co25, eo25⟩ := Kd.R_slice HO562.out; subst eo25) | ((with_reducible refine gate_callee (f := 92) rfl ?_); refine goesL_ (some 16) rfl rfl Try.func92 (by kernel_rfl) rfl #[.agg #[.int .i64 a0_0, .int .i64 a0_1, .bool a0_2, .slice A0_3 l0_3.length c0_3], .int .i64 a1, .slice Ao25 y560.length co25] rfl aA ?_; (with_reducible refine (thermionref01_askable.calls k a0_0 a0_1 a0_2 _ _ l0_3 a1 _ _ y560 t563 _ ?side1 ?side2 ?side3 ?side4 A5.out).mono ?_); (case side1 => exact aC HR0_3 HB); (case side2 => exact HC0_3.out); (case side3 => repeat (first | exact (Kd.R_reads' HO562.out).2.2 | (with_reducible refine Kd.C_alloc ?_ _) | (with_reducible refine Kd.C_drewN ?_ _) | (with_reducible refine Kd.C_drew ?_))); (case side4 => exact (Kd.R_reads' HO562.out).2.1); rintro e w26 ⟨rfl, hb⟩; refine ⟨_, rfl, ?_⟩; replace HO562 := aRb HO562 hb; replace BK558 := aBb BK558 hb; replace BK559 := aBb BK559 hb; replace HB := aBs HB hb; (try clear hb); (try clear hb2); (try clear hk); (try clear hi); obtain ⟨⟨hcz27_0, hcz27_1⟩, hfz27_0, hfz27_1⟩ := aC2 BK559))
  refine bodyPost_ret (results_ct rfl _ _ gb559 42 #[.int .i64 0, .int .i64 0] (0, 0) _ rfl (by (with_reducible repeat (first | refine blk_drewN ?_ _ | refine blk_drew ?_ | refine blk_alloc ?_ _)); refine blk_put (cs := #[.int .i64 0, .int .i64 0]) ?_ 1 _ rfl; (with_reducible repeat (first | refine blk_drewN ?_ _ | refine blk_drew ?_ | refine blk_alloc ?_ _)); refine blk_put (cs := #[.int .i64 0, .int .i64 0]) ?_ 0 _ rfl; (with_reducible repeat (first | refine blk_drewN ?_ _ | refine blk_drew ?_ | refine blk_alloc ?_ _)); exact BK559.out) Try.underlying42 rfl (by kernel_rfl)) rfl ?_
  exact ⟨by first | rfl | (simp [errW_none, errW_some] <;> rfl) | (simp [*, errW_none, errW_some] <;> rfl), (aBl HB).out⟩
def field_Amplification.f (k : Nat) (a0_0 : Int) (a0_1 : Int) (a0_2 : Bool) (l0_3 : List Int) (a1 : Int) (a2 : Int) (a3 : Int) (a4 : Int) : Option (Int × Int × Int) := (field_apart.f k a0_0 a0_1 a0_2 l0_3 a1 (([a2, a3, a4] : List Int))).bind fun t571 => (if t571 = 0 then ((field_Influence.f k a0_0 a0_1 a0_2 l0_3 a1 a3 a2).bind fun bt572 => ((field_Influence.f k a0_0 a0_1 a0_2 l0_3 a1 a4 a2).bind fun bt576 => (if bt576.1 < 1 then (some (0, 0, 10)) else ((field_down.f (wrap64 (1000 * bt572.1)) bt576.2.1).bind fun t580 => ((field_up.f (wrap64 (1000 * bt572.2.1)) bt576.1).bind fun t581 => (some (t580, t581, 0))))))) else (some (0, 0, t571)))
def field_Amplification.T8 : Bool × List (List Nat × List Nat) := (true, [([], []), ([0], [0]), ([1], [1]), ([], []), ([3], [3]), ([2, 4], [2, 4]), ([], []), ([6], [6]), ([7], [7]), ([], []), ([9], [9]), ([8, 10, 5], [8, 10]), ([5, 11], [5, 11]), ([12, 11, 0, 1, 2, 3, 4, 5, 6, 7, 8, 9, 10, 11, 12], [12]), ([13, 0, 1, 2, 3, 4, 5, 6, 7, 8, 9, 10, 11, 12, 13], [])])
def field_Amplification.B8 : List Nat := [0, 1, 3, 0, 8, 31, 0, 64, 192, 0, 512, 2047, 4095, 8191, 16383]
theorem field_Amplification.tab8 : rtab .any (opsOf Try.f56 8) = field_Amplification.T8 := by kernel_rfl
theorem field_Amplification.bits8 : waitsOk field_Amplification.T8.2 field_Amplification.B8 = true := by kernel_rfl
set_option maxHeartbeats 8000000 in
set_option maxRecDepth 100000 in
theorem field_Amplification.calls (k : Nat) (a0_0 : Int) (a0_1 : Int) (a0_2 : Bool) (A0_3 : Option Addr) (c0_3 : Nat) (l0_3 : List Int) (a1 : Int) (a2 : Int) (a3 : Int) (a4 : Int) (r1 : Int) (r2 : Int) (r3 : Int) (w : World) (hr0_3 : Kd.C (Kd.int .i64) w A0_3 l0_3.length l0_3) (hc0_3 : l0_3.length ≤ c0_3) (h : field_Amplification.f k a0_0 a0_1 a0_2 l0_3 a1 a2 a3 a4 = some (r1, r2, r3)) :
  Calls Try.prog 56 #[.agg #[.int .i64 a0_0, .int .i64 a0_1, .bool a0_2, .slice A0_3 l0_3.length c0_3], .int .i64 a1, .int .i64 a2, .int .i64 a3, .int .i64 a4] w fun e w' => e = .returned (.tuple #[.agg #[.int .i64 r1, .int .i64 r2], .int .i64 r3]) ∧ Below w.heap.size w w' := by
 have hu24 := Try.underlying24
 have hu42 := Try.underlying42
 have HR0_3 := Aside0.mk hr0_3
 have HC0_3 := Aside0.mk hc0_3
 clear hr0_3 hc0_3
 have HB := Aside0.mk (Below.refl w.heap.size w)
 have H : ((field_apart.f k a0_0 a0_1 a0_2 l0_3 a1 (([a2, a3, a4] : List Int))).bind fun t571 => (if t571 = 0 then ((field_Influence.f k a0_0 a0_1 a0_2 l0_3 a1 a3 a2).bind fun bt572 => ((field_Influence.f k a0_0 a0_1 a0_2 l0_3 a1 a4 a2).bind fun bt576 => (if bt576.1 < 1 then (some (0, 0, 10)) else ((field_down.f (wrap64 (1000 * bt572.1)) bt576.2.1).bind fun t580 => ((field_up.f (wrap64 (1000 * bt572.2.1)) bt576.1).bind fun t581 => (some (t580, t581, 0))))))) else (some (0, 0, t571)))) = some (r1, r2, r3) := h
 clear h
 obtain ⟨y568, hy568⟩ : ∃ y_ : List Int, y_ = (([a2, a3, a4] : List Int)) := ⟨_, rfl⟩
 replace H : ((field_apart.f k a0_0 a0_1 a0_2 l0_3 a1 y568).bind fun t571 => (if t571 = 0 then ((field_Influence.f k a0_0 a0_1 a0_2 l0_3 a1 a3 a2).bind fun bt572 => ((field_Influence.f k a0_0 a0_1 a0_2 l0_3 a1 a4 a2).bind fun bt576 => (if bt576.1 < 1 then (some (0, 0, 10)) else ((field_down.f (wrap64 (1000 * bt572.1)) bt576.2.1).bind fun t580 => ((field_up.f (wrap64 (1000 * bt572.2.1)) bt576.1).bind fun t581 => (some (t580, t581, 0))))))) else (some (0, 0, t571)))) = some (r1, r2, r3) := by first | (rw [hy568]; with_reducible exact H) | (have H2_ := (Option.bind_some _ _).symm.trans H; rw [hy568]; with_reducible exact H2_) | (have H2_ := (Option.bind_some _ _).symm.trans H; with_reducible exact H2_) | with_reducible exact H | (rw [hy568]; exact H) | exact H
 have Ny568 := Aside0.mk hy568
 clear hy568
 obtain ⟨t571, A60, H⟩ := Option.bind_eq_some_iff.mp H
 have A6 := Aside0.mk A60
 clear A60
 by_cases c7 : t571 = 0
 ·rw [if_pos c7] at H
  obtain ⟨c7b0, c7b1⟩ := aEq c7
  clear c7
  replace H := Option.bind_eq_some_iff.mp H
  obtain ⟨⟨t572, t573, t574⟩, A80, H⟩ := H
  replace H : ((field_Influence.f k a0_0 a0_1 a0_2 l0_3 a1 a4 a2).bind fun bt576 => (if bt576.1 < 1 then (some (0, 0, 10)) else ((field_down.f (wrap64 (1000 * t572)) bt576.2.1).bind fun t580 => ((field_up.f (wrap64 (1000 * t573)) bt576.1).bind fun t581 => (some (t580, t581, 0)))))) = some (r1, r2, r3) := H
  have A8 := Aside0.mk A80
  clear A80
  replace H := Option.bind_eq_some_iff.mp H
  obtain ⟨⟨t576, t577, t578⟩, A90, H⟩ := H
  replace H : (if t576 < 1 then (some (0, 0, 10)) else ((field_down.f (wrap64 (1000 * t572)) t577).bind fun t580 => ((field_up.f (wrap64 (1000 * t573)) t576).bind fun t581 => (some (t580, t581, 0))))) = some (r1, r2, r3) := H
  have A9 := Aside0.mk A90
  clear A90
  by_cases c10 : t576 < 1
  ·rw [if_pos c10] at H
   have c10b0 := decide_eq_true c10
   clear c10
   simp only [Option.some.injEq, Prod.mk.injEq] at H
   obtain ⟨rfl, rfl, rfl⟩ := H
   go_enter Try.func56, Try.ntmps56
   go_wp2_with (first | ((with_reducible refine gate_dst (N := 5) rfl ?_); refine aBox 5 #[.int .i64 a0_0, .int .i64 a0_1, .bool a0_2, .slice A0_3 l0_3.length c0_3] 24 ?_; intro gb566 hg w11 hbox hb; have BK566 := Aside0.mk (hbox); have GW566 := aGe hg HB; have GE566 := aGe hg HB; replace HB := aBs HB hb; clear hb hbox hg) | ((with_reducible refine gate_dst (N := 10) rfl ?_); refine aBox 10 #[.int .i64 0, .int .i64 0] 42 ?_; intro gb567 hg w12 hbox hb; have BK567 := Aside0.mk (hbox); have GW567 := aGe hg HB; have GE567 := aGe hg HB; replace HB := aBs HB hb; have NB566_567 := aNl hg BK566; have NB567_566 := aNg hg BK566; replace BK566 := aBb BK566 hb; clear hb hbox hg; have hnb13 := NB566_567.out; have hnc13 := NB567_566.out; obtain ⟨⟨hcz14_0, hcz14_1, hcz14_2, hcz14_3⟩, hfz14_0, hfz14_1, hfz14_2, hfz14_3⟩ := aC4 BK566) | ((with_reducible refine gate_dst (N := 22) rfl ?_); refine Kd.R_lit (Kd.int .i64) _ 3 ?hg (N := 22) ?hd (xs := ([a2, a3, a4] : List Int)) (inner := [.int .i64 a2, .int .i64 a3, .int .i64 a4]) (ok := fun _ => True) (okp := fun _ => True) ?hr ?hp (fun _ hk => hk) trivial (Below.refl _ _) (Nat.le_refl _) (by simp) ?_; (case hd => rfl); (case hg => rfl); (case hr => first | (go_simp; done) | (go_simp; rfl)); (case hp => exact (Reps.one (show Kd.M (Kd.int .i64) _ _ _ a2 [.int .i64 a2] from rfl) (Reps.one (show Kd.M (Kd.int .i64) _ _ _ a3 [.int .i64 a3] from rfl) (Reps.one (show Kd.M (Kd.int .i64) _ _ _ a4 [.int .i64 a4] from rfl) (Reps.none _ _))))); intro v569 w15 ho16 hb hg_ hnew_; clear hg_ hnew_; (first | rw [← Ny568.out] at ho16 | (simp only [Int.reduceToNat] at ho16; rw [← Ny568.out] at ho16)); have HO570 := Aside0.mk (Kd.R_lower ho16 (below_size (aBl HB).out)); replace BK566 := aBb BK566 hb; replace BK567 := aBb BK567 hb; replace HB := aBs HB hb; clear hb ho16; obtain ⟨Ao17, co17, eo17⟩ := Kd.R_slice HO570.out; subst eo17) | ((with_reducible refine gate_callee (f := 91) rfl ?_); refine goesL_ (some 23) rfl rfl Try.func91 (by kernel_rfl) rfl #[.agg #[.int .i64 a0_0, .int .i64 a0_1, .bool a0_2, .slice A0_3 l0_3.length c0_3], .int .i64 a1, .slice Ao17 y568.length co17] rfl aA ?_; (with_reducible refine (field_apart.calls k a0_0 a0_1 a0_2 _ _ l0_3 a1 _ _ y568 t571 _ ?side1 ?side2 ?side3 ?side4 A6.out).mono ?_); (case side1 => exact aC HR0_3 HB); (case side2 => exact HC0_3.out); (case side3 => repeat (first | exact (Kd.R_reads' HO570.out).2.2 | (with_reducible refine Kd.C_alloc ?_ _) | (with_reducible refine Kd.C_drewN ?_ _) | (with_reducible refine Kd.C_drew ?_))); (case side4 => exact (Kd.R_reads' HO570.out).2.1); rintro e w18 ⟨rfl, hb⟩; refine ⟨_, rfl, ?_⟩; replace HO570 := aRb HO570 hb; replace BK566 := aBb BK566 hb; replace BK567 := aBb BK567 hb; replace HB := aBs HB hb; (try clear hb); (try clear hb2); (try clear hk); (try clear hi); obtain ⟨⟨hcz19_0, hcz19_1, hcz19_2, hcz19_3⟩, hfz19_0, hfz19_1, hfz19_2, hfz19_3⟩ := aC4 BK566) | ((with_reducible refine gate_callee (f := 52) rfl ?_); refine goesL_ (some 33) rfl rfl Try.func52 (by kernel_rfl) rfl #[.agg #[.int .i64 a0_0, .int .i64 a0_1, .bool a0_2, .slice A0_3 l0_3.length c0_3], .int .i64 a1, .int .i64 a3, .int .i64 a2] rfl aA ?_; (with_reducible refine (field_Influence.calls k a0_0 a0_1 a0_2 _ _ l0_3 a1 a3 a2 t572 t573 t574 _ ?side1 ?side2 A8.out).mono ?_); (case side1 => exact aC HR0_3 HB); (case side2 => exact HC0_3.out); rintro e w20 ⟨rfl, hb⟩; refine ⟨_, rfl, ?_⟩; replace HO570 := aRb HO570 hb; replace BK566 := aBb BK566 hb; replace BK567 := aBb BK567 hb; replace HB := aBs HB hb; (try clear hb); (try clear hb2); (try clear hk); (try clear hi)) | ((with_reducible refine gate_dst (N := 13) rfl ?_); refine aBox 13 #[.int .i64 0, .int .i64 0] 42 ?_; intro gb575 hg w21 hbox hb; replace HO570 := aRb HO570 hb; have BK575 := Aside0.mk (hbox); have GW575 := aGe hg HB; have GE575 := aGe hg HB; replace HB := aBs HB hb; have NB566_575 := aNl hg BK566; have NB575_566 := aNg hg BK566; replace BK566 := aBb BK566 hb; have NB567_575 := aNl hg BK567; have NB575_567 := aNg hg BK567; replace BK567 := aBb BK567 hb; clear hb hbox hg; have hnb22 := NB575_566.out; have hnc22 := NB566_575.out; have hnb23 := NB575_567.out; have hnc23 := NB567_575.out; obtain ⟨⟨hcz24_0, hcz24_1⟩, hfz24_0, hfz24_1⟩ := aC2 BK575; obtain ⟨⟨hcz25_0, hcz25_1, hcz25_2, hcz25_3⟩, hfz25_0, hfz25_1, hfz25_2, hfz25_3⟩ := aC4 BK566) | ((with_reducible refine gate_callee (f := 52) rfl ?_); refine goesL_ (some 41) rfl rfl Try.func52 (by kernel_rfl) rfl #[.agg #[.int .i64 a0_0, .int .i64 a0_1, .bool a0_2, .slice A0_3 l0_3.length c0_3], .int .i64 a1, .int .i64 a4, .int .i64 a2] rfl aA ?_; (with_reducible refine (field_Influence.calls k a0_0 a0_1 a0_2 _ _ l0_3 a1 a4 a2 t576 t577 t578 _ ?side1 ?side2 A9.out).mono ?_); (case side1 => exact Kd.C_below HR0_3.out (aBl HB).out); (case side2 => exact HC0_3.out); rintro e w26 ⟨rfl, hb⟩; refine ⟨_, rfl, ?_⟩; replace HO570 := Aside0.mk (Kd.R_below (by (with_reducible repeat (first | apply Kd.R_alloc | apply Kd.R_drewN | apply Kd.R_drew)); exact (Kd.R_mono (Kd.R_far (p := ⟨gb575, 1, none⟩) (Kd.R_far (p := ⟨gb575, 0, none⟩) (Kd.R_types HO570.out BK575.out (by decide)) (fun _ hk => hk.2) (.int .i64 t572)) (fun _ hk => hk.2) (.int .i64 t573)) (fun _ h_ => h_.1))) hb); replace BK566 := Aside0.mk (blk_below (g := gb566) (o := .cells #[.int .i64 a0_0, .int .i64 a0_1, .bool a0_2, .slice A0_3 l0_3.length c0_3] 24 (0, 0)) (by (with_reducible repeat (first | refine blk_drewN ?_ _ | refine blk_drew ?_ | refine blk_alloc ?_ _)); refine blk_far ?_ NB566_575.out _; (with_reducible repeat (first | refine blk_drewN ?_ _ | refine blk_drew ?_ | refine blk_alloc ?_ _)); refine blk_far ?_ NB566_575.out _; (with_reducible repeat (first | refine blk_drewN ?_ _ | refine blk_drew ?_ | refine blk_alloc ?_ _)); exact BK566.out) hb); replace BK567 := Aside0.mk (blk_below (g := gb567) (o := .cells #[.int .i64 0, .int .i64 0] 42 (0, 0)) (by (with_reducible repeat (first | refine blk_drewN ?_ _ | refine blk_drew ?_ | refine blk_alloc ?_ _)); refine blk_far ?_ NB567_575.out _; (with_reducible repeat (first | refine blk_drewN ?_ _ | refine blk_drew ?_ | refine blk_alloc ?_ _)); refine blk_far ?_ NB567_575.out _; (with_reducible repeat (first | refine blk_drewN ?_ _ | refine blk_drew ?_ | refine blk_alloc ?_ _)); exact BK567.out) hb); replace BK575 := Aside0.mk (blk_below (g := gb575) (o := .cells #[.int .i64 t572, .int .i64 t573] 42 (0, 0)) (by (with_reducible repeat (first | refine blk_drewN ?_ _ | refine blk_drew ?_ | refine blk_alloc ?_ _)); refine blk_put (cs := #[.int .i64 t572, .int .i64 0]) ?_ 1 _ rfl; (with_reducible repeat (first | refine blk_drewN ?_ _ | refine blk_drew ?_ | refine blk_alloc ?_ _)); refine blk_put (cs := #[.int .i64 0, .int .i64 0]) ?_ 0 _ rfl; (with_reducible repeat (first | refine blk_drewN ?_ _ | refine blk_drew ?_ | refine blk_alloc ?_ _)); exact BK575.out) hb); replace HB := aBs HB hb; (try clear hb); (try clear hb2); (try clear hk); (try clear hi)) | ((with_reducible refine gate_dst (N := 15) rfl ?_); refine aBox 15 #[.int .i64 0, .int .i64 0] 42 ?_; intro gb579 hg w27 hbox hb; replace HO570 := aRb HO570 hb; have BK579 := Aside0.mk (hbox); have GW579 := aGe hg HB; have GE579 := aGe hg HB; replace HB := aBs HB hb; have NB566_579 := aNl hg BK566; have NB579_566 := aNg hg BK566; replace BK566 := aBb BK566 hb; have NB567_579 := aNl hg BK567; have NB579_567 := aNg hg BK567; replace BK567 := aBb BK567 hb; have NB575_579 := aNl hg BK575; have NB579_575 := aNg hg BK575; replace BK575 := aBb BK575 hb; clear hb hbox hg; have hnb28 := NB579_566.out; have hnc28 := NB566_579.out; have hnb29 := NB579_567.out; have hnc29 := NB567_579.out; have hnb30 := NB579_575.out; have hnc30 := NB575_579.out; obtain ⟨⟨hcz31_0, hcz31_1⟩, hfz31_0, hfz31_1⟩ := aC2 BK579; obtain ⟨⟨hcz32_0, hcz32_1⟩, hfz32_0, hfz32_1⟩ := aC2 BK567))
   refine bodyPost_ret (results_ct rfl _ _ gb567 42 #[.int .i64 0, .int .i64 0] (0, 0) _ rfl (by (with_reducible repeat (first | refine blk_drewN ?_ _ | refine blk_drew ?_ | refine blk_alloc ?_ _)); refine blk_put (cs := #[.int .i64 0, .int .i64 0]) ?_ 1 _ rfl; (with_reducible repeat (first | refine blk_drewN ?_ _ | refine blk_drew ?_ | refine blk_alloc ?_ _)); refine blk_put (cs := #[.int .i64 0, .int .i64 0]) ?_ 0 _ rfl; (with_reducible repeat (first | refine blk_drewN ?_ _ | refine blk_drew ?_ | refine blk_alloc ?_ _)); refine blk_far ?_ NB567_579.out _; (with_reducible repeat (first | refine blk_drewN ?_ _ | refine blk_drew ?_ | refine blk_alloc ?_ _)); refine blk_far ?_ NB567_579.out _; (with_reducible repeat (first | refine blk_drewN ?_ _ | refine blk_drew ?_ | refine blk_alloc ?_ _)); exact BK567.out) Try.underlying42 rfl (by kernel_rfl)) rfl ?_
   exact ⟨by first | rfl | (simp [errW_none, errW_some] <;> rfl) | (simp [*, errW_none, errW_some] <;> rfl), (aBl HB).out⟩
  ·rw [if_neg c10] at H
   have c10b0 := decide_eq_false c10
   clear c10
   obtain ⟨t580, A330, H⟩ := Option.bind_eq_some_iff.mp H
   have A33 := Aside0.mk A330
   clear A330
   obtain ⟨t581, A340, H⟩ := Option.bind_eq_some_iff.mp H
   have A34 := Aside0.mk A340
   clear A340
   simp only [Option.some.injEq, Prod.mk.injEq] at H
   obtain ⟨rfl, rfl, rfl⟩ := H
   go_enter Try.func56, Try.ntmps56
   try go_wp2_with (first | ((with_reducible refine gate_dst (N := 5) rfl ?_); refine aBox 5 #[.int .i64 a0_0, .int .i64 a0_1, .bool a0_2, .slice A0_3 l0_3.length c0_3] 24 ?_; intro gb566 hg w35 hbox hb; have BK566 := Aside0.mk (hbox); have GW566 := aGe hg HB; have GE566 := aGe hg HB; replace HB := aBs HB hb; clear hb hbox hg) | ((with_reducible refine gate_dst (N := 10) rfl ?_); refine aBox 10 #[.int .i64 0, .int .i64 0] 42 ?_; intro gb567 hg w36 hbox hb; have BK567 := Aside0.mk (hbox); have GW567 := aGe hg HB; have GE567 := aGe hg HB; replace HB := aBs HB hb; have NB566_567 := aNl hg BK566; have NB567_566 := aNg hg BK566; replace BK566 := aBb BK566 hb; clear hb hbox hg; have hnb37 := NB566_567.out; have hnc37 := NB567_566.out; obtain ⟨⟨hcz38_0, hcz38_1, hcz38_2, hcz38_3⟩, hfz38_0, hfz38_1, hfz38_2, hfz38_3⟩ := aC4 BK566) | ((with_reducible refine gate_dst (N := 22) rfl ?_); refine Kd.R_lit (Kd.int .i64) _ 3 ?hg (N := 22) ?hd (xs := ([a2, a3, a4] : List Int)) (inner := [.int .i64 a2, .int .i64 a3, .int .i64 a4]) (ok := fun _ => True) (okp := fun _ => True) ?hr ?hp (fun _ hk => hk) trivial (Below.refl _ _) (Nat.le_refl _) (by simp) ?_; (case hd => rfl); (case hg => rfl); (case hr => first | (go_simp; done) | (go_simp; rfl)); (case hp => exact (Reps.one (show Kd.M (Kd.int .i64) _ _ _ a2 [.int .i64 a2] from rfl) (Reps.one (show Kd.M (Kd.int .i64) _ _ _ a3 [.int .i64 a3] from rfl) (Reps.one (show Kd.M (Kd.int .i64) _ _ _ a4 [.int .i64 a4] from rfl) (Reps.none _ _))))); intro v569 w39 ho40 hb hg_ hnew_; clear hg_ hnew_; (first | rw [← Ny568.out] at ho40 | (simp only [Int.reduceToNat] at ho40; rw [← Ny568.out] at ho40)); have HO570 := Aside0.mk (Kd.R_lower ho40 (below_size (aBl HB).out)); replace BK566 := aBb BK566 hb; replace BK567 := aBb BK567 hb; replace HB := aBs HB hb; clear hb ho40; obtain ⟨Ao41, co41, eo41⟩ := Kd.R_slice HO570.out; subst eo41) | ((with_reducible refine gate_callee (f := 91) rfl ?_); refine goesL_ (some 23) rfl rfl Try.func91 (by kernel_rfl) rfl #[.agg #[.int .i64 a0_0, .int .i64 a0_1, .bool a0_2, .slice A0_3 l0_3.length c0_3], .int .i64 a1, .slice Ao41 y568.length co41] rfl aA ?_; (with_reducible refine (field_apart.calls k a0_0 a0_1 a0_2 _ _ l0_3 a1 _ _ y568 t571 _ ?side1 ?side2 ?side3 ?side4 A6.out).mono ?_); (case side1 => exact aC HR0_3 HB); (case side2 => exact HC0_3.out); (case side3 => repeat (first | exact (Kd.R_reads' HO570.out).2.2 | (with_reducible refine Kd.C_alloc ?_ _) | (with_reducible refine Kd.C_drewN ?_ _) | (with_reducible refine Kd.C_drew ?_))); (case side4 => exact (Kd.R_reads' HO570.out).2.1); rintro e w42 ⟨rfl, hb⟩; refine ⟨_, rfl, ?_⟩; replace HO570 := aRb HO570 hb; replace BK566 := aBb BK566 hb; replace BK567 := aBb BK567 hb; replace HB := aBs HB hb; (try clear hb); (try clear hb2); (try clear hk); (try clear hi); obtain ⟨⟨hcz43_0, hcz43_1, hcz43_2, hcz43_3⟩, hfz43_0, hfz43_1, hfz43_2, hfz43_3⟩ := aC4 BK566) | ((with_reducible refine gate_callee (f := 52) rfl ?_); refine goesL_ (some 33) rfl rfl Try.func52 (by kernel_rfl) rfl #[.agg #[.int .i64 a0_0, .int .i64 a0_1, .bool a0_2, .slice A0_3 l0_3.length c0_3], .int .i64 a1, .int .i64 a3, .int .i64 a2] rfl aA ?_; (with_reducible refine (field_Influence.calls k a0_0 a0_1 a0_2 _ _ l0_3 a1 a3 a2 t572 t573 t574 _ ?side1 ?side2 A8.out).mono ?_); (case side1 => exact aC HR0_3 HB); (case side2 => exact HC0_3.out); rintro e w44 ⟨rfl, hb⟩; refine ⟨_, rfl, ?_⟩; replace HO570 := aRb HO570 hb; replace BK566 := aBb BK566 hb; replace BK567 := aBb BK567 hb; replace HB := aBs HB hb; (try clear hb); (try clear hb2); (try clear hk); (try clear hi)) | ((with_reducible refine gate_dst (N := 13) rfl ?_); refine aBox 13 #[.int .i64 0, .int .i64 0] 42 ?_; intro gb575 hg w45 hbox hb; replace HO570 := aRb HO570 hb; have BK575 := Aside0.mk (hbox); have GW575 := aGe hg HB; have GE575 := aGe hg HB; replace HB := aBs HB hb; have NB566_575 := aNl hg BK566; have NB575_566 := aNg hg BK566; replace BK566 := aBb BK566 hb; have NB567_575 := aNl hg BK567; have NB575_567 := aNg hg BK567; replace BK567 := aBb BK567 hb; clear hb hbox hg; have hnb46 := NB575_566.out; have hnc46 := NB566_575.out; have hnb47 := NB575_567.out; have hnc47 := NB567_575.out; obtain ⟨⟨hcz48_0, hcz48_1⟩, hfz48_0, hfz48_1⟩ := aC2 BK575; obtain ⟨⟨hcz49_0, hcz49_1, hcz49_2, hcz49_3⟩, hfz49_0, hfz49_1, hfz49_2, hfz49_3⟩ := aC4 BK566) | ((with_reducible refine gate_callee (f := 52) rfl ?_); refine goesL_ (some 41) rfl rfl Try.func52 (by kernel_rfl) rfl #[.agg #[.int .i64 a0_0, .int .i64 a0_1, .bool a0_2, .slice A0_3 l0_3.length c0_3], .int .i64 a1, .int .i64 a4, .int .i64 a2] rfl aA ?_; (with_reducible refine (field_Influence.calls k a0_0 a0_1 a0_2 _ _ l0_3 a1 a4 a2 t576 t577 t578 _ ?side1 ?side2 A9.out).mono ?_); (case side1 => exact Kd.C_below HR0_3.out (aBl HB).out); (case side2 => exact HC0_3.out); rintro e w50 ⟨rfl, hb⟩; refine ⟨_, rfl, ?_⟩; replace HO570 := Aside0.mk (Kd.R_below (by (with_reducible repeat (first | apply Kd.R_alloc | apply Kd.R_drewN | apply Kd.R_drew)); exact (Kd.R_mono (Kd.R_far (p := ⟨gb575, 1, none⟩) (Kd.R_far (p := ⟨gb575, 0, none⟩) (Kd.R_types HO570.out BK575.out (by decide)) (fun _ hk => hk.2) (.int .i64 t572)) (fun _ hk => hk.2) (.int .i64 t573)) (fun _ h_ => h_.1))) hb); replace BK566 := Aside0.mk (blk_below (g := gb566) (o := .cells #[.int .i64 a0_0, .int .i64 a0_1, .bool a0_2, .slice A0_3 l0_3.length c0_3] 24 (0, 0)) (by (with_reducible repeat (first | refine blk_drewN ?_ _ | refine blk_drew ?_ | refine blk_alloc ?_ _)); refine blk_far ?_ NB566_575.out _; (with_reducible repeat (first | refine blk_drewN ?_ _ | refine blk_drew ?_ | refine blk_alloc ?_ _)); refine blk_far ?_ NB566_575.out _; (with_reducible repeat (first | refine blk_drewN ?_ _ | refine blk_drew ?_ | refine blk_alloc ?_ _)); exact BK566.out) hb); replace BK567 := Aside0.mk (blk_below (g := gb567) (o := .cells #[.int .i64 0, .int .i64 0] 42 (0, 0)) (by (with_reducible repeat (first | refine blk_drewN ?_ _ | refine blk_drew ?_ | refine blk_alloc ?_ _)); refine blk_far ?_ NB567_575.out _; (with_reducible repeat (first | refine blk_drewN ?_ _ | refine blk_drew ?_ | refine blk_alloc ?_ _)); refine blk_far ?_ NB567_575.out _; (with_reducible repeat (first | refine blk_drewN ?_ _ | refine blk_drew ?_ | refine blk_alloc ?_ _)); exact BK567.out) hb); replace BK575 := Aside0.mk (blk_below (g := gb575) (o := .cells #[.int .i64 t572, .int .i64 t573] 42 (0, 0)) (by (with_reducible repeat (first | refine blk_drewN ?_ _ | refine blk_drew ?_ | refine blk_alloc ?_ _)); refine blk_put (cs := #[.int .i64 t572, .int .i64 0]) ?_ 1 _ rfl; (with_reducible repeat (first | refine blk_drewN ?_ _ | refine blk_drew ?_ | refine blk_alloc ?_ _)); refine blk_put (cs := #[.int .i64 0, .int .i64 0]) ?_ 0 _ rfl; (with_reducible repeat (first | refine blk_drewN ?_ _ | refine blk_drew ?_ | refine blk_alloc ?_ _)); exact BK575.out) hb); replace HB := aBs HB hb; (try clear hb); (try clear hb2); (try clear hk); (try clear hi)) | ((with_reducible refine gate_dst (N := 15) rfl ?_); refine aBox 15 #[.int .i64 0, .int .i64 0] 42 ?_; intro gb579 hg w51 hbox hb; replace HO570 := aRb HO570 hb; have BK579 := Aside0.mk (hbox); have GW579 := aGe hg HB; have GE579 := aGe hg HB; replace HB := aBs HB hb; have NB566_579 := aNl hg BK566; have NB579_566 := aNg hg BK566; replace BK566 := aBb BK566 hb; have NB567_579 := aNl hg BK567; have NB579_567 := aNg hg BK567; replace BK567 := aBb BK567 hb; have NB575_579 := aNl hg BK575; have NB579_575 := aNg hg BK575; replace BK575 := aBb BK575 hb; clear hb hbox hg; have hnb52 := NB579_566.out; have hnc52 := NB566_579.out; have hnb53 := NB579_567.out; have hnc53 := NB567_579.out; have hnb54 := NB579_575.out; have hnc54 := NB575_579.out; obtain ⟨⟨hcz55_0, hcz55_1⟩, hfz55_0, hfz55_1⟩ := aC2 BK579))
   have n0_ : Aside0 (Kd.R (Kd.int .i64) 3 ((w51.setCell ⟨gb579, 0, none⟩ (.int .i64 t576)).setCell ⟨gb579, 1, none⟩ (.int .i64 t577)) w.heap.size (fun _ => True) (.slice Ao41 y568.length co41) y568) := ⟨by (with_reducible repeat (first | apply Kd.R_alloc | apply Kd.R_drewN | apply Kd.R_drew)); exact Kd.R_mono (Kd.R_far (p := ⟨gb579, 1, none⟩) (Kd.R_far (p := ⟨gb579, 0, none⟩) (Kd.R_types HO570.out BK579.out (by decide)) (fun _ hk => hk.2) (.int .i64 t576)) (fun _ hk => hk.2) (.int .i64 t577)) (fun _ hk => trivial)⟩
   have n1_ : Aside0 (((w51.setCell ⟨gb579, 0, none⟩ (.int .i64 t576)).setCell ⟨gb579, 1, none⟩ (.int .i64 t577)).heap[gb566]? = some (.cells #[.int .i64 a0_0, .int .i64 a0_1, .bool a0_2, .slice A0_3 l0_3.length c0_3] 24 (0, 0))) := ⟨by (with_reducible repeat (first | refine blk_drewN ?_ _ | refine blk_drew ?_ | refine blk_alloc ?_ _)); refine blk_far ?_ NB566_579.out _; (with_reducible repeat (first | refine blk_drewN ?_ _ | refine blk_drew ?_ | refine blk_alloc ?_ _)); refine blk_far ?_ NB566_579.out _; (with_reducible repeat (first | refine blk_drewN ?_ _ | refine blk_drew ?_ | refine blk_alloc ?_ _)); exact BK566.out⟩
   have n2_ : Aside0 (((w51.setCell ⟨gb579, 0, none⟩ (.int .i64 t576)).setCell ⟨gb579, 1, none⟩ (.int .i64 t577)).heap[gb567]? = some (.cells #[.int .i64 0, .int .i64 0] 42 (0, 0))) := ⟨by (with_reducible repeat (first | refine blk_drewN ?_ _ | refine blk_drew ?_ | refine blk_alloc ?_ _)); refine blk_far ?_ NB567_579.out _; (with_reducible repeat (first | refine blk_drewN ?_ _ | refine blk_drew ?_ | refine blk_alloc ?_ _)); refine blk_far ?_ NB567_579.out _; (with_reducible repeat (first | refine blk_drewN ?_ _ | refine blk_drew ?_ | refine blk_alloc ?_ _)); exact BK567.out⟩
   have n3_ : Aside0 (((w51.setCell ⟨gb579, 0, none⟩ (.int .i64 t576)).setCell ⟨gb579, 1, none⟩ (.int .i64 t577)).heap[gb575]? = some (.cells #[.int .i64 t572, .int .i64 t573] 42 (0, 0))) := ⟨by (with_reducible repeat (first | refine blk_drewN ?_ _ | refine blk_drew ?_ | refine blk_alloc ?_ _)); refine blk_far ?_ NB575_579.out _; (with_reducible repeat (first | refine blk_drewN ?_ _ | refine blk_drew ?_ | refine blk_alloc ?_ _)); refine blk_far ?_ NB575_579.out _; (with_reducible repeat (first | refine blk_drewN ?_ _ | refine blk_drew ?_ | refine blk_alloc ?_ _)); exact BK575.out⟩
   have n4_ : Aside0 (((w51.setCell ⟨gb579, 0, none⟩ (.int .i64 t576)).setCell ⟨gb579, 1, none⟩ (.int .i64 t577)).heap[gb579]? = some (.cells #[.int .i64 t576, .int .i64 t577] 42 (0, 0))) := ⟨by (with_reducible repeat (first | refine blk_drewN ?_ _ | refine blk_drew ?_ | refine blk_alloc ?_ _)); refine blk_put (cs := #[.int .i64 t576, .int .i64 0]) ?_ 1 _ rfl; (with_reducible repeat (first | refine blk_drewN ?_ _ | refine blk_drew ?_ | refine blk_alloc ?_ _)); refine blk_put (cs := #[.int .i64 0, .int .i64 0]) ?_ 0 _ rfl; (with_reducible repeat (first | refine blk_drewN ?_ _ | refine blk_drew ?_ | refine blk_alloc ?_ _)); exact BK579.out⟩
   have n5_ : Aside0 (Below w.heap.size w ((w51.setCell ⟨gb579, 0, none⟩ (.int .i64 t576)).setCell ⟨gb579, 1, none⟩ (.int .i64 t577))) := aBl HB
   (try clear HO570)
   (try clear BK566)
   (try clear BK567)
   (try clear BK575)
   (try clear BK579)
   (try clear HB)
   generalize ((w51.setCell ⟨gb579, 0, none⟩ (.int .i64 t576)).setCell ⟨gb579, 1, none⟩ (.int .i64 t577)) = w56 at n0_ n1_ n2_ n3_ n4_ n5_ ⊢
   have HO570 := n0_
   have BK566 := n1_
   have BK567 := n2_
   have BK575 := n3_
   have BK579 := n4_
   have HB := n5_
   clear n0_ n1_ n2_ n3_ n4_ n5_
   have n0_ := Aside0.mk (Kd.R_drew HO570.out)
   have n1_ := Aside0.mk (blk_drew BK566.out)
   have n2_ := Aside0.mk (blk_drew BK567.out)
   have n3_ := Aside0.mk (blk_drew BK575.out)
   have n4_ := Aside0.mk (blk_drew BK579.out)
   have n5_ := Aside0.mk (below_drew1 HB.out)
   clear HO570 BK566 BK567 BK575 BK579 HB
   have HO570 := n0_
   have BK566 := n1_
   have BK567 := n2_
   have BK575 := n3_
   have BK579 := n4_
   have HB := n5_
   clear n0_ n1_ n2_ n3_ n4_ n5_
   refine start_ (n := 15) (S := fun w' => w'.cell? ⟨gb575, 0, none⟩ = some (.int .i64 t572) ∧ w'.cell? ⟨gb575, 1, none⟩ = some (.int .i64 t573) ∧ w'.cell? ⟨gb579, 0, none⟩ = some (.int .i64 t576) ∧ w'.cell? ⟨gb579, 1, none⟩ = some (.int .i64 t577)) (ds := []) #[false, false, false, false, false, false, false, false, false, false, false, false, false, false, false] (by kernel_rfl) rfl rfl ⟨(blk_cell BK575.out 0).trans rfl, (blk_cell BK575.out 1).trans rfl, (blk_cell BK579.out 0).trans rfl, (blk_cell BK579.out 1).trans rfl⟩ (fun hHeld => ?_); refine with_tabW field_Amplification.tab8 field_Amplification.bits8 (fun HT_ HW_ => ?_)
   generalize w56.drew = w57 at HO570 BK566 BK567 BK575 BK579 HB hHeld ⊢
   refine pu_ 0 48 (bS 15 1) HT_ ?_
   refine pu_ 3 51 (bS 15 9) HT_ ?_
   refine pu_ 6 54 (bS 15 73) HT_ ?_
   refine pu_ 9 57 (bS 15 585) HT_ ?_
   refine ta_ 1 49 (bS 15 587) HT_ HW_ hHeld ?_
   refine pu_ 2 50 (bS 15 591) HT_ ?_
   refine ta_ 4 52 (bS 15 607) HT_ HW_ hHeld ?_
   refine ta_ 7 55 (bS 15 735) HT_ HW_ hHeld ?_
   refine pu_ 8 56 (bS 15 991) HT_ ?_
   refine ta_ 10 58 (bS 15 2015) HT_ HW_ hHeld ?_
   refine one_ (i := 5) (N := some 53) (bS 15 2047) rfl rfl (one_of HT_.out (by kernel_rfl)) (by decide) (fun K hK => ?_)
   refine goes_ Try.func69 (by kernel_rfl) rfl #[.int .i64 (wrap64 (1000 * t572)), .int .i64 t577] (by rfl) rfl rfl aA ?_
   with_reducible refine (field_down.calls (wrap64 (1000 * t572)) t577 t580 _ A33.out).mono ?_
   rintro e w' ⟨rfl, ⟨nd, rfl⟩⟩
   refine ⟨_, rfl, ?_⟩
   refine hK.out _ _ ⟨(blk_cell BK575.out 0).trans rfl, (blk_cell BK575.out 1).trans rfl, (blk_cell BK579.out 0).trans rfl, (blk_cell BK579.out 1).trans rfl⟩ (fun hHeld => ?_)
   clear hK K
   refine norm_ (a' := ?_) ?_ ?_
   rotate_left
   ·show Act.put _ (some 53) _ = _
    simp only [Act.put, sT, sZ, sS, i64_w, i32_w]
    rfl
   refine one_ (i := 11) (N := some 59) (bS 15 4095) rfl rfl (one_of HT_.out (by kernel_rfl)) (by decide) (fun K hK => ?_)
   refine goes_ Try.func71 (by kernel_rfl) rfl #[.int .i64 (wrap64 (1000 * t573)), .int .i64 t576] (by rfl) rfl rfl aA ?_
   with_reducible refine (field_up.calls (wrap64 (1000 * t573)) t576 t581 _ A34.out).mono ?_
   rintro e w' ⟨rfl, ⟨nd, rfl⟩⟩
   refine ⟨_, rfl, ?_⟩
   refine hK.out _ _ ⟨(blk_cell BK575.out 0).trans rfl, (blk_cell BK575.out 1).trans rfl, (blk_cell BK579.out 0).trans rfl, (blk_cell BK579.out 1).trans rfl⟩ (fun hHeld => ?_)
   clear hK K
   refine norm_ (a' := ?_) ?_ ?_
   rotate_left
   ·show Act.put _ (some 59) _ = _
    simp only [Act.put, sT, sZ, sS, i64_w, i32_w]
    rfl
   refine pu_ 12 60 (bS 15 8191) HT_ ?_
   refine one_ (i := 13) (N := none) (bS 15 16383) rfl rfl (one_of HT_.out (by kernel_rfl)) (by decide) (fun K hK => ?_)
   have hs58 : w57.cell? ⟨gb567, 0, none⟩ = some (.int .i64 0) := (blk_cell BK567.out 0).trans rfl
   have hfs58 := blk_frozen BK567.out 0
   have hns58_0 := NB566_567.out
   have hns58_2 := NB575_567.out
   have hns58_3 := NB579_567.out
   have hms58_0 := NB567_566.out
   have hms58_2 := NB567_575.out
   have hms58_3 := NB567_579.out
   have hs59 : w57.cell? ⟨gb567, 1, none⟩ = some (.int .i64 0) := (blk_cell BK567.out 1).trans rfl
   have hfs59 := blk_frozen BK567.out 1
   have hns59_0 := NB566_567.out
   have hns59_2 := NB575_567.out
   have hns59_3 := NB579_567.out
   have hms59_0 := NB567_566.out
   have hms59_2 := NB567_575.out
   have hms59_3 := NB567_579.out
   refine skip_ (w1 := ?_) (by rfl) rfl ?_ ?_
   rotate_left
   ·go_simp
    rfl
   refine hK.out _ _ ⟨((cell_far (p := ⟨gb567, _, none⟩) NB575_567.out _).trans (((cell_far (p := ⟨gb567, _, none⟩) NB575_567.out _).trans (hHeld.1)))), ((cell_far (p := ⟨gb567, _, none⟩) NB575_567.out _).trans (((cell_far (p := ⟨gb567, _, none⟩) NB575_567.out _).trans (hHeld.2.1)))), ((cell_far (p := ⟨gb567, _, none⟩) NB579_567.out _).trans (((cell_far (p := ⟨gb567, _, none⟩) NB579_567.out _).trans (hHeld.2.2.1)))), ((cell_far (p := ⟨gb567, _, none⟩) NB579_567.out _).trans (((cell_far (p := ⟨gb567, _, none⟩) NB579_567.out _).trans (hHeld.2.2.2))))⟩ (fun hHeld => ?_)
   clear hK K
   refine pu_ 14 11 (bS 15 32767) HT_ ?_
   refine done_ (done_of HT_.out (by kernel_rfl)) ?_
   try go_wp2
   refine bodyPost_ret (results_ct rfl _ _ gb567 42 #[.int .i64 t580, .int .i64 t581] (0, 0) _ rfl (by (with_reducible repeat (first | refine blk_drewN ?_ _ | refine blk_drew ?_ | refine blk_alloc ?_ _)); refine blk_put (cs := #[.int .i64 t580, .int .i64 0]) ?_ 1 _ rfl; (with_reducible repeat (first | refine blk_drewN ?_ _ | refine blk_drew ?_ | refine blk_alloc ?_ _)); refine blk_put (cs := #[.int .i64 0, .int .i64 0]) ?_ 0 _ rfl; (with_reducible repeat (first | refine blk_drewN ?_ _ | refine blk_drew ?_ | refine blk_alloc ?_ _)); exact BK567.out) Try.underlying42 rfl (by kernel_rfl)) rfl ?_
   exact ⟨by first | rfl | (simp [errW_none, errW_some] <;> rfl) | (simp [*, errW_none, errW_some] <;> rfl), (aBl HB).out⟩
 ·rw [if_neg c7] at H
  obtain ⟨c7b0, c7b1⟩ := aNe c7
  simp only [Option.some.injEq, Prod.mk.injEq] at H
  obtain ⟨rfl, rfl, rfl⟩ := H
  go_enter Try.func56, Try.ntmps56
  go_wp2_with (first | ((with_reducible refine gate_dst (N := 5) rfl ?_); refine aBox 5 #[.int .i64 a0_0, .int .i64 a0_1, .bool a0_2, .slice A0_3 l0_3.length c0_3] 24 ?_; intro gb566 hg w60 hbox hb; have BK566 := Aside0.mk (hbox); have GW566 := aGe hg HB; have GE566 := aGe hg HB; replace HB := aBs HB hb; clear hb hbox hg) | ((with_reducible refine gate_dst (N := 10) rfl ?_); refine aBox 10 #[.int .i64 0, .int .i64 0] 42 ?_; intro gb567 hg w61 hbox hb; have BK567 := Aside0.mk (hbox); have GW567 := aGe hg HB; have GE567 := aGe hg HB; replace HB := aBs HB hb; have NB566_567 := aNl hg BK566; have NB567_566 := aNg hg BK566; replace BK566 := aBb BK566 hb; clear hb hbox hg; have hnb62 := NB566_567.out; have hnc62 := NB567_566.out; obtain ⟨⟨hcz63_0, hcz63_1, hcz63_2, hcz63_3⟩, hfz63_0, hfz63_1, hfz63_2, hfz63_3⟩ := aC4 BK566) | ((with_reducible refine gate_dst (N := 22) rfl ?_); refine Kd.R_lit (Kd.int .i64) _ 3 ?hg (N := 22) ?hd (xs := ([a2, a3, a4] : List Int)) (inner := [.int .i64 a2, .int .i64 a3, .int .i64 a4]) (ok := fun _ => True) (okp := fun _ => True) ?hr ?hp (fun _ hk => hk) trivial (Below.refl _ _) (Nat.le_refl _) (by simp) ?_; (case hd => rfl); (case hg => rfl); (case hr => first | (go_simp; done) | (go_simp; rfl)); (case hp => exact (Reps.one (show Kd.M (Kd.int .i64) _ _ _ a2 [.int .i64 a2] from rfl) (Reps.one (show Kd.M (Kd.int .i64) _ _ _ a3 [.int .i64 a3] from rfl) (Reps.one (show Kd.M (Kd.int .i64) _ _ _ a4 [.int .i64 a4] from rfl) (Reps.none _ _))))); intro v569 w64 ho65 hb hg_ hnew_; clear hg_ hnew_; (first | rw [← Ny568.out] at ho65 | (simp only [Int.reduceToNat] at ho65; rw [← Ny568.out] at ho65)); have HO570 := Aside0.mk (Kd.R_lower ho65 (below_size (aBl HB).out)); replace BK566 := aBb BK566 hb; replace BK567 := aBb BK567 hb; replace HB := aBs HB hb; clear hb ho65; obtain ⟨Ao66, co66, eo66⟩ := Kd.R_slice HO570.out; subst eo66) | ((with_reducible refine gate_callee (f := 91) rfl ?_); refine goesL_ (some 23) rfl rfl Try.func91 (by kernel_rfl) rfl #[.agg #[.int .i64 a0_0, .int .i64 a0_1, .bool a0_2, .slice A0_3 l0_3.length c0_3], .int .i64 a1, .slice Ao66 y568.length co66] rfl aA ?_; (with_reducible refine (field_apart.calls k a0_0 a0_1 a0_2 _ _ l0_3 a1 _ _ y568 t571 _ ?side1 ?side2 ?side3 ?side4 A6.out).mono ?_); (case side1 => exact aC HR0_3 HB); (case side2 => exact HC0_3.out); (case side3 => repeat (first | exact (Kd.R_reads' HO570.out).2.2 | (with_reducible refine Kd.C_alloc ?_ _) | (with_reducible refine Kd.C_drewN ?_ _) | (with_reducible refine Kd.C_drew ?_))); (case side4 => exact (Kd.R_reads' HO570.out).2.1); rintro e w67 ⟨rfl, hb⟩; refine ⟨_, rfl, ?_⟩; replace HO570 := aRb HO570 hb; replace BK566 := aBb BK566 hb; replace BK567 := aBb BK567 hb; replace HB := aBs HB hb; (try clear hb); (try clear hb2); (try clear hk); (try clear hi); obtain ⟨⟨hcz68_0, hcz68_1⟩, hfz68_0, hfz68_1⟩ := aC2 BK567))
  refine bodyPost_ret (results_ct rfl _ _ gb567 42 #[.int .i64 0, .int .i64 0] (0, 0) _ rfl (by (with_reducible repeat (first | refine blk_drewN ?_ _ | refine blk_drew ?_ | refine blk_alloc ?_ _)); refine blk_put (cs := #[.int .i64 0, .int .i64 0]) ?_ 1 _ rfl; (with_reducible repeat (first | refine blk_drewN ?_ _ | refine blk_drew ?_ | refine blk_alloc ?_ _)); refine blk_put (cs := #[.int .i64 0, .int .i64 0]) ?_ 0 _ rfl; (with_reducible repeat (first | refine blk_drewN ?_ _ | refine blk_drew ?_ | refine blk_alloc ?_ _)); exact BK567.out) Try.underlying42 rfl (by kernel_rfl)) rfl ?_
  exact ⟨by first | rfl | (simp [errW_none, errW_some] <;> rfl) | (simp [*, errW_none, errW_some] <;> rfl), (aBl HB).out⟩
end Go.Proofs.Ytndkkjpgnmahbaa.Print
end

section
namespace Go.Proofs.Ytndkkjpgnmahbaa.Print
open Go.RowKit Go.Proofs.YtndkkjpgnmahbaaW.PrintWords Go.Proofs.YtndkkjpgnmahbaaW.PrintLast Go.Proofs.YtndkkjpgnmahbaaW.PrintMore Go.Proofs.Ytndkkjpgnmahbaa.H
attribute [local go_sem] max2_int min2_int max_two min_two max_three min_three max_four min_four
set_option linter.unusedVariables false
set_option linter.unusedSimpArgs false
def thermionref01_Amplification.f (k : Nat) (a0_0 : Int) (a0_1 : Int) (a0_2 : Bool) (l0_3 : List Int) (a1 : Int) (a2 : Int) (a3 : Int) (a4 : Int) : Option (Int × Int × Int) := (thermionref01_askable.f k a0_0 a0_1 a0_2 l0_3 a1 (([a2, a3, a4] : List Int))).bind fun t587 => (if t587 = 0 then ((thermionref01_influence.f k a0_0 a0_1 a0_2 l0_3 a1 a3 a2).bind fun bt588 => ((thermionref01_influence.f k a0_0 a0_1 a0_2 l0_3 a1 a4 a2).bind fun bt590 => (if bt590.1 < 1 then (some (0, 0, 10)) else ((thermionref01_Down.f (wrap64 (1000 * bt588.1)) bt590.2).bind fun t594 => ((thermionref01_Up.f (wrap64 (1000 * bt588.2)) bt590.1).bind fun t595 => (some (t594, t595, 0))))))) else (some (0, 0, t587)))
def ampR.T4 : Bool × List (List Nat × List Nat) := (true, [([], []), ([], []), ([], []), ([], []), ([0, 1, 2, 3], [0, 1, 2, 3]), ([], []), ([], []), ([], []), ([], []), ([5, 6, 7, 8, 4], [5, 6, 7, 8]), ([], []), ([], []), ([10, 4, 9, 0, 1, 2, 3, 4, 10, 11], [4, 10]), ([11, 9, 12, 0, 1, 2, 3, 4, 5, 6, 7, 8, 9, 10, 11, 12], [9, 11])])
def ampR.B4 : List Nat := [0, 0, 0, 0, 15, 0, 0, 0, 0, 511, 0, 0, 4095, 8191]
theorem ampR.tab4 : rtab .any (opsOf Try.f57 4) = ampR.T4 := by kernel_rfl
theorem ampR.bits4 : waitsOk ampR.T4.2 ampR.B4 = true := by kernel_rfl
def ampR.T7 : Bool × List (List Nat × List Nat) := (true, [([], []), ([0], [0]), ([1], [1]), ([], []), ([3], [3]), ([2, 4], [2, 4]), ([], []), ([6], [6]), ([7], [7]), ([], []), ([9], [9]), ([8, 10, 5], [8, 10]), ([5, 11], [5, 11]), ([12, 11, 0, 1, 2, 3, 4, 5, 6, 7, 8, 9, 10, 11, 12], [12]), ([13, 0, 1, 2, 3, 4, 5, 6, 7, 8, 9, 10, 11, 12, 13], [])])
def ampR.B7 : List Nat := [0, 1, 3, 0, 8, 31, 0, 64, 192, 0, 512, 2047, 4095, 8191, 16383]
theorem ampR.tab7 : rtab .any (opsOf Try.f57 7) = ampR.T7 := by kernel_rfl
theorem ampR.bits7 : waitsOk ampR.T7.2 ampR.B7 = true := by kernel_rfl
set_option maxHeartbeats 3200000 in
set_option maxRecDepth 100000 in
theorem thermionref01_Amplification.calls (k : Nat) (a0_0 : Int) (a0_1 : Int) (a0_2 : Bool) (A0_3 : Option Addr) (c0_3 : Nat) (l0_3 : List Int) (a1 : Int) (a2 : Int) (a3 : Int) (a4 : Int) (r1 : Int) (r2 : Int) (r3 : Int) (w : World) (hr0_3 : Kd.C (Kd.int .i64) w A0_3 l0_3.length l0_3) (hc0_3 : l0_3.length ≤ c0_3) (h : thermionref01_Amplification.f k a0_0 a0_1 a0_2 l0_3 a1 a2 a3 a4 = some (r1, r2, r3)) :
 Calls Try.prog 57 #[.agg #[.int .i64 a0_0, .int .i64 a0_1, .bool a0_2, .slice A0_3 l0_3.length c0_3], .int .i64 a1, .int .i64 a2, .int .i64 a3, .int .i64 a4] w fun e w' => e = .returned (.tuple #[.agg #[.int .i64 r1, .int .i64 r2], .int .i64 r3]) ∧ Below w.heap.size w w' := by
 unfold thermionref01_Amplification.f at h
 obtain ⟨e0, ha, h⟩ := Option.bind_eq_some_iff.1 h
 have HM := Aside0.mk (Mem.start w)
 have HR := Aside0.mk hr0_3
 have HC := Aside0.mk hc0_3
 have HA := Aside0.mk ha
 have HH := Aside0.mk h
 have hu24 := Try.underlying24
 have hu42 := Try.underlying42
 clear hr0_3 hc0_3 ha h
 go_enter Try.func57, Try.ntmps57
 go_upto_region 2 with (first
  | ((with_reducible refine gate_dst (N := 5) rfl ?_); refine ev_box HM.out rfl 24 (.tmp 0) rfl (cs := #[.int .i64 a0_0, .int .i64 a0_1, .bool a0_2, .slice A0_3 l0_3.length c0_3]) rfl ?_; intro g5 w1 hm1 hq1; have HM1 := Aside0.mk hm1; clear hm1 hq1 HM)
  | ((with_reducible refine gate_dst (N := 10) rfl ?_); refine ev_new HM1.out rfl 42 rfl info42 ?_; intro g10 w2 hm1 hq1; have HM2 := Aside0.mk hm1; clear hm1 hq1 HM1)
  | ((with_reducible refine gate_dst (N := 15) rfl ?_); refine ev_load (HM2.out.second) rfl 24 (.tmp 5) rfl rfl _ Try.underlying24 rfl size24 rfl ?_)
  | ((with_reducible refine gate_dst (N := 20) rfl ?_); refine ev_lit HM2.out rfl [.int .i64 a2, .int .i64 a3, .int .i64 a4] 3 3 ?hrl ?_; (case hrl => first | (go_simp; done) | (go_simp; rfl)); intro gl w3 hm1 hq1; have HM3 := Aside0.mk hm1; clear hm1 hq1 HM2)
  | (go_at_call 92; refine (thermionref01_askable.calls k a0_0 a0_1 a0_2 A0_3 c0_3 l0_3 a1 (some ⟨gl, 0, none⟩) 3 [a2, a3, a4] e0 _ (Kd.C_below HR.out HM3.out.below) HC.out (C_mem HM3.out.head (isnums_map [a2, a3, a4] (by simp))) (by simp) HA.out).mono ?_; rintro e4 w4 ⟨rfl, hb⟩; have HM4 := Aside0.mk (HM3.out.step hb); clear hb HM3 HA))
 have h := HH.out
 clear HH
 by_cases g : e0 = 0
 ·rw [if_pos g] at h
  subst g
  obtain ⟨⟨x1, x2⟩, hx, h⟩ := Option.bind_eq_some_iff.1 h
  obtain ⟨⟨y1, y2⟩, hy, h⟩ := Option.bind_eq_some_iff.1 h
  have HX := Aside0.mk hx
  have HY := Aside0.mk hy
  have HH := Aside0.mk h
  clear hx hy h
  go_upto_region 4 with fail
  have HQ := Aside0.mk (HM4.out.drew)
  clear HM4
  go_cut [13, 14] (fun v13 v14 wc => ∃ (g13 g14 : Nat), v13 = .pointer (some ⟨g13, 0, none⟩) ∧ v14 = .pointer (some ⟨g14, 0, none⟩) ∧ Aside0 (Mem w wc [(g14, #[.int .i64 y1, .int .i64 y2], 42), (g13, #[.int .i64 x1, .int .i64 x2], 42), (gl, #[.int .i64 a2, .int .i64 a3, .int .i64 a4], 3), (g10, #[.int .i64 0, .int .i64 0], 42), (g5, #[.int .i64 a0_0, .int .i64 a0_1, .bool a0_2, .slice A0_3 l0_3.length c0_3], 24)]))
  case first =>
   refine start_ (n := 14) (S := fun w' => w'.cell? ⟨g5, 0, none⟩ = some (.int .i64 a0_0) ∧ w'.cell? ⟨g5, 1, none⟩ = some (.int .i64 a0_1) ∧ w'.cell? ⟨g5, 2, none⟩ = some (.bool a0_2) ∧ w'.cell? ⟨g5, 3, none⟩ = some (.slice A0_3 l0_3.length c0_3)) (ds := [13]) (bS 14 0) (by kernel_rfl) rfl rfl (plan_cells (HQ.out.blk (g5, #[.int .i64 a0_0, .int .i64 a0_1, .bool a0_2, .slice A0_3 l0_3.length c0_3], 24) (by simp))) (fun hHeld => ?_); refine with_tabW ampR.tab4 ampR.bits4 (fun HT_ HW_ => ?_)
   refine pu_ 1 27 (bS 14 2) HT_ ?_
   refine pu_ 2 28 (bS 14 6) HT_ ?_
   refine pu_ 3 29 (bS 14 14) HT_ ?_
   refine pu_ 6 32 (bS 14 78) HT_ ?_
   refine pu_ 7 33 (bS 14 206) HT_ ?_
   refine pu_ 8 34 (bS 14 462) HT_ ?_
   refine ta_ 0 26 (bS 14 463) HT_ HW_ hHeld ?_
   refine ta_ 5 31 (bS 14 495) HT_ HW_ hHeld ?_
   refine join_ (σ := Nat × Nat) 2 (bS 14 4095) (fun s_ => [(30, .agg #[.int .i64 x1, .int .i64 x2]), (35, .agg #[.int .i64 y1, .int .i64 y2]), (13, .pointer (some ⟨s_.1, 0, none⟩)), (14, .pointer (some ⟨s_.2, 0, none⟩))]) (fun s_ w' => Aside0 (Mem w w' [(s_.1, #[.int .i64 0, .int .i64 0], 42), (s_.2, #[.int .i64 0, .int .i64 0], 42), (gl, #[.int .i64 a2, .int .i64 a3, .int .i64 a4], 3), (g10, #[.int .i64 0, .int .i64 0], 42), (g5, #[.int .i64 a0_0, .int .i64 a0_1, .bool a0_2, .slice A0_3 l0_3.length c0_3], 24)])) (fun s_ wq HQ => ?_) (fun hJ4_9_10_11 => ?_)
   ·obtain ⟨g13, g14⟩ := s_
    dsimp only at HQ
    dsimp only
    have hHeld : (fun w' => w'.cell? ⟨g5, 0, none⟩ = some (.int .i64 a0_0) ∧ w'.cell? ⟨g5, 1, none⟩ = some (.int .i64 a0_1) ∧ w'.cell? ⟨g5, 2, none⟩ = some (.bool a0_2) ∧ w'.cell? ⟨g5, 3, none⟩ = some (.slice A0_3 l0_3.length c0_3)) wq := plan_cells (HQ.out.blk (g5, #[.int .i64 a0_0, .int .i64 a0_1, .bool a0_2, .slice A0_3 l0_3.length c0_3], 24) (by simp))
    refine js_ ?_
    refine one_ (i := 12) (N := none) (bS 14 8191) rfl rfl (one_of HT_.out (by kernel_rfl)) (by decide) (fun K hK => ?_)
    refine store_step (HQ.out) (by rfl) rfl 42 (.tmp 13) (.tmp 30) rfl rfl rfl (cs := #[.int .i64 x1, .int .i64 x2]) size42 rfl rfl (by simp [Value.oneCell']) (fun wq hm1 => ?_)
    clear HQ
    have HQ := Aside0.mk hm1
    clear hm1
    refine hK.out _ _ (plan_cells (HQ.out.blk (g5, #[.int .i64 a0_0, .int .i64 a0_1, .bool a0_2, .slice A0_3 l0_3.length c0_3], 24) (by simp))) (fun hHeld => ?_)
    clear hK K
    refine nm0_ ?_
    refine last_ (i := 13) (N := none) (bS 14 16383) rfl rfl (one_of HT_.out (by kernel_rfl)) (by decide) (fun K hK => ?_)
    refine store_step (HQ.out.swap) (by rfl) rfl 42 (.tmp 14) (.tmp 35) rfl rfl rfl (cs := #[.int .i64 y1, .int .i64 y2]) size42 rfl rfl (by simp [Value.oneCell']) (fun wq hm1 => ?_)
    clear HQ
    have HQ := Aside0.mk hm1
    clear hm1
    refine hK.out _ _ ?_
    clear hK K
    refine nm0_ ?_
    refine done_ (done_of HT_.out (by kernel_rfl)) ?_
    clear hHeld HT_ HW_
    go_wp2
    go_meet
    case rel => exact ⟨g13, g14, rfl, rfl, HQ⟩
   refine join_ (σ := Nat) 3 (bS 14 2047) (fun s_ => [(30, .agg #[.int .i64 x1, .int .i64 x2]), (35, .agg #[.int .i64 y1, .int .i64 y2]), (13, .pointer (some ⟨s_, 0, none⟩))]) (fun s_ w' => Aside0 (Mem w w' [(s_, #[.int .i64 0, .int .i64 0], 42), (gl, #[.int .i64 a2, .int .i64 a3, .int .i64 a4], 3), (g10, #[.int .i64 0, .int .i64 0], 42), (g5, #[.int .i64 a0_0, .int .i64 a0_1, .bool a0_2, .slice A0_3 l0_3.length c0_3], 24)])) (fun s_ wq HQ => ?_) (fun hJ4_9_10 => ?_)
   ·obtain ⟨g13, e_⟩ : ∃ g_, g_ = s_ := ⟨_, rfl⟩
    subst e_
    have hHeld : (fun w' => w'.cell? ⟨g5, 0, none⟩ = some (.int .i64 a0_0) ∧ w'.cell? ⟨g5, 1, none⟩ = some (.int .i64 a0_1) ∧ w'.cell? ⟨g5, 2, none⟩ = some (.bool a0_2) ∧ w'.cell? ⟨g5, 3, none⟩ = some (.slice A0_3 l0_3.length c0_3)) wq := plan_cells (HQ.out.blk (g5, #[.int .i64 a0_0, .int .i64 a0_1, .bool a0_2, .slice A0_3 l0_3.length c0_3], 24) (by simp))
    refine js_ ?_
    refine one_ (i := 11) (N := some 14) (bS 14 4095) rfl rfl (one_of HT_.out (by kernel_rfl)) (by decide) (fun K hK => ?_)
    refine new_step HQ.out (by rfl) rfl 42 rfl info42 (fun g14 wq hm1 => ?_)
    clear HQ
    have HQ := Aside0.mk hm1
    clear hm1
    refine hK.out _ _ (plan_cells (HQ.out.blk (g5, #[.int .i64 a0_0, .int .i64 a0_1, .bool a0_2, .slice A0_3 l0_3.length c0_3], 24) (by simp))) (fun hHeld => ?_)
    clear hK K
    refine nm_ ?_
    replace HQ := Aside0.mk HQ.out.swap
    exact jn_ (hJ4_9_10_11 (g13, g14) _ HQ)
   refine join_ (σ := Nat) 3 (bS 14 3071) (fun s_ => [(30, .agg #[.int .i64 x1, .int .i64 x2]), (35, .agg #[.int .i64 y1, .int .i64 y2]), (14, .pointer (some ⟨s_, 0, none⟩))]) (fun s_ w' => Aside0 (Mem w w' [(s_, #[.int .i64 0, .int .i64 0], 42), (gl, #[.int .i64 a2, .int .i64 a3, .int .i64 a4], 3), (g10, #[.int .i64 0, .int .i64 0], 42), (g5, #[.int .i64 a0_0, .int .i64 a0_1, .bool a0_2, .slice A0_3 l0_3.length c0_3], 24)])) (fun s_ wq HQ => ?_) (fun hJ4_9_11 => ?_)
   ·obtain ⟨g14, e_⟩ : ∃ g_, g_ = s_ := ⟨_, rfl⟩
    subst e_
    have hHeld : (fun w' => w'.cell? ⟨g5, 0, none⟩ = some (.int .i64 a0_0) ∧ w'.cell? ⟨g5, 1, none⟩ = some (.int .i64 a0_1) ∧ w'.cell? ⟨g5, 2, none⟩ = some (.bool a0_2) ∧ w'.cell? ⟨g5, 3, none⟩ = some (.slice A0_3 l0_3.length c0_3)) wq := plan_cells (HQ.out.blk (g5, #[.int .i64 a0_0, .int .i64 a0_1, .bool a0_2, .slice A0_3 l0_3.length c0_3], 24) (by simp))
    refine js_ ?_
    refine one_ (i := 10) (N := some 13) (bS 14 4095) rfl rfl (one_of HT_.out (by kernel_rfl)) (by decide) (fun K hK => ?_)
    refine new_step HQ.out (by rfl) rfl 42 rfl info42 (fun g13 wq hm1 => ?_)
    clear HQ
    have HQ := Aside0.mk hm1
    clear hm1
    refine hK.out _ _ (plan_cells (HQ.out.blk (g5, #[.int .i64 a0_0, .int .i64 a0_1, .bool a0_2, .slice A0_3 l0_3.length c0_3], 24) (by simp))) (fun hHeld => ?_)
    clear hK K
    refine nm_ ?_
    exact jn_ (hJ4_9_10_11 (g13, g14) _ HQ)
   refine join_ (σ := Nat × Nat) 3 (bS 14 3583) (fun s_ => [(30, .agg #[.int .i64 x1, .int .i64 x2]), (13, .pointer (some ⟨s_.1, 0, none⟩)), (14, .pointer (some ⟨s_.2, 0, none⟩))]) (fun s_ w' => Aside0 (Mem w w' [(s_.1, #[.int .i64 0, .int .i64 0], 42), (s_.2, #[.int .i64 0, .int .i64 0], 42), (gl, #[.int .i64 a2, .int .i64 a3, .int .i64 a4], 3), (g10, #[.int .i64 0, .int .i64 0], 42), (g5, #[.int .i64 a0_0, .int .i64 a0_1, .bool a0_2, .slice A0_3 l0_3.length c0_3], 24)])) (fun s_ wq HQ => ?_) (fun hJ4_10_11 => ?_)
   ·obtain ⟨g13, g14⟩ := s_
    dsimp only at HQ
    dsimp only
    have hHeld : (fun w' => w'.cell? ⟨g5, 0, none⟩ = some (.int .i64 a0_0) ∧ w'.cell? ⟨g5, 1, none⟩ = some (.int .i64 a0_1) ∧ w'.cell? ⟨g5, 2, none⟩ = some (.bool a0_2) ∧ w'.cell? ⟨g5, 3, none⟩ = some (.slice A0_3 l0_3.length c0_3)) wq := plan_cells (HQ.out.blk (g5, #[.int .i64 a0_0, .int .i64 a0_1, .bool a0_2, .slice A0_3 l0_3.length c0_3], 24) (by simp))
    refine js_ ?_
    refine one_ (i := 9) (N := some 35) (bS 14 4095) rfl rfl (one_of HT_.out (by kernel_rfl)) (by decide) (fun K hK => ?_)
    refine goes_ Try.func93 (by kernel_rfl) rfl #[.agg #[.int .i64 a0_0, .int .i64 a0_1, .bool a0_2, .slice A0_3 l0_3.length c0_3], .int .i64 a1, .int .i64 a4, .int .i64 a2] (by rfl) rfl rfl aA ?_
    with_reducible refine (thermionref01_influence.calls k a0_0 a0_1 a0_2 A0_3 c0_3 l0_3 a1 a4 a2 y1 y2 _ (Kd.C_below HR.out HQ.out.below) HC.out HY.out).mono ?_
    rintro e1 wq ⟨rfl, hb⟩
    have HQ2 := Aside0.mk (HQ.out.step hb)
    clear hb HQ
    have HQ := HQ2
    clear HQ2
    refine ⟨_, rfl, ?_⟩
    refine hK.out _ _ (plan_cells (HQ.out.blk (g5, #[.int .i64 a0_0, .int .i64 a0_1, .bool a0_2, .slice A0_3 l0_3.length c0_3], 24) (by simp))) (fun hHeld => ?_)
    clear hK K
    refine nm_ ?_
    exact jn_ (hJ4_9_10_11 (g13, g14) _ HQ)
   refine join_ (σ := Unit) 4 (bS 14 1023) (fun s_ => [(30, .agg #[.int .i64 x1, .int .i64 x2]), (35, .agg #[.int .i64 y1, .int .i64 y2])]) (fun s_ w' => Aside0 (Mem w w' [(gl, #[.int .i64 a2, .int .i64 a3, .int .i64 a4], 3), (g10, #[.int .i64 0, .int .i64 0], 42), (g5, #[.int .i64 a0_0, .int .i64 a0_1, .bool a0_2, .slice A0_3 l0_3.length c0_3], 24)])) (fun s_ wq HQ => ?_) (fun hJ4_9 => ?_)
   ·have hHeld : (fun w' => w'.cell? ⟨g5, 0, none⟩ = some (.int .i64 a0_0) ∧ w'.cell? ⟨g5, 1, none⟩ = some (.int .i64 a0_1) ∧ w'.cell? ⟨g5, 2, none⟩ = some (.bool a0_2) ∧ w'.cell? ⟨g5, 3, none⟩ = some (.slice A0_3 l0_3.length c0_3)) wq := plan_cells (HQ.out.blk (g5, #[.int .i64 a0_0, .int .i64 a0_1, .bool a0_2, .slice A0_3 l0_3.length c0_3], 24) (by simp))
    refine js_ ?_
    refine two_ (i := 10) (j := 11) (Ni := some 13) (Nj := some 14) (bS 14 2047) (bS 14 3071) rfl rfl rfl rfl (two_of HT_.out (by kernel_rfl)) (by decide) (by decide) (fun K hK => ?_) (fun K hK => ?_)
    ·refine new_step HQ.out (by rfl) rfl 42 rfl info42 (fun g13 wq hm1 => ?_)
     clear HQ
     have HQ := Aside0.mk hm1
     clear hm1
     refine hK.out _ _ (plan_cells (HQ.out.blk (g5, #[.int .i64 a0_0, .int .i64 a0_1, .bool a0_2, .slice A0_3 l0_3.length c0_3], 24) (by simp))) (fun hHeld => ?_)
     clear hK K
     refine nm_ ?_
     exact jn_ (hJ4_9_10 g13 _ HQ)
    ·refine new_step HQ.out (by rfl) rfl 42 rfl info42 (fun g14 wq hm1 => ?_)
     clear HQ
     have HQ := Aside0.mk hm1
     clear hm1
     refine hK.out _ _ (plan_cells (HQ.out.blk (g5, #[.int .i64 a0_0, .int .i64 a0_1, .bool a0_2, .slice A0_3 l0_3.length c0_3], 24) (by simp))) (fun hHeld => ?_)
     clear hK K
     refine nm_ ?_
     exact jn_ (hJ4_9_11 g14 _ HQ)
   refine join_ (σ := Nat) 4 (bS 14 1535) (fun s_ => [(30, .agg #[.int .i64 x1, .int .i64 x2]), (13, .pointer (some ⟨s_, 0, none⟩))]) (fun s_ w' => Aside0 (Mem w w' [(s_, #[.int .i64 0, .int .i64 0], 42), (gl, #[.int .i64 a2, .int .i64 a3, .int .i64 a4], 3), (g10, #[.int .i64 0, .int .i64 0], 42), (g5, #[.int .i64 a0_0, .int .i64 a0_1, .bool a0_2, .slice A0_3 l0_3.length c0_3], 24)])) (fun s_ wq HQ => ?_) (fun hJ4_10 => ?_)
   ·obtain ⟨g13, e_⟩ : ∃ g_, g_ = s_ := ⟨_, rfl⟩
    subst e_
    have hHeld : (fun w' => w'.cell? ⟨g5, 0, none⟩ = some (.int .i64 a0_0) ∧ w'.cell? ⟨g5, 1, none⟩ = some (.int .i64 a0_1) ∧ w'.cell? ⟨g5, 2, none⟩ = some (.bool a0_2) ∧ w'.cell? ⟨g5, 3, none⟩ = some (.slice A0_3 l0_3.length c0_3)) wq := plan_cells (HQ.out.blk (g5, #[.int .i64 a0_0, .int .i64 a0_1, .bool a0_2, .slice A0_3 l0_3.length c0_3], 24) (by simp))
    refine js_ ?_
    refine two_ (i := 9) (j := 11) (Ni := some 35) (Nj := some 14) (bS 14 2047) (bS 14 3583) rfl rfl rfl rfl (two_of HT_.out (by kernel_rfl)) (by decide) (by decide) (fun K hK => ?_) (fun K hK => ?_)
    ·refine goes_ Try.func93 (by kernel_rfl) rfl #[.agg #[.int .i64 a0_0, .int .i64 a0_1, .bool a0_2, .slice A0_3 l0_3.length c0_3], .int .i64 a1, .int .i64 a4, .int .i64 a2] (by rfl) rfl rfl aA ?_
     with_reducible refine (thermionref01_influence.calls k a0_0 a0_1 a0_2 A0_3 c0_3 l0_3 a1 a4 a2 y1 y2 _ (Kd.C_below HR.out HQ.out.below) HC.out HY.out).mono ?_
     rintro e1 wq ⟨rfl, hb⟩
     have HQ2 := Aside0.mk (HQ.out.step hb)
     clear hb HQ
     have HQ := HQ2
     clear HQ2
     refine ⟨_, rfl, ?_⟩
     refine hK.out _ _ (plan_cells (HQ.out.blk (g5, #[.int .i64 a0_0, .int .i64 a0_1, .bool a0_2, .slice A0_3 l0_3.length c0_3], 24) (by simp))) (fun hHeld => ?_)
     clear hK K
     refine nm_ ?_
     exact jn_ (hJ4_9_10 g13 _ HQ)
    ·refine new_step HQ.out (by rfl) rfl 42 rfl info42 (fun g14 wq hm1 => ?_)
     clear HQ
     have HQ := Aside0.mk hm1
     clear hm1
     refine hK.out _ _ (plan_cells (HQ.out.blk (g5, #[.int .i64 a0_0, .int .i64 a0_1, .bool a0_2, .slice A0_3 l0_3.length c0_3], 24) (by simp))) (fun hHeld => ?_)
     clear hK K
     refine nm_ ?_
     replace HQ := Aside0.mk HQ.out.swap
     exact jn_ (hJ4_10_11 (g13, g14) _ HQ)
   refine join_ (σ := Nat) 4 (bS 14 2559) (fun s_ => [(30, .agg #[.int .i64 x1, .int .i64 x2]), (14, .pointer (some ⟨s_, 0, none⟩))]) (fun s_ w' => Aside0 (Mem w w' [(s_, #[.int .i64 0, .int .i64 0], 42), (gl, #[.int .i64 a2, .int .i64 a3, .int .i64 a4], 3), (g10, #[.int .i64 0, .int .i64 0], 42), (g5, #[.int .i64 a0_0, .int .i64 a0_1, .bool a0_2, .slice A0_3 l0_3.length c0_3], 24)])) (fun s_ wq HQ => ?_) (fun hJ4_11 => ?_)
   ·obtain ⟨g14, e_⟩ : ∃ g_, g_ = s_ := ⟨_, rfl⟩
    subst e_
    have hHeld : (fun w' => w'.cell? ⟨g5, 0, none⟩ = some (.int .i64 a0_0) ∧ w'.cell? ⟨g5, 1, none⟩ = some (.int .i64 a0_1) ∧ w'.cell? ⟨g5, 2, none⟩ = some (.bool a0_2) ∧ w'.cell? ⟨g5, 3, none⟩ = some (.slice A0_3 l0_3.length c0_3)) wq := plan_cells (HQ.out.blk (g5, #[.int .i64 a0_0, .int .i64 a0_1, .bool a0_2, .slice A0_3 l0_3.length c0_3], 24) (by simp))
    refine js_ ?_
    refine two_ (i := 9) (j := 10) (Ni := some 35) (Nj := some 13) (bS 14 3071) (bS 14 3583) rfl rfl rfl rfl (two_of HT_.out (by kernel_rfl)) (by decide) (by decide) (fun K hK => ?_) (fun K hK => ?_)
    ·refine goes_ Try.func93 (by kernel_rfl) rfl #[.agg #[.int .i64 a0_0, .int .i64 a0_1, .bool a0_2, .slice A0_3 l0_3.length c0_3], .int .i64 a1, .int .i64 a4, .int .i64 a2] (by rfl) rfl rfl aA ?_
     with_reducible refine (thermionref01_influence.calls k a0_0 a0_1 a0_2 A0_3 c0_3 l0_3 a1 a4 a2 y1 y2 _ (Kd.C_below HR.out HQ.out.below) HC.out HY.out).mono ?_
     rintro e1 wq ⟨rfl, hb⟩
     have HQ2 := Aside0.mk (HQ.out.step hb)
     clear hb HQ
     have HQ := HQ2
     clear HQ2
     refine ⟨_, rfl, ?_⟩
     refine hK.out _ _ (plan_cells (HQ.out.blk (g5, #[.int .i64 a0_0, .int .i64 a0_1, .bool a0_2, .slice A0_3 l0_3.length c0_3], 24) (by simp))) (fun hHeld => ?_)
     clear hK K
     refine nm_ ?_
     exact jn_ (hJ4_9_11 g14 _ HQ)
    ·refine new_step HQ.out (by rfl) rfl 42 rfl info42 (fun g13 wq hm1 => ?_)
     clear HQ
     have HQ := Aside0.mk hm1
     clear hm1
     refine hK.out _ _ (plan_cells (HQ.out.blk (g5, #[.int .i64 a0_0, .int .i64 a0_1, .bool a0_2, .slice A0_3 l0_3.length c0_3], 24) (by simp))) (fun hHeld => ?_)
     clear hK K
     refine nm_ ?_
     exact jn_ (hJ4_10_11 (g13, g14) _ HQ)
   refine join_ (σ := Nat × Nat) 4 (bS 14 3567) (fun s_ => [(13, .pointer (some ⟨s_.1, 0, none⟩)), (14, .pointer (some ⟨s_.2, 0, none⟩))]) (fun s_ w' => Aside0 (Mem w w' [(s_.1, #[.int .i64 0, .int .i64 0], 42), (s_.2, #[.int .i64 0, .int .i64 0], 42), (gl, #[.int .i64 a2, .int .i64 a3, .int .i64 a4], 3), (g10, #[.int .i64 0, .int .i64 0], 42), (g5, #[.int .i64 a0_0, .int .i64 a0_1, .bool a0_2, .slice A0_3 l0_3.length c0_3], 24)])) (fun s_ wq HQ => ?_) (fun hJ10_11 => ?_)
   ·obtain ⟨g13, g14⟩ := s_
    dsimp only at HQ
    dsimp only
    have hHeld : (fun w' => w'.cell? ⟨g5, 0, none⟩ = some (.int .i64 a0_0) ∧ w'.cell? ⟨g5, 1, none⟩ = some (.int .i64 a0_1) ∧ w'.cell? ⟨g5, 2, none⟩ = some (.bool a0_2) ∧ w'.cell? ⟨g5, 3, none⟩ = some (.slice A0_3 l0_3.length c0_3)) wq := plan_cells (HQ.out.blk (g5, #[.int .i64 a0_0, .int .i64 a0_1, .bool a0_2, .slice A0_3 l0_3.length c0_3], 24) (by simp))
    refine js_ ?_
    refine one_ (i := 4) (N := some 30) (bS 14 3583) rfl rfl (one_of HT_.out (by kernel_rfl)) (by decide) (fun K hK => ?_)
    refine goes_ Try.func93 (by kernel_rfl) rfl #[.agg #[.int .i64 a0_0, .int .i64 a0_1, .bool a0_2, .slice A0_3 l0_3.length c0_3], .int .i64 a1, .int .i64 a3, .int .i64 a2] (by rfl) rfl rfl aA ?_
    with_reducible refine (thermionref01_influence.calls k a0_0 a0_1 a0_2 A0_3 c0_3 l0_3 a1 a3 a2 x1 x2 _ (Kd.C_below HR.out HQ.out.below) HC.out HX.out).mono ?_
    rintro e1 wq ⟨rfl, hb⟩
    have HQ2 := Aside0.mk (HQ.out.step hb)
    clear hb HQ
    have HQ := HQ2
    clear HQ2
    refine ⟨_, rfl, ?_⟩
    refine hK.out _ _ (plan_cells (HQ.out.blk (g5, #[.int .i64 a0_0, .int .i64 a0_1, .bool a0_2, .slice A0_3 l0_3.length c0_3], 24) (by simp))) (fun hHeld => ?_)
    clear hK K
    refine nm_ ?_
    exact jn_ (hJ4_10_11 (g13, g14) _ HQ)
   refine join_ (σ := Unit) 5 (bS 14 511) (fun s_ => [(30, .agg #[.int .i64 x1, .int .i64 x2])]) (fun s_ w' => Aside0 (Mem w w' [(gl, #[.int .i64 a2, .int .i64 a3, .int .i64 a4], 3), (g10, #[.int .i64 0, .int .i64 0], 42), (g5, #[.int .i64 a0_0, .int .i64 a0_1, .bool a0_2, .slice A0_3 l0_3.length c0_3], 24)])) (fun s_ wq HQ => ?_) (fun hJ4 => ?_)
   ·have hHeld : (fun w' => w'.cell? ⟨g5, 0, none⟩ = some (.int .i64 a0_0) ∧ w'.cell? ⟨g5, 1, none⟩ = some (.int .i64 a0_1) ∧ w'.cell? ⟨g5, 2, none⟩ = some (.bool a0_2) ∧ w'.cell? ⟨g5, 3, none⟩ = some (.slice A0_3 l0_3.length c0_3)) wq := plan_cells (HQ.out.blk (g5, #[.int .i64 a0_0, .int .i64 a0_1, .bool a0_2, .slice A0_3 l0_3.length c0_3], 24) (by simp))
    refine js_ ?_
    refine three_ (i := 9) (j := 10) (k := 11) (Ni := some 35) (Nj := some 13) (Nk := some 14) (bS 14 1023) (bS 14 1535) (bS 14 2559) rfl rfl rfl rfl rfl rfl (three_of HT_.out (by kernel_rfl)) (by decide) (by decide) (by decide) (fun K hK => ?_) (fun K hK => ?_) (fun K hK => ?_)
    ·refine goes_ Try.func93 (by kernel_rfl) rfl #[.agg #[.int .i64 a0_0, .int .i64 a0_1, .bool a0_2, .slice A0_3 l0_3.length c0_3], .int .i64 a1, .int .i64 a4, .int .i64 a2] (by rfl) rfl rfl aA ?_
     with_reducible refine (thermionref01_influence.calls k a0_0 a0_1 a0_2 A0_3 c0_3 l0_3 a1 a4 a2 y1 y2 _ (Kd.C_below HR.out HQ.out.below) HC.out HY.out).mono ?_
     rintro e1 wq ⟨rfl, hb⟩
     have HQ2 := Aside0.mk (HQ.out.step hb)
     clear hb HQ
     have HQ := HQ2
     clear HQ2
     refine ⟨_, rfl, ?_⟩
     refine hK.out _ _ (plan_cells (HQ.out.blk (g5, #[.int .i64 a0_0, .int .i64 a0_1, .bool a0_2, .slice A0_3 l0_3.length c0_3], 24) (by simp))) (fun hHeld => ?_)
     clear hK K
     refine nm_ ?_
     exact jn_ (hJ4_9 () _ HQ)
    ·refine new_step HQ.out (by rfl) rfl 42 rfl info42 (fun g13 wq hm1 => ?_)
     clear HQ
     have HQ := Aside0.mk hm1
     clear hm1
     refine hK.out _ _ (plan_cells (HQ.out.blk (g5, #[.int .i64 a0_0, .int .i64 a0_1, .bool a0_2, .slice A0_3 l0_3.length c0_3], 24) (by simp))) (fun hHeld => ?_)
     clear hK K
     refine nm_ ?_
     exact jn_ (hJ4_10 g13 _ HQ)
    ·refine new_step HQ.out (by rfl) rfl 42 rfl info42 (fun g14 wq hm1 => ?_)
     clear HQ
     have HQ := Aside0.mk hm1
     clear hm1
     refine hK.out _ _ (plan_cells (HQ.out.blk (g5, #[.int .i64 a0_0, .int .i64 a0_1, .bool a0_2, .slice A0_3 l0_3.length c0_3], 24) (by simp))) (fun hHeld => ?_)
     clear hK K
     refine nm_ ?_
     exact jn_ (hJ4_11 g14 _ HQ)
   refine join_ (σ := Nat) 5 (bS 14 1519) (fun s_ => [(13, .pointer (some ⟨s_, 0, none⟩))]) (fun s_ w' => Aside0 (Mem w w' [(s_, #[.int .i64 0, .int .i64 0], 42), (gl, #[.int .i64 a2, .int .i64 a3, .int .i64 a4], 3), (g10, #[.int .i64 0, .int .i64 0], 42), (g5, #[.int .i64 a0_0, .int .i64 a0_1, .bool a0_2, .slice A0_3 l0_3.length c0_3], 24)])) (fun s_ wq HQ => ?_) (fun hJ10 => ?_)
   ·obtain ⟨g13, e_⟩ : ∃ g_, g_ = s_ := ⟨_, rfl⟩
    subst e_
    have hHeld : (fun w' => w'.cell? ⟨g5, 0, none⟩ = some (.int .i64 a0_0) ∧ w'.cell? ⟨g5, 1, none⟩ = some (.int .i64 a0_1) ∧ w'.cell? ⟨g5, 2, none⟩ = some (.bool a0_2) ∧ w'.cell? ⟨g5, 3, none⟩ = some (.slice A0_3 l0_3.length c0_3)) wq := plan_cells (HQ.out.blk (g5, #[.int .i64 a0_0, .int .i64 a0_1, .bool a0_2, .slice A0_3 l0_3.length c0_3], 24) (by simp))
    refine js_ ?_
    refine two_ (i := 4) (j := 11) (Ni := some 30) (Nj := some 14) (bS 14 1535) (bS 14 3567) rfl rfl rfl rfl (two_of HT_.out (by kernel_rfl)) (by decide) (by decide) (fun K hK => ?_) (fun K hK => ?_)
    ·refine goes_ Try.func93 (by kernel_rfl) rfl #[.agg #[.int .i64 a0_0, .int .i64 a0_1, .bool a0_2, .slice A0_3 l0_3.length c0_3], .int .i64 a1, .int .i64 a3, .int .i64 a2] (by rfl) rfl rfl aA ?_
     with_reducible refine (thermionref01_influence.calls k a0_0 a0_1 a0_2 A0_3 c0_3 l0_3 a1 a3 a2 x1 x2 _ (Kd.C_below HR.out HQ.out.below) HC.out HX.out).mono ?_
     rintro e1 wq ⟨rfl, hb⟩
     have HQ2 := Aside0.mk (HQ.out.step hb)
     clear hb HQ
     have HQ := HQ2
     clear HQ2
     refine ⟨_, rfl, ?_⟩
     refine hK.out _ _ (plan_cells (HQ.out.blk (g5, #[.int .i64 a0_0, .int .i64 a0_1, .bool a0_2, .slice A0_3 l0_3.length c0_3], 24) (by simp))) (fun hHeld => ?_)
     clear hK K
     refine nm_ ?_
     exact jn_ (hJ4_10 g13 _ HQ)
    ·refine new_step HQ.out (by rfl) rfl 42 rfl info42 (fun g14 wq hm1 => ?_)
     clear HQ
     have HQ := Aside0.mk hm1
     clear hm1
     refine hK.out _ _ (plan_cells (HQ.out.blk (g5, #[.int .i64 a0_0, .int .i64 a0_1, .bool a0_2, .slice A0_3 l0_3.length c0_3], 24) (by simp))) (fun hHeld => ?_)
     clear hK K
     refine nm_ ?_
     replace HQ := Aside0.mk HQ.out.swap
     exact jn_ (hJ10_11 (g13, g14) _ HQ)
   refine join_ (σ := Nat) 5 (bS 14 2543) (fun s_ => [(14, .pointer (some ⟨s_, 0, none⟩))]) (fun s_ w' => Aside0 (Mem w w' [(s_, #[.int .i64 0, .int .i64 0], 42), (gl, #[.int .i64 a2, .int .i64 a3, .int .i64 a4], 3), (g10, #[.int .i64 0, .int .i64 0], 42), (g5, #[.int .i64 a0_0, .int .i64 a0_1, .bool a0_2, .slice A0_3 l0_3.length c0_3], 24)])) (fun s_ wq HQ => ?_) (fun hJ11 => ?_)
   ·obtain ⟨g14, e_⟩ : ∃ g_, g_ = s_ := ⟨_, rfl⟩
    subst e_
    have hHeld : (fun w' => w'.cell? ⟨g5, 0, none⟩ = some (.int .i64 a0_0) ∧ w'.cell? ⟨g5, 1, none⟩ = some (.int .i64 a0_1) ∧ w'.cell? ⟨g5, 2, none⟩ = some (.bool a0_2) ∧ w'.cell? ⟨g5, 3, none⟩ = some (.slice A0_3 l0_3.length c0_3)) wq := plan_cells (HQ.out.blk (g5, #[.int .i64 a0_0, .int .i64 a0_1, .bool a0_2, .slice A0_3 l0_3.length c0_3], 24) (by simp))
    refine js_ ?_
    refine two_ (i := 4) (j := 10) (Ni := some 30) (Nj := some 13) (bS 14 2559) (bS 14 3567) rfl rfl rfl rfl (two_of HT_.out (by kernel_rfl)) (by decide) (by decide) (fun K hK => ?_) (fun K hK => ?_)
    ·refine goes_ Try.func93 (by kernel_rfl) rfl #[.agg #[.int .i64 a0_0, .int .i64 a0_1, .bool a0_2, .slice A0_3 l0_3.length c0_3], .int .i64 a1, .int .i64 a3, .int .i64 a2] (by rfl) rfl rfl aA ?_
     with_reducible refine (thermionref01_influence.calls k a0_0 a0_1 a0_2 A0_3 c0_3 l0_3 a1 a3 a2 x1 x2 _ (Kd.C_below HR.out HQ.out.below) HC.out HX.out).mono ?_
     rintro e1 wq ⟨rfl, hb⟩
     have HQ2 := Aside0.mk (HQ.out.step hb)
     clear hb HQ
     have HQ := HQ2
     clear HQ2
     refine ⟨_, rfl, ?_⟩
     refine hK.out _ _ (plan_cells (HQ.out.blk (g5, #[.int .i64 a0_0, .int .i64 a0_1, .bool a0_2, .slice A0_3 l0_3.length c0_3], 24) (by simp))) (fun hHeld => ?_)
     clear hK K
     refine nm_ ?_
     exact jn_ (hJ4_11 g14 _ HQ)
    ·refine new_step HQ.out (by rfl) rfl 42 rfl info42 (fun g13 wq hm1 => ?_)
     clear HQ
     have HQ := Aside0.mk hm1
     clear hm1
     refine hK.out _ _ (plan_cells (HQ.out.blk (g5, #[.int .i64 a0_0, .int .i64 a0_1, .bool a0_2, .slice A0_3 l0_3.length c0_3], 24) (by simp))) (fun hHeld => ?_)
     clear hK K
     refine nm_ ?_
     exact jn_ (hJ10_11 (g13, g14) _ HQ)
   refine three_ (i := 4) (j := 10) (k := 11) (Ni := some 30) (Nj := some 13) (Nk := some 14) (bS 14 511) (bS 14 1519) (bS 14 2543) rfl rfl rfl rfl rfl rfl (three_of HT_.out (by kernel_rfl)) (by decide) (by decide) (by decide) (fun K hK => ?_) (fun K hK => ?_) (fun K hK => ?_)
   ·refine goes_ Try.func93 (by kernel_rfl) rfl #[.agg #[.int .i64 a0_0, .int .i64 a0_1, .bool a0_2, .slice A0_3 l0_3.length c0_3], .int .i64 a1, .int .i64 a3, .int .i64 a2] (by rfl) rfl rfl aA ?_
    with_reducible refine (thermionref01_influence.calls k a0_0 a0_1 a0_2 A0_3 c0_3 l0_3 a1 a3 a2 x1 x2 _ (Kd.C_below HR.out HQ.out.below) HC.out HX.out).mono ?_
    rintro e1 wq ⟨rfl, hb⟩
    have HQ2 := Aside0.mk (HQ.out.step hb)
    clear hb HQ
    have HQ := HQ2
    clear HQ2
    refine ⟨_, rfl, ?_⟩
    refine hK.out _ _ (plan_cells (HQ.out.blk (g5, #[.int .i64 a0_0, .int .i64 a0_1, .bool a0_2, .slice A0_3 l0_3.length c0_3], 24) (by simp))) (fun hHeld => ?_)
    clear hK K
    refine nm_ ?_
    exact jn_ (hJ4 () _ HQ)
   ·refine new_step HQ.out (by rfl) rfl 42 rfl info42 (fun g13 wq hm1 => ?_)
    clear HQ
    have HQ := Aside0.mk hm1
    clear hm1
    refine hK.out _ _ (plan_cells (HQ.out.blk (g5, #[.int .i64 a0_0, .int .i64 a0_1, .bool a0_2, .slice A0_3 l0_3.length c0_3], 24) (by simp))) (fun hHeld => ?_)
    clear hK K
    refine nm_ ?_
    exact jn_ (hJ10 g13 _ HQ)
   ·refine new_step HQ.out (by rfl) rfl 42 rfl info42 (fun g14 wq hm1 => ?_)
    clear HQ
    have HQ := Aside0.mk hm1
    clear hm1
    refine hK.out _ _ (plan_cells (HQ.out.blk (g5, #[.int .i64 a0_0, .int .i64 a0_1, .bool a0_2, .slice A0_3 l0_3.length c0_3], 24) (by simp))) (fun hHeld => ?_)
    clear hK K
    refine nm_ ?_
    exact jn_ (hJ11 g14 _ HQ)
  case rest =>
  obtain ⟨g13, g14, rfl, rfl, HQ⟩ := hcut
  have h := HH.out
  clear HH
  have q1 := (pair_cells HQ.out.head rfl rfl).1
  have q2 := HQ.out.frozen 0
  dsimp only at h
  by_cases g : y1 < 1
  ·rw [if_pos g] at h
   simp only [Option.some.injEq, Prod.mk.injEq] at h
   obtain ⟨rfl, rfl, rfl⟩ := h
   have g1 := decide_eq_true g
   clear g
   go_wp2_with (first
  | ((with_reducible refine gate_store (t := 42) (p := 10) rfl ?_); refine ev_store HQ.out.fourth4 rfl 42 (.tmp 10) (.tmp 39) rfl rfl (cs := #[.int .i64 0, .int .i64 0]) rfl size42 rfl rfl (by simp [Value.oneCell']) ?_; intro w21 hm1 hq1; have HM21 := Aside0.mk hm1; clear hm1 hq1 HQ))
   (try simp only [Exit.inBlock, Exit.then])
   exact bodyPost_ret (results_ct rfl _ _ g10 42 #[.int .i64 0, .int .i64 0] (0, 0) _ rfl HM21.out.head Try.underlying42 rfl (by kernel_rfl)) rfl ⟨rfl, HM21.out.below⟩
  ·rw [if_neg g] at h
   obtain ⟨z1, hz1, h⟩ := Option.bind_eq_some_iff.1 h
   obtain ⟨z2, hz2, h⟩ := Option.bind_eq_some_iff.1 h
   simp only [Option.some.injEq, Prod.mk.injEq] at h
   obtain ⟨rfl, rfl, rfl⟩ := h
   have HD := Aside0.mk hz1
   have HU := Aside0.mk hz2
   have g1 := decide_eq_false g
   clear g hz1 hz2
   go_upto_region 7 with fail
   have HQ2 := Aside0.mk HQ.out.drew
   clear HQ q1 q2
   have HQ := HQ2
   clear HQ2
   refine start_ (n := 15) (S := fun w' => w'.cell? ⟨g13, 0, none⟩ = some (.int .i64 x1) ∧ w'.cell? ⟨g13, 1, none⟩ = some (.int .i64 x2) ∧ w'.cell? ⟨g14, 0, none⟩ = some (.int .i64 y1) ∧ w'.cell? ⟨g14, 1, none⟩ = some (.int .i64 y2)) (ds := [13, 14]) (bS 15 0) (by kernel_rfl) rfl rfl (⟨(pair_cells (HQ.out.blk (g13, #[.int .i64 x1, .int .i64 x2], 42) (by simp)) rfl rfl).1, (pair_cells (HQ.out.blk (g13, #[.int .i64 x1, .int .i64 x2], 42) (by simp)) rfl rfl).2, pair_cells (HQ.out.blk (g14, #[.int .i64 y1, .int .i64 y2], 42) (by simp)) rfl rfl⟩) (fun hHeld => ?_); refine with_tabW ampR.tab7 ampR.bits7 (fun HT_ HW_ => ?_)
   refine pu_ 0 40 (bS 15 1) HT_ ?_
   refine pu_ 3 43 (bS 15 9) HT_ ?_
   refine pu_ 6 46 (bS 15 73) HT_ ?_
   refine pu_ 9 49 (bS 15 585) HT_ ?_
   refine ta_ 1 41 (bS 15 587) HT_ HW_ hHeld ?_
   refine pu_ 2 42 (bS 15 591) HT_ ?_
   refine ta_ 4 44 (bS 15 607) HT_ HW_ hHeld ?_
   refine ta_ 7 47 (bS 15 735) HT_ HW_ hHeld ?_
   refine pu_ 8 48 (bS 15 991) HT_ ?_
   refine ta_ 10 50 (bS 15 2015) HT_ HW_ hHeld ?_
   refine one_ (i := 5) (N := some 45) (bS 15 2047) rfl rfl (one_of HT_.out (by kernel_rfl)) (by decide) (fun K hK => ?_)
   refine goes_ Try.func94 (by kernel_rfl) rfl #[.int .i64 (wrap64 (1000 * x1)), .int .i64 y2] (by rfl) rfl rfl aA ?_
   with_reducible refine (thermionref01_Down.calls (wrap64 (1000 * x1)) y2 z1 _ HD.out).mono ?_
   rintro e1 wq ⟨rfl, hb⟩
   have HQ2 := Aside0.mk (HQ.out.step hb.below)
   clear hb HQ
   have HQ := HQ2
   clear HQ2
   refine ⟨_, rfl, ?_⟩
   refine hK.out _ _ (⟨(pair_cells (HQ.out.blk (g13, #[.int .i64 x1, .int .i64 x2], 42) (by simp)) rfl rfl).1, (pair_cells (HQ.out.blk (g13, #[.int .i64 x1, .int .i64 x2], 42) (by simp)) rfl rfl).2, pair_cells (HQ.out.blk (g14, #[.int .i64 y1, .int .i64 y2], 42) (by simp)) rfl rfl⟩) (fun hHeld => ?_)
   clear hK K
   refine nm_ ?_
   refine one_ (i := 11) (N := some 51) (bS 15 4095) rfl rfl (one_of HT_.out (by kernel_rfl)) (by decide) (fun K hK => ?_)
   refine goes_ Try.func95 (by kernel_rfl) rfl #[.int .i64 (wrap64 (1000 * x2)), .int .i64 y1] (by rfl) rfl rfl aA ?_
   with_reducible refine (thermionref01_Up.calls (wrap64 (1000 * x2)) y1 z2 _ HU.out).mono ?_
   rintro e1 wq ⟨rfl, hb⟩
   have HQ2 := Aside0.mk (HQ.out.step hb.below)
   clear hb HQ
   have HQ := HQ2
   clear HQ2
   refine ⟨_, rfl, ?_⟩
   refine hK.out _ _ (⟨(pair_cells (HQ.out.blk (g13, #[.int .i64 x1, .int .i64 x2], 42) (by simp)) rfl rfl).1, (pair_cells (HQ.out.blk (g13, #[.int .i64 x1, .int .i64 x2], 42) (by simp)) rfl rfl).2, pair_cells (HQ.out.blk (g14, #[.int .i64 y1, .int .i64 y2], 42) (by simp)) rfl rfl⟩) (fun hHeld => ?_)
   clear hK K
   refine nm_ ?_
   refine pu_ 12 52 (bS 15 8191) HT_ ?_
   refine last_ (i := 13) (N := none) (bS 15 16383) rfl rfl (one_of HT_.out (by kernel_rfl)) (by decide) (fun K hK => ?_)
   refine store_step (HQ.out.fourth4) (by rfl) rfl 42 (.tmp 10) (.tmp 52) rfl rfl rfl (cs := #[.int .i64 z1, .int .i64 z2]) size42 rfl rfl (by simp [Value.oneCell']) (fun wq hm1 => ?_)
   clear HQ
   have HQ := Aside0.mk hm1
   clear hm1
   refine hK.out _ _ ?_
   clear hK K
   refine nm0_ ?_
   refine pu_ 14 11 (bS 15 32767) HT_ ?_
   refine done_ (done_of HT_.out (by kernel_rfl)) ?_
   clear hHeld HT_ HW_
   (try go_wp2)
   exact bodyPost_ret (results_ct rfl _ _ g10 42 #[.int .i64 z1, .int .i64 z2] (0, 0) _ rfl HQ.out.head Try.underlying42 rfl (by kernel_rfl)) rfl ⟨rfl, HQ.out.below⟩
 ·rw [if_neg g] at h
  simp only [Option.some.injEq, Prod.mk.injEq] at h
  obtain ⟨rfl, rfl, rfl⟩ := h
  have g1 : (e0 != 0) = true := bne_iff_ne.mpr g
  clear g
  go_wp2_with (first
  | ((with_reducible refine gate_store (t := 42) (p := 10) rfl ?_); refine ev_store HM4.out.swap rfl 42 (.tmp 10) (.tmp 24) rfl rfl (cs := #[.int .i64 0, .int .i64 0]) rfl size42 rfl rfl (by simp [Value.oneCell']) ?_; intro w5 hm1 hq1; have HM5 := Aside0.mk hm1; clear hm1 hq1 HM4))
  (try simp only [Exit.inBlock, Exit.then])
  exact bodyPost_ret (results_ct rfl _ _ g10 42 #[.int .i64 0, .int .i64 0] (0, 0) _ rfl HM5.out.head Try.underlying42 rfl (by kernel_rfl)) rfl ⟨rfl, HM5.out.below⟩
end Go.Proofs.Ytndkkjpgnmahbaa.Print
end

section
namespace Go.Proofs.Ytndkkjpgnmahbaa.Print
open Go.RowKit Go.Proofs.YtndkkjpgnmahbaaW.PrintWords Go.Proofs.YtndkkjpgnmahbaaW.PrintLast Go.Proofs.YtndkkjpgnmahbaaW.PrintMore Go.Proofs.Field
set_option linter.unusedVariables false
theorem ask_l2 (l : List Int) (hl : l.length ≤ 1000) {i : Nat} (hi : i < l.length) {r : Int} (h : Ev (fun k => thermionref01_askable.l1 k l ((i + 1 : Nat) : Int)) r) :
  ∀ (d j : Nat), j + d = i → Ev (fun k => thermionref01_askable.l2 k l (i : Int) (j : Int)) (if ((l.take i).drop j).contains (fn l i) = true then 9 else r)
 | 0, j, e => by
  rw [List.drop_eq_nil_of_le (by rw [List.length_take]; omega), if_neg (by simp)]
  have hw : wrap64 ((i : Int) + 1) = ((i + 1 : Nat) : Int) := by rw [IntWalk.wrap64_in _ (by omega)]; omega
  refine h.step 0 (fun k _ => ?_)
  rw [thermionref01_askable.l2, if_neg (by omega), hw]
 | d + 1, j, e => by
  have hw : wrap64 ((j : Int) + 1) = ((j + 1 : Nat) : Int) := by rw [IntWalk.wrap64_in _ (by omega)]; omega
  have hc : (l.take i).drop j = fn l j :: (l.take i).drop (j + 1) := by
   rw [List.drop_eq_getElem_cons (by rw [List.length_take]; omega), List.getElem_take]
   congr 1
   unfold fn
   rw [List.getD_eq_getElem?_getD, List.getElem?_eq_getElem (by omega)]
   rfl
  rw [hc, List.contains_cons]
  by_cases q : fn l i = fn l j
  ·rw [if_pos (by simp [q])]
   exact Ev.now (fun k => by rw [thermionref01_askable.l2, if_pos (by omega), if_pos (by omega), if_pos (by omega), if_pos (by omega), if_pos (by omega), rd_fn l i (by omega), rd_fn l j (by omega), if_pos q])
  ·have e2 : (fn l i == fn l j) = false := by simpa using q
   rw [e2, Bool.false_or]
   refine (ask_l2 l hl hi h d (j + 1) (by omega)).step 0 (fun k _ => ?_)
   rw [thermionref01_askable.l2, if_pos (by omega), if_pos (by omega), if_pos (by omega), if_pos (by omega), if_pos (by omega), rd_fn l i (by omega), rd_fn l j (by omega), if_neg q, hw]
theorem ask_l1 (l : List Int) (hl : l.length ≤ 1000) : ∀ (d i : Nat), i + d = l.length → Ev (fun k => thermionref01_askable.l1 k l (i : Int)) (if dupFrom l i d = true then 9 else 0)
 | 0, i, e => by
  rw [dupFrom, if_neg (by simp)]
  exact Ev.now (fun k => by rw [thermionref01_askable.l1, if_neg (by omega)])
 | d + 1, i, e => by
  have h := ask_l2 l hl (i := i) (by omega) (ask_l1 l hl d (i + 1) (by omega)) i 0 (by omega)
  rw [List.drop_zero] at h
  have e2 : (if dupFrom l i (d + 1) = true then (9 : Int) else 0) = if (l.take i).contains (fn l i) = true then 9 else if dupFrom l (i + 1) d = true then 9 else 0 := by
   rw [dupFrom]
   cases (l.take i).contains (fn l i) <;> simp
  rw [e2]
  refine h.step 0 (fun k _ => ?_)
  rw [thermionref01_askable.l1, if_pos (by omega)]
  rfl
theorem ask_l0 (W H : Int) (R : Bool) (C l : List Int) (hC : C.length ≤ 1000) (hl : l.length ≤ 1000) : ∀ (d i : Nat), i + d = l.length →
  Ev (fun k => thermionref01_askable.l0 k l (i : Int) W H R C) (if (l.drop i).all (hasB C) = false then 7 else if dupFrom l 0 l.length = true then 9 else 0)
 | 0, i, e => by
  rw [List.drop_eq_nil_of_le (by omega), if_neg (by simp)]
  refine (ask_l1 l hl l.length 0 (by omega)).step 0 (fun k _ => ?_)
  rw [thermionref01_askable.l0, if_neg (by omega)]
  rfl
 | d + 1, i, e => by
  have hw : wrap64 ((i : Int) + 1) = ((i + 1 : Nat) : Int) := by rw [IntWalk.wrap64_in _ (by omega)]; omega
  have hil : i < l.length := by omega
  have e1 : fn l i = l[i] := by unfold fn; rw [List.getD_eq_getElem?_getD, List.getElem?_eq_getElem hil]; rfl
  have hh := refhas_go W H R C (fn l i) (by omega) C.length 0 (by omega)
  rw [List.drop_zero] at hh
  have hh2 : Ev (fun k => thermionref01_has.f k W H R C (fn l i)) (hasB C (fn l i)) := hh
  rw [List.drop_eq_getElem_cons hil, List.all_cons, ← e1]
  cases q : hasB C (fn l i) with
  | true =>
   rw [q] at hh2
   rw [Bool.true_and]
   refine Ev.step (g := fun k => (thermionref01_has.f k W H R C (fn l i)).bind (fun t => if t = true then thermionref01_askable.l0 k l ((i + 1 : Nat) : Int) W H R C else some 7)) (hh2.bind ?_) 0 (fun k _ => ?_)
   ·simp only [if_true]
    exact ask_l0 W H R C l hC hl d (i + 1) (by omega)
   ·rw [thermionref01_askable.l0, if_pos (by omega), if_pos (by omega), rd_fn l i hil, hw]
  | false =>
   rw [q] at hh2
   rw [Bool.false_and, if_pos rfl]
   refine Ev.step (g := fun k => (thermionref01_has.f k W H R C (fn l i)).bind (fun t => if t = true then thermionref01_askable.l0 k l ((i + 1 : Nat) : Int) W H R C else some 7)) (hh2.bind ?_) 0 (fun k _ => ?_)
   ·exact ⟨0, fun k _ => if_neg (by simp)⟩
   ·rw [thermionref01_askable.l0, if_pos (by omega), if_pos (by omega), rd_fn l i hil, hw]
theorem ask_eq (W H : Int) (R : Bool) (C l : List Int) (n : Int) (hC : C.length ≤ 1000) (hl : l.length ≤ 1000) : Ev (fun k => thermionref01_askable.f k W H R C n l) (apartErr W H R C n l) := by
 unfold thermionref01_askable.f apartErr
 refine (refcheck_eq W H R C).bind ?_
 by_cases q : checkErr W H R C = 0
 ·rw [if_neg (show ¬ checkErr W H R C ≠ 0 from fun f => f q)]
  simp only [q, if_true, beyond_eq, Option.bind_some]
  by_cases r : n < 0 ∨ 200 < n
  ·rw [if_pos r]
   exact ⟨0, fun k _ => if_pos (by simpa using r)⟩
  ·rw [if_neg r]
   have h0 := ask_l0 W H R C l hC hl l.length 0 (by omega)
   rw [List.drop_zero] at h0
   obtain ⟨K, hK⟩ := h0
   exact ⟨K, fun k hk => (if_neg (by simpa using r)).trans (hK k hk)⟩
 ·rw [if_pos (show checkErr W H R C ≠ 0 from q)]
  exact ⟨0, fun k _ => if_neg q⟩
theorem refinf_eq {W H : Nat} {R : Bool} {C : List Int} {n : Nat} {a b : Int} (hck : checkErr W H R C = 0) (hn : n ≤ 200) (hab : a ≠ b) (ha : hasB C a = true) (hb : hasB C b = true) :
  ∃ x1 x2, (∀ k, C.length + 12 ≤ k → field_Influence.f k W H R C n a b = some (x1, x2, 0)) ∧ Ev (fun k => thermionref01_influence.f k W H R C n a b) (x1, x2) ∧ x1 ≤ x2 ∧ 0 ≤ x1 := by
 obtain ⟨m, hm⟩ : ∃ m : Nat, maxOf C = m := by
  have := (has_max (m := (maxOf C).toNat) (a := a) (by
   have h1 := le_maxOf (hasB_mem.1 ha).2
   have h2 := (hasB_mem.1 ha).1
   omega) ha)
  exact ⟨(maxOf C).toNat, by omega⟩
 have ha' := has_max hm ha
 have hb' := has_max hm hb
 have hv := unit_right hck hm ha'
 obtain ⟨hV, h256, _⟩ := influence_eq (n := n) hck hn hab hm ha hb (k := C.length + 12) (Nat.le_refl _)
 have hI : ∀ k, C.length + 12 ≤ k → field_Influence.f k W H R C n a b = some (inflow W H R C b (solveN W H R C (unitV m a 1000000) 256 n).1, inflow W H R C b (solveN W H R C (unitV m a 1000000) 256 n).2.1, 0) := fun k hk => by
  obtain ⟨_, _, h⟩ := influence_eq (n := n) hck hn hab hm ha hb hk
  exact h
 have hle : inflow W H R C b (solveN W H R C (unitV m a 1000000) 256 n).1 ≤ inflow W H R C b (solveN W H R C (unitV m a 1000000) 256 n).2.1 :=
  inflow_le (fun i hi => pair_between hV (solve_pair hV h256 n) (by rw [hV.len]; exact hi))
 have h0 := (influence_both (n := n) (n' := n) hm ha hb h256 hV (by
  obtain ⟨hV', _, _⟩ := influence_eq (n := n) hck hn (Ne.symm hab) hm hb ha (k := C.length + 12) (Nat.le_refl _)
  exact hV')).2
 refine ⟨_, _, hI, ?_, hle, h0⟩
 have hm6 : m ≤ 6 := by
  obtain ⟨i, hi, e⟩ := mem_fn (maxOf_mem (check_ne hck))
  have := (hV.elr i hi).2
  omega
 have hs := solve_eq (n := n) hv hn
 obtain ⟨W1, H1, _, _⟩ := check_parts hck
 obtain ⟨t1, t2⟩ := bounds_len hV h256 n
 obtain ⟨j, hj, hje⟩ := mem_fn (hasB_mem.1 hb).2
 have he6 := hV.elr j hj
 have hev := hV.vlen j hj
 rw [hje] at he6 hev
 obtain ⟨u, hu⟩ : ∃ u, fn (unitV m a 1000000) (b.toNat - 1) = u := ⟨_, rfl⟩
 have hub := hV.vr (b.toNat - 1) (by omega)
 rw [hu] at hub
 obtain ⟨W', H', eW, eH, hW16, hH16, _, _, _⟩ := volted_of hv
 obtain rfl : W = W' := by omega
 obtain rfl : H = H' := by omega
 have hch := charge_l0 (W := W) (H := H) (R := R) (C := C) (v := unitV m a 1000000) (lo := (solveN W H R C (unitV m a 1000000) 256 n).1.take C.length) (hi := (solveN W H R C (unitV m a 1000000) 256 n).2.1.take C.length) (e := b) (u := u) ⟨by omega, hW16⟩ ⟨by omega, hH16⟩ hV.len t1 t2 ⟨by omega, hev, he6.2⟩ hu hub (fun k hk => by
  have hk' : k < C.length := by rw [hV.len]; exact hk
  rw [fn_take hk', fn_take hk']
  exact solve_range hV h256 n hk') ((solveN W H R C (unitV m a 1000000) 256 n).2.2.1 : Int) (solveN W H R C (unitV m a 1000000) 256 n).2.2.2 C.length 0 (by omega)
 have hne := check_ne hck
 have hwa : wrap64 (a - 1) = a - 1 := IntWalk.wrap64_in _ (by omega)
 have huV : (List.replicate m (0 : Int)).set (a - 1).toNat 1000000 = unitV m a 1000000 := by
  unfold unitV
  rw [show (a - 1).toNat = a.toNat - 1 by omega]
 have hours := hI (C.length + 12) (Nat.le_refl _)
 have hap : apartErr W H R C n [a, b] = 0 := by rw [apart_two hck (by omega) hab]; exact if_pos ⟨ha, hb⟩
 have hmx : slices_Max_int_int.f C = some (m : Int) := by unfold slices_Max_int_int.f; rw [if_neg hne, hm]
 have hcf : field_Charge.f W H R C (unitV m a 1000000) n b = some (chTo W H R C b u ((solveN W H R C (unitV m a 1000000) 256 n).2.1.take C.length) C.length, chTo W H R C b u ((solveN W H R C (unitV m a 1000000) 256 n).1.take C.length) C.length, 0) := by
  unfold field_Charge.f
  rw [obind hs]
  show (if (0 : Int) ≠ 0 then _ else if hasB C b = false then _ else _) = _
  rw [if_neg (by simp), if_neg (by rw [hb]; simp), hu, Int.toNat_natCast, Int.toNat_natCast]
 unfold field_Influence.f at hours
 rw [obind (apart_eq W H R C [a, b] n (by omega) (by simp) (by simp; omega)), hap, if_pos rfl, obind hmx, if_pos (by omega), Int.toNat_natCast, if_pos (by omega), obind rfl, hwa, if_pos (by omega), if_pos (by rw [List.length_replicate]; omega), huV, obind hcf] at hours
 simp only [Option.some.injEq, Prod.mk.injEq] at hours
 obtain ⟨e1, e2, _⟩ := hours
 unfold thermionref01_influence.f
 have hg := refgreatest_go (W : Int) (H : Int) R C (by omega) C.length 0 0 (by omega)
 rw [List.drop_zero] at hg
 have hmax : C.foldl max 0 = (m : Int) := by
  rw [← hm]
  obtain ⟨g1, g2, g3⟩ := foldl_max_ge C 0
  have h1 := g2 _ (maxOf_mem hne)
  rcases g3 with g3 | g3
  ·have := le_maxOf (hasB_mem.1 ha).2
   have h2 := (hasB_mem.1 ha).1
   omega
  ·have := le_maxOf g3
   omega
 rw [hmax] at hg
 refine Ev.bind (f := fun k => thermionref01_greatest.f k (W : Int) (H : Int) R C) hg ?_
 have hg2 := Ev.bind (f := fun k => thermionref01_charge.f k (W : Int) (H : Int) R C (unitV m a 1000000) ((solveN W H R C (unitV m a 1000000) 256 n).1.take C.length) ((solveN W H R C (unitV m a 1000000) 256 n).2.1.take C.length) ((solveN W H R C (unitV m a 1000000) 256 n).2.2.1 : Int) (solveN W H R C (unitV m a 1000000) 256 n).2.2.2 b)
  (g := fun _ t => some (wrap64 (-t.2), wrap64 (-t.1))) hch ⟨0, fun k _ => rfl⟩
 obtain ⟨K, hK⟩ := hg2
 refine ⟨K, fun k hk => ?_⟩
 have hk2 := hK k hk
 show (if (0 : Int) ≤ (m : Int) then _ else none) = _
 rw [if_pos (by omega), Int.toNat_natCast, if_pos (by omega), obind rfl, hwa, if_pos (by omega), if_pos (by rw [List.length_replicate]; omega), obind rfl, huV]
 rw [show thermionref01_Solve.f (W : Int) (H : Int) R C (unitV m a 1000000) n = _ from hs]
 rw [← e1, ← e2]
 exact hk2
theorem apart_zero {W H : Int} {R : Bool} {C l : List Int} {n : Int} (h : apartErr W H R C n l = 0) : checkErr W H R C = 0 ∧ 0 ≤ n ∧ n ≤ 200 ∧ l.all (hasB C) = true ∧ dupFrom l 0 l.length = false := by
 unfold apartErr at h
 by_cases q : checkErr W H R C ≠ 0
 ·rw [if_pos q] at h; exact absurd h q
 ·rw [if_neg q] at h
  by_cases r : n < 0 ∨ 200 < n
  ·rw [if_pos r] at h; simp at h
  ·rw [if_neg r] at h
   cases s : l.all (hasB C) with
   | false => rw [if_pos s] at h; simp at h
   | true =>
    rw [if_neg (by simp [s])] at h
    cases t : dupFrom l 0 l.length with
    | true => rw [if_pos t] at h; simp at h
    | false => exact ⟨Classical.byContradiction q, by omega, by omega, rfl, rfl⟩
theorem nat_of {W H : Int} {R : Bool} {C : List Int} (h : checkErr W H R C = 0) : ∃ W' H' : Nat, W = W' ∧ H = H' ∧ C.length ≤ 256 := by
 obtain ⟨a, b, c, d, e, _⟩ := check_parts h
 obtain ⟨W', rfl⟩ : ∃ W' : Nat, W = W' := ⟨W.toNat, by omega⟩
 obtain ⟨H', rfl⟩ : ∃ H' : Nat, H = H' := ⟨H.toNat, by omega⟩
 have hl : C.length = W' * H' := by rw [← Int.natCast_mul] at e; omega
 have h256 : C.length ≤ 256 := by have := Nat.mul_le_mul (show W' ≤ 16 by omega) (show H' ≤ 16 by omega); omega
 exact ⟨W', H', rfl, rfl, h256⟩
theorem infl_both (W H : Int) (R : Bool) (C : List Int) (n a b : Int) (hC : C.length ≤ 1000) :
  ∃ x1 x2 x3, Ev (fun k => field_Influence.f k W H R C n a b) (x1, x2, x3) ∧ Ev (fun k => thermionref01_Influence.f k W H R C n a b) (x1, x2, x3) := by
 by_cases q : apartErr W H R C n [a, b] = 0
 ·obtain ⟨h1, h2, h3, h4, h5⟩ := apart_zero q
  obtain ⟨W', H', rfl, rfl, h256⟩ := nat_of h1
  obtain ⟨N, rfl⟩ : ∃ N : Nat, n = N := ⟨n.toNat, by omega⟩
  simp only [List.all_cons, List.all_nil, Bool.and_true, Bool.and_eq_true] at h4
  have hab : a ≠ b := by
   intro e
   subst e
   simp [dupFrom, fn] at h5
  obtain ⟨x1, x2, e1, e2, _⟩ := refinf_eq (n := N) h1 (by omega) hab h4.1 h4.2
  refine ⟨x1, x2, 0, ⟨_, e1⟩, ?_⟩
  unfold thermionref01_Influence.f
  refine (ask_eq W' H' R C [a, b] N hC (by simp)).bind ?_
  simp only [q, if_true]
  exact e2.bind ⟨0, fun k _ => rfl⟩
 ·refine ⟨0, 0, apartErr W H R C n [a, b], ⟨C.length + 20, fun k hk => ?_⟩, ?_⟩
  ·unfold field_Influence.f
   dsimp only
   rw [obind (apart_eq W H R C [a, b] n (by omega) (by simp) (by simp; omega)), if_neg q]
  ·unfold thermionref01_Influence.f
   refine (ask_eq W H R C [a, b] n hC (by simp)).bind ?_
   exact ⟨0, fun k _ => if_neg q⟩
theorem amp_both (W H : Int) (R : Bool) (C : List Int) (n k0 g a : Int) (hC : C.length ≤ 1000) :
  ∃ x1 x2 x3, Ev (fun k => field_Amplification.f k W H R C n k0 g a) (x1, x2, x3) ∧ Ev (fun k => thermionref01_Amplification.f k W H R C n k0 g a) (x1, x2, x3) := by
 by_cases q : apartErr W H R C n [k0, g, a] = 0
 ·obtain ⟨h1, h2, h3, h4, h5⟩ := apart_zero q
  obtain ⟨W', H', rfl, rfl, h256⟩ := nat_of h1
  obtain ⟨N, rfl⟩ : ∃ N : Nat, n = N := ⟨n.toNat, by omega⟩
  simp only [List.all_cons, List.all_nil, Bool.and_true, Bool.and_eq_true] at h4
  have hgk : g ≠ k0 := by
   intro e
   subst e
   simp [dupFrom, fn] at h5
  have hak : a ≠ k0 := by
   intro e
   subst e
   simp [dupFrom, fn] at h5
  obtain ⟨x1, x2, e1, e2, _, _⟩ := refinf_eq (n := N) h1 (by omega) hgk h4.2.1 h4.1
  obtain ⟨y1, y2, f1, f2, f3, f4⟩ := refinf_eq (n := N) h1 (by omega) hak h4.2.2 h4.1
  by_cases r : y1 < 1
  ·refine ⟨0, 0, 10, ⟨C.length + 20, fun k hk => ?_⟩, ?_⟩
   ·unfold field_Amplification.f
    dsimp only
    rw [obind (apart_eq W' H' R C [k0, g, a] N (by omega) (by simp) (by simp; omega)), if_pos q, obind (e1 k (by omega)), obind (f1 k (by omega))]
    exact if_pos r
   ·unfold thermionref01_Amplification.f
    refine (ask_eq W' H' R C [k0, g, a] N hC (by simp)).bind ?_
    simp only [q, if_true]
    refine e2.bind ?_
    refine f2.bind ?_
    exact ⟨0, fun k _ => if_pos r⟩
  ·obtain ⟨z1, hz1⟩ : ∃ z, field_down.f (wrap64 (1000 * x1)) y2 = some z := by
    unfold field_down.f
    rw [if_neg (by omega)]
    split
    ·exact ⟨_, rfl⟩
    ·exact ⟨_, rfl⟩
   obtain ⟨z2, hz2⟩ : ∃ z, field_up.f (wrap64 (1000 * x2)) y1 = some z := by
    unfold field_up.f field_down.f
    rw [if_neg (by omega)]
    split
    ·exact ⟨_, rfl⟩
    ·exact ⟨_, rfl⟩
   have hz1' : thermionref01_Down.f (wrap64 (1000 * x1)) y2 = some z1 := hz1
   have hz2' : thermionref01_Up.f (wrap64 (1000 * x2)) y1 = some z2 := hz2
   refine ⟨z1, z2, 0, ⟨C.length + 20, fun k hk => ?_⟩, ?_⟩
   ·unfold field_Amplification.f
    dsimp only
    rw [obind (apart_eq W' H' R C [k0, g, a] N (by omega) (by simp) (by simp; omega)), if_pos q, obind (e1 k (by omega)), obind (f1 k (by omega))]
    show (if y1 < 1 then _ else _) = _
    rw [if_neg r, obind hz1, obind hz2]
   ·unfold thermionref01_Amplification.f
    refine (ask_eq W' H' R C [k0, g, a] N hC (by simp)).bind ?_
    simp only [q, if_true]
    refine e2.bind ?_
    refine f2.bind ?_
    refine ⟨0, fun k _ => ?_⟩
    show (if y1 < 1 then _ else _) = _
    rw [if_neg r, obind hz1', obind hz2']
 ·refine ⟨0, 0, apartErr W H R C n [k0, g, a], ⟨C.length + 20, fun k hk => ?_⟩, ?_⟩
  ·unfold field_Amplification.f
   dsimp only
   rw [obind (apart_eq W H R C [k0, g, a] n (by omega) (by simp) (by simp; omega)), if_neg q]
  ·unfold thermionref01_Amplification.f
   refine (ask_eq W H R C [k0, g, a] n hC (by simp)).bind ?_
   exact ⟨0, fun k _ => if_neg q⟩
end Go.Proofs.Ytndkkjpgnmahbaa.Print
end

section
namespace Go.Proofs.Ytndkkjpgnmahbaa.Print
open Go.RowKit Go.Proofs.YtndkkjpgnmahbaaW.PrintWords Go.Proofs.YtndkkjpgnmahbaaW.PrintLast Go.Proofs.YtndkkjpgnmahbaaW.PrintMore Go.Proofs.Ytndkkjpgnmahbaa.H
set_option linter.unusedVariables false
structure InflF (K : Nat) (W H : Int) (R : Bool) (C : List Int) (n a k g x1 x2 x3 u1 u2 u3 : Int) : Prop where
 i1 : field_Influence.f K W H R C n a k = some (x1, x2, x3)
 i2 : thermionref01_Influence.f K W H R C n a k = some (x1, x2, x3)
 a1 : field_Amplification.f K W H R C n k g a = some (u1, u2, u3)
 a2 : thermionref01_Amplification.f K W H R C n k g a = some (u1, u2, u3)
theorem infl_facts (W H : Int) (R : Bool) (C : List Int) (n a k g : Int) (hC : C.length ≤ 300) : ∃ x1 x2 x3 u1 u2 u3 K, InflF K W H R C n a k g x1 x2 x3 u1 u2 u3 := by
 obtain ⟨x1, x2, x3, ⟨K1, h1⟩, ⟨K2, h2⟩⟩ := infl_both W H R C n a k (by omega)
 obtain ⟨u1, u2, u3, ⟨K3, h3⟩, ⟨K4, h4⟩⟩ := amp_both W H R C n k g a (by omega)
 exact ⟨x1, x2, x3, u1, u2, u3, K1 + K2 + K3 + K4, h1 _ (by omega), h2 _ (by omega), h3 _ (by omega), h4 _ (by omega)⟩
theorem plan_total (s a1 a2 : Int) (h1 : 1 ≤ a1 ∧ a1 ≤ 16) (h2 : 1 ≤ a2 ∧ a2 ≤ 16) : ∃ (W H : Int) (R : Bool) (C : List Int) (s1 : Int), thermionkit_PlanOf.f s a1 a2 = some (W, H, R, C, s1) ∧ 0 < C.length ∧ C.length ≤ 256 := by
 obtain ⟨W, H, R, C, s1, h, b1, _, b3, _, hl, h256, _, _⟩ := dealt_plan s a1 a2 h1 h2
 exact ⟨W, H, R, C, s1, h, by rw [hl]; exact Nat.mul_pos b1 b3, h256⟩
theorem big_none (W H : Int) (R : Bool) (A : Option Addr) (c : Nat) (C : List Int) (b : Bool) (w : World) (hr : Kd.C (Kd.int .i64) w A C.length C) (hc : C.length ≤ c) (hb : decide (300 < C.length) = b) :
  Calls Try.prog 19 #[.agg (planV W H R A C.length c), .slice none 0 0] w fun e w' => e = .returned (.bool b) ∧ Below w.heap.size w w' :=
 thermionlaw01_big.calls _ W H R A c C none 0 [] b w hr hc ⟨rfl, by simp, fun h => absurd h (by simp)⟩ (by simp) (by rw [big_eq W H R C [] (by simp), ← hb]; rfl)
section
variable {P : Program} {ops : Array Oper} {o : Oper} {a : Act} {Q : Exit → Act → World → Prop} {K : Act → World → Prop} {w W : World} {l : List (Nat × Array Value × TypeId)}
theorem lit_step {N : Option Tmp} (hm : Mem w W l) (hw : Region.wanted o (yielded ops a.tmps) = true) (hN : o.dst = N) (inner : List Value) (n : Nat) (e : TypeId)
  (hrun : (execOp a.eval o).run P W = .ok (.value (.slice (some ⟨W.heap.size, 0, none⟩) n n)) (W.alloc (.cells inner.toArray e)))
  (h : ∀ g W1, Mem w W1 ((g, inner.toArray, e) :: l) → K (a.put N (.slice (some ⟨g, 0, none⟩) n n)) W1) : if Region.wanted o (yielded ops a.tmps) = true then Oper.wp P o a W K Q else K (a.put N undef) W := by
 subst hN
 exact event_step hw hrun (h _ _ (hm.new rfl (blk_new W _) (below_alloc (Below.refl _ _) _)))
end
end Go.Proofs.Ytndkkjpgnmahbaa.Print
end

section
namespace Go.Proofs.Ytndkkjpgnmahbaa.Print
open Go.RowKit Go.Proofs.YtndkkjpgnmahbaaW.PrintWords Go.Proofs.YtndkkjpgnmahbaaW.PrintLast Go.Proofs.YtndkkjpgnmahbaaW.PrintMore
attribute [local go_sem] max2_int min2_int max_two min_two max_three min_three max_four min_four
set_option linter.unusedVariables false
set_option linter.unusedSimpArgs false
def thermionkit_Tube.l0 : Nat → Int → Int → Int → Int → Int → Int → Bool → List Int → Option (Int × Int × Bool × List Int × Int)
 | 0, _, _, _, _, _, _, _, _ => none
 | k + 1, x8, x9, x10, x1000, x501000, x501001, x501002, x501003 => if x10 < (wrap64 (x501000 * x501001)) then (if x501000 = 0 then (none) else (if (Int.tmod x10 x501000) = 0 then (if x501003.length < 17592186044416 then (thermionkit_Tube.l0 k x8 x9 (wrap64 (x10 + 1)) x1000 x501000 x501001 x501002 (x501003 ++ [1])) else (none)) else (if (Int.tmod x10 x501000) = (wrap64 (x501000 - 1)) then (if x501003.length < 17592186044416 then (thermionkit_Tube.l0 k x8 x9 (wrap64 (x10 + 1)) x1000 x501000 x501001 x501002 (x501003 ++ [3])) else (none)) else (if (Int.tmod x10 x501000) = x8 then (if (wrap64 (Int.tdiv x10 x501000)) = x9 then (if x501001 > 1 then (if x501003.length < 17592186044416 then (thermionkit_Tube.l0 k x8 x9 (wrap64 (x10 + 1)) x1000 x501000 x501001 x501002 (x501003 ++ [2])) else (none)) else (if x501003.length < 17592186044416 then (thermionkit_Tube.l0 k x8 x9 (wrap64 (x10 + 1)) x1000 x501000 x501001 x501002 (x501003 ++ [0])) else (none))) else ((thermionkit_Dice_One.f x1000 3).bind fun bt517 => (if bt517.1 = true then (if x501001 > 1 then (if x501003.length < 17592186044416 then (thermionkit_Tube.l0 k x8 x9 (wrap64 (x10 + 1)) bt517.2 x501000 x501001 x501002 (x501003 ++ [2])) else (none)) else (if x501003.length < 17592186044416 then (thermionkit_Tube.l0 k x8 x9 (wrap64 (x10 + 1)) bt517.2 x501000 x501001 x501002 (x501003 ++ [0])) else (none))) else (if x501003.length < 17592186044416 then (thermionkit_Tube.l0 k x8 x9 (wrap64 (x10 + 1)) bt517.2 x501000 x501001 x501002 (x501003 ++ [0])) else (none))))) else (if x501003.length < 17592186044416 then (thermionkit_Tube.l0 k x8 x9 (wrap64 (x10 + 1)) x1000 x501000 x501001 x501002 (x501003 ++ [0])) else (none)))))) else (some (x501000, x501001, x501002, x501003, x1000))
def thermionkit_Tube.f (k : Nat) (s0_0 : Int) (a1 : Int) (a2 : Int) : Option (Int × Int × Bool × List Int × Int) := (thermionkit_Dice_Between.f s0_0 4 (mx 4 a1)).bind fun bt494 => ((thermionkit_Dice_Between.f bt494.2 1 a2).bind fun bt496 => ((thermionkit_Dice_One.f bt496.2 2).bind fun bt498 => ((thermionkit_Dice_Between.f bt498.2 1 (wrap64 (bt494.1 - 2))).bind fun bt501 => ((thermionkit_Dice_Upto.f bt501.2 bt496.1).bind fun bt503 => (thermionkit_Tube.l0 k bt501.1 bt503.1 0 bt503.2 bt494.1 bt496.1 bt498.1 ([] : List Int))))))
set_option maxHeartbeats 8000000 in
set_option maxRecDepth 100000 in
theorem thermionkit_Tube.calls (k : Nat) (g : Nat) (s0_0 : Int) (a1 : Int) (a2 : Int) (r1 : Int) (r2 : Int) (r3 : Bool) (r4 : List Int) (r5 : Int) (w0 w : World) (hI : IsS79 w0 w g s0_0) (hB : Below w0.heap.size w0 w) (h : thermionkit_Tube.f k s0_0 a1 a2 = some (r1, r2, r3, r4, r5)) :
  Calls Try.prog 54 #[.pointer (some ⟨g, 0, none⟩), .int .i64 a1, .int .i64 a2] w fun e w' => ∃ v3_ : Value, e = .returned (.agg #[.int .i64 r1, .int .i64 r2, .bool r3, v3_]) ∧ Kd.R (Kd.int .i64) 3 w' w.heap.size (fun _ => True) v3_ r4 ∧ IsS79 w0 w' g r5 ∧ Below w0.heap.size w0 w' ∧ KeepBut w w' g none := by
 have hu24 := Try.underlying24
 have HI0 := Aside0.mk hI
 have HK := Aside0.mk (KeepBut.refl w g none)
 have HL := Aside0.mk hB.size
 clear hI
 have HW0 := Aside0.mk hB.size
 have HB := Aside0.mk hB
 clear hB
 have H : ((thermionkit_Dice_Between.f s0_0 4 (mx 4 a1)).bind fun bt494 => ((thermionkit_Dice_Between.f bt494.2 1 a2).bind fun bt496 => ((thermionkit_Dice_One.f bt496.2 2).bind fun bt498 => ((thermionkit_Dice_Between.f bt498.2 1 (wrap64 (bt494.1 - 2))).bind fun bt501 => ((thermionkit_Dice_Upto.f bt501.2 bt496.1).bind fun bt503 => (thermionkit_Tube.l0 k bt501.1 bt503.1 0 bt503.2 bt494.1 bt496.1 bt498.1 ([] : List Int))))))) = some (r1, r2, r3, r4, r5) := h
 clear h
 obtain ⟨ji4, hji4⟩ : ∃ j_ : Int, (mx 4 a1) = j_ := ⟨_, rfl⟩
 replace H : ((thermionkit_Dice_Between.f s0_0 4 (ji4)).bind fun bt494 => ((thermionkit_Dice_Between.f bt494.2 1 a2).bind fun bt496 => ((thermionkit_Dice_One.f bt496.2 2).bind fun bt498 => ((thermionkit_Dice_Between.f bt498.2 1 (wrap64 (bt494.1 - 2))).bind fun bt501 => ((thermionkit_Dice_Upto.f bt501.2 bt496.1).bind fun bt503 => (thermionkit_Tube.l0 k bt501.1 bt503.1 0 bt503.2 bt494.1 bt496.1 bt498.1 ([] : List Int))))))) = some (r1, r2, r3, r4, r5) := by first | (rw [hji4] at H; exact H) | (simp only [hji4] at H ⊢; exact H)
 (try (have hji4l : 4 ≤ ji4 := by (rw [← hji4]; unfold mx; (repeat' split) <;> omega)))
 (try (have hji4m : 0 ≤ ji4 := by omega))
 have hji4_ : (if 4 < a1 then a1 else 4) = ji4 := hji4
 replace H := Option.bind_eq_some_iff.mp H
 obtain ⟨⟨t494, t495⟩, A50, H⟩ := H
 replace H : ((thermionkit_Dice_Between.f t495 1 a2).bind fun bt496 => ((thermionkit_Dice_One.f bt496.2 2).bind fun bt498 => ((thermionkit_Dice_Between.f bt498.2 1 (wrap64 (t494 - 2))).bind fun bt501 => ((thermionkit_Dice_Upto.f bt501.2 bt496.1).bind fun bt503 => (thermionkit_Tube.l0 k bt501.1 bt503.1 0 bt503.2 t494 bt496.1 bt498.1 ([] : List Int)))))) = some (r1, r2, r3, r4, r5) := H
 have A5 := Aside0.mk A50
 clear A50
 replace H := Option.bind_eq_some_iff.mp H
 obtain ⟨⟨t496, t497⟩, A60, H⟩ := H
 replace H : ((thermionkit_Dice_One.f t497 2).bind fun bt498 => ((thermionkit_Dice_Between.f bt498.2 1 (wrap64 (t494 - 2))).bind fun bt501 => ((thermionkit_Dice_Upto.f bt501.2 t496).bind fun bt503 => (thermionkit_Tube.l0 k bt501.1 bt503.1 0 bt503.2 t494 t496 bt498.1 ([] : List Int))))) = some (r1, r2, r3, r4, r5) := H
 have A6 := Aside0.mk A60
 clear A60
 replace H := Option.bind_eq_some_iff.mp H
 obtain ⟨⟨t498, t499⟩, A70, H⟩ := H
 replace H : ((thermionkit_Dice_Between.f t499 1 (wrap64 (t494 - 2))).bind fun bt501 => ((thermionkit_Dice_Upto.f bt501.2 t496).bind fun bt503 => (thermionkit_Tube.l0 k bt501.1 bt503.1 0 bt503.2 t494 t496 t498 ([] : List Int)))) = some (r1, r2, r3, r4, r5) := H
 have A7 := Aside0.mk A70
 clear A70
 replace H := Option.bind_eq_some_iff.mp H
 obtain ⟨⟨t501, t502⟩, A80, H⟩ := H
 replace H : ((thermionkit_Dice_Upto.f t502 t496).bind fun bt503 => (thermionkit_Tube.l0 k t501 bt503.1 0 bt503.2 t494 t496 t498 ([] : List Int))) = some (r1, r2, r3, r4, r5) := H
 have A8 := Aside0.mk A80
 clear A80
 replace H := Option.bind_eq_some_iff.mp H
 obtain ⟨⟨t503, t504⟩, A90, H⟩ := H
 replace H : (thermionkit_Tube.l0 k t501 t503 0 t504 t494 t496 t498 ([] : List Int)) = some (r1, r2, r3, r4, r5) := H
 have A9 := Aside0.mk A90
 clear A90
 have H' := Aside0.mk H
 clear H
 go_enter Try.func54, Try.ntmps54
 go_wp2_with (first | ((with_reducible refine gate_dst (N := 6) rfl ?_); refine aBox 6 #[.int .i64 0, .int .i64 0, .bool false, .slice none 0 0] 24 ?_; intro gb493 hg w10 hbox hb; replace HB := aBs HB hb; have BK493 := Aside0.mk (hbox); have GW493 := Aside0.mk ((by rw [hg]; exact (keep_size (w := w) (g := g) (row := none) (by repeat (first | (with_reducible first | exact HK.out | apply KeepBut.set_ | apply keep_drewN | apply keep_drew | apply keep_alloc) | exact HK.out))) : w.heap.size ≤ gb493)); have GE493 := Aside0.mk ((Nat.le_trans HW0.out (by rw [hg]; exact (keep_size (w := w) (g := g) (row := none) (by repeat (first | (with_reducible first | exact HK.out | apply KeepBut.set_ | apply keep_drewN | apply keep_drew | apply keep_alloc) | exact HK.out))) : w.heap.size ≤ gb493) : w0.heap.size ≤ gb493)); replace HK := Aside0.mk (KeepBut.trans (by repeat (first | (with_reducible first | exact HK.out | apply KeepBut.set_ | apply keep_drewN | apply keep_drew | apply keep_alloc) | exact HK.out)) (KeepBut.of_below hb g none) (.inl rfl)); have NB0_493 := Aside0.mk ((by rw [hg]; exact Nat.ne_of_lt (IsS79.lt (show IsS79 w0 _ g s0_0 from by repeat (first | (with_reducible first | exact HI0.out | apply IsS79.alloc | apply IsS79.drewN | apply IsS79.drew | apply IsS79.set_0) | exact HI0.out))) : g ≠ gb493)); have NB493_0 := Aside0.mk ((by rw [hg]; exact Nat.ne_of_gt (IsS79.lt (show IsS79 w0 _ g s0_0 from by repeat (first | (with_reducible first | exact HI0.out | apply IsS79.alloc | apply IsS79.drewN | apply IsS79.drew | apply IsS79.set_0) | exact HI0.out))) : gb493 ≠ g)); replace HI0 := Aside0.mk (IsS79.below (by repeat (first | (with_reducible first | exact HI0.out | apply IsS79.alloc | apply IsS79.drewN | apply IsS79.drew | apply IsS79.set_0) | exact HI0.out)) hb); clear hb hbox hg) | (go_at_call 32; (with_reducible refine (thermionkit_Dice_Between.calls g s0_0 4 ji4 t494 t495 w0 _ ?side1 ?side2 A5.out).mono ?_); (case side1 => repeat (first | (with_reducible first | exact HI0.out | apply IsS79.alloc | apply IsS79.drewN | apply IsS79.drew | apply IsS79.set_0 | refine IsS79.far ?_ NB0_493.out _) | exact HI0.out)); (case side2 => repeat (first | (with_reducible first | exact HB.out | apply below_alloc | apply pw_below_drewN | apply below_drew1 | refine below_set ?_ (IsS79.ge HI0.out) | refine below_set ?_ GE493.out) | exact HB.out)); rintro e w11 ⟨rfl, hi, hb, hk⟩; replace BK493 := Aside0.mk (KeepBut.blk hk (g' := gb493) (o := .cells #[.int .i64 0, .int .i64 0, .bool false, .slice none 0 0] 24 (0, 0)) (aBk BK493).out NB493_0.out (by simp)); replace HK := Aside0.mk (KeepBut.trans (by repeat (first | (with_reducible first | exact HK.out | apply KeepBut.set_ | apply keep_drewN | apply keep_drew | apply keep_alloc | refine keep_far ?_ GW493.out _) | exact HK.out)) hk (.inl rfl)); replace HB := Aside0.mk (hb); replace HI0 := Aside0.mk (hi); (try clear hb); (try clear hb2); (try clear hk); (try clear hi)) | (go_at_call 32; (with_reducible refine (thermionkit_Dice_Between.calls g t495 1 a2 t496 t497 w0 _ ?side1 ?side2 A6.out).mono ?_); (case side1 => repeat (first | (with_reducible first | exact HI0.out | apply IsS79.alloc | apply IsS79.drewN | apply IsS79.drew | apply IsS79.set_0 | refine IsS79.far ?_ NB0_493.out _) | exact HI0.out)); (case side2 => repeat (first | (with_reducible first | exact HB.out | apply below_alloc | apply pw_below_drewN | apply below_drew1 | refine below_set ?_ (IsS79.ge HI0.out) | refine below_set ?_ GE493.out) | exact HB.out)); rintro e w12 ⟨rfl, hi, hb, hk⟩; replace BK493 := Aside0.mk (KeepBut.blk hk (g' := gb493) (o := .cells #[.int .i64 0, .int .i64 0, .bool false, .slice none 0 0] 24 (0, 0)) (aBk BK493).out NB493_0.out (by simp)); replace HK := Aside0.mk (KeepBut.trans (by repeat (first | (with_reducible first | exact HK.out | apply KeepBut.set_ | apply keep_drewN | apply keep_drew | apply keep_alloc | refine keep_far ?_ GW493.out _) | exact HK.out)) hk (.inl rfl)); replace HB := Aside0.mk (hb); replace HI0 := Aside0.mk (hi); (try clear hb); (try clear hb2); (try clear hk); (try clear hi)) | (go_at_call 66; (with_reducible refine (thermionkit_Dice_One.calls g t497 2 t498 t499 w0 _ ?side1 ?side2 A7.out).mono ?_); (case side1 => repeat (first | (with_reducible first | exact HI0.out | apply IsS79.alloc | apply IsS79.drewN | apply IsS79.drew | apply IsS79.set_0 | refine IsS79.far ?_ NB0_493.out _) | exact HI0.out)); (case side2 => repeat (first | (with_reducible first | exact HB.out | apply below_alloc | apply pw_below_drewN | apply below_drew1 | refine below_set ?_ (IsS79.ge HI0.out) | refine below_set ?_ GE493.out) | exact HB.out)); rintro e w13 ⟨rfl, hi, hb, hk⟩; replace BK493 := Aside0.mk (KeepBut.blk hk (g' := gb493) (o := .cells #[.int .i64 0, .int .i64 0, .bool false, .slice none 0 0] 24 (0, 0)) (aBk BK493).out NB493_0.out (by simp)); replace HK := Aside0.mk (KeepBut.trans (by repeat (first | (with_reducible first | exact HK.out | apply KeepBut.set_ | apply keep_drewN | apply keep_drew | apply keep_alloc | refine keep_far ?_ GW493.out _) | exact HK.out)) hk (.inl rfl)); replace HB := Aside0.mk (hb); replace HI0 := Aside0.mk (hi); (try clear hb); (try clear hb2); (try clear hk); (try clear hi)) | ((with_reducible refine gate_dst (N := 7) rfl ?_); refine aBox 7 #[.int .i64 0, .int .i64 0, .bool false, .slice none 0 0] 24 ?_; intro gb500 hg w14 hbox hb; replace HB := aBs HB hb; have BK500 := Aside0.mk (hbox); have GW500 := Aside0.mk ((by rw [hg]; exact (keep_size (w := w) (g := g) (row := none) (by repeat (first | (with_reducible first | exact HK.out | apply KeepBut.set_ | apply keep_drewN | apply keep_drew | apply keep_alloc | refine keep_far ?_ GW493.out _) | exact HK.out))) : w.heap.size ≤ gb500)); have GE500 := Aside0.mk ((Nat.le_trans HW0.out (by rw [hg]; exact (keep_size (w := w) (g := g) (row := none) (by repeat (first | (with_reducible first | exact HK.out | apply KeepBut.set_ | apply keep_drewN | apply keep_drew | apply keep_alloc | refine keep_far ?_ GW493.out _) | exact HK.out))) : w.heap.size ≤ gb500) : w0.heap.size ≤ gb500)); replace HK := Aside0.mk (KeepBut.trans (by repeat (first | (with_reducible first | exact HK.out | apply KeepBut.set_ | apply keep_drewN | apply keep_drew | apply keep_alloc | refine keep_far ?_ GW493.out _) | exact HK.out)) (KeepBut.of_below hb g none) (.inl rfl)); have NB493_500 := aNl hg BK493; have NB500_493 := aNg hg BK493; replace BK493 := aBb BK493 hb; have NB0_500 := Aside0.mk ((by rw [hg]; exact Nat.ne_of_lt (IsS79.lt (show IsS79 w0 _ g t499 from by repeat (first | (with_reducible first | exact HI0.out | apply IsS79.alloc | apply IsS79.drewN | apply IsS79.drew | apply IsS79.set_0 | refine IsS79.far ?_ NB0_493.out _) | exact HI0.out))) : g ≠ gb500)); have NB500_0 := Aside0.mk ((by rw [hg]; exact Nat.ne_of_gt (IsS79.lt (show IsS79 w0 _ g t499 from by repeat (first | (with_reducible first | exact HI0.out | apply IsS79.alloc | apply IsS79.drewN | apply IsS79.drew | apply IsS79.set_0 | refine IsS79.far ?_ NB0_493.out _) | exact HI0.out))) : gb500 ≠ g)); replace HI0 := Aside0.mk (IsS79.below (by repeat (first | (with_reducible first | exact HI0.out | apply IsS79.alloc | apply IsS79.drewN | apply IsS79.drew | apply IsS79.set_0 | refine IsS79.far ?_ NB0_493.out _) | exact HI0.out)) hb); clear hb hbox hg; have hnb15 := NB500_493.out; have hnc15 := NB493_500.out; have hnb16 := NB500_0.out; have hnc16 := NB0_500.out; obtain ⟨⟨hcz17_0, hcz17_1, hcz17_2, hcz17_3⟩, hfz17_0, hfz17_1, hfz17_2, hfz17_3⟩ := aC4 BK500) | (go_at_call 32; (with_reducible refine (thermionkit_Dice_Between.calls g t499 1 (wrap64 (t494 - 2)) t501 t502 w0 _ ?side1 ?side2 A8.out).mono ?_); (case side1 => repeat (first | (with_reducible first | exact HI0.out | apply IsS79.alloc | apply IsS79.drewN | apply IsS79.drew | apply IsS79.set_0 | refine IsS79.far ?_ NB0_493.out _ | refine IsS79.far ?_ NB0_500.out _) | exact HI0.out)); (case side2 => repeat (first | (with_reducible first | exact HB.out | apply below_alloc | apply pw_below_drewN | apply below_drew1 | refine below_set ?_ (IsS79.ge HI0.out) | refine below_set ?_ GE493.out | refine below_set ?_ GE500.out) | exact HB.out)); rintro e w18 ⟨rfl, hi, hb, hk⟩; replace BK493 := Aside0.mk (KeepBut.blk hk (g' := gb493) (o := .cells #[.int .i64 0, .int .i64 0, .bool false, .slice none 0 0] 24 (0, 0)) (by (with_reducible repeat (first | refine blk_drewN ?_ _ | refine blk_drew ?_ | refine blk_alloc ?_ _)); refine blk_far ?_ NB493_500.out _; (with_reducible repeat (first | refine blk_drewN ?_ _ | refine blk_drew ?_ | refine blk_alloc ?_ _)); refine blk_far ?_ NB493_500.out _; (with_reducible repeat (first | refine blk_drewN ?_ _ | refine blk_drew ?_ | refine blk_alloc ?_ _)); refine blk_far ?_ NB493_500.out _; (with_reducible repeat (first | refine blk_drewN ?_ _ | refine blk_drew ?_ | refine blk_alloc ?_ _)); refine blk_far ?_ NB493_500.out _; (with_reducible repeat (first | refine blk_drewN ?_ _ | refine blk_drew ?_ | refine blk_alloc ?_ _)); exact BK493.out) NB493_0.out (by simp)); replace BK500 := Aside0.mk (KeepBut.blk hk (g' := gb500) (o := .cells #[.int .i64 t494, .int .i64 t496, .bool t498, .slice none 0 0] 24 (0, 0)) (by (with_reducible repeat (first | refine blk_drewN ?_ _ | refine blk_drew ?_ | refine blk_alloc ?_ _)); refine blk_put (cs := #[.int .i64 t494, .int .i64 t496, .bool t498, .slice none 0 0]) ?_ 3 _ rfl; (with_reducible repeat (first | refine blk_drewN ?_ _ | refine blk_drew ?_ | refine blk_alloc ?_ _)); refine blk_put (cs := #[.int .i64 t494, .int .i64 t496, .bool false, .slice none 0 0]) ?_ 2 _ rfl; (with_reducible repeat (first | refine blk_drewN ?_ _ | refine blk_drew ?_ | refine blk_alloc ?_ _)); refine blk_put (cs := #[.int .i64 t494, .int .i64 0, .bool false, .slice none 0 0]) ?_ 1 _ rfl; (with_reducible repeat (first | refine blk_drewN ?_ _ | refine blk_drew ?_ | refine blk_alloc ?_ _)); refine blk_put (cs := #[.int .i64 0, .int .i64 0, .bool false, .slice none 0 0]) ?_ 0 _ rfl; (with_reducible repeat (first | refine blk_drewN ?_ _ | refine blk_drew ?_ | refine blk_alloc ?_ _)); exact BK500.out) NB500_0.out (by simp)); replace HK := Aside0.mk (KeepBut.trans (by repeat (first | (with_reducible first | exact HK.out | apply KeepBut.set_ | apply keep_drewN | apply keep_drew | apply keep_alloc | refine keep_far ?_ GW493.out _ | refine keep_far ?_ GW500.out _) | exact HK.out)) hk (.inl rfl)); replace HB := Aside0.mk (hb); replace HI0 := Aside0.mk (hi); (try clear hb); (try clear hb2); (try clear hk); (try clear hi); obtain ⟨⟨hcz19_0, hcz19_1, hcz19_2, hcz19_3⟩, hfz19_0, hfz19_1, hfz19_2, hfz19_3⟩ := aC4 BK500) | (go_at_call 49; (with_reducible refine (thermionkit_Dice_Upto.calls g t502 t496 t503 t504 w0 _ ?side1 ?side2 A9.out).mono ?_); (case side1 => repeat (first | (with_reducible first | exact HI0.out | apply IsS79.alloc | apply IsS79.drewN | apply IsS79.drew | apply IsS79.set_0 | refine IsS79.far ?_ NB0_493.out _ | refine IsS79.far ?_ NB0_500.out _) | exact HI0.out)); (case side2 => repeat (first | (with_reducible first | exact HB.out | apply below_alloc | apply pw_below_drewN | apply below_drew1 | refine below_set ?_ (IsS79.ge HI0.out) | refine below_set ?_ GE493.out | refine below_set ?_ GE500.out) | exact HB.out)); rintro e w20 ⟨rfl, hi, hb, hk⟩; replace BK493 := Aside0.mk (KeepBut.blk hk (g' := gb493) (o := .cells #[.int .i64 0, .int .i64 0, .bool false, .slice none 0 0] 24 (0, 0)) (aBk BK493).out NB493_0.out (by simp)); replace BK500 := Aside0.mk (KeepBut.blk hk (g' := gb500) (o := .cells #[.int .i64 t494, .int .i64 t496, .bool t498, .slice none 0 0] 24 (0, 0)) (aBk BK500).out NB500_0.out (by simp)); replace HK := Aside0.mk (KeepBut.trans (by repeat (first | (with_reducible first | exact HK.out | apply KeepBut.set_ | apply keep_drewN | apply keep_drew | apply keep_alloc | refine keep_far ?_ GW493.out _ | refine keep_far ?_ GW500.out _) | exact HK.out)) hk (.inl rfl)); replace HB := Aside0.mk (hb); replace HI0 := Aside0.mk (hi); (try clear hb); (try clear hb2); (try clear hk); (try clear hi)))
 go_loopg [10] k (fun kq v10 w' => ∃ (x10_1 : Int) (x1000_1 : Int) (x501003_1 : List Int) (u501003 : Value), v10 = .int .i64 x10_1 ∧ Aside0 (thermionkit_Tube.l0 kq t501 t503 x10_1 x1000_1 t494 t496 t498 x501003_1 = some (r1, r2, r3, r4, r5)) ∧ Aside0 (kq ≤ k) ∧ Aside0 (Kd.R (Kd.int .i64) 3 w' w.heap.size (fun _ => True) u501003 x501003_1) ∧ Aside0 (w'.heap[gb493]? = some (.cells #[.int .i64 0, .int .i64 0, .bool false, (.slice none 0 0)] 24 (0, 0))) ∧ Aside0 (w'.heap[gb500]? = some (.cells #[.int .i64 t494, .int .i64 t496, .bool t498, u501003] 24 (0, 0))) ∧ Aside0 (IsS79 w0 w' g x1000_1) ∧ Aside0 (KeepBut w w' g none) ∧ Aside0 (Below w0.heap.size w0 w'))
 case atStart => exact ⟨(0), (t504), (([] : List Int)), (.slice none 0 0), aR, H', ⟨Nat.le_refl _⟩, ⟨by first | exact Kd.R_nil _ _ _ _ _ | exact Kd.N_nil _ _ _ _ _ | exact Kd.V_nil _ _ _ _ _ | exact Kd.Q_nil _ _ _ _ _ | exact Kd.S_nil _ _ _ _ _⟩, aBk BK493, aBk BK500, ⟨by repeat (first | (with_reducible first | exact HI0.out | apply IsS79.alloc | apply IsS79.drewN | apply IsS79.drew | apply IsS79.set_0 | refine IsS79.far ?_ NB0_493.out _ | refine IsS79.far ?_ NB0_500.out _) | exact HI0.out)⟩, ⟨by repeat (first | (with_reducible first | exact HK.out | apply KeepBut.set_ | apply keep_drewN | apply keep_drew | apply keep_alloc | refine keep_far ?_ GW493.out _ | refine keep_far ?_ GW500.out _) | exact HK.out)⟩, aBl HB⟩
 case round =>
  clear H'
  try clear c1; try clear p2; try clear c5; try clear p6; try clear c15; try clear c16; try clear hcz17_0; try clear hcz17_1; try clear hcz17_2; try clear hcz17_3; try clear hcz19_0; try clear hcz19_1; try clear hcz19_2; try clear hcz19_3; try clear hfz17_0; try clear hfz17_1; try clear hfz17_2; try clear hfz17_3; try clear hfz19_0; try clear hfz19_1; try clear hfz19_2; try clear hfz19_3
  obtain ⟨x10_1, x1000_1, x501003_1, u501003, rfl, HA, HK1, HO_501003, BK493, BK500, HI0, HK, HB⟩ := hrel
  cases gk with
  | zero => exact absurd HA.out (by simp [thermionkit_Tube.l0])
  | succ k1 =>
   have H := HA.out
   clear HA
   simp only [thermionkit_Tube.l0] at H
   by_cases c21 : x10_1 < (wrap64 (t494 * t496))
   ·rw [if_pos c21] at H
    have c21b0 := decide_eq_true c21
    clear c21
    by_cases c22 : t494 = 0
    ·rw [if_pos c22] at H
     exact absurd H (by simp)
    ·rw [if_neg c22] at H
     obtain ⟨c22b0, c22b1⟩ := aNe c22
     by_cases c23 : (Int.tmod x10_1 t494) = 0
     ·rw [if_pos c23] at H
      obtain ⟨c23b0, c23b1⟩ := aEq c23
      clear c23
      by_cases c24 : x501003_1.length < 17592186044416
      ·rw [if_pos c24] at H
       have LMc24 := Aside0.mk c24
       clear c24
       obtain ⟨y505, hy505⟩ : ∃ y_ : List Int, y_ = (x501003_1 ++ [1]) := ⟨_, rfl⟩
       replace H : (thermionkit_Tube.l0 k1 t501 t503 (wrap64 (x10_1 + 1)) x1000_1 t494 t496 t498 y505) = some (r1, r2, r3, r4, r5) := by first | (rw [hy505]; with_reducible exact H) | (have H2_ := (Option.bind_some _ _).symm.trans H; rw [hy505]; with_reducible exact H2_) | (have H2_ := (Option.bind_some _ _).symm.trans H; with_reducible exact H2_) | with_reducible exact H | (rw [hy505]; exact H) | exact H
       have Ny505 := Aside0.mk hy505
       clear hy505
       have H' := Aside0.mk H
       clear H
       have hnb25 := NB500_493.out
       have hnc25 := NB493_500.out
       have hnb26 := NB500_0.out
       have hnc26 := NB0_500.out
       obtain ⟨⟨hcz27_0, hcz27_1, hcz27_2, hcz27_3⟩, hfz27_0, hfz27_1, hfz27_2, hfz27_3⟩ := aC4 BK500
       go_wp2_with fail
       repeat (go_quiet (fail); try go_wp2_with (first | ((with_reducible refine gate_builtin (b := .append) (xs := #[.tmp 78, .tmp 80]) rfl ?_); at_builtin; refine Kd.R_append (Kd.int .i64) w.heap.size rfl (.tmp 78) (.tmp 80) 22 3 (.int .i64 0) 8 rfl Try.underlying22 info3 rfl (by decide) (by omega) u501003 x501003_1 1 [.int .i64 1] (fun _ => True) (fun _ => False) rfl rfl ?aP (fun _ hk => hk.elim) ?aF ?aO (Below.refl _ _) ?aS ?aL ?_; (case aP => exact rfl); (case aF => exact (fun _ _ => trivial)); (case aO => exact (aRk HO_501003).out); (case aS => exact (keep_size (w := w) (g := g) (row := none) (by repeat (first | (with_reducible first | exact HK.out | apply KeepBut.set_ | apply keep_drewN | apply keep_drew | apply keep_alloc | refine keep_far ?_ GW493.out _ | refine keep_far ?_ GW500.out _) | exact HK.out)))); (case aL => have := LMc24.out; omega); intro v506 w28 ho hb hg hat; rw [← Ny505.out] at ho; replace BK493 := (aBg BK493 hg (Kd.R_ne HO_501003.out BK493.out (by decide))); replace BK500 := (aBg BK500 hg (Kd.R_ne HO_501003.out BK500.out (by decide))); replace HI0 := Aside0.mk (IsS79.grown (by repeat (first | (with_reducible first | exact HI0.out | apply IsS79.alloc | apply IsS79.drewN | apply IsS79.drew | apply IsS79.set_0 | refine IsS79.far ?_ NB0_493.out _ | refine IsS79.far ?_ NB0_500.out _) | exact HI0.out)) hg (IsS79.own_ne HI0.out HO_501003.out (by decide))); replace HB := Aside0.mk (below_weaken (aBl HB).out HL.out hb); replace HK := Aside0.mk (KeepBut.trans (by repeat (first | (with_reducible first | exact HK.out | apply KeepBut.set_ | apply keep_drewN | apply keep_drew | apply keep_alloc | refine keep_far ?_ GW493.out _ | refine keep_far ?_ GW500.out _) | exact HK.out)) (KeepBut.of_grown hg g) (Kd.R_base2 HO_501003.out)); have HO507 := Aside0.mk (ho); clear HO_501003; clear ho hb hg hat; obtain ⟨Ao29, co29, eo29⟩ := Kd.R_slice HO507.out; subst eo29; obtain ⟨⟨hcz30_0, hcz30_1, hcz30_2, hcz30_3⟩, hfz30_0, hfz30_1, hfz30_2, hfz30_3⟩ := aC4 BK500)))
       go_roundg k1
       case measure => have := HK1.out; omega
       case rel => exact ⟨(wrap64 (x10_1 + 1)), (x1000_1), (y505), (.slice Ao29 y505.length co29), aR, H', ⟨by have := HK1.out; omega⟩, ⟨by (with_reducible repeat (first | apply Kd.R_alloc | apply Kd.R_drewN | apply Kd.R_drew)); exact Kd.R_mono (Kd.R_far (p := ⟨gb500, 3, none⟩) (Kd.R_types HO507.out BK500.out (by decide)) (fun _ hk => hk.2) (.slice Ao29 y505.length co29)) (fun _ hk => trivial)⟩, ⟨by (with_reducible repeat (first | refine blk_drewN ?_ _ | refine blk_drew ?_ | refine blk_alloc ?_ _)); refine blk_far ?_ NB493_500.out _; (with_reducible repeat (first | refine blk_drewN ?_ _ | refine blk_drew ?_ | refine blk_alloc ?_ _)); exact BK493.out⟩, ⟨by (with_reducible repeat (first | refine blk_drewN ?_ _ | refine blk_drew ?_ | refine blk_alloc ?_ _)); refine blk_put (cs := #[.int .i64 t494, .int .i64 t496, .bool t498, u501003]) ?_ 3 _ rfl; (with_reducible repeat (first | refine blk_drewN ?_ _ | refine blk_drew ?_ | refine blk_alloc ?_ _)); exact BK500.out⟩, ⟨by repeat (first | (with_reducible first | exact HI0.out | apply IsS79.alloc | apply IsS79.drewN | apply IsS79.drew | apply IsS79.set_0 | refine IsS79.far ?_ NB0_493.out _ | refine IsS79.far ?_ NB0_500.out _) | exact HI0.out)⟩, ⟨by repeat (first | (with_reducible first | exact HK.out | apply KeepBut.set_ | apply keep_drewN | apply keep_drew | apply keep_alloc | refine keep_far ?_ GW493.out _ | refine keep_far ?_ GW500.out _) | exact HK.out)⟩, aBl HB⟩
      ·rw [if_neg c24] at H
       exact absurd H (by simp)
     ·rw [if_neg c23] at H
      obtain ⟨c23b0, c23b1⟩ := aNe c23
      by_cases c31 : (Int.tmod x10_1 t494) = (wrap64 (t494 - 1))
      ·rw [if_pos c31] at H
       obtain ⟨c31b0, c31b1⟩ := aEq c31
       clear c31
       by_cases c32 : x501003_1.length < 17592186044416
       ·rw [if_pos c32] at H
        have LMc32 := Aside0.mk c32
        clear c32
        obtain ⟨y508, hy508⟩ : ∃ y_ : List Int, y_ = (x501003_1 ++ [3]) := ⟨_, rfl⟩
        replace H : (thermionkit_Tube.l0 k1 t501 t503 (wrap64 (x10_1 + 1)) x1000_1 t494 t496 t498 y508) = some (r1, r2, r3, r4, r5) := by first | (rw [hy508]; with_reducible exact H) | (have H2_ := (Option.bind_some _ _).symm.trans H; rw [hy508]; with_reducible exact H2_) | (have H2_ := (Option.bind_some _ _).symm.trans H; with_reducible exact H2_) | with_reducible exact H | (rw [hy508]; exact H) | exact H
        have Ny508 := Aside0.mk hy508
        clear hy508
        have H' := Aside0.mk H
        clear H
        have hnb33 := NB500_493.out
        have hnc33 := NB493_500.out
        have hnb34 := NB500_0.out
        have hnc34 := NB0_500.out
        obtain ⟨⟨hcz35_0, hcz35_1, hcz35_2, hcz35_3⟩, hfz35_0, hfz35_1, hfz35_2, hfz35_3⟩ := aC4 BK500
        go_wp2_with fail
        repeat (go_quiet (fail); try go_wp2_with (first | ((with_reducible refine gate_builtin (b := .append) (xs := #[.tmp 78, .tmp 80]) rfl ?_); at_builtin; refine Kd.R_append (Kd.int .i64) w.heap.size rfl (.tmp 78) (.tmp 80) 22 3 (.int .i64 0) 8 rfl Try.underlying22 info3 rfl (by decide) (by omega) u501003 x501003_1 3 [.int .i64 3] (fun _ => True) (fun _ => False) rfl rfl ?aP (fun _ hk => hk.elim) ?aF ?aO (Below.refl _ _) ?aS ?aL ?_; (case aP => exact rfl); (case aF => exact (fun _ _ => trivial)); (case aO => exact (aRk HO_501003).out); (case aS => exact (keep_size (w := w) (g := g) (row := none) (by repeat (first | (with_reducible first | exact HK.out | apply KeepBut.set_ | apply keep_drewN | apply keep_drew | apply keep_alloc | refine keep_far ?_ GW493.out _ | refine keep_far ?_ GW500.out _) | exact HK.out)))); (case aL => have := LMc32.out; omega); intro v509 w36 ho hb hg hat; rw [← Ny508.out] at ho; replace BK493 := (aBg BK493 hg (Kd.R_ne HO_501003.out BK493.out (by decide))); replace BK500 := (aBg BK500 hg (Kd.R_ne HO_501003.out BK500.out (by decide))); replace HI0 := Aside0.mk (IsS79.grown (by repeat (first | (with_reducible first | exact HI0.out | apply IsS79.alloc | apply IsS79.drewN | apply IsS79.drew | apply IsS79.set_0 | refine IsS79.far ?_ NB0_493.out _ | refine IsS79.far ?_ NB0_500.out _) | exact HI0.out)) hg (IsS79.own_ne HI0.out HO_501003.out (by decide))); replace HB := Aside0.mk (below_weaken (aBl HB).out HL.out hb); replace HK := Aside0.mk (KeepBut.trans (by repeat (first | (with_reducible first | exact HK.out | apply KeepBut.set_ | apply keep_drewN | apply keep_drew | apply keep_alloc | refine keep_far ?_ GW493.out _ | refine keep_far ?_ GW500.out _) | exact HK.out)) (KeepBut.of_grown hg g) (Kd.R_base2 HO_501003.out)); have HO510 := Aside0.mk (ho); clear HO_501003; clear ho hb hg hat; obtain ⟨Ao37, co37, eo37⟩ := Kd.R_slice HO510.out; subst eo37; obtain ⟨⟨hcz38_0, hcz38_1, hcz38_2, hcz38_3⟩, hfz38_0, hfz38_1, hfz38_2, hfz38_3⟩ := aC4 BK500)))
        go_roundg k1
        case measure => have := HK1.out; omega
        case rel => exact ⟨(wrap64 (x10_1 + 1)), (x1000_1), (y508), (.slice Ao37 y508.length co37), aR, H', ⟨by have := HK1.out; omega⟩, ⟨by (with_reducible repeat (first | apply Kd.R_alloc | apply Kd.R_drewN | apply Kd.R_drew)); exact Kd.R_mono (Kd.R_far (p := ⟨gb500, 3, none⟩) (Kd.R_types HO510.out BK500.out (by decide)) (fun _ hk => hk.2) (.slice Ao37 y508.length co37)) (fun _ hk => trivial)⟩, ⟨by (with_reducible repeat (first | refine blk_drewN ?_ _ | refine blk_drew ?_ | refine blk_alloc ?_ _)); refine blk_far ?_ NB493_500.out _; (with_reducible repeat (first | refine blk_drewN ?_ _ | refine blk_drew ?_ | refine blk_alloc ?_ _)); exact BK493.out⟩, ⟨by (with_reducible repeat (first | refine blk_drewN ?_ _ | refine blk_drew ?_ | refine blk_alloc ?_ _)); refine blk_put (cs := #[.int .i64 t494, .int .i64 t496, .bool t498, u501003]) ?_ 3 _ rfl; (with_reducible repeat (first | refine blk_drewN ?_ _ | refine blk_drew ?_ | refine blk_alloc ?_ _)); exact BK500.out⟩, ⟨by repeat (first | (with_reducible first | exact HI0.out | apply IsS79.alloc | apply IsS79.drewN | apply IsS79.drew | apply IsS79.set_0 | refine IsS79.far ?_ NB0_493.out _ | refine IsS79.far ?_ NB0_500.out _) | exact HI0.out)⟩, ⟨by repeat (first | (with_reducible first | exact HK.out | apply KeepBut.set_ | apply keep_drewN | apply keep_drew | apply keep_alloc | refine keep_far ?_ GW493.out _ | refine keep_far ?_ GW500.out _) | exact HK.out)⟩, aBl HB⟩
       ·rw [if_neg c32] at H
        exact absurd H (by simp)
      ·rw [if_neg c31] at H
       obtain ⟨c31b0, c31b1⟩ := aNe c31
       by_cases c39 : (Int.tmod x10_1 t494) = t501
       ·rw [if_pos c39] at H
        obtain ⟨c39b0, c39b1⟩ := aEq c39
        clear c39
        by_cases c40 : (wrap64 (Int.tdiv x10_1 t494)) = t503
        ·rw [if_pos c40] at H
         obtain ⟨c40b0, c40b1⟩ := aEq c40
         clear c40
         by_cases c41 : t496 > 1
         ·rw [if_pos c41] at H
          have c41b0 := decide_eq_true c41
          clear c41
          by_cases c42 : x501003_1.length < 17592186044416
          ·rw [if_pos c42] at H
           have LMc42 := Aside0.mk c42
           clear c42
           obtain ⟨y511, hy511⟩ : ∃ y_ : List Int, y_ = (x501003_1 ++ [2]) := ⟨_, rfl⟩
           replace H : (thermionkit_Tube.l0 k1 t501 t503 (wrap64 (x10_1 + 1)) x1000_1 t494 t496 t498 y511) = some (r1, r2, r3, r4, r5) := by first | (rw [hy511]; with_reducible exact H) | (have H2_ := (Option.bind_some _ _).symm.trans H; rw [hy511]; with_reducible exact H2_) | (have H2_ := (Option.bind_some _ _).symm.trans H; with_reducible exact H2_) | with_reducible exact H | (rw [hy511]; exact H) | exact H
           have Ny511 := Aside0.mk hy511
           clear hy511
           have H' := Aside0.mk H
           clear H
           have hnb43 := NB500_493.out
           have hnc43 := NB493_500.out
           have hnb44 := NB500_0.out
           have hnc44 := NB0_500.out
           obtain ⟨⟨hcz45_0, hcz45_1, hcz45_2, hcz45_3⟩, hfz45_0, hfz45_1, hfz45_2, hfz45_3⟩ := aC4 BK500
           go_wp2_with fail
           repeat (go_quiet (fail); try go_wp2_with (first | ((with_reducible refine gate_builtin (b := .append) (xs := #[.tmp 78, .tmp 80]) rfl ?_); at_builtin; refine Kd.R_append (Kd.int .i64) w.heap.size rfl (.tmp 78) (.tmp 80) 22 3 (.int .i64 0) 8 rfl Try.underlying22 info3 rfl (by decide) (by omega) u501003 x501003_1 2 [.int .i64 2] (fun _ => True) (fun _ => False) rfl rfl ?aP (fun _ hk => hk.elim) ?aF ?aO (Below.refl _ _) ?aS ?aL ?_; (case aP => exact rfl); (case aF => exact (fun _ _ => trivial)); (case aO => exact (aRk HO_501003).out); (case aS => exact (keep_size (w := w) (g := g) (row := none) (by repeat (first | (with_reducible first | exact HK.out | apply KeepBut.set_ | apply keep_drewN | apply keep_drew | apply keep_alloc | refine keep_far ?_ GW493.out _ | refine keep_far ?_ GW500.out _) | exact HK.out)))); (case aL => have := LMc42.out; omega); intro v512 w46 ho hb hg hat; rw [← Ny511.out] at ho; replace BK493 := (aBg BK493 hg (Kd.R_ne HO_501003.out BK493.out (by decide))); replace BK500 := (aBg BK500 hg (Kd.R_ne HO_501003.out BK500.out (by decide))); replace HI0 := Aside0.mk (IsS79.grown (by repeat (first | (with_reducible first | exact HI0.out | apply IsS79.alloc | apply IsS79.drewN | apply IsS79.drew | apply IsS79.set_0 | refine IsS79.far ?_ NB0_493.out _ | refine IsS79.far ?_ NB0_500.out _) | exact HI0.out)) hg (IsS79.own_ne HI0.out HO_501003.out (by decide))); replace HB := Aside0.mk (below_weaken (aBl HB).out HL.out hb); replace HK := Aside0.mk (KeepBut.trans (by repeat (first | (with_reducible first | exact HK.out | apply KeepBut.set_ | apply keep_drewN | apply keep_drew | apply keep_alloc | refine keep_far ?_ GW493.out _ | refine keep_far ?_ GW500.out _) | exact HK.out)) (KeepBut.of_grown hg g) (Kd.R_base2 HO_501003.out)); have HO513 := Aside0.mk (ho); clear HO_501003; clear ho hb hg hat; obtain ⟨Ao47, co47, eo47⟩ := Kd.R_slice HO513.out; subst eo47; obtain ⟨⟨hcz48_0, hcz48_1, hcz48_2, hcz48_3⟩, hfz48_0, hfz48_1, hfz48_2, hfz48_3⟩ := aC4 BK500)))
           go_roundg k1
           case measure => have := HK1.out; omega
           case rel => exact ⟨(wrap64 (x10_1 + 1)), (x1000_1), (y511), (.slice Ao47 y511.length co47), aR, H', ⟨by have := HK1.out; omega⟩, ⟨by (with_reducible repeat (first | apply Kd.R_alloc | apply Kd.R_drewN | apply Kd.R_drew)); exact Kd.R_mono (Kd.R_far (p := ⟨gb500, 3, none⟩) (Kd.R_types HO513.out BK500.out (by decide)) (fun _ hk => hk.2) (.slice Ao47 y511.length co47)) (fun _ hk => trivial)⟩, ⟨by (with_reducible repeat (first | refine blk_drewN ?_ _ | refine blk_drew ?_ | refine blk_alloc ?_ _)); refine blk_far ?_ NB493_500.out _; (with_reducible repeat (first | refine blk_drewN ?_ _ | refine blk_drew ?_ | refine blk_alloc ?_ _)); exact BK493.out⟩, ⟨by (with_reducible repeat (first | refine blk_drewN ?_ _ | refine blk_drew ?_ | refine blk_alloc ?_ _)); refine blk_put (cs := #[.int .i64 t494, .int .i64 t496, .bool t498, u501003]) ?_ 3 _ rfl; (with_reducible repeat (first | refine blk_drewN ?_ _ | refine blk_drew ?_ | refine blk_alloc ?_ _)); exact BK500.out⟩, ⟨by repeat (first | (with_reducible first | exact HI0.out | apply IsS79.alloc | apply IsS79.drewN | apply IsS79.drew | apply IsS79.set_0 | refine IsS79.far ?_ NB0_493.out _ | refine IsS79.far ?_ NB0_500.out _) | exact HI0.out)⟩, ⟨by repeat (first | (with_reducible first | exact HK.out | apply KeepBut.set_ | apply keep_drewN | apply keep_drew | apply keep_alloc | refine keep_far ?_ GW493.out _ | refine keep_far ?_ GW500.out _) | exact HK.out)⟩, aBl HB⟩
          ·rw [if_neg c42] at H
           exact absurd H (by simp)
         ·rw [if_neg c41] at H
          have c41b0 := decide_eq_false c41
          clear c41
          by_cases c49 : x501003_1.length < 17592186044416
          ·rw [if_pos c49] at H
           have LMc49 := Aside0.mk c49
           clear c49
           obtain ⟨y514, hy514⟩ : ∃ y_ : List Int, y_ = (x501003_1 ++ [0]) := ⟨_, rfl⟩
           replace H : (thermionkit_Tube.l0 k1 t501 t503 (wrap64 (x10_1 + 1)) x1000_1 t494 t496 t498 y514) = some (r1, r2, r3, r4, r5) := by first | (rw [hy514]; with_reducible exact H) | (have H2_ := (Option.bind_some _ _).symm.trans H; rw [hy514]; with_reducible exact H2_) | (have H2_ := (Option.bind_some _ _).symm.trans H; with_reducible exact H2_) | with_reducible exact H | (rw [hy514]; exact H) | exact H
           have Ny514 := Aside0.mk hy514
           clear hy514
           have H' := Aside0.mk H
           clear H
           have hnb50 := NB500_493.out
           have hnc50 := NB493_500.out
           have hnb51 := NB500_0.out
           have hnc51 := NB0_500.out
           obtain ⟨⟨hcz52_0, hcz52_1, hcz52_2, hcz52_3⟩, hfz52_0, hfz52_1, hfz52_2, hfz52_3⟩ := aC4 BK500
           go_wp2_with fail
           repeat (go_quiet (fail); try go_wp2_with (first | ((with_reducible refine gate_builtin (b := .append) (xs := #[.tmp 78, .tmp 80]) rfl ?_); at_builtin; refine Kd.R_append (Kd.int .i64) w.heap.size rfl (.tmp 78) (.tmp 80) 22 3 (.int .i64 0) 8 rfl Try.underlying22 info3 rfl (by decide) (by omega) u501003 x501003_1 0 [.int .i64 0] (fun _ => True) (fun _ => False) rfl rfl ?aP (fun _ hk => hk.elim) ?aF ?aO (Below.refl _ _) ?aS ?aL ?_; (case aP => exact rfl); (case aF => exact (fun _ _ => trivial)); (case aO => exact (aRk HO_501003).out); (case aS => exact (keep_size (w := w) (g := g) (row := none) (by repeat (first | (with_reducible first | exact HK.out | apply KeepBut.set_ | apply keep_drewN | apply keep_drew | apply keep_alloc | refine keep_far ?_ GW493.out _ | refine keep_far ?_ GW500.out _) | exact HK.out)))); (case aL => have := LMc49.out; omega); intro v515 w53 ho hb hg hat; rw [← Ny514.out] at ho; replace BK493 := (aBg BK493 hg (Kd.R_ne HO_501003.out BK493.out (by decide))); replace BK500 := (aBg BK500 hg (Kd.R_ne HO_501003.out BK500.out (by decide))); replace HI0 := Aside0.mk (IsS79.grown (by repeat (first | (with_reducible first | exact HI0.out | apply IsS79.alloc | apply IsS79.drewN | apply IsS79.drew | apply IsS79.set_0 | refine IsS79.far ?_ NB0_493.out _ | refine IsS79.far ?_ NB0_500.out _) | exact HI0.out)) hg (IsS79.own_ne HI0.out HO_501003.out (by decide))); replace HB := Aside0.mk (below_weaken (aBl HB).out HL.out hb); replace HK := Aside0.mk (KeepBut.trans (by repeat (first | (with_reducible first | exact HK.out | apply KeepBut.set_ | apply keep_drewN | apply keep_drew | apply keep_alloc | refine keep_far ?_ GW493.out _ | refine keep_far ?_ GW500.out _) | exact HK.out)) (KeepBut.of_grown hg g) (Kd.R_base2 HO_501003.out)); have HO516 := Aside0.mk (ho); clear HO_501003; clear ho hb hg hat; obtain ⟨Ao54, co54, eo54⟩ := Kd.R_slice HO516.out; subst eo54; obtain ⟨⟨hcz55_0, hcz55_1, hcz55_2, hcz55_3⟩, hfz55_0, hfz55_1, hfz55_2, hfz55_3⟩ := aC4 BK500)))
           go_roundg k1
           case measure => have := HK1.out; omega
           case rel => exact ⟨(wrap64 (x10_1 + 1)), (x1000_1), (y514), (.slice Ao54 y514.length co54), aR, H', ⟨by have := HK1.out; omega⟩, ⟨by (with_reducible repeat (first | apply Kd.R_alloc | apply Kd.R_drewN | apply Kd.R_drew)); exact Kd.R_mono (Kd.R_far (p := ⟨gb500, 3, none⟩) (Kd.R_types HO516.out BK500.out (by decide)) (fun _ hk => hk.2) (.slice Ao54 y514.length co54)) (fun _ hk => trivial)⟩, ⟨by (with_reducible repeat (first | refine blk_drewN ?_ _ | refine blk_drew ?_ | refine blk_alloc ?_ _)); refine blk_far ?_ NB493_500.out _; (with_reducible repeat (first | refine blk_drewN ?_ _ | refine blk_drew ?_ | refine blk_alloc ?_ _)); exact BK493.out⟩, ⟨by (with_reducible repeat (first | refine blk_drewN ?_ _ | refine blk_drew ?_ | refine blk_alloc ?_ _)); refine blk_put (cs := #[.int .i64 t494, .int .i64 t496, .bool t498, u501003]) ?_ 3 _ rfl; (with_reducible repeat (first | refine blk_drewN ?_ _ | refine blk_drew ?_ | refine blk_alloc ?_ _)); exact BK500.out⟩, ⟨by repeat (first | (with_reducible first | exact HI0.out | apply IsS79.alloc | apply IsS79.drewN | apply IsS79.drew | apply IsS79.set_0 | refine IsS79.far ?_ NB0_493.out _ | refine IsS79.far ?_ NB0_500.out _) | exact HI0.out)⟩, ⟨by repeat (first | (with_reducible first | exact HK.out | apply KeepBut.set_ | apply keep_drewN | apply keep_drew | apply keep_alloc | refine keep_far ?_ GW493.out _ | refine keep_far ?_ GW500.out _) | exact HK.out)⟩, aBl HB⟩
          ·rw [if_neg c49] at H
           exact absurd H (by simp)
        ·rw [if_neg c40] at H
         obtain ⟨c40b0, c40b1⟩ := aNe c40
         replace H := Option.bind_eq_some_iff.mp H
         obtain ⟨⟨t517, t518⟩, A560, H⟩ := H
         replace H : (if t517 = true then (if t496 > 1 then (if x501003_1.length < 17592186044416 then (thermionkit_Tube.l0 k1 t501 t503 (wrap64 (x10_1 + 1)) t518 t494 t496 t498 (x501003_1 ++ [2])) else (none)) else (if x501003_1.length < 17592186044416 then (thermionkit_Tube.l0 k1 t501 t503 (wrap64 (x10_1 + 1)) t518 t494 t496 t498 (x501003_1 ++ [0])) else (none))) else (if x501003_1.length < 17592186044416 then (thermionkit_Tube.l0 k1 t501 t503 (wrap64 (x10_1 + 1)) t518 t494 t496 t498 (x501003_1 ++ [0])) else (none))) = some (r1, r2, r3, r4, r5) := H
         have A56 := Aside0.mk A560
         clear A560
         by_cases c57 : t517 = true
         ·subst c57
          have H1 : (if t496 > 1 then (if x501003_1.length < 17592186044416 then (thermionkit_Tube.l0 k1 t501 t503 (wrap64 (x10_1 + 1)) t518 t494 t496 t498 (x501003_1 ++ [2])) else (none)) else (if x501003_1.length < 17592186044416 then (thermionkit_Tube.l0 k1 t501 t503 (wrap64 (x10_1 + 1)) t518 t494 t496 t498 (x501003_1 ++ [0])) else (none))) = some (r1, r2, r3, r4, r5) := by rw [if_pos rfl] at H; exact H
          clear H
          have H := H1
          clear H1
          by_cases c58 : t496 > 1
          ·rw [if_pos c58] at H
           have c58b0 := decide_eq_true c58
           clear c58
           by_cases c59 : x501003_1.length < 17592186044416
           ·rw [if_pos c59] at H
            have LMc59 := Aside0.mk c59
            clear c59
            obtain ⟨y519, hy519⟩ : ∃ y_ : List Int, y_ = (x501003_1 ++ [2]) := ⟨_, rfl⟩
            replace H : (thermionkit_Tube.l0 k1 t501 t503 (wrap64 (x10_1 + 1)) t518 t494 t496 t498 y519) = some (r1, r2, r3, r4, r5) := by first | (rw [hy519]; with_reducible exact H) | (have H2_ := (Option.bind_some _ _).symm.trans H; rw [hy519]; with_reducible exact H2_) | (have H2_ := (Option.bind_some _ _).symm.trans H; with_reducible exact H2_) | with_reducible exact H | (rw [hy519]; exact H) | exact H
            have Ny519 := Aside0.mk hy519
            clear hy519
            have H' := Aside0.mk H
            clear H
            have hnb60 := NB500_493.out
            have hnc60 := NB493_500.out
            have hnb61 := NB500_0.out
            have hnc61 := NB0_500.out
            obtain ⟨⟨hcz62_0, hcz62_1, hcz62_2, hcz62_3⟩, hfz62_0, hfz62_1, hfz62_2, hfz62_3⟩ := aC4 BK500
            go_wp2_with fail
            repeat (go_quiet (fail); try go_wp2_with (first | (go_at_call 66; (with_reducible refine (thermionkit_Dice_One.calls g x1000_1 3 true t518 w0 _ ?side1 ?side2 A56.out).mono ?_); (case side1 => repeat (first | (with_reducible first | exact HI0.out | apply IsS79.alloc | apply IsS79.drewN | apply IsS79.drew | apply IsS79.set_0 | refine IsS79.far ?_ NB0_493.out _ | refine IsS79.far ?_ NB0_500.out _) | exact HI0.out)); (case side2 => repeat (first | (with_reducible first | exact HB.out | apply below_alloc | apply pw_below_drewN | apply below_drew1 | refine below_set ?_ (IsS79.ge HI0.out) | refine below_set ?_ GE493.out | refine below_set ?_ GE500.out) | exact HB.out)); rintro e w63 ⟨rfl, hi, hb, hk⟩; replace HO_501003 := Aside0.mk (Kd.R_mono (Kd.R_keep (IsS79.apart (show IsS79 w0 _ g x1000_1 from by repeat (first | (with_reducible first | exact HI0.out | apply IsS79.alloc | apply IsS79.drewN | apply IsS79.drew | apply IsS79.set_0 | refine IsS79.far ?_ NB0_493.out _ | refine IsS79.far ?_ NB0_500.out _) | exact HI0.out)) (aRk HO_501003).out (by decide)) hk (fun _ h => h.2)) (fun _ h => h.1)); replace BK493 := Aside0.mk (KeepBut.blk hk (g' := gb493) (o := .cells #[.int .i64 0, .int .i64 0, .bool false, .slice none 0 0] 24 (0, 0)) (aBk BK493).out NB493_0.out (by simp)); replace BK500 := Aside0.mk (KeepBut.blk hk (g' := gb500) (o := .cells #[.int .i64 t494, .int .i64 t496, .bool t498, u501003] 24 (0, 0)) (aBk BK500).out NB500_0.out (by simp)); replace HK := Aside0.mk (KeepBut.trans (by repeat (first | (with_reducible first | exact HK.out | apply KeepBut.set_ | apply keep_drewN | apply keep_drew | apply keep_alloc | refine keep_far ?_ GW493.out _ | refine keep_far ?_ GW500.out _) | exact HK.out)) hk (.inl rfl)); replace HB := Aside0.mk (hb); replace HI0 := Aside0.mk (hi); (try clear hb); (try clear hb2); (try clear hk); (try clear hi); obtain ⟨⟨hcz64_0, hcz64_1, hcz64_2, hcz64_3⟩, hfz64_0, hfz64_1, hfz64_2, hfz64_3⟩ := aC4 BK500) | ((with_reducible refine gate_builtin (b := .append) (xs := #[.tmp 78, .tmp 80]) rfl ?_); at_builtin; refine Kd.R_append (Kd.int .i64) w.heap.size rfl (.tmp 78) (.tmp 80) 22 3 (.int .i64 0) 8 rfl Try.underlying22 info3 rfl (by decide) (by omega) u501003 x501003_1 2 [.int .i64 2] (fun _ => True) (fun _ => False) rfl rfl ?aP (fun _ hk => hk.elim) ?aF ?aO (Below.refl _ _) ?aS ?aL ?_; (case aP => exact rfl); (case aF => exact (fun _ _ => trivial)); (case aO => exact (aRk HO_501003).out); (case aS => exact (keep_size (w := w) (g := g) (row := none) (by repeat (first | (with_reducible first | exact HK.out | apply KeepBut.set_ | apply keep_drewN | apply keep_drew | apply keep_alloc | refine keep_far ?_ GW493.out _ | refine keep_far ?_ GW500.out _) | exact HK.out)))); (case aL => have := LMc59.out; omega); intro v520 w65 ho hb hg hat; rw [← Ny519.out] at ho; replace BK493 := (aBg BK493 hg (Kd.R_ne HO_501003.out BK493.out (by decide))); replace BK500 := (aBg BK500 hg (Kd.R_ne HO_501003.out BK500.out (by decide))); replace HI0 := Aside0.mk (IsS79.grown (by repeat (first | (with_reducible first | exact HI0.out | apply IsS79.alloc | apply IsS79.drewN | apply IsS79.drew | apply IsS79.set_0 | refine IsS79.far ?_ NB0_493.out _ | refine IsS79.far ?_ NB0_500.out _) | exact HI0.out)) hg (IsS79.own_ne HI0.out HO_501003.out (by decide))); replace HB := Aside0.mk (below_weaken (aBl HB).out HL.out hb); replace HK := Aside0.mk (KeepBut.trans (by repeat (first | (with_reducible first | exact HK.out | apply KeepBut.set_ | apply keep_drewN | apply keep_drew | apply keep_alloc | refine keep_far ?_ GW493.out _ | refine keep_far ?_ GW500.out _) | exact HK.out)) (KeepBut.of_grown hg g) (Kd.R_base2 HO_501003.out)); have HO521 := Aside0.mk (ho); clear HO_501003; clear ho hb hg hat; obtain ⟨Ao66, co66, eo66⟩ := Kd.R_slice HO521.out; subst eo66; obtain ⟨⟨hcz67_0, hcz67_1, hcz67_2, hcz67_3⟩, hfz67_0, hfz67_1, hfz67_2, hfz67_3⟩ := aC4 BK500)))
            go_roundg k1
            case measure => have := HK1.out; omega
            case rel => exact ⟨(wrap64 (x10_1 + 1)), (t518), (y519), (.slice Ao66 y519.length co66), aR, H', ⟨by have := HK1.out; omega⟩, ⟨by (with_reducible repeat (first | apply Kd.R_alloc | apply Kd.R_drewN | apply Kd.R_drew)); exact Kd.R_mono (Kd.R_far (p := ⟨gb500, 3, none⟩) (Kd.R_types HO521.out BK500.out (by decide)) (fun _ hk => hk.2) (.slice Ao66 y519.length co66)) (fun _ hk => trivial)⟩, ⟨by (with_reducible repeat (first | refine blk_drewN ?_ _ | refine blk_drew ?_ | refine blk_alloc ?_ _)); refine blk_far ?_ NB493_500.out _; (with_reducible repeat (first | refine blk_drewN ?_ _ | refine blk_drew ?_ | refine blk_alloc ?_ _)); exact BK493.out⟩, ⟨by (with_reducible repeat (first | refine blk_drewN ?_ _ | refine blk_drew ?_ | refine blk_alloc ?_ _)); refine blk_put (cs := #[.int .i64 t494, .int .i64 t496, .bool t498, u501003]) ?_ 3 _ rfl; (with_reducible repeat (first | refine blk_drewN ?_ _ | refine blk_drew ?_ | refine blk_alloc ?_ _)); exact BK500.out⟩, ⟨by repeat (first | (with_reducible first | exact HI0.out | apply IsS79.alloc | apply IsS79.drewN | apply IsS79.drew | apply IsS79.set_0 | refine IsS79.far ?_ NB0_493.out _ | refine IsS79.far ?_ NB0_500.out _) | exact HI0.out)⟩, ⟨by repeat (first | (with_reducible first | exact HK.out | apply KeepBut.set_ | apply keep_drewN | apply keep_drew | apply keep_alloc | refine keep_far ?_ GW493.out _ | refine keep_far ?_ GW500.out _) | exact HK.out)⟩, aBl HB⟩
           ·rw [if_neg c59] at H
            exact absurd H (by simp)
          ·rw [if_neg c58] at H
           have c58b0 := decide_eq_false c58
           clear c58
           by_cases c68 : x501003_1.length < 17592186044416
           ·rw [if_pos c68] at H
            have LMc68 := Aside0.mk c68
            clear c68
            obtain ⟨y522, hy522⟩ : ∃ y_ : List Int, y_ = (x501003_1 ++ [0]) := ⟨_, rfl⟩
            replace H : (thermionkit_Tube.l0 k1 t501 t503 (wrap64 (x10_1 + 1)) t518 t494 t496 t498 y522) = some (r1, r2, r3, r4, r5) := by first | (rw [hy522]; with_reducible exact H) | (have H2_ := (Option.bind_some _ _).symm.trans H; rw [hy522]; with_reducible exact H2_) | (have H2_ := (Option.bind_some _ _).symm.trans H; with_reducible exact H2_) | with_reducible exact H | (rw [hy522]; exact H) | exact H
            have Ny522 := Aside0.mk hy522
            clear hy522
            have H' := Aside0.mk H
            clear H
            have hnb69 := NB500_493.out
            have hnc69 := NB493_500.out
            have hnb70 := NB500_0.out
            have hnc70 := NB0_500.out
            obtain ⟨⟨hcz71_0, hcz71_1, hcz71_2, hcz71_3⟩, hfz71_0, hfz71_1, hfz71_2, hfz71_3⟩ := aC4 BK500
            go_wp2_with fail
            repeat (go_quiet (fail); try go_wp2_with (first | (go_at_call 66; (with_reducible refine (thermionkit_Dice_One.calls g x1000_1 3 true t518 w0 _ ?side1 ?side2 A56.out).mono ?_); (case side1 => repeat (first | (with_reducible first | exact HI0.out | apply IsS79.alloc | apply IsS79.drewN | apply IsS79.drew | apply IsS79.set_0 | refine IsS79.far ?_ NB0_493.out _ | refine IsS79.far ?_ NB0_500.out _) | exact HI0.out)); (case side2 => repeat (first | (with_reducible first | exact HB.out | apply below_alloc | apply pw_below_drewN | apply below_drew1 | refine below_set ?_ (IsS79.ge HI0.out) | refine below_set ?_ GE493.out | refine below_set ?_ GE500.out) | exact HB.out)); rintro e w72 ⟨rfl, hi, hb, hk⟩; replace HO_501003 := Aside0.mk (Kd.R_mono (Kd.R_keep (IsS79.apart (show IsS79 w0 _ g x1000_1 from by repeat (first | (with_reducible first | exact HI0.out | apply IsS79.alloc | apply IsS79.drewN | apply IsS79.drew | apply IsS79.set_0 | refine IsS79.far ?_ NB0_493.out _ | refine IsS79.far ?_ NB0_500.out _) | exact HI0.out)) (aRk HO_501003).out (by decide)) hk (fun _ h => h.2)) (fun _ h => h.1)); replace BK493 := Aside0.mk (KeepBut.blk hk (g' := gb493) (o := .cells #[.int .i64 0, .int .i64 0, .bool false, .slice none 0 0] 24 (0, 0)) (aBk BK493).out NB493_0.out (by simp)); replace BK500 := Aside0.mk (KeepBut.blk hk (g' := gb500) (o := .cells #[.int .i64 t494, .int .i64 t496, .bool t498, u501003] 24 (0, 0)) (aBk BK500).out NB500_0.out (by simp)); replace HK := Aside0.mk (KeepBut.trans (by repeat (first | (with_reducible first | exact HK.out | apply KeepBut.set_ | apply keep_drewN | apply keep_drew | apply keep_alloc | refine keep_far ?_ GW493.out _ | refine keep_far ?_ GW500.out _) | exact HK.out)) hk (.inl rfl)); replace HB := Aside0.mk (hb); replace HI0 := Aside0.mk (hi); (try clear hb); (try clear hb2); (try clear hk); (try clear hi); obtain ⟨⟨hcz73_0, hcz73_1, hcz73_2, hcz73_3⟩, hfz73_0, hfz73_1, hfz73_2, hfz73_3⟩ := aC4 BK500) | ((with_reducible refine gate_builtin (b := .append) (xs := #[.tmp 78, .tmp 80]) rfl ?_); at_builtin; refine Kd.R_append (Kd.int .i64) w.heap.size rfl (.tmp 78) (.tmp 80) 22 3 (.int .i64 0) 8 rfl Try.underlying22 info3 rfl (by decide) (by omega) u501003 x501003_1 0 [.int .i64 0] (fun _ => True) (fun _ => False) rfl rfl ?aP (fun _ hk => hk.elim) ?aF ?aO (Below.refl _ _) ?aS ?aL ?_; (case aP => exact rfl); (case aF => exact (fun _ _ => trivial)); (case aO => exact (aRk HO_501003).out); (case aS => exact (keep_size (w := w) (g := g) (row := none) (by repeat (first | (with_reducible first | exact HK.out | apply KeepBut.set_ | apply keep_drewN | apply keep_drew | apply keep_alloc | refine keep_far ?_ GW493.out _ | refine keep_far ?_ GW500.out _) | exact HK.out)))); (case aL => have := LMc68.out; omega); intro v523 w74 ho hb hg hat; rw [← Ny522.out] at ho; replace BK493 := (aBg BK493 hg (Kd.R_ne HO_501003.out BK493.out (by decide))); replace BK500 := (aBg BK500 hg (Kd.R_ne HO_501003.out BK500.out (by decide))); replace HI0 := Aside0.mk (IsS79.grown (by repeat (first | (with_reducible first | exact HI0.out | apply IsS79.alloc | apply IsS79.drewN | apply IsS79.drew | apply IsS79.set_0 | refine IsS79.far ?_ NB0_493.out _ | refine IsS79.far ?_ NB0_500.out _) | exact HI0.out)) hg (IsS79.own_ne HI0.out HO_501003.out (by decide))); replace HB := Aside0.mk (below_weaken (aBl HB).out HL.out hb); replace HK := Aside0.mk (KeepBut.trans (by repeat (first | (with_reducible first | exact HK.out | apply KeepBut.set_ | apply keep_drewN | apply keep_drew | apply keep_alloc | refine keep_far ?_ GW493.out _ | refine keep_far ?_ GW500.out _) | exact HK.out)) (KeepBut.of_grown hg g) (Kd.R_base2 HO_501003.out)); have HO524 := Aside0.mk (ho); clear HO_501003; clear ho hb hg hat; obtain ⟨Ao75, co75, eo75⟩ := Kd.R_slice HO524.out; subst eo75; obtain ⟨⟨hcz76_0, hcz76_1, hcz76_2, hcz76_3⟩, hfz76_0, hfz76_1, hfz76_2, hfz76_3⟩ := aC4 BK500)))
            go_roundg k1
            case measure => have := HK1.out; omega
            case rel => exact ⟨(wrap64 (x10_1 + 1)), (t518), (y522), (.slice Ao75 y522.length co75), aR, H', ⟨by have := HK1.out; omega⟩, ⟨by (with_reducible repeat (first | apply Kd.R_alloc | apply Kd.R_drewN | apply Kd.R_drew)); exact Kd.R_mono (Kd.R_far (p := ⟨gb500, 3, none⟩) (Kd.R_types HO524.out BK500.out (by decide)) (fun _ hk => hk.2) (.slice Ao75 y522.length co75)) (fun _ hk => trivial)⟩, ⟨by (with_reducible repeat (first | refine blk_drewN ?_ _ | refine blk_drew ?_ | refine blk_alloc ?_ _)); refine blk_far ?_ NB493_500.out _; (with_reducible repeat (first | refine blk_drewN ?_ _ | refine blk_drew ?_ | refine blk_alloc ?_ _)); exact BK493.out⟩, ⟨by (with_reducible repeat (first | refine blk_drewN ?_ _ | refine blk_drew ?_ | refine blk_alloc ?_ _)); refine blk_put (cs := #[.int .i64 t494, .int .i64 t496, .bool t498, u501003]) ?_ 3 _ rfl; (with_reducible repeat (first | refine blk_drewN ?_ _ | refine blk_drew ?_ | refine blk_alloc ?_ _)); exact BK500.out⟩, ⟨by repeat (first | (with_reducible first | exact HI0.out | apply IsS79.alloc | apply IsS79.drewN | apply IsS79.drew | apply IsS79.set_0 | refine IsS79.far ?_ NB0_493.out _ | refine IsS79.far ?_ NB0_500.out _) | exact HI0.out)⟩, ⟨by repeat (first | (with_reducible first | exact HK.out | apply KeepBut.set_ | apply keep_drewN | apply keep_drew | apply keep_alloc | refine keep_far ?_ GW493.out _ | refine keep_far ?_ GW500.out _) | exact HK.out)⟩, aBl HB⟩
           ·rw [if_neg c68] at H
            exact absurd H (by simp)
         ·replace c57 := Bool.eq_false_iff.mpr c57
          subst c57
          have H1 : (if x501003_1.length < 17592186044416 then (thermionkit_Tube.l0 k1 t501 t503 (wrap64 (x10_1 + 1)) t518 t494 t496 t498 (x501003_1 ++ [0])) else (none)) = some (r1, r2, r3, r4, r5) := by rw [if_neg (show ¬ (false = true) by decide)] at H; exact H
          clear H
          have H := H1
          clear H1
          by_cases c77 : x501003_1.length < 17592186044416
          ·rw [if_pos c77] at H
           have LMc77 := Aside0.mk c77
           clear c77
           obtain ⟨y525, hy525⟩ : ∃ y_ : List Int, y_ = (x501003_1 ++ [0]) := ⟨_, rfl⟩
           replace H : (thermionkit_Tube.l0 k1 t501 t503 (wrap64 (x10_1 + 1)) t518 t494 t496 t498 y525) = some (r1, r2, r3, r4, r5) := by first | (rw [hy525]; with_reducible exact H) | (have H2_ := (Option.bind_some _ _).symm.trans H; rw [hy525]; with_reducible exact H2_) | (have H2_ := (Option.bind_some _ _).symm.trans H; with_reducible exact H2_) | with_reducible exact H | (rw [hy525]; exact H) | exact H
           have Ny525 := Aside0.mk hy525
           clear hy525
           have H' := Aside0.mk H
           clear H
           have hnb78 := NB500_493.out
           have hnc78 := NB493_500.out
           have hnb79 := NB500_0.out
           have hnc79 := NB0_500.out
           obtain ⟨⟨hcz80_0, hcz80_1, hcz80_2, hcz80_3⟩, hfz80_0, hfz80_1, hfz80_2, hfz80_3⟩ := aC4 BK500
           go_wp2_with fail
           repeat (go_quiet (fail); try go_wp2_with (first | (go_at_call 66; (with_reducible refine (thermionkit_Dice_One.calls g x1000_1 3 false t518 w0 _ ?side1 ?side2 A56.out).mono ?_); (case side1 => repeat (first | (with_reducible first | exact HI0.out | apply IsS79.alloc | apply IsS79.drewN | apply IsS79.drew | apply IsS79.set_0 | refine IsS79.far ?_ NB0_493.out _ | refine IsS79.far ?_ NB0_500.out _) | exact HI0.out)); (case side2 => repeat (first | (with_reducible first | exact HB.out | apply below_alloc | apply pw_below_drewN | apply below_drew1 | refine below_set ?_ (IsS79.ge HI0.out) | refine below_set ?_ GE493.out | refine below_set ?_ GE500.out) | exact HB.out)); rintro e w81 ⟨rfl, hi, hb, hk⟩; replace HO_501003 := Aside0.mk (Kd.R_mono (Kd.R_keep (IsS79.apart (show IsS79 w0 _ g x1000_1 from by repeat (first | (with_reducible first | exact HI0.out | apply IsS79.alloc | apply IsS79.drewN | apply IsS79.drew | apply IsS79.set_0 | refine IsS79.far ?_ NB0_493.out _ | refine IsS79.far ?_ NB0_500.out _) | exact HI0.out)) (aRk HO_501003).out (by decide)) hk (fun _ h => h.2)) (fun _ h => h.1)); replace BK493 := Aside0.mk (KeepBut.blk hk (g' := gb493) (o := .cells #[.int .i64 0, .int .i64 0, .bool false, .slice none 0 0] 24 (0, 0)) (aBk BK493).out NB493_0.out (by simp)); replace BK500 := Aside0.mk (KeepBut.blk hk (g' := gb500) (o := .cells #[.int .i64 t494, .int .i64 t496, .bool t498, u501003] 24 (0, 0)) (aBk BK500).out NB500_0.out (by simp)); replace HK := Aside0.mk (KeepBut.trans (by repeat (first | (with_reducible first | exact HK.out | apply KeepBut.set_ | apply keep_drewN | apply keep_drew | apply keep_alloc | refine keep_far ?_ GW493.out _ | refine keep_far ?_ GW500.out _) | exact HK.out)) hk (.inl rfl)); replace HB := Aside0.mk (hb); replace HI0 := Aside0.mk (hi); (try clear hb); (try clear hb2); (try clear hk); (try clear hi); obtain ⟨⟨hcz82_0, hcz82_1, hcz82_2, hcz82_3⟩, hfz82_0, hfz82_1, hfz82_2, hfz82_3⟩ := aC4 BK500) | ((with_reducible refine gate_builtin (b := .append) (xs := #[.tmp 78, .tmp 80]) rfl ?_); at_builtin; refine Kd.R_append (Kd.int .i64) w.heap.size rfl (.tmp 78) (.tmp 80) 22 3 (.int .i64 0) 8 rfl Try.underlying22 info3 rfl (by decide) (by omega) u501003 x501003_1 0 [.int .i64 0] (fun _ => True) (fun _ => False) rfl rfl ?aP (fun _ hk => hk.elim) ?aF ?aO (Below.refl _ _) ?aS ?aL ?_; (case aP => exact rfl); (case aF => exact (fun _ _ => trivial)); (case aO => exact (aRk HO_501003).out); (case aS => exact (keep_size (w := w) (g := g) (row := none) (by repeat (first | (with_reducible first | exact HK.out | apply KeepBut.set_ | apply keep_drewN | apply keep_drew | apply keep_alloc | refine keep_far ?_ GW493.out _ | refine keep_far ?_ GW500.out _) | exact HK.out)))); (case aL => have := LMc77.out; omega); intro v526 w83 ho hb hg hat; rw [← Ny525.out] at ho; replace BK493 := (aBg BK493 hg (Kd.R_ne HO_501003.out BK493.out (by decide))); replace BK500 := (aBg BK500 hg (Kd.R_ne HO_501003.out BK500.out (by decide))); replace HI0 := Aside0.mk (IsS79.grown (by repeat (first | (with_reducible first | exact HI0.out | apply IsS79.alloc | apply IsS79.drewN | apply IsS79.drew | apply IsS79.set_0 | refine IsS79.far ?_ NB0_493.out _ | refine IsS79.far ?_ NB0_500.out _) | exact HI0.out)) hg (IsS79.own_ne HI0.out HO_501003.out (by decide))); replace HB := Aside0.mk (below_weaken (aBl HB).out HL.out hb); replace HK := Aside0.mk (KeepBut.trans (by repeat (first | (with_reducible first | exact HK.out | apply KeepBut.set_ | apply keep_drewN | apply keep_drew | apply keep_alloc | refine keep_far ?_ GW493.out _ | refine keep_far ?_ GW500.out _) | exact HK.out)) (KeepBut.of_grown hg g) (Kd.R_base2 HO_501003.out)); have HO527 := Aside0.mk (ho); clear HO_501003; clear ho hb hg hat; obtain ⟨Ao84, co84, eo84⟩ := Kd.R_slice HO527.out; subst eo84; obtain ⟨⟨hcz85_0, hcz85_1, hcz85_2, hcz85_3⟩, hfz85_0, hfz85_1, hfz85_2, hfz85_3⟩ := aC4 BK500)))
           go_roundg k1
           case measure => have := HK1.out; omega
           case rel => exact ⟨(wrap64 (x10_1 + 1)), (t518), (y525), (.slice Ao84 y525.length co84), aR, H', ⟨by have := HK1.out; omega⟩, ⟨by (with_reducible repeat (first | apply Kd.R_alloc | apply Kd.R_drewN | apply Kd.R_drew)); exact Kd.R_mono (Kd.R_far (p := ⟨gb500, 3, none⟩) (Kd.R_types HO527.out BK500.out (by decide)) (fun _ hk => hk.2) (.slice Ao84 y525.length co84)) (fun _ hk => trivial)⟩, ⟨by (with_reducible repeat (first | refine blk_drewN ?_ _ | refine blk_drew ?_ | refine blk_alloc ?_ _)); refine blk_far ?_ NB493_500.out _; (with_reducible repeat (first | refine blk_drewN ?_ _ | refine blk_drew ?_ | refine blk_alloc ?_ _)); exact BK493.out⟩, ⟨by (with_reducible repeat (first | refine blk_drewN ?_ _ | refine blk_drew ?_ | refine blk_alloc ?_ _)); refine blk_put (cs := #[.int .i64 t494, .int .i64 t496, .bool t498, u501003]) ?_ 3 _ rfl; (with_reducible repeat (first | refine blk_drewN ?_ _ | refine blk_drew ?_ | refine blk_alloc ?_ _)); exact BK500.out⟩, ⟨by repeat (first | (with_reducible first | exact HI0.out | apply IsS79.alloc | apply IsS79.drewN | apply IsS79.drew | apply IsS79.set_0 | refine IsS79.far ?_ NB0_493.out _ | refine IsS79.far ?_ NB0_500.out _) | exact HI0.out)⟩, ⟨by repeat (first | (with_reducible first | exact HK.out | apply KeepBut.set_ | apply keep_drewN | apply keep_drew | apply keep_alloc | refine keep_far ?_ GW493.out _ | refine keep_far ?_ GW500.out _) | exact HK.out)⟩, aBl HB⟩
          ·rw [if_neg c77] at H
           exact absurd H (by simp)
       ·rw [if_neg c39] at H
        obtain ⟨c39b0, c39b1⟩ := aNe c39
        by_cases c86 : x501003_1.length < 17592186044416
        ·rw [if_pos c86] at H
         have LMc86 := Aside0.mk c86
         clear c86
         obtain ⟨y528, hy528⟩ : ∃ y_ : List Int, y_ = (x501003_1 ++ [0]) := ⟨_, rfl⟩
         replace H : (thermionkit_Tube.l0 k1 t501 t503 (wrap64 (x10_1 + 1)) x1000_1 t494 t496 t498 y528) = some (r1, r2, r3, r4, r5) := by first | (rw [hy528]; with_reducible exact H) | (have H2_ := (Option.bind_some _ _).symm.trans H; rw [hy528]; with_reducible exact H2_) | (have H2_ := (Option.bind_some _ _).symm.trans H; with_reducible exact H2_) | with_reducible exact H | (rw [hy528]; exact H) | exact H
         have Ny528 := Aside0.mk hy528
         clear hy528
         have H' := Aside0.mk H
         clear H
         have hnb87 := NB500_493.out
         have hnc87 := NB493_500.out
         have hnb88 := NB500_0.out
         have hnc88 := NB0_500.out
         obtain ⟨⟨hcz89_0, hcz89_1, hcz89_2, hcz89_3⟩, hfz89_0, hfz89_1, hfz89_2, hfz89_3⟩ := aC4 BK500
         go_wp2_with fail
         repeat (go_quiet (fail); try go_wp2_with (first | ((with_reducible refine gate_builtin (b := .append) (xs := #[.tmp 78, .tmp 80]) rfl ?_); at_builtin; refine Kd.R_append (Kd.int .i64) w.heap.size rfl (.tmp 78) (.tmp 80) 22 3 (.int .i64 0) 8 rfl Try.underlying22 info3 rfl (by decide) (by omega) u501003 x501003_1 0 [.int .i64 0] (fun _ => True) (fun _ => False) rfl rfl ?aP (fun _ hk => hk.elim) ?aF ?aO (Below.refl _ _) ?aS ?aL ?_; (case aP => exact rfl); (case aF => exact (fun _ _ => trivial)); (case aO => exact (aRk HO_501003).out); (case aS => exact (keep_size (w := w) (g := g) (row := none) (by repeat (first | (with_reducible first | exact HK.out | apply KeepBut.set_ | apply keep_drewN | apply keep_drew | apply keep_alloc | refine keep_far ?_ GW493.out _ | refine keep_far ?_ GW500.out _) | exact HK.out)))); (case aL => have := LMc86.out; omega); intro v529 w90 ho hb hg hat; rw [← Ny528.out] at ho; replace BK493 := (aBg BK493 hg (Kd.R_ne HO_501003.out BK493.out (by decide))); replace BK500 := (aBg BK500 hg (Kd.R_ne HO_501003.out BK500.out (by decide))); replace HI0 := Aside0.mk (IsS79.grown (by repeat (first | (with_reducible first | exact HI0.out | apply IsS79.alloc | apply IsS79.drewN | apply IsS79.drew | apply IsS79.set_0 | refine IsS79.far ?_ NB0_493.out _ | refine IsS79.far ?_ NB0_500.out _) | exact HI0.out)) hg (IsS79.own_ne HI0.out HO_501003.out (by decide))); replace HB := Aside0.mk (below_weaken (aBl HB).out HL.out hb); replace HK := Aside0.mk (KeepBut.trans (by repeat (first | (with_reducible first | exact HK.out | apply KeepBut.set_ | apply keep_drewN | apply keep_drew | apply keep_alloc | refine keep_far ?_ GW493.out _ | refine keep_far ?_ GW500.out _) | exact HK.out)) (KeepBut.of_grown hg g) (Kd.R_base2 HO_501003.out)); have HO530 := Aside0.mk (ho); clear HO_501003; clear ho hb hg hat; obtain ⟨Ao91, co91, eo91⟩ := Kd.R_slice HO530.out; subst eo91; obtain ⟨⟨hcz92_0, hcz92_1, hcz92_2, hcz92_3⟩, hfz92_0, hfz92_1, hfz92_2, hfz92_3⟩ := aC4 BK500)))
         go_roundg k1
         case measure => have := HK1.out; omega
         case rel => exact ⟨(wrap64 (x10_1 + 1)), (x1000_1), (y528), (.slice Ao91 y528.length co91), aR, H', ⟨by have := HK1.out; omega⟩, ⟨by (with_reducible repeat (first | apply Kd.R_alloc | apply Kd.R_drewN | apply Kd.R_drew)); exact Kd.R_mono (Kd.R_far (p := ⟨gb500, 3, none⟩) (Kd.R_types HO530.out BK500.out (by decide)) (fun _ hk => hk.2) (.slice Ao91 y528.length co91)) (fun _ hk => trivial)⟩, ⟨by (with_reducible repeat (first | refine blk_drewN ?_ _ | refine blk_drew ?_ | refine blk_alloc ?_ _)); refine blk_far ?_ NB493_500.out _; (with_reducible repeat (first | refine blk_drewN ?_ _ | refine blk_drew ?_ | refine blk_alloc ?_ _)); exact BK493.out⟩, ⟨by (with_reducible repeat (first | refine blk_drewN ?_ _ | refine blk_drew ?_ | refine blk_alloc ?_ _)); refine blk_put (cs := #[.int .i64 t494, .int .i64 t496, .bool t498, u501003]) ?_ 3 _ rfl; (with_reducible repeat (first | refine blk_drewN ?_ _ | refine blk_drew ?_ | refine blk_alloc ?_ _)); exact BK500.out⟩, ⟨by repeat (first | (with_reducible first | exact HI0.out | apply IsS79.alloc | apply IsS79.drewN | apply IsS79.drew | apply IsS79.set_0 | refine IsS79.far ?_ NB0_493.out _ | refine IsS79.far ?_ NB0_500.out _) | exact HI0.out)⟩, ⟨by repeat (first | (with_reducible first | exact HK.out | apply KeepBut.set_ | apply keep_drewN | apply keep_drew | apply keep_alloc | refine keep_far ?_ GW493.out _ | refine keep_far ?_ GW500.out _) | exact HK.out)⟩, aBl HB⟩
        ·rw [if_neg c86] at H
         exact absurd H (by simp)
   ·rw [if_neg c21] at H
    have c21b0 := decide_eq_false c21
    clear c21
    simp only [Option.some.injEq, Prod.mk.injEq] at H
    obtain ⟨rfl, rfl, rfl, rfl, rfl⟩ := H
    have hnb93 := NB500_493.out
    have hnc93 := NB493_500.out
    have hnb94 := NB500_0.out
    have hnc94 := NB0_500.out
    obtain ⟨⟨hcz95_0, hcz95_1, hcz95_2, hcz95_3⟩, hfz95_0, hfz95_1, hfz95_2, hfz95_3⟩ := aC4 BK500
    have hnb96 := NB493_0.out
    have hnc96 := NB0_493.out
    obtain ⟨⟨hcz97_0, hcz97_1, hcz97_2, hcz97_3⟩, hfz97_0, hfz97_1, hfz97_2, hfz97_3⟩ := aC4 BK493
    obtain ⟨Ao98, co98, eo98⟩ := Kd.R_slice HO_501003.out
    subst eo98
    go_wp2
    repeat (go_quiet (fail); try go_wp2)
    refine bodyPost_ret (results_cell_row rfl _ _ gb493 24 #[.int .i64 t494, .int .i64 t496, .bool t498, .slice Ao98 x501003_1.length co98] (0, 0) _ rfl (by (with_reducible repeat (first | refine blk_drewN ?_ _ | refine blk_drew ?_ | refine blk_alloc ?_ _)); refine blk_put (cs := #[.int .i64 t494, .int .i64 t496, .bool t498, .slice none 0 0]) ?_ 3 _ rfl; (with_reducible repeat (first | refine blk_drewN ?_ _ | refine blk_drew ?_ | refine blk_alloc ?_ _)); refine blk_put (cs := #[.int .i64 t494, .int .i64 t496, .bool false, .slice none 0 0]) ?_ 2 _ rfl; (with_reducible repeat (first | refine blk_drewN ?_ _ | refine blk_drew ?_ | refine blk_alloc ?_ _)); refine blk_put (cs := #[.int .i64 t494, .int .i64 0, .bool false, .slice none 0 0]) ?_ 1 _ rfl; (with_reducible repeat (first | refine blk_drewN ?_ _ | refine blk_drew ?_ | refine blk_alloc ?_ _)); refine blk_put (cs := #[.int .i64 0, .int .i64 0, .bool false, .slice none 0 0]) ?_ 0 _ rfl; (with_reducible repeat (first | refine blk_drewN ?_ _ | refine blk_drew ?_ | refine blk_alloc ?_ _)); exact BK493.out) Try.underlying24 rfl (by kernel_rfl)) rfl ?_
    exact ⟨_, by first | rfl | (simp [errW_none, errW_some] <;> rfl) | (simp only [← hji4]; first | rfl | (simp [errW_none, errW_some] <;> rfl)) | (simp [*, errW_none, errW_some] <;> rfl), by (with_reducible repeat (first | apply Kd.R_alloc | apply Kd.R_drewN | apply Kd.R_drew)); exact Kd.R_mono (Kd.R_far (p := ⟨gb493, 3, none⟩) (Kd.R_far (p := ⟨gb493, 2, none⟩) (Kd.R_far (p := ⟨gb493, 1, none⟩) (Kd.R_far (p := ⟨gb493, 0, none⟩) (Kd.R_types HO_501003.out BK493.out (by decide)) (fun _ hk => hk.2) (.int .i64 t494)) (fun _ hk => hk.2) (.int .i64 t496)) (fun _ hk => hk.2) (.bool t498)) (fun _ hk => hk.2) (.slice Ao98 x501003_1.length co98)) (fun _ hk => trivial), by repeat (first | (with_reducible first | exact HI0.out | apply IsS79.alloc | apply IsS79.drewN | apply IsS79.drew | apply IsS79.set_0 | refine IsS79.far ?_ NB0_493.out _ | refine IsS79.far ?_ NB0_500.out _) | exact HI0.out), by repeat (first | (with_reducible first | exact HB.out | apply below_alloc | apply pw_below_drewN | apply below_drew1 | refine below_set ?_ (IsS79.ge HI0.out) | refine below_set ?_ GE493.out | refine below_set ?_ GE500.out) | exact HB.out), by repeat (first | (with_reducible first | exact HK.out | apply KeepBut.set_ | apply keep_drewN | apply keep_drew | apply keep_alloc | refine keep_far ?_ GW493.out _ | refine keep_far ?_ GW500.out _) | exact HK.out)⟩
end Go.Proofs.Ytndkkjpgnmahbaa.Print
end

section
namespace Go.Proofs.Ytndkkjpgnmahbaa.Print
open Go.RowKit Go.Proofs.YtndkkjpgnmahbaaW.PrintWords Go.Proofs.YtndkkjpgnmahbaaW.PrintLast Go.Proofs.YtndkkjpgnmahbaaW.PrintMore
set_option linter.unusedVariables false
theorem tube_go {W H : Nat} (hW : 1 ≤ W ∧ W ≤ 64) (hH : H ≤ 64) (R : Bool) (x8 x9 : Int) : ∀ (d i : Nat) (s : Int) (C : List Int), i + d = W * H → C.length = i → ∃ C' s', thermionkit_Tube.l0 (d + 1) x8 x9 (i : Int) s W H R C = some ((W : Int), (H : Int), R, C', s') ∧ C'.length = W * H
 | 0, i, s, C, h, hl => by
  have hWH : W * H ≤ 64 * 64 := Nat.mul_le_mul hW.2 hH
  have hw : wrap64 ((W : Int) * H) = ((W * H : Nat) : Int) := by rw [← Int.natCast_mul, IntWalk.wrap64_in _ (by omega)]
  exact ⟨C, s, by rw [thermionkit_Tube.l0, hw, if_neg (by omega)], by omega⟩
 | d + 1, i, s, C, h, hl => by
  have hWH : W * H ≤ 64 * 64 := Nat.mul_le_mul hW.2 hH
  have hw : wrap64 ((W : Int) * H) = ((W * H : Nat) : Int) := by rw [← Int.natCast_mul, IntWalk.wrap64_in _ (by omega)]
  have hi : wrap64 ((i : Int) + 1) = ((i + 1 : Nat) : Int) := by rw [IntWalk.wrap64_in _ (by omega)]; omega
  have ih : ∀ (s : Int) (x : Int), ∃ C' s', thermionkit_Tube.l0 (d + 1) x8 x9 ((i + 1 : Nat) : Int) s W H R (C ++ [x]) = some ((W : Int), (H : Int), R, C', s') ∧ C'.length = W * H := fun s x => tube_go hW hH R x8 x9 d (i + 1) s (C ++ [x]) (by omega) (by rw [List.length_append]; simp; omega)
  have hc : C.length < 17592186044416 := by omega
  obtain ⟨t, ht⟩ := one_eq s 3 (by omega) (by omega)
  rw [thermionkit_Tube.l0, hw, if_pos (by omega), if_neg (by omega), hi, ht]
  simp only [if_pos hc, Option.bind_some]
  split
  ·exact ih _ _
  ·split
   ·exact ih _ _
   ·split
    ·split
     ·split
      ·exact ih _ _
      ·exact ih _ _
     ·split
      ·split
       ·exact ih _ _
       ·exact ih _ _
      ·exact ih _ _
    ·exact ih _ _
theorem tube_total (s a1 a2 : Int) (h1 : 4 ≤ a1 ∧ a1 ≤ 16) (h2 : 1 ≤ a2 ∧ a2 ≤ 16) : ∃ (W H : Int) (R : Bool) (C : List Int) (s1 : Int) (K : Nat), thermionkit_Tube.f K s a1 a2 = some (W, H, R, C, s1) ∧ C.length ≤ 256 ∧ 0 < C.length := by
 have hm : mx 4 a1 = a1 := by unfold mx; split <;> omega
 obtain ⟨W, e1, b1, b2⟩ := between_eq s 4 a1 h1.1 (by omega) (by omega)
 obtain ⟨H, e2, b3, b4⟩ := between_eq (nextWord s) 1 a2 h2.1 (by omega) (by omega)
 obtain ⟨R, e3⟩ := one_eq (nextWord (nextWord s)) 2 (by omega) (by omega)
 have hw : wrap64 (W - 2) = W - 2 := IntWalk.wrap64_in _ (by omega)
 obtain ⟨x8, e4, _, _⟩ := between_eq (nextWord (nextWord (nextWord s))) 1 (W - 2) (by omega) (by omega) (by omega)
 obtain ⟨x9, e5, _, _⟩ := upto_eq (nextWord (nextWord (nextWord (nextWord s)))) H (by omega) (by omega)
 obtain ⟨W', rfl⟩ : ∃ n : Nat, W = n := ⟨W.toNat, by omega⟩
 obtain ⟨H', rfl⟩ : ∃ n : Nat, H = n := ⟨H.toNat, by omega⟩
 obtain ⟨C, s1, h, hl⟩ := tube_go (W := W') (H := H') ⟨by omega, by omega⟩ (by omega) R x8 x9 (W' * H') 0 (nextWord (nextWord (nextWord (nextWord (nextWord s))))) [] (by omega) rfl
 refine ⟨W', H', R, C, s1, W' * H' + 1, ?_, ?_, ?_⟩
 ·unfold thermionkit_Tube.f
  rw [hm, obind e1, obind e2, obind e3, hw, obind e4, obind e5]
  exact h
 ·rw [hl]
  exact Nat.mul_le_mul (show W' ≤ 16 by omega) (show H' ≤ 16 by omega)
 ·rw [hl]
  exact Nat.mul_pos (by omega) (by omega)
end Go.Proofs.Ytndkkjpgnmahbaa.Print
end

section
namespace Go.Proofs.Ytndkkjpgnmahbaa.Print
open Go.RowKit Go.Proofs.YtndkkjpgnmahbaaW.PrintWords Go.Proofs.YtndkkjpgnmahbaaW.PrintLast Go.Proofs.YtndkkjpgnmahbaaW.PrintMore Go.Proofs.Ytndkkjpgnmahbaa.H Go.Proofs.Field
attribute [local go_sem] max2_int min2_int max_two min_two max_three min_three max_four min_four
set_option linter.unusedVariables false
set_option linter.unusedSimpArgs false
attribute [local go_sem high] eqA42
def inflF.T4 : Bool × List (List Nat × List Nat) := (true, [([], []), ([], []), ([1], [1]), ([], []), ([3, 2], [3]), ([0, 2, 4], [0, 2, 4]), ([5, 4, 0, 1, 2, 3, 4, 5], [5])])
def inflF.B4 : List Nat := [0, 0, 2, 0, 14, 31, 63]
theorem inflF.tab4 : rtab .any (opsOf Try.f16 4) = inflF.T4 := by kernel_rfl
theorem inflF.bits4 : waitsOk inflF.T4.2 inflF.B4 = true := by kernel_rfl
set_option maxHeartbeats 64000000 in
set_option maxRecDepth 100000 in
theorem influences_calls (W H : Int) (R : Bool) (A : Option Addr) (c : Nat) (C : List Int) (a1 a2 a3 a4 : Int) (A5 : Option Addr) (c5 : Nat) (l5 : List Int) (w : World)
  (hr : Kd.C (Kd.int .i64) w A C.length C) (hc : C.length ≤ c) (hr5 : Kd.C (Kd.int .i64) w A5 l5.length l5) (hc5 : l5.length ≤ c5) :
  Calls Try.prog 16 #[.agg (planV W H R A C.length c), .int .i64 a1, .int .i64 a2, .int .i64 a3, .int .i64 a4, .slice A5 l5.length c5] w fun e w' => e = .returned (.bool true) ∧ Below w.heap.size w w' := by
 obtain ⟨s0, hs0⟩ : ∃ s, thermionkit_NewDice.f l5 = some s := ⟨_, rfl⟩
 obtain ⟨W', H', R', C', s1, hpl, hpos, hsm⟩ := plan_total s0 7 5 (by omega) (by omega)
 obtain ⟨W2, H2, R2, C2, s2, KT, htu, hlen2, hpos2⟩ := tube_total s1 8 5 (by omega) (by omega)
 obtain ⟨n, hn, hn1⟩ := mod_eq a1 41 (by omega) (by omega)
 obtain ⟨b, hb⟩ : ∃ b, decide (300 < C.length) = b := ⟨_, rfl⟩
 have HPL := Aside0.mk hpl
 have HTU := Aside0.mk htu
 have HPOS := Aside0.mk hpos
 have HPOS2 := Aside0.mk hpos2
 have HSMA := Aside0.mk (And.intro hsm hlen2)
 have HND := Aside0.mk hs0
 have HMD := Aside0.mk hn
 have HNL := Aside0.mk hn1
 have HAW := Aside0.mk awake_true
 have HR := Aside0.mk hr
 have HC := Aside0.mk hc
 have HR5 := Aside0.mk hr5
 have HC5 := Aside0.mk hc5
 have HB1 := Aside0.mk hb
 have HM := Aside0.mk (Mem.start w)
 have hu24 := Try.underlying24
 have hu42 := Try.underlying42
 have hu56 := Try.underlying56
 clear hr hc hr5 hc5 hs0 hpl htu hpos hpos2 hsm hlen2 hn hn1 hb
 go_enter Try.func16, Try.ntmps16
 cases b
 case true =>
  go_wp2_with (first
   | ((with_reducible refine gate_dst (N := 6) rfl ?_); refine ev_box HM.out rfl 24 (.tmp 0) rfl (cs := planV W H R A C.length c) rfl ?_; intro gp w1 hm1 hq1; clear hq1; have HM1 := Aside0.mk hm1; clear hm1 HM)
   | ((with_reducible refine gate_dst (N := 25) rfl ?_); refine ev_load HM1.out.head rfl 24 (.tmp 6) rfl rfl _ Try.underlying24 rfl size24 rfl ?_)
   | (go_at_call 19; refine (big_none W H R A c C true _ (Kd.C_below HR.out HM1.out.below) HC.out HB1.out).mono ?_; rintro e1 we ⟨rfl, hb⟩; have HM3 := Aside0.mk (HM1.out.step hb); clear hb HM1)
   | (go_at_call 20; refine (thermionlaw01_awake.calls 10 true _ HAW.out).mono ?_; rintro e1 wE ⟨rfl, hb⟩; have HE := Aside0.mk (below_step HM3.out.below hb); clear hb))
  go_ret
  exact ⟨rfl, HE.out⟩
 case false =>
  go_upto_region 4 with (first
   | ((with_reducible refine gate_dst (N := 6) rfl ?_); refine ev_box HM.out rfl 24 (.tmp 0) rfl (cs := planV W H R A C.length c) rfl ?_; intro gp w1 hm1 hq1; clear hq1; have HM1 := Aside0.mk hm1; clear hm1 HM)
   | ((with_reducible refine gate_dst (N := 25) rfl ?_); refine ev_load HM1.out.head rfl 24 (.tmp 6) rfl rfl _ Try.underlying24 rfl size24 rfl ?_)
   | (go_at_call 19; refine (big_none W H R A c C false _ (Kd.C_below HR.out HM1.out.below) HC.out HB1.out).mono ?_; rintro e1 we ⟨rfl, hb⟩; have HM3 := Aside0.mk (HM1.out.step hb); clear hb HM1; have HEB := Aside0.mk HM3.out.below; have HGP := Aside0.mk HM3.out.head; replace HR5 := Aside0.mk (Kd.C_below HR5.out HEB.out); clear HM3)
   | (go_at_call 21; refine (thermionkit_NewDice.calls A5 c5 l5 s0 we we (Below.refl _ _) HR5.out HC5.out HND.out).mono ?_; rintro e1 u1 ⟨g, rfl, hI, hB, hb⟩; have HQ := Aside0.mk (((Mem.start we).add hb hI.1 hI.2).drew); have HI := Aside0.mk (And.intro hI hB); clear hI hB hb HND))
  have HCN : Aside0 (C.length ≤ 300) := ⟨by have := HB1.out; simpa using this⟩
  clear HB1
  refine start_ (n := 7) (S := fun w' => w'.cell? ⟨gp, 0, none⟩ = some (.int .i64 W) ∧ w'.cell? ⟨gp, 1, none⟩ = some (.int .i64 H) ∧ w'.cell? ⟨gp, 2, none⟩ = some (.bool R) ∧ w'.cell? ⟨gp, 3, none⟩ = some (.slice A C.length c)) (ds := []) (bS 7 0) (by kernel_rfl) rfl rfl (plan_cells (blk_below HGP.out HQ.out.below)) (fun hHeld => ?_); refine with_tabW inflF.tab4 inflF.bits4 (fun HT_ HW_ => ?_)
  refine pu_ 1 31 (bS 7 2) HT_ ?_
  refine pu_ 3 33 (bS 7 10) HT_ ?_
  refine ta_ 0 30 (bS 7 11) HT_ HW_ hHeld ?_
  refine one_ (i := 2) (N := some 32) (bS 7 15) rfl rfl (one_of HT_.out (by kernel_rfl)) (by decide) (fun K hK => ?_)
  refine goes_ Try.func22 (by kernel_rfl) rfl #[.pointer (some ⟨g, 0, none⟩), .int .i64 7, .int .i64 5] (by rfl) rfl rfl aA ?_
  with_reducible refine (thermionkit_PlanOf.calls g s0 7 5 W' H' R' C' s1 we _ (dice_is HQ.out) HQ.out.below HPL.out).mono ?_
  rintro e1 wq ⟨vp, rfl, hR, hI, hB, hK⟩
  obtain ⟨gC, cC, cuC, rfl, hcC, hnC, hm1⟩ := dice_row HQ.out hK hB hI hR HPOS.out
  have HNC := Aside0.mk (And.intro hnC hcC)
  clear HQ hR hI hB hK hcC hnC
  have HQ := Aside0.mk hm1
  clear hm1
  refine ⟨_, rfl, ?_⟩
  refine hK.out _ _ (plan_cells (blk_below HGP.out HQ.out.below)) (fun hHeld => ?_)
  clear hK K
  refine nm_ ?_
  refine one_ (i := 4) (N := some 34) (bS 7 31) rfl rfl (one_of HT_.out (by kernel_rfl)) (by decide) (fun K hK => ?_)
  refine goes_ Try.func54 (by kernel_rfl) rfl #[.pointer (some ⟨g, 0, none⟩), .int .i64 8, .int .i64 5] (by rfl) rfl rfl aA ?_
  with_reducible refine (thermionkit_Tube.calls KT g s1 8 5 W2 H2 R2 C2 s2 we _ (dice_is HQ.out.swap) HQ.out.below HTU.out).mono ?_
  rintro e1 wq ⟨vp, rfl, hR, hI, hB, hK⟩
  obtain ⟨g2, c2, cu2, rfl, hcC, hnC, hm1⟩ := dice_row HQ.out.swap hK hB hI hR HPOS2.out
  have HN2 := Aside0.mk (And.intro hnC hcC)
  clear HQ hR hI hB hK hcC hnC
  have HQ := Aside0.mk hm1
  clear hm1
  refine ⟨_, rfl, ?_⟩
  refine hK.out _ _ (plan_cells (blk_below HGP.out HQ.out.below)) (fun hHeld => ?_)
  clear hK K
  refine nm_ ?_
  refine one_ (i := 5) (N := some 35) (bS 7 63) rfl rfl (one_of HT_.out (by kernel_rfl)) (by decide) (fun K hK => ?_)
  refine lit_step HQ.out (by rfl) rfl [.int .i64 W, .int .i64 H, .bool R, .slice A C.length c, .int .i64 W', .int .i64 H', .bool R', .slice (some ⟨gC, 0, none⟩) C'.length cC, .int .i64 W2, .int .i64 H2, .bool R2, .slice (some ⟨g2, 0, none⟩) C2.length c2] 3 24 ?hrl (fun gl wq hm1 => ?_)
  case hrl => first | (go_simp; done) | (go_simp; rfl)
  clear HQ
  have HQ := Aside0.mk hm1
  clear hm1
  refine hK.out _ _ (plan_cells (blk_below HGP.out HQ.out.below)) (fun hHeld => ?_)
  clear hK K
  refine nm_ ?_
  refine pu_ 6 14 (bS 7 127) HT_ ?_
  refine done_ (done_of HT_.out (by kernel_rfl)) ?_
  clear hHeld HT_ HW_
  generalize wq = wz at HQ ⊢
  go_wp2_with (first
   | (go_at_call 28; refine (thermionkit_Mod.calls a1 41 n _ HMD.out).mono ?_; rintro e1 y1 ⟨rfl, hb⟩; have HQ2 := Aside0.mk (HQ.out.step hb.below); clear hb HQ HMD; have HQ := HQ2; clear HQ2))
  have HLS : Aside0 (∀ i : Nat, i < 3 → ∃ (Wx Hx : Int) (Rx : Bool) (Ax : Option Addr) (cx : Nat) (Cx : List Int), Kd.C (Kd.int .i64) y1 Ax Cx.length Cx ∧ Cx.length ≤ cx ∧ Cx.length ≤ 300 ∧ y1.cell? ⟨gl, i * 4, none⟩ = some (.int .i64 Wx) ∧ y1.cell? ⟨gl, i * 4 + 1, none⟩ = some (.int .i64 Hx) ∧ y1.cell? ⟨gl, i * 4 + 2, none⟩ = some (.bool Rx) ∧ y1.cell? ⟨gl, i * 4 + 3, none⟩ = some (.slice Ax Cx.length cx)) := ⟨fun i hi => by
   have hc := blk_cell HQ.out.head
   rcases (show i = 0 ∨ i = 1 ∨ i = 2 by omega) with rfl | rfl | rfl
   ·exact ⟨W, H, R, A, c, C, Kd.C_below HR.out (below_step HEB.out HQ.out.below), HC.out, HCN.out, (hc 0).trans rfl, (hc 1).trans rfl, (hc 2).trans rfl, (hc 3).trans rfl⟩
   ·exact ⟨W', H', R', some ⟨gC, 0, none⟩, cC, C', C_mem (HQ.out.blk (gC, cuC, 3) (by simp)) HNC.out.1, HNC.out.2, by have := HSMA.out.1; omega, (hc 4).trans rfl, (hc 5).trans rfl, (hc 6).trans rfl, (hc 7).trans rfl⟩
   ·exact ⟨W2, H2, R2, some ⟨g2, 0, none⟩, c2, C2, C_mem (HQ.out.blk (g2, cu2, 3) (by simp)) HN2.out.1, HN2.out.2, by have := HSMA.out.2; omega, (hc 8).trans rfl, (hc 9).trans rfl, (hc 10).trans rfl, (hc 11).trans rfl⟩⟩
  have HB0 := Aside0.mk (below_step HEB.out HQ.out.below)
  clear HQ HNC HN2 HR HC HCN HSMA HPOS HPOS2 HEB
  go_loopg [1, 2, 3, 4, 16] 3 (fun k v1 v2 v3 v4 v16 w' => ∃ (sw a k0 g0 : Int) (i : Nat), v1 = .int .i64 sw ∧ v2 = .int .i64 a ∧ v3 = .int .i64 k0 ∧ v4 = .int .i64 g0 ∧ v16 = .int .i64 (i : Int) ∧ Aside0 (i + k = 3) ∧ Aside0 (Below y1.heap.size y1 w'))
  case atStart => exact ⟨a1, a2, a3, a4, 0, rfl, rfl, rfl, rfl, by go_num, ⟨by omega⟩, ⟨Below.refl _ _⟩⟩
  case round =>
   obtain ⟨sw, a, k0, g0, i, rfl, rfl, rfl, rfl, rfl, HK, HBW⟩ := hrel
   by_cases hi3 : i < 3
   ·have HI3 := Aside0.mk hi3
    have b1 : decide ((i : Int) < 3) = true := by simp; omega
    have b2 : decide (i < 3) = true := by simp; omega
    have b3 : (0 : Int) ≤ (i : Int) := by omega
    have b4 : (i : Int) < 3 := by omega
    have b5 : wrap64 ((i : Int) + 1) = ((i + 1 : Nat) : Int) := by rw [IntWalk.wrap64_in _ (by omega)]; omega
    obtain ⟨Wx, Hx, Rx, Ax, cx, Cx, hX, hcx, hn3, c0, c1, c2', c3'⟩ := HLS.out i hi3
    have HX := Aside0.mk (Kd.C_below hX HBW.out)
    have HCX := Aside0.mk hcx
    have HNX := Aside0.mk hn3
    have HCL : Aside0 (∀ V, Below y1.heap.size y1 V → V.cell? ⟨gl, i * 4, none⟩ = some (.int .i64 Wx) ∧ V.cell? ⟨gl, i * 4 + 1, none⟩ = some (.int .i64 Hx) ∧ V.cell? ⟨gl, i * 4 + 2, none⟩ = some (.bool Rx) ∧ V.cell? ⟨gl, i * 4 + 3, none⟩ = some (.slice Ax Cx.length cx)) := ⟨fun V hV => ⟨cell_later hV c0, cell_later hV c1, cell_later hV c2', cell_later hV c3'⟩⟩
    have HM0 := Aside0.mk (Mem.start wr)
    clear hX hcx hn3 c0 c1 c2' c3' hi3
    by_cases z0 : 0 < i
    case' neg =>
     have d1 : decide ((i : Int) > 0) = false := by simp; omega
     have d2 : decide (0 < i) = false := by simp; omega
     have d3 : decide ((i : Int) > 1) = false := by simp; omega
     have d4 : decide (1 < i) = false := by simp; omega
     clear z0
     go_upto_region 13 with fail
     clear d1 d2 d3 d4
     obtain ⟨x1, x2, x3, u1, u2, u3, K, hF⟩ := infl_facts Wx Hx Rx Cx sw a k0 g0 HNX.out
     have HF := Aside0.mk hF
     clear hF
    case' pos =>
     have d1 : decide ((i : Int) > 0) = true := by simp; omega
     have d2 : decide (0 < i) = true := by simp; omega
     obtain ⟨m2, hm2, -⟩ := mod_eq a 5 (by omega) (by omega)
     obtain ⟨m3, hm3, -⟩ := mod_eq k0 5 (by omega) (by omega)
     obtain ⟨m4, hm4, -⟩ := mod_eq g0 5 (by omega) (by omega)
     have HM2 := Aside0.mk hm2
     have HM3 := Aside0.mk hm3
     have HM4 := Aside0.mk hm4
     clear hm2 hm3 hm4 z0
     go_upto_region 11 with (first
      | (go_at_call 28; refine (thermionkit_Mod.calls a 5 m2 _ HM2.out).mono ?_; rintro e1 z1 ⟨rfl, hb⟩; clear HM2; have HX2 := Aside0.mk (HM0.out.step hb.below); clear hb HM0; have HM0 := HX2; clear HX2)
      | (go_at_call 28; refine (thermionkit_Mod.calls k0 5 m3 _ HM3.out).mono ?_; rintro e1 z2 ⟨rfl, hb⟩; clear HM3; have HX2 := Aside0.mk (HM0.out.step hb.below); clear hb HM0; have HM0 := HX2; clear HX2)
      | (go_at_call 28; refine (thermionkit_Mod.calls g0 5 m4 _ HM4.out).mono ?_; rintro e1 z3 ⟨rfl, hb⟩; clear HM4; have HX2 := Aside0.mk (HM0.out.step hb.below); clear hb HM0; have HM0 := HX2; clear HX2))
     clear d1 d2
     have d5 : decide ((i : Int) > 1) = decide (1 < i) := by
      by_cases z2 : 1 < i
      ·rw [decide_eq_true z2]; simp; omega
      ·rw [decide_eq_false z2]; simp; omega
     obtain ⟨q, d6⟩ : ∃ q : Int, (n : Int) % 4 = q := ⟨_, rfl⟩
     have d7 : IntKind.i64.wrap (Int.tmod (n : Int) 4) = q := by
      rw [Int.tmod_eq_emod_of_nonneg (by omega), d6]
      exact IntWalk.i64_in _ (by omega)
     by_cases z1 : 1 < i
     case' neg =>
      have d8 : decide ((i : Int) > 1) = false := by rw [d5]; simpa using z1
      have d9 : decide (1 < i) = false := by simpa using z1
      clear z1 d5 d6 d7
      go_upto_region 13 with fail
      clear d8 d9
      obtain ⟨x1, x2, x3, u1, u2, u3, K, hF⟩ := infl_facts Wx Hx Rx Cx (n : Int) (m2 : Int) (m3 : Int) (m4 : Int) HNX.out
      have HF := Aside0.mk hF
      clear hF
     case' pos =>
      have d8 : decide ((i : Int) > 1) = true := by rw [d5]; simpa using z1
      have d9 : decide (1 < i) = true := by simpa using z1
      clear z1 d5
      by_cases z2 : 0 < q
      case' neg =>
       have d10 := decide_eq_false z2
       have d11 := decide_eq_false z2
       clear z2
       go_upto_region 13 with fail
       clear d6 d7 d8 d9 d10 d11
       obtain ⟨x1, x2, x3, u1, u2, u3, K, hF⟩ := infl_facts Wx Hx Rx Cx (n : Int) (m2 : Int) (m3 : Int) (m4 : Int) HNX.out
       have HF := Aside0.mk hF
       clear hF
      case' pos =>
       have d10 := decide_eq_true z2
       have d11 := decide_eq_true z2
       clear z2
       go_upto_region 13 with fail
       clear d6 d7 d8 d9 d10 d11
       obtain ⟨x1, x2, x3, u1, u2, u3, K, hF⟩ := infl_facts Wx Hx Rx Cx (n : Int) 3 1 2 HNX.out
       have HF := Aside0.mk hF
       clear hF
    all_goals
     obtain ⟨c0, c1, c2', c3'⟩ := HCL.out _ (below_step HBW.out HM0.out.below)
     go_wp2_with (first
      | (go_at_call 52; (with_reducible refine (field_Influence.calls K Wx Hx Rx Ax cx Cx _ _ _ x1 x2 x3 _ (Kd.C_below HX.out HM0.out.below) HCX.out HF.out.i1).mono ?_); rintro e1 w1 ⟨rfl, hb⟩; have HM1 := Aside0.mk (HM0.out.step hb); clear hb HM0 c0 c1 c2' c3')
      | ((with_reducible refine gate_dst (N := 17) rfl ?_); refine ev_new HM1.out rfl 42 rfl info42 ?_; intro r1 w2 hm1 hq1; have HM2 := Aside0.mk hm1; clear hm1 hq1 HM1)
      | ((with_reducible refine gate_store (t := 42) (p := 17) rfl ?_); refine ev_store HM2.out rfl 42 (.tmp 17) (.tmp 69) rfl rfl (cs := #[.int .i64 x1, .int .i64 x2]) rfl size42 rfl rfl (by simp [Value.oneCell']) ?_; intro w3 hm1 hq1; have HM3 := Aside0.mk hm1; clear hm1 hq1 HM2; obtain ⟨c0, c1, c2', c3'⟩ := HCL.out w3 (below_step HBW.out HM3.out.below))
      | (go_at_call 55; (with_reducible refine (thermionref01_Influence.calls K Wx Hx Rx Ax cx Cx _ _ _ x1 x2 x3 _ (Kd.C_below HX.out HM3.out.below) HCX.out HF.out.i2).mono ?_); rintro e4 w4 ⟨rfl, hb⟩; have HM4 := Aside0.mk (HM3.out.step hb); clear hb HM3 c0 c1 c2' c3')
      | ((with_reducible refine gate_dst (N := 19) rfl ?_); refine ev_new HM4.out rfl 42 rfl info42 ?_; intro r2 w5 hm1 hq1; have HM5 := Aside0.mk hm1; clear hm1 hq1 HM4)
      | ((with_reducible refine gate_store (t := 42) (p := 19) rfl ?_); refine ev_store HM5.out rfl 42 (.tmp 19) (.tmp 80) rfl rfl (cs := #[.int .i64 x1, .int .i64 x2]) rfl size42 rfl rfl (by simp [Value.oneCell']) ?_; intro w6 hm1 hq1; have HM6 := Aside0.mk hm1; clear hm1 hq1 HM5; obtain ⟨c0, c1, c2', c3'⟩ := HCL.out w6 (below_step HBW.out HM6.out.below))
      | (go_at_call 56; (with_reducible refine (field_Amplification.calls K Wx Hx Rx Ax cx Cx _ _ _ _ u1 u2 u3 _ (Kd.C_below HX.out HM6.out.below) HCX.out HF.out.a1).mono ?_); rintro e7 w7 ⟨rfl, hb⟩; have HM7 := Aside0.mk (HM6.out.step hb); clear hb HM6 c0 c1 c2' c3')
      | ((with_reducible refine gate_dst (N := 21) rfl ?_); refine ev_new HM7.out rfl 42 rfl info42 ?_; intro r3 w8 hm1 hq1; have HM8 := Aside0.mk hm1; clear hm1 hq1 HM7)
      | ((with_reducible refine gate_store (t := 42) (p := 21) rfl ?_); refine ev_store HM8.out rfl 42 (.tmp 21) (.tmp 92) rfl rfl (cs := #[.int .i64 u1, .int .i64 u2]) rfl size42 rfl rfl (by simp [Value.oneCell']) ?_; intro w9 hm1 hq1; have HM9 := Aside0.mk hm1; clear hm1 hq1 HM8; obtain ⟨c0, c1, c2', c3'⟩ := HCL.out w9 (below_step HBW.out HM9.out.below))
      | (go_at_call 57; (with_reducible refine (thermionref01_Amplification.calls K Wx Hx Rx Ax cx Cx _ _ _ _ u1 u2 u3 _ (Kd.C_below HX.out HM9.out.below) HCX.out HF.out.a2).mono ?_); rintro e10 w10 ⟨rfl, hb⟩; have HM10 := Aside0.mk (HM9.out.step hb); clear hb HM9 c0 c1 c2' c3')
      | ((with_reducible refine gate_dst (N := 23) rfl ?_); refine ev_new HM10.out rfl 42 rfl info42 ?_; intro r4 w11 hm1 hq1; have HM11 := Aside0.mk hm1; clear hm1 hq1 HM10)
      | ((with_reducible refine gate_store (t := 42) (p := 23) rfl ?_); refine ev_store HM11.out rfl 42 (.tmp 23) (.tmp 104) rfl rfl (cs := #[.int .i64 u1, .int .i64 u2]) rfl size42 rfl rfl (by simp [Value.oneCell']) ?_; intro w12 hm1 hq1; have HM12 := Aside0.mk hm1; clear hm1 hq1 HM11)
      | ((with_reducible refine gate_dst (N := 106) rfl ?_); refine ev_load (HM12.out.blk4) rfl 42 (.tmp 17) rfl rfl _ Try.underlying42 rfl size42 rfl ?_)
      | ((with_reducible refine gate_dst (N := 107) rfl ?_); refine ev_load (HM12.out.third) rfl 42 (.tmp 19) rfl rfl _ Try.underlying42 rfl size42 rfl ?_)
      | ((with_reducible refine gate_dst (N := 115) rfl ?_); (try (refine gate_guard (by rfl) ?_; dsimp only)); refine ev_load (HM12.out.second) rfl 42 (.tmp 21) rfl rfl _ Try.underlying42 rfl size42 rfl ?_)
      | ((with_reducible refine gate_dst (N := 116) rfl ?_); (try (refine gate_guard (by rfl) ?_; dsimp only)); refine ev_load (HM12.out.head) rfl 42 (.tmp 23) rfl rfl _ Try.underlying42 rfl size42 rfl ?_))
     go_roundg (3 - (i + 1))
     case measure => have := HK.out; have := HI3.out; omega
     case rel => exact ⟨_, _, _, _, i + 1, rfl, rfl, rfl, rfl, by first | exact congrArg _ b5 | go_num, ⟨by have := HK.out; have := HI3.out; omega⟩, ⟨below_step HBW.out HM12.out.below⟩⟩
   ·obtain rfl : i = 3 := by have := HK.out; omega
    have b1 : decide (((3 : Nat) : Int) < 3) = false := by simp
    go_wp2_with (first
     | (go_at_call 20; refine (thermionlaw01_awake.calls 10 true _ HAW.out).mono ?_; rintro e1 wE ⟨rfl, hb⟩; have HE := Aside0.mk (below_step HB0.out (below_step HBW.out hb)); clear hb))
    go_ret
    exact ⟨rfl, HE.out⟩
end Go.Proofs.Ytndkkjpgnmahbaa.Print
end

section
namespace Go.Proofs.YtndkkjpgnmahbaaW.PrintWords
open Go.ChangeShapes Go.WideShapes
end Go.Proofs.YtndkkjpgnmahbaaW.PrintWords
end

section
namespace Go.Proofs.Ytndkkjpgnmahbaa.Print
open Go.RowKit Go.Proofs.YtndkkjpgnmahbaaW.PrintWords Go.Proofs.YtndkkjpgnmahbaaW.PrintLast Go.Proofs.YtndkkjpgnmahbaaW.PrintMore
set_option linter.unusedVariables false
set_option linter.unusedSimpArgs false
def Word64 (x : Int) : Prop := (Lit.int .i64 x).wf = true
theorem Word64.range {x : Int} (h : Word64 x) : -9223372036854775808 ≤ x ∧ x ≤ 9223372036854775807 := by
 unfold Word64 at h
 simp only [Lit.wf, Bool.and_eq_true, decide_eq_true_eq] at h
 have e1 : IntKind.min .i64 = -9223372036854775808 := by decide
 have e2 : IntKind.max .i64 = 9223372036854775807 := by decide
 omega
section
variable {H : Type} {enc : TypeId × Value → H} {W : World} {base : Nat} {sp : Nat → Bool} {held : Bool} {n : Nat} {cs : List Value} {x : DataW H × List MemPlace}
theorem trod_int3 (h : DataW.trod enc Try.prog W base sp held n 3 cs = some x) : ∃ y, cs = [.int .i64 y] ∧ Word64 y := by
 obtain ⟨y, rfl, _, hw⟩ := DataW.trod_int Try.underlying3 h
 exact ⟨y, rfl, hw⟩
theorem trod_bool4 (h : DataW.trod enc Try.prog W base sp held n 4 cs = some x) : ∃ y, cs = [.bool y] := by
 obtain ⟨y, rfl, _⟩ := DataW.trod_bool Try.underlying4 h
 exact ⟨y, rfl⟩
theorem pick_list {α : Type} (m : Nat) (P : Nat → α → Prop) (h : ∀ i, i < m → ∃ y, P i y) : ∃ xs : List α, xs.length = m ∧ ∀ i (hi : i < xs.length), P i xs[i] := by
 induction m with
 | zero => exact ⟨[], rfl, fun i hi => absurd hi (by simp)⟩
 | succ m ih =>
  obtain ⟨xs, hl, hx⟩ := ih (fun i hi => h i (by omega))
  obtain ⟨y, hy⟩ := h m (by omega)
  refine ⟨xs ++ [y], by simp [hl], fun i hi => ?_⟩
  by_cases q : i < xs.length
  ·rw [List.getElem_append_left q]
   exact hx i q
  ·have : i = m := by rw [List.length_append, List.length_singleton] at hi; omega
   subst this
   rw [List.getElem_append_right (by omega)]
   simpa [hl] using hy
theorem trod_list {α : Type} {d : Kd α} {t e : TypeId} {Wf : α → Prop} (ht : Try.prog.underlying t = some (.slice e)) (hsz : Try.prog.cellsOf e = d.sz) (hopen : ∀ n cs x, DataW.trod enc Try.prog W base sp held n e cs = some x → ∃ y, d.K W y cs ∧ Wf y)
  (h : DataW.trod enc Try.prog W base sp held n t cs = some x) : ∃ (A : Option Addr) (xs : List α) (c : Nat), cs = [.slice A xs.length c] ∧ xs.length ≤ c ∧ c ≤ maxLen ∧ d.C W A xs.length xs ∧ ∀ y, y ∈ xs → Wf y := by
 rcases DataW.trod_slice ht h with ⟨rfl, _⟩ | ⟨a, len, cap, elems, rest, m, _, rfl, _, hb, hl, hm, hlen, hel, _, _⟩
 ·exact ⟨none, [], 0, rfl, by simp, by simp, ⟨rfl, by simp, fun h => absurd h (by simp)⟩, fun y hy => by cases hy⟩
 ·have each : ∀ i, i < len → ∃ y, (∃ ci, ci.length = d.sz ∧ d.K W y ci ∧ ∀ j u, ci[j]? = some u → W.cell? (a.add (i * d.sz + j)) = some u) ∧ Wf y := by
   intro i hi
   have h1 := hel i hi
   rw [List.getElem?_eq_getElem (by omega), Option.bind_eq_some_iff] at h1
   obtain ⟨ci, hci, htr⟩ := h1
   obtain ⟨y, hK, hW⟩ := hopen _ _ _ htr
   obtain ⟨_, hcl, hcc⟩ := World.cells?_some hci
   rw [hsz] at hcl hcc
   refine ⟨y, ⟨ci, hcl, hK, fun j u hu => ?_⟩, hW⟩
   have hj : j < d.sz := by
    have := (List.getElem?_eq_some_iff.1 hu).1
    omega
   have := hcc j hj
   rw [hu] at this
   rw [← this, add_add]
  obtain ⟨xs, hxl, hxs⟩ := pick_list len _ each
  refine ⟨some a, xs, cap, by rw [hxl], by omega, hm, ⟨rfl, ?_, fun _ => ⟨a, rfl, fun j p hj => ?_⟩⟩, fun y hy => ?_⟩
  ·have : maxLen ≤ 9223372036854775807 := by unfold maxLen; omega
   omega
  ·obtain ⟨hj1, hj2⟩ := List.getElem?_eq_some_iff.1 hj
   have := (hxs j hj1).1
   rw [hj2] at this
   exact this
  ·obtain ⟨i, hi, rfl⟩ := List.mem_iff_getElem.1 hy
   exact (hxs i hi).2
theorem cells3 : Try.prog.cellsOf 3 = 1 := by kernel_rfl
theorem cells4 : Try.prog.cellsOf 4 = 1 := by kernel_rfl
theorem cells22 : Try.prog.cellsOf 22 = 1 := by kernel_rfl
theorem cells24 : Try.prog.cellsOf 24 = 4 := by kernel_rfl
theorem trod_field {t : TypeId} {fs : Array Field} (ht : Try.prog.underlying t = some (.struct fs)) (h : DataW.trod enc Try.prog W base sp held n t cs = some x) :
  cs.length = Try.prog.cellsOf t ∧ ∀ (i : Nat) (f : Field), fs[i]? = some f → ∃ m y, DataW.trod enc Try.prog W base sp held m f.type ((cs.drop f.offset).take (Try.prog.cellsOf f.type)) = some y := by
 obtain ⟨xs, m, _, _, hl, hlen, hf⟩ := DataW.trod_struct ht h
 refine ⟨hl, fun i f hi => ?_⟩
 have h1 := hf i f hi
 have hix : i < xs.length := by
  have := (Array.getElem?_eq_some_iff.1 hi).1
  omega
 rw [List.getElem?_eq_getElem hix] at h1
 exact ⟨m, _, h1⟩
theorem trod_at {t : TypeId} {fs : Array Field} (ht : Try.prog.underlying t = some (.struct fs)) (h : DataW.trod enc Try.prog W base sp held n t cs = some x) (i : Nat) (ty off k : Nat) {f : Field} (hi : fs[i]? = some f) (h1 : f.type = ty) (h2 : f.offset = off) (h3 : Try.prog.cellsOf ty = k) :
  ∃ m y, DataW.trod enc Try.prog W base sp held m ty ((cs.drop off).take k) = some y := by
 obtain ⟨m, y, e⟩ := (trod_field ht h).2 i f hi
 rw [h1, h2, h3] at e
 exact ⟨m, y, e⟩
theorem trod_ints (h : DataW.trod enc Try.prog W base sp held n 22 cs = some x) : ∃ (A : Option Addr) (xs : List Int) (c : Nat), cs = [.slice A xs.length c] ∧ xs.length ≤ c ∧ c ≤ maxLen ∧ (Kd.int .i64).C W A xs.length xs ∧ ∀ y, y ∈ xs → Word64 y :=
 trod_list (d := Kd.int .i64) Try.underlying22 cells3 (fun _ _ _ h => by
  obtain ⟨y, rfl, hw⟩ := trod_int3 h
  exact ⟨y, rfl, hw⟩) h
theorem trod_plan (h : DataW.trod enc Try.prog W base sp held n 24 cs = some x) : ∃ (Wd Hd : Int) (R : Bool) (A : Option Addr) (L : List Int) (c : Nat), cs = [.int .i64 Wd, .int .i64 Hd, .bool R, .slice A L.length c] ∧ Word64 Wd ∧ Word64 Hd ∧ L.length ≤ c ∧ c ≤ maxLen ∧ (Kd.int .i64).C W A L.length L ∧ ∀ y, y ∈ L → Word64 y := by
 have hl := (trod_field Try.underlying24 h).1
 rw [cells24] at hl
 obtain ⟨m0, y0, h0⟩ := trod_at Try.underlying24 h 0 3 0 _ rfl rfl rfl cells3
 obtain ⟨m1, y1, h1⟩ := trod_at Try.underlying24 h 1 3 1 _ rfl rfl rfl cells3
 obtain ⟨m2, y2, h2⟩ := trod_at Try.underlying24 h 2 4 2 _ rfl rfl rfl cells4
 obtain ⟨m3, y3, h3⟩ := trod_at Try.underlying24 h 3 22 3 _ rfl rfl rfl cells22
 obtain ⟨a, e0, w0⟩ := trod_int3 h0
 obtain ⟨b, e1, w1⟩ := trod_int3 h1
 obtain ⟨r, e2⟩ := trod_bool4 h2
 obtain ⟨A, L, c, e3, hc, hm, hC, hw⟩ := trod_ints h3
 match cs, hl with
 | [c0, c1, c2, c3], _ =>
  simp at e0 e1 e2 e3
  subst e0
  subst e1
  subst e2
  subst e3
  exact ⟨a, b, r, A, L, c, rfl, w0, w1, hc, hm, hC, hw⟩
end
end Go.Proofs.Ytndkkjpgnmahbaa.Print
end
