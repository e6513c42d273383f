/- Part 7 of the texts of a claim about Ytndkkjpgnmahbaa, put together by a program of this work: what the Go functions do, and that their calls do so. -/
import Derived.Test.YtndkkjpgnmahbaaFG6
import Derived.Test.YtndkkjpgnmahbaaFG5
import Derived.Test.YtndkkjpgnmahbaaFG4
import Derived.Test.YtndkkjpgnmahbaaFG2
import Derived.SizedLaws
import Derived.ChangeSlices
import Derived.WalkKit
import Derived.ProofKit
import Derived.OpenShut
import Derived.ChangeOld
section
namespace Go.Proofs.Ytndkkjpgnmahbaa.Print
open Go.RowKit Go.Proofs.YtndkkjpgnmahbaaW.PrintWords Go.Proofs.YtndkkjpgnmahbaaW.PrintLast Go.Proofs.YtndkkjpgnmahbaaW.PrintMore Go.Proofs.Field
set_option linter.unusedVariables false
theorem refhas_go (W H : Int) (R : Bool) (C : List Int) (e : Int) (hl : C.length ≤ 1000000) : ∀ (d i : Nat), i + d = C.length → Ev (fun k => thermionref01_has.l0 k e (i : Int) W H R C) (decide (0 < e) && (C.drop i).contains e)
 | 0, i, h => by
  rw [List.drop_eq_nil_of_le (by omega)]
  exact Ev.now (fun k => by rw [thermionref01_has.l0, if_neg (by omega)]; simp)
 | d + 1, i, h => by
  have hi : i < C.length := by omega
  have hw : wrap64 ((i : Int) + 1) = ((i + 1 : Nat) : Int) := by rw [IntWalk.wrap64_in _ (by omega)]; omega
  rw [List.drop_eq_getElem_cons hi, List.contains_cons]
  by_cases q : e > 0
  ·by_cases z : C[i] = e
   ·rw [show (e == C[i]) = true by simp [z], Bool.true_or, Bool.and_true, decide_eq_true q]
    exact Ev.now (fun k => by rw [thermionref01_has.l0, if_pos (by omega), if_pos q, if_pos (by omega), rd_at C i hi, if_pos z])
   ·rw [show (e == C[i]) = false by simp [Ne.symm z], Bool.false_or]
    refine (refhas_go W H R C e hl d (i + 1) (by omega)).step 0 (fun k _ => ?_)
    show thermionref01_has.l0 (k + 1) _ _ _ _ _ _ = _
    rw [thermionref01_has.l0, if_pos (by omega), if_pos q, if_pos (by omega), rd_at C i hi, if_neg z, hw]
  ·have ih := refhas_go W H R C e hl d (i + 1) (by omega)
   rw [show decide (0 < e) = false from decide_eq_false q, Bool.false_and] at ih ⊢
   refine ih.step 0 (fun k _ => ?_)
   show thermionref01_has.l0 (k + 1) _ _ _ _ _ _ = _
   rw [thermionref01_has.l0, if_pos (by omega), if_neg q, hw]
section
variable {W H : Nat} {R : Bool} {C v lo hi : List Int} {e u : Int} {i : Nat}
def chG (C : List Int) (e u : Int) (b : List Int) (k : Nat) : Int := if fn C k = e then 0 else u - fn b k
theorem chG_bound {b : List Int} {k : Nat} (hu : -1000000 ≤ u ∧ u ≤ 1000000) (hb : -1000000 ≤ fn b k ∧ fn b k ≤ 1000000) : -2000000 ≤ chG C e u b k ∧ chG C e u b k ≤ 2000000 := by
 unfold chG
 split <;> omega
theorem mul_64 {x y : Int} (h1 : 0 ≤ x) (h2 : x ≤ 32) (h3 : -2000000 ≤ y) (h4 : y ≤ 2000000) : -64000000 ≤ x * y ∧ x * y ≤ 64000000 := by
 have a1 := Int.mul_le_mul_of_nonneg_left h4 h1
 have a2 := Int.mul_le_mul_of_nonneg_left h3 h1
 omega
theorem charge_l1 (hW : 1 ≤ W ∧ W ≤ 16) (hH : 1 ≤ H ∧ H ≤ 16) (hC : C.length = W * H) (hi' : i < W * H) (hlo : lo.length = C.length) (hhi : hi.length = C.length) (he : 1 ≤ e ∧ e ≤ (v.length : Int) ∧ e ≤ 6) (hu : fn v (e.toNat - 1) = u) (hub : -1000000 ≤ u ∧ u ≤ 1000000)
  (hr : ∀ j, j < W * H → (-1000000 ≤ fn lo j ∧ fn lo j ≤ 1000000) ∧ (-1000000 ≤ fn hi j ∧ fn hi j ≤ 1000000)) {l : List Int} (hl : l.length ≤ 4) (hm : ∀ c, c ∈ l → 0 ≤ c ∧ c < ((W * H : Nat) : Int)) (z1 : Int) (z2 : Bool) {r : Int × Int} :
  ∀ (d j : Nat) (x y : Int), j + d = l.length → (-1000000000000 - 64000000 * (j : Int) ≤ x ∧ x ≤ 1000000000000 + 64000000 * (j : Int)) → (-1000000000000 - 64000000 * (j : Int) ≤ y ∧ y ≤ 1000000000000 + 64000000 * (j : Int)) →
  Ev (fun k => thermionref01_charge.l0 k v e (wrap64 ((i : Int) + 1)) W H R C lo hi z1 z2 (x + ((l.drop j).map (fun c => wtR W H R i c * chG C e u hi c.toNat)).sum) (y + ((l.drop j).map (fun c => wtR W H R i c * chG C e u lo c.toNat)).sum)) r →
  Ev (fun k => thermionref01_charge.l1 k v e (i : Int) l (j : Int) W H R C lo hi z1 z2 x y) r
 | 0, j, x, y, h, hx, hy, hE => by
  rw [List.drop_eq_nil_of_le (by omega)] at hE
  simp only [List.map_nil, List.sum_nil, Int.add_zero] at hE
  refine hE.step 0 (fun k _ => ?_)
  show thermionref01_charge.l1 (k + 1) _ _ _ _ _ _ _ _ _ _ _ _ _ _ _ = _
  rw [thermionref01_charge.l1, if_neg (by omega)]
 | d + 1, j, x, y, h, hx, hy, hE => by
  have hj : j < l.length := by omega
  have hj4 : j ≤ 4 := by omega
  have cj1 : (j : Int) < (l.length : Int) := by omega
  have cj2 : (0 : Int) ≤ (j : Int) := by omega
  have hw : wrap64 ((j : Int) + 1) = ((j + 1 : Nat) : Int) := by rw [IntWalk.wrap64_in _ (by clear hx hy hE; omega)]; clear hx hy hE; omega
  obtain ⟨c0, c1⟩ := hm l[j] (List.getElem_mem hj)
  have cC : l[j] < (C.length : Int) := by rw [hC]; exact c1
  have cl : l[j] < (lo.length : Int) := by rw [hlo]; exact cC
  have ch : l[j] < (hi.length : Int) := by rw [hhi]; exact cC
  have hrr := hr l[j].toNat (by clear hx hy hE; omega)
  have ce1 : 0 ≤ e - 1 := by have := he.1; clear hx hy hE hrr; omega
  have ce2 : e - 1 < (v.length : Int) := by have := he.2.1; clear hx hy hE hrr; omega
  have hwe : wrap64 (e - 1) = e - 1 := IntWalk.wrap64_in _ (by have := he.2.2; have := he.1; clear hx hy hE hrr; omega)
  have e4 : rd v (e - 1) = u := by rw [← hu]; unfold rd fn; congr 1; clear hx hy hE hrr; omega
  have g1 := chG_bound (C := C) (e := e) hub hrr.1
  have g2 := chG_bound (C := C) (e := e) hub hrr.2
  have w0 := wtR_nonneg W H R i l[j]
  have w1 := wtR_le (H := H) (R := R) (i := i) hW.2 l[j]
  have m1 := mul_64 w0 w1 g1.1 g1.2
  have m2 := mul_64 w0 w1 g2.1 g2.2
  rw [List.drop_eq_getElem_cons hj, List.map_cons, List.map_cons, List.sum_cons, List.sum_cons, ← Int.add_assoc, ← Int.add_assoc] at hE
  obtain ⟨P1, hP1⟩ : ∃ P, wtR W H R i l[j] * chG C e u hi l[j].toNat = P := ⟨_, rfl⟩
  obtain ⟨P2, hP2⟩ : ∃ P, wtR W H R i l[j] * chG C e u lo l[j].toNat = P := ⟨_, rfl⟩
  rw [hP1] at m2 hE
  rw [hP2] at m1 hE
  have hh : (j + 1) + d = l.length := by omega
  obtain ⟨x', hx'⟩ : ∃ z, x + P1 = z := ⟨_, rfl⟩
  obtain ⟨y', hy'⟩ : ∃ z, y + P2 = z := ⟨_, rfl⟩
  rw [hx', hy'] at hE
  have bx : -1000000000000 - 64000000 * ((j + 1 : Nat) : Int) ≤ x' ∧ x' ≤ 1000000000000 + 64000000 * ((j + 1 : Nat) : Int) := by clear hE hrr g1 g2 w0 w1 hP1 hP2 hw hwe e4 hy' hy; omega
  have by' : -1000000000000 - 64000000 * ((j + 1 : Nat) : Int) ≤ y' ∧ y' ≤ 1000000000000 + 64000000 * ((j + 1 : Nat) : Int) := by clear hE hrr g1 g2 w0 w1 hP1 hP2 hw hwe e4 hx' hx bx; omega
  have ih := charge_l1 hW hH hC hi' hlo hhi he hu hub hr hl hm z1 z2 d (j + 1) x' y' hh bx by' hE
  have vx : wrap64 (x + P1) = x' := by rw [hx']; exact IntWalk.wrap64_in _ (by clear hE ih hrr g1 g2 w0 w1 hP1 hP2 hw hwe e4 hy' hy hx' hx by'; omega)
  have vy : wrap64 (y + P2) = y' := by rw [hy']; exact IntWalk.wrap64_in _ (by clear hE ih hrr g1 g2 w0 w1 hP1 hP2 hw hwe e4 hy' hy hx' hx bx vx; omega)
  have p1 : wrap64 P1 = P1 := IntWalk.wrap64_in _ (by clear hE ih hrr g1 g2 w0 w1 hP1 hP2 hw hwe e4 hy' hy hx' hx bx by' vx vy; omega)
  have p2 : wrap64 P2 = P2 := IntWalk.wrap64_in _ (by clear hE ih hrr g1 g2 w0 w1 hP1 hP2 hw hwe e4 hy' hy hx' hx bx by' vx vy p1; omega)
  have q12 : wrap64 (u - fn hi l[j].toNat) = u - fn hi l[j].toNat ∧ wrap64 (u - fn lo l[j].toNat) = u - fn lo l[j].toNat := by
   clear hE ih g1 g2 w0 w1 hP1 hP2 hw hwe e4 hy' hy hx' hx bx by' vx vy p1 p2 m1 m2
   generalize fn hi l[j].toNat = a at hrr ⊢
   generalize fn lo l[j].toNat = b at hrr ⊢
   exact ⟨IntWalk.wrap64_in _ (by omega), IntWalk.wrap64_in _ (by omega)⟩
  clear bx by' m1 m2 g1 g2 w0 w1 hE hx hy hrr
  refine ih.step 2 (fun k hk => ?_)
  obtain ⟨k, rfl⟩ : ∃ k', k = k' + 2 := ⟨k - 2, (Nat.sub_add_cancel hk).symm⟩
  show thermionref01_charge.l1 (k + 2 + 1) _ _ _ _ _ _ _ _ _ _ _ _ _ _ _ = _
  have e1 : rd C l[j] = fn C l[j].toNat := rfl
  have e2 : rd hi l[j] = fn hi l[j].toNat := rfl
  have e3 : rd lo l[j] = fn lo l[j].toNat := rfl
  rw [thermionref01_charge.l1, if_pos cj1, if_pos cj2, rd_at l j hj, if_pos c0, if_pos cC, e1, hw]
  by_cases q : fn C l[j].toNat = e
  ·have q1 : P1 = 0 := by rw [← hP1]; unfold chG; rw [if_pos q, Int.mul_zero]
   have q2 : P2 = 0 := by rw [← hP2]; unfold chG; rw [if_pos q, Int.mul_zero]
   rw [if_pos q, ← hx', ← hy', q1, q2, Int.add_zero, Int.add_zero]
  ·have q1 : wtR W H R i l[j] * (u - fn hi l[j].toNat) = P1 := by rw [← hP1]; unfold chG; rw [if_neg q]
   have q2 : wtR W H R i l[j] * (u - fn lo l[j].toNat) = P2 := by rw [← hP2]; unfold chG; rw [if_neg q]
   rw [if_neg q, obnd (weight_eq hW hH R C hi' l[j] k), hwe, if_pos ce1, if_pos ce2, if_pos ch, obnd (weight_eq hW hH R C hi' l[j] k), if_pos cl, e2, e3, e4, q12.1, q12.2, q1, q2, p1, p2, vx, vy]
theorem charge_l0 (hW : 1 ≤ W ∧ W ≤ 16) (hH : 1 ≤ H ∧ H ≤ 16) (hC : C.length = W * H) (hlo : lo.length = C.length) (hhi : hi.length = C.length) (he : 1 ≤ e ∧ e ≤ (v.length : Int) ∧ e ≤ 6) (hu : fn v (e.toNat - 1) = u) (hub : -1000000 ≤ u ∧ u ≤ 1000000)
  (hr : ∀ j, j < W * H → (-1000000 ≤ fn lo j ∧ fn lo j ≤ 1000000) ∧ (-1000000 ≤ fn hi j ∧ fn hi j ≤ 1000000)) (z1 : Int) (z2 : Bool) :
  ∀ (d i : Nat), i + d = C.length → Ev (fun k => thermionref01_charge.l0 k v e (i : Int) W H R C lo hi z1 z2 (chTo W H R C e u hi i) (chTo W H R C e u lo i)) (chTo W H R C e u hi C.length, chTo W H R C e u lo C.length)
 | 0, i, h => by
  obtain rfl : i = C.length := by omega
  exact Ev.now (fun k => by rw [thermionref01_charge.l0, if_neg (Int.lt_irrefl _)])
 | d + 1, i, h => by
  have hWH : W * H ≤ 256 := Nat.mul_le_mul hW.2 hH.2
  have hil : i < W * H := by clear hr hu; omega
  have ci1 : (i : Int) < (C.length : Int) := by clear hr hu; omega
  have ci2 : (0 : Int) ≤ (i : Int) := by clear hr hu; omega
  have hiw : i ≤ W * H := by clear hr hu; omega
  have hi256 : i ≤ 256 := by clear hr hu; omega
  have hd : (i + 1) + d = C.length := by clear hr hu; omega
  have hw : wrap64 ((i : Int) + 1) = ((i + 1 : Nat) : Int) := by rw [IntWalk.wrap64_in _ (by omega)]; omega
  have e1 : rd C (i : Int) = fn C i := rfl
  have ih := charge_l0 hW hH hC hlo hhi he hu hub hr z1 z2 d (i + 1) hd
  have b1 := chTo_bound (R := R) (C := C) (e := e) (u := u) (b := hi) hub hW.2 (fun j hj => (hr j hj).2) i hiw
  have b2 := chTo_bound (R := R) (C := C) (e := e) (u := u) (b := lo) hub hW.2 (fun j hj => (hr j hj).1) i hiw
  by_cases q : fn C i = e
  ·have s1 : chTo W H R C e u hi (i + 1) = chTo W H R C e u hi i + ((aroundL W H R i).map (fun c => wtR W H R i c * chG C e u hi c.toNat)).sum := by
    rw [chTo, if_pos q, chSum_under, around_under hil]; rfl
   have s2 : chTo W H R C e u lo (i + 1) = chTo W H R C e u lo i + ((aroundL W H R i).map (fun c => wtR W H R i c * chG C e u lo c.toNat)).sum := by
    rw [chTo, if_pos q, chSum_under, around_under hil]; rfl
   have hlen := around_len (W := W) (H := H) (R := R) (i := i)
   have h1 := charge_l1 (R := R) hW hH hC hil hlo hhi he hu hub hr hlen (fun c hc => (around_mem hc).2) z1 z2 (aroundL W H R i).length 0 (chTo W H R C e u hi i) (chTo W H R C e u lo i) (Nat.zero_add _) (by generalize chTo W H R C e u hi i = a at b1 ⊢; clear b2 ih s1 s2 hw e1 hu hr; omega) (by generalize chTo W H R C e u lo i = a at b2 ⊢; clear b1 ih s1 s2 hw e1 hu hr; omega) (by rw [List.drop_zero, ← s1, ← s2, hw]; exact ih)
   refine h1.step 8 (fun k hk => ?_)
   obtain ⟨k, rfl⟩ : ∃ k', k = k' + 8 := ⟨k - 8, (Nat.sub_add_cancel hk).symm⟩
   show thermionref01_charge.l0 (k + 8 + 1) _ _ _ _ _ _ _ _ _ _ _ _ _ = _
   rw [thermionref01_charge.l0, if_pos ci1, if_pos ci2, e1, if_pos q, obnd (around_eq hW hH hil k)]
   rfl
  ·have s1 : chTo W H R C e u hi (i + 1) = chTo W H R C e u hi i := by rw [chTo, if_neg q, Int.add_zero]
   have s2 : chTo W H R C e u lo (i + 1) = chTo W H R C e u lo i := by rw [chTo, if_neg q, Int.add_zero]
   rw [s1, s2] at ih
   refine ih.step 0 (fun k _ => ?_)
   show thermionref01_charge.l0 (k + 1) _ _ _ _ _ _ _ _ _ _ _ _ _ = _
   rw [thermionref01_charge.l0, if_pos ci1, if_pos ci2, e1, if_neg q, hw]
end
theorem refcharge_eq {W H : Int} {R : Bool} {C v : List Int} {n e : Int} {r : Int × Int × Int} (h : field_Charge.f W H R C v n e = some r) : Ev (fun k => thermionref01_Charge.f k W H R C v n e) r := by
 unfold field_Charge.f at h
 unfold thermionref01_Charge.f thermionref01_Solve.f
 by_cases g0 : voltErr W H R C v ≠ 0
 ·have hs : field_Solve.f W H R C v n = some ([], [], 0, false, voltErr W H R C v) := by unfold field_Solve.f; rw [if_pos g0]
  rw [obnd hs, if_pos g0] at h
  refine ⟨0, fun k _ => ?_⟩
  show (field_Solve.f W H R C v n).bind _ = _
  rw [obnd hs, if_neg g0]
  exact h
 ·have g0' : voltErr W H R C v = 0 := Classical.byContradiction fun q => g0 q
  by_cases g2 : n < 0 ∨ 200 < n
  ·have hs : field_Solve.f W H R C v n = some ([], [], 0, false, 2) := by unfold field_Solve.f; rw [if_neg g0, if_pos g2]
   rw [obnd hs, if_pos (by simp)] at h
   refine ⟨0, fun k _ => ?_⟩
   show (field_Solve.f W H R C v n).bind _ = _
   rw [obnd hs, if_neg (by simp)]
   exact h
  ·obtain ⟨W', H', rfl, rfl, hW, hH, hN, hCE, hV⟩ := volted_of g0'
   obtain ⟨N, rfl⟩ : ∃ N : Nat, n = N := ⟨n.toNat, by omega⟩
   have hs := solve_eq (n := N) g0' (by omega)
   obtain ⟨p1, p2, p3, p4, _⟩ := check_parts hCE
   rw [obnd hs, if_neg (by simp)] at h
   have hh := refhas_go (W' : Int) (H' : Int) R C e (by omega) C.length 0 (by omega)
   rw [List.drop_zero] at hh
   have hhas : (decide (0 < e) && C.contains e) = hasB C e := rfl
   rw [hhas] at hh
   simp only [obnd hs, if_true]
   cases q : hasB C e with
   | false =>
    rw [if_pos q] at h
    rw [q] at hh
    refine Ev.bind (f := fun k => thermionref01_has.f k (W' : Int) (H' : Int) R C e) hh ?_
    exact ⟨0, fun k _ => (if_neg (by simp)).trans h⟩
   | true =>
    rw [if_neg (by rw [q]; simp)] at h
    rw [q] at hh
    have hq : 0 < e ∧ e ∈ C := by
     unfold hasB at q
     simpa using q
    obtain ⟨j, hj, hje⟩ := mem_fn hq.2
    have he6 := hV.elr j hj
    have hev := hV.vlen j hj
    rw [hje] at he6 hev
    obtain ⟨t1, t2⟩ := bounds_len hV hN N
    have hub := hV.vr (e.toNat - 1) (by omega)
    have hch := charge_l0 (W := W') (H := H') (R := R) (C := C) (v := v) (lo := (solveN W' H' R C v 256 N).1.take C.length) (hi := (solveN W' H' R C v 256 N).2.1.take C.length) (e := e) (u := fn v (e.toNat - 1)) ⟨by omega, hW⟩ ⟨by omega, hH⟩ hV.len t1 t2 ⟨by omega, hev, he6.2⟩ rfl hub (fun k hk => by
     have hk' : k < C.length := by rw [hV.len]; exact hk
     rw [fn_take hk', fn_take hk']
     exact solve_range hV hN N hk') ((solveN W' H' R C v 256 N).2.2.1 : Int) (solveN W' H' R C v 256 N).2.2.2 C.length 0 (by omega)
    refine Ev.bind (f := fun k => thermionref01_has.f k (W' : Int) (H' : Int) R C e) hh ?_
    refine Ev.bind (f := fun k => thermionref01_charge.f k (W' : Int) (H' : Int) R C v ((solveN W' H' R C v 256 N).1.take C.length) ((solveN W' H' R C v 256 N).2.1.take C.length) ((solveN W' H' R C v 256 N).2.2.1 : Int) (solveN W' H' R C v 256 N).2.2.2 e) hch ?_
    exact ⟨0, fun k _ => h⟩
end Go.Proofs.Ytndkkjpgnmahbaa.Print
end

section
namespace Go.Proofs.Ytndkkjpgnmahbaa.Print
open Go.RowKit Go.Proofs.YtndkkjpgnmahbaaW.PrintWords Go.Proofs.YtndkkjpgnmahbaaW.PrintLast Go.Proofs.YtndkkjpgnmahbaaW.PrintMore
attribute [local go_sem] max2_int min2_int max_two min_two max_three min_three max_four min_four
set_option linter.unusedVariables false
set_option linter.unusedSimpArgs false
def thermionlaw01_big.l0 : Nat → List (List Int) → Int → Int → Int → Bool → List Int → Option (Bool)
 | 0, _, _, _, _, _, _ => none
 | k + 1, x1, x5, x102000, x102001, x102002, x102003 => if x5 < (x1.length : Int) then (if 0 ≤ x5 then (if ((rd_L1 x1 x5).length : Int) > 300 then (some true) else (thermionlaw01_big.l0 k x1 (wrap64 (x5 + 1)) x102000 x102001 x102002 x102003)) else (none)) else (some (decide ((x102003.length : Int) > 300)))
def thermionlaw01_big.f (k : Nat) (a0_0 : Int) (a0_1 : Int) (a0_2 : Bool) (l0_3 : List Int) (l1 : List (List Int)) : Option (Bool) := thermionlaw01_big.l0 k l1 0 a0_0 a0_1 a0_2 l0_3
set_option maxHeartbeats 8000000 in
set_option maxRecDepth 100000 in
theorem thermionlaw01_big.calls (k : Nat) (a0_0 : Int) (a0_1 : Int) (a0_2 : Bool) (A0_3 : Option Addr) (c0_3 : Nat) (l0_3 : List Int) (A1 : Option Addr) (c1 : Nat) (l1 : List (List Int)) (r : Bool) (w : World) (hr0_3 : Kd.C (Kd.int .i64) w A0_3 l0_3.length l0_3) (hc0_3 : l0_3.length ≤ c0_3) (hr1 : Kd.C (Kd.slice 3 (Kd.int .i64)) w A1 l1.length l1) (hc1 : l1.length ≤ c1) (h : thermionlaw01_big.f k a0_0 a0_1 a0_2 l0_3 l1 = some r) :
  Calls Try.prog 19 #[.agg #[.int .i64 a0_0, .int .i64 a0_1, .bool a0_2, .slice A0_3 l0_3.length c0_3], .slice A1 l1.length c1] w fun e w' => e = .returned (.bool r) ∧ Below w.heap.size w w' := by
 have hu24 := Try.underlying24
 have HR0_3 := Aside0.mk hr0_3
 have HC0_3 := Aside0.mk hc0_3
 clear hr0_3 hc0_3
 have HR1 := Aside0.mk hr1
 have HC1 := Aside0.mk hc1
 clear hr1 hc1
 have HB := Aside0.mk (Below.refl w.heap.size w)
 have H : (thermionlaw01_big.l0 k l1 0 a0_0 a0_1 a0_2 l0_3) = some r := h
 clear h
 have H' := Aside0.mk H
 clear H
 go_enter Try.func19, Try.ntmps19
 go_wp2_with (first | ((with_reducible refine gate_dst (N := 2) rfl ?_); refine box_event ?hg (N := 2) ?hd (cs := #[.int .i64 a0_0, .int .i64 a0_1, .bool a0_2, .slice A0_3 l0_3.length c0_3]) (t := 24) ?hr ?_; (case hd => rfl); (case hg => rfl); (case hr => first | (go_simp; done) | (go_simp; rfl)); intro gb101 hg w3 hbox hb; have n0_ := Aside0.mk (below_step (by repeat (first | (with_reducible first | exact HB.out | apply below_alloc | apply pw_below_drewN | apply below_drew1) | exact HB.out)) hb); have n1_ := Aside0.mk (hbox); have n2_ := Aside0.mk ((by rw [hg]; exact (below_size (by repeat (first | (with_reducible first | exact HB.out | apply below_alloc | apply pw_below_drewN | apply below_drew1) | exact HB.out))) : w.heap.size ≤ gb101)); have n3_ := Aside0.mk ((by rw [hg]; exact (below_size (by repeat (first | (with_reducible first | exact HB.out | apply below_alloc | apply pw_below_drewN | apply below_drew1) | exact HB.out))) : w.heap.size ≤ gb101)); clear HB; have HB := n0_; have BK101 := n1_; have GW101 := n2_; have GE101 := n3_; clear n0_ n1_ n2_ n3_; clear hb hbox hg))
 go_loopg [5] k (fun kq v5 w' => ∃ (x5_1 : Int), v5 = .int .i64 x5_1 ∧ Aside0 (thermionlaw01_big.l0 kq l1 x5_1 a0_0 a0_1 a0_2 l0_3 = some r) ∧ Aside0 (kq ≤ k) ∧ Aside0 (w'.heap[gb101]? = some (.cells #[.int .i64 a0_0, .int .i64 a0_1, .bool a0_2, (.slice A0_3 l0_3.length c0_3)] 24 (0, 0))) ∧ Aside0 (Below w.heap.size w w'))
 case atStart => exact ⟨(0), (by first | rfl | (simp; done) | (simp [*]; done)), H', ⟨Nat.le_refl _⟩, ⟨by (with_reducible repeat (first | refine blk_drewN ?_ _ | refine blk_drew ?_ | refine blk_alloc ?_ _)); exact BK101.out⟩, ⟨by repeat (first | (with_reducible first | exact HB.out | apply below_alloc | apply pw_below_drewN | apply below_drew1 | refine below_set ?_ GE101.out) | exact HB.out)⟩⟩
 case round =>
  clear H'
  try clear c1
  try clear p2
  obtain ⟨x5_1, rfl, HA, HK1, BK101, HB⟩ := hrel
  cases gk with
  | zero => exact absurd HA.out (by simp [thermionlaw01_big.l0])
  | succ k1 =>
   have H := HA.out
   clear HA
   simp only [thermionlaw01_big.l0] at H
   by_cases c4 : x5_1 < (l1.length : Int)
   ·rw [if_pos c4] at H
    have c4b0 := decide_eq_true c4
    clear c4
    by_cases c5 : 0 ≤ x5_1
    ·rw [if_pos c5] at H
     have c5b0 := decide_eq_true c5
     clear c5
     by_cases c6 : ((rd_L1 l1 x5_1).length : Int) > 300
     ·rw [if_pos c6] at H
      have c6b0 := decide_eq_true c6
      have c6b1 : decide (300 < (rd_L1 l1 x5_1).length) = true := decide_eq_true (by omega)
      clear c6
      obtain rfl := Option.some.inj H
      have p102 : 0 ≤ (x5_1 : Int) := of_decide_eq_true (by first | (with_reducible assumption) | assumption)
      have q102 : x5_1 < (l1.length : Int) := of_decide_eq_true (by first | (with_reducible assumption) | assumption)
      obtain ⟨ad102, A102_0, c102_0, e102, hx102_0, hl102_0, hi102_0⟩ := at_L1 HR1.out x5_1 p102 q102
      cases e102
      replace hx102_0 := (HB.out.cell (World.block_lt_of_cell? w _ hx102_0)).trans hx102_0
      have HR102_0 := Aside0.mk hi102_0
      have HC102_0 := Aside0.mk hl102_0
      clear hi102_0 hl102_0
      replace p102 := eq_true p102
      replace q102 := eq_true q102
      go_wp2
      go_ret
      exact ⟨by first | rfl | (simp [errW_none, errW_some] <;> rfl) | (simp [*, errW_none, errW_some] <;> rfl), by repeat (first | (with_reducible first | exact HB.out | apply below_alloc | apply pw_below_drewN | apply below_drew1 | refine below_set ?_ GE101.out) | exact HB.out)⟩
     ·rw [if_neg c6] at H
      have c6b0 := decide_eq_false c6
      have c6b1 : decide (300 < (rd_L1 l1 x5_1).length) = false := decide_eq_false (by omega)
      clear c6
      have H' := Aside0.mk H
      clear H
      have p102 : 0 ≤ (x5_1 : Int) := of_decide_eq_true (by first | (with_reducible assumption) | assumption)
      have q102 : x5_1 < (l1.length : Int) := of_decide_eq_true (by first | (with_reducible assumption) | assumption)
      obtain ⟨ad102, A102_0, c102_0, e102, hx102_0, hl102_0, hi102_0⟩ := at_L1 HR1.out x5_1 p102 q102
      cases e102
      replace hx102_0 := (HB.out.cell (World.block_lt_of_cell? w _ hx102_0)).trans hx102_0
      have HR102_0 := Aside0.mk hi102_0
      have HC102_0 := Aside0.mk hl102_0
      clear hi102_0 hl102_0
      replace p102 := eq_true p102
      replace q102 := eq_true q102
      go_wp2
      go_roundg k1
      case measure => have := HK1.out; omega
      case rel => exact ⟨(wrap64 (x5_1 + 1)), (by first | rfl | (simp; done) | (simp [*]; done)), H', ⟨by have := HK1.out; omega⟩, ⟨by (with_reducible repeat (first | refine blk_drewN ?_ _ | refine blk_drew ?_ | refine blk_alloc ?_ _)); exact BK101.out⟩, ⟨by repeat (first | (with_reducible first | exact HB.out | apply below_alloc | apply pw_below_drewN | apply below_drew1 | refine below_set ?_ GE101.out) | exact HB.out)⟩⟩
    ·rw [if_neg c5] at H
     exact absurd H (by simp)
   ·rw [if_neg c4] at H
    have c4b0 := decide_eq_false c4
    clear c4
    obtain rfl := Option.some.inj H
    have hcz7_0 : wr.cell? ⟨gb101, 0, none⟩ = some (.int .i64 a0_0) := (blk_cell BK101.out 0).trans rfl
    have hcz7_1 : wr.cell? ⟨gb101, 1, none⟩ = some (.int .i64 a0_1) := (blk_cell BK101.out 1).trans rfl
    have hcz7_2 : wr.cell? ⟨gb101, 2, none⟩ = some (.bool a0_2) := (blk_cell BK101.out 2).trans rfl
    have hcz7_3 : wr.cell? ⟨gb101, 3, none⟩ = some (.slice A0_3 l0_3.length c0_3) := (blk_cell BK101.out 3).trans rfl
    have hfz7_0 := blk_frozen BK101.out 0
    have hfz7_1 := blk_frozen BK101.out 1
    have hfz7_2 := blk_frozen BK101.out 2
    have hfz7_3 := blk_frozen BK101.out 3
    go_wp2
    go_ret
    exact ⟨by first | rfl | (simp [errW_none, errW_some] <;> rfl) | (simp [*, errW_none, errW_some] <;> rfl), by repeat (first | (with_reducible first | exact HB.out | apply below_alloc | apply pw_below_drewN | apply below_drew1 | refine below_set ?_ GE101.out) | exact HB.out)⟩
end Go.Proofs.Ytndkkjpgnmahbaa.Print
end

section
namespace Go.Proofs.Ytndkkjpgnmahbaa.Print
open Go.RowKit Go.Proofs.YtndkkjpgnmahbaaW.PrintWords Go.Proofs.YtndkkjpgnmahbaaW.PrintLast Go.Proofs.YtndkkjpgnmahbaaW.PrintMore Go.Proofs.Ytndkkjpgnmahbaa.H Go.Proofs.Field
set_option linter.unusedVariables false
def slicesOf (l : List (Option Addr × Nat × List Int)) : List Value := l.map (fun p => .slice p.1 p.2.2.length p.2.1)
theorem C_of_slices {W : World} {g : Nat} {t : TypeId} (l : List (Option Addr × Nat × List Int)) (hb : W.heap[g]? = some (.cells (slicesOf l).toArray t (0, 0))) (hl : l.length ≤ 1000) (h : ∀ p, p ∈ l → Kd.C (Kd.int .i64) W p.1 p.2.2.length p.2.2 ∧ p.2.2.length ≤ p.2.1) :
  Kd.C (Kd.slice 3 (Kd.int .i64)) W (some ⟨g, 0, none⟩) l.length (l.map (fun p => p.2.2)) := by
 refine ⟨by simp, by omega, fun _ => ⟨_, rfl, fun j p hj => ?_⟩⟩
 rw [List.getElem?_map] at hj
 cases hq : l[j]? with
 | none => rw [hq] at hj; cases hj
 | some q =>
  rw [hq] at hj
  obtain rfl : q.2.2 = p := by simpa using hj
  obtain ⟨h1, h2⟩ := h q (List.mem_of_getElem? hq)
  refine ⟨[.slice q.1 q.2.2.length q.2.1], rfl, ⟨q.1, q.2.1, rfl, h2, h1⟩, fun i u hu => ?_⟩
  have hi : i = 0 := by
   cases i with
   | zero => rfl
   | succ i => simp at hu
  subst hi
  obtain rfl : Value.slice q.1 q.2.2.length q.2.1 = u := by simpa using hu
  have h3 := blk_cell hb j
  rw [show (⟨g, 0, none⟩ : Addr).add (j * (Kd.slice 3 (Kd.int .i64)).sz + 0) = ⟨g, j, none⟩ by
   show (⟨g, 0, none⟩ : Addr).add (j * 1 + 0) = _
   unfold Addr.add
   split <;> simp_all]
  rw [h3]
  simp [slicesOf, hq]
theorem big_go (W H : Int) (R : Bool) (C : List Int) (l : List (List Int)) (hl : l.length ≤ 1000) : ∀ (d i : Nat), i + d = l.length → thermionlaw01_big.l0 (d + 1) l (i : Int) W H R C = some ((l.drop i).any (fun x => decide (300 < x.length)) || decide (300 < C.length))
 | 0, i, h => by
  rw [thermionlaw01_big.l0, if_neg (by omega), List.drop_eq_nil_of_le (by omega)]
  have : decide ((C.length : Int) > 300) = decide (300 < C.length) := by
   by_cases q : 300 < C.length
   ·rw [decide_eq_true q, decide_eq_true (by omega)]
   ·rw [decide_eq_false q, decide_eq_false (by omega)]
  rw [this]
  rfl
 | d + 1, i, h => by
  have hi : i < l.length := by omega
  have hw : wrap64 ((i : Int) + 1) = ((i + 1 : Nat) : Int) := by rw [IntWalk.wrap64_in _ (by omega)]; omega
  have hr : rd_L1 l (i : Int) = l[i] := by simp [rd_L1, hi]
  rw [thermionlaw01_big.l0, if_pos (by omega), if_pos (by omega), hr, List.drop_eq_getElem_cons hi, List.any_cons]
  by_cases q : 300 < l[i].length
  ·rw [if_pos (by omega), decide_eq_true q, Bool.true_or, Bool.true_or]
  ·rw [if_neg (by omega), hw, big_go W H R C l hl d (i + 1) (by omega), decide_eq_false q, Bool.false_or]
theorem big_eq (W H : Int) (R : Bool) (C : List Int) (l : List (List Int)) (hl : l.length ≤ 1000) : thermionlaw01_big.f (l.length + 1) W H R C l = some (l.any (fun x => decide (300 < x.length)) || decide (300 < C.length)) := big_go W H R C l hl l.length 0 (by omega)
theorem big_at (W H : Int) (R : Bool) (A : Option Addr) (c : Nat) (C : List Int) (g n : Nat) (l : List (Option Addr × Nat × List Int)) (hn : l.length = n) (hn2 : n ≤ 1000) (b : Bool) (w : World) {t : TypeId} (hr : Kd.C (Kd.int .i64) w A C.length C) (hc : C.length ≤ c) (hb : w.heap[g]? = some (.cells (slicesOf l).toArray t (0, 0))) (h : ∀ p, p ∈ l → Kd.C (Kd.int .i64) w p.1 p.2.2.length p.2.2 ∧ p.2.2.length ≤ p.2.1)
  (hb2 : (((l.map (fun p => p.2.2)).any (fun x => decide (300 < x.length))) || decide (300 < C.length)) = b) :
  Calls Try.prog 19 #[.agg (planV W H R A C.length c), .slice (some ⟨g, 0, none⟩) n n] w fun e w' => e = .returned (.bool b) ∧ Below w.heap.size w w' := by
 subst hn hb2
 have h1 := thermionlaw01_big.calls _ W H R A c C (some ⟨g, 0, none⟩) l.length (l.map (fun p => p.2.2)) _ w hr hc (by rw [List.length_map]; exact C_of_slices l hb hn2 h) (by rw [List.length_map]; exact Nat.le_refl _) (big_eq W H R C _ (by rw [List.length_map]; exact hn2))
 rw [List.length_map] at h1
 exact h1
theorem solve_total (W H : Int) (R : Bool) (C v : List Int) (n : Int) : ∃ r1 r2 r3 r4 r5, field_Solve.f W H R C v n = some (r1, r2, r3, r4, r5) := by
 unfold field_Solve.f
 split
 ·exact ⟨_, _, _, _, _, rfl⟩
 ·split
  ·exact ⟨_, _, _, _, _, rfl⟩
  ·exact ⟨_, _, _, _, _, rfl⟩
theorem charge_total (W H : Int) (R : Bool) (C v : List Int) (n e : Int) : ∃ r1 r2 r3, field_Charge.f W H R C v n e = some (r1, r2, r3) := by
 obtain ⟨a, b, c, d, f, h⟩ := solve_total W H R C v n
 unfold field_Charge.f
 rw [h]
 show ∃ r1 r2 r3, (if f ≠ 0 then _ else if hasB C e = false then _ else _) = _
 split
 ·exact ⟨_, _, _, rfl⟩
 ·split
  ·exact ⟨_, _, _, rfl⟩
  ·exact ⟨_, _, _, rfl⟩
end Go.Proofs.Ytndkkjpgnmahbaa.Print
end

section
namespace Go.Proofs.Ytndkkjpgnmahbaa.Print
open Go.RowKit Go.Proofs.YtndkkjpgnmahbaaW.PrintWords Go.Proofs.YtndkkjpgnmahbaaW.PrintLast Go.Proofs.YtndkkjpgnmahbaaW.PrintMore Go.Proofs.Ytndkkjpgnmahbaa.H Go.Proofs.Field
attribute [local go_sem] max2_int min2_int max_two min_two max_three min_three max_four min_four
set_option linter.unusedVariables false
set_option linter.unusedSimpArgs false
attribute [local go_sem high] eqA42
set_option maxHeartbeats 6400000 in
set_option maxRecDepth 100000 in
theorem charges_calls (W H : Int) (R : Bool) (A : Option Addr) (c : Nat) (C : List Int) (A1 : Option Addr) (c1 : Nat) (v : List Int) (a2 a3 : Int) (A4 : Option Addr) (c4 : Nat) (l4 : List Int) (w : World)
  (hr : Kd.C (Kd.int .i64) w A C.length C) (hc : C.length ≤ c) (hr1 : Kd.C (Kd.int .i64) w A1 v.length v) (hc1 : v.length ≤ c1) (hr4 : Kd.C (Kd.int .i64) w A4 l4.length l4) (hc4 : l4.length ≤ c4) :
  Calls Try.prog 4 #[.agg (planV W H R A C.length c), .slice A1 v.length c1, .int .i64 a2, .int .i64 a3, .slice A4 l4.length c4] w fun e w' => e = .returned (.bool true) ∧ Below w.heap.size w w' := by
 obtain ⟨x1, x2, x3, hx⟩ := charge_total W H R C v a2 a3
 obtain ⟨K, hK⟩ := refcharge_eq hx
 obtain ⟨s0, hs0⟩ : ∃ s, thermionkit_NewDice.f l4 = some s := ⟨_, rfl⟩
 obtain ⟨W', H', R', C', v', s1, s2, D⟩ := dealt s0 8 6 (by omega) (by omega)
 obtain ⟨n, hn, hn1⟩ := mod_eq a2 41 (by omega) (by omega)
 obtain ⟨e, he, he1⟩ := mod_eq a3 5 (by omega) (by omega)
 obtain ⟨z1, z2, z3, hz⟩ := charge_total W' H' R' C' v' n e
 obtain ⟨K2, hK2⟩ := refcharge_eq hz
 obtain ⟨kv, hkv⟩ := D.volts
 obtain ⟨b, hb⟩ : ∃ b, ((([v]).any (fun x => decide (300 < x.length))) || decide (300 < C.length)) = b := ⟨_, rfl⟩
 have HX := Aside0.mk hx
 have HY := Aside0.mk (hK K (Nat.le_refl _))
 have HZ := Aside0.mk hz
 have HZY := Aside0.mk (hK2 K2 (Nat.le_refl _))
 have HND := Aside0.mk hs0
 have HD := Aside0.mk D
 have HMD := Aside0.mk hn
 have HME := Aside0.mk he
 have HVO := Aside0.mk (hkv kv (Nat.le_refl _))
 have HAW := Aside0.mk awake_true
 have HR := Aside0.mk hr
 have HC := Aside0.mk hc
 have HR1 := Aside0.mk hr1
 have HC1 := Aside0.mk hc1
 have HR4 := Aside0.mk hr4
 have HC4 := Aside0.mk hc4
 have HBG := Aside0.mk hb
 have HM := Aside0.mk (Mem.start w)
 have HRA : Aside0 (∀ V, Below w.heap.size w V → ∀ p, p ∈ [(A1, c1, v)] → Kd.C (Kd.int .i64) V p.1 p.2.2.length p.2.2 ∧ p.2.2.length ≤ p.2.1) := ⟨fun V hV p hp => by
  obtain rfl := List.mem_singleton.1 hp
  exact ⟨Kd.C_below hr1 hV, hc1⟩⟩
 have hu24 := Try.underlying24
 have hu22 := Try.underlying22
 have hu42 := Try.underlying42
 have hu46 := Try.underlying46
 clear hr hc hr1 hc1 hr4 hc4 hs0 D hn he hn1 he1 hkv hx hK hz hK2 hb
 go_enter Try.func4, Try.ntmps4
 cases b
 case true =>
  go_wp2_with (first
   | ((with_reducible refine gate_dst (N := 5) rfl ?_); refine ev_box HM.out rfl 24 (.tmp 0) rfl (cs := planV W H R A C.length c) rfl ?_; intro gp w1 hm1 hq1; clear hq1; have HM1 := Aside0.mk hm1; clear hm1 HM)
   | ((with_reducible refine gate_dst (N := 20) rfl ?_); refine ev_load HM1.out.head rfl 24 (.tmp 5) rfl rfl _ Try.underlying24 rfl size24 rfl ?_)
   | ((with_reducible refine gate_dst (N := 22) rfl ?_); refine ev_lit HM1.out rfl [.slice A1 v.length c1] 1 22 ?hrl ?_; (case hrl => first | (go_simp; done) | (go_simp; rfl)); intro gl w2 hm1 hq1; clear hq1; have HM2 := Aside0.mk hm1; clear hm1 HM1)
   | (go_at_call 19; refine (big_at W H R A c C gl 1 [(A1, c1, v)] rfl (by omega) true _ (Kd.C_below HR.out HM2.out.below) HC.out HM2.out.head (HRA.out _ HM2.out.below) HBG.out).mono ?_; rintro e1 we ⟨rfl, hb⟩; have HM3 := Aside0.mk (HM2.out.step hb); clear hb HM2; have HEB := Aside0.mk HM3.out.below; have HP := Aside0.mk HM3.out.second; replace HR := Aside0.mk (Kd.C_below HR.out HEB.out); replace HR1 := Aside0.mk (Kd.C_below HR1.out HEB.out); replace HR4 := Aside0.mk (Kd.C_below HR4.out HEB.out); clear HM3 HRA HBG)
   | (go_at_call 20; refine (thermionlaw01_awake.calls 10 true _ HAW.out).mono ?_; rintro e1 wE ⟨rfl, hb⟩; have HE := Aside0.mk (below_step HEB.out hb); clear hb))
  go_ret
  exact ⟨rfl, HE.out⟩
 case false =>
  go_wp2_with (first
   | ((with_reducible refine gate_dst (N := 5) rfl ?_); refine ev_box HM.out rfl 24 (.tmp 0) rfl (cs := planV W H R A C.length c) rfl ?_; intro gp w1 hm1 hq1; clear hq1; have HM1 := Aside0.mk hm1; clear hm1 HM)
   | ((with_reducible refine gate_dst (N := 20) rfl ?_); refine ev_load HM1.out.head rfl 24 (.tmp 5) rfl rfl _ Try.underlying24 rfl size24 rfl ?_)
   | ((with_reducible refine gate_dst (N := 22) rfl ?_); refine ev_lit HM1.out rfl [.slice A1 v.length c1] 1 22 ?hrl ?_; (case hrl => first | (go_simp; done) | (go_simp; rfl)); intro gl w2 hm1 hq1; clear hq1; have HM2 := Aside0.mk hm1; clear hm1 HM1)
   | (go_at_call 19; refine (big_at W H R A c C gl 1 [(A1, c1, v)] rfl (by omega) false _ (Kd.C_below HR.out HM2.out.below) HC.out HM2.out.head (HRA.out _ HM2.out.below) HBG.out).mono ?_; rintro e1 we ⟨rfl, hb⟩; have HM3 := Aside0.mk (HM2.out.step hb); clear hb HM2; have HEB := Aside0.mk HM3.out.below; have HP := Aside0.mk HM3.out.second; replace HR := Aside0.mk (Kd.C_below HR.out HEB.out); replace HR1 := Aside0.mk (Kd.C_below HR1.out HEB.out); replace HR4 := Aside0.mk (Kd.C_below HR4.out HEB.out); clear HM3 HRA HBG)
   | (go_at_call 21; refine (thermionkit_NewDice.calls A4 c4 l4 s0 we we (Below.refl _ _) HR4.out HC4.out HND.out).mono ?_; rintro e w1 ⟨g, rfl, hI1, hB1, hB1b⟩; have HI1 := Aside0.mk hI1; have HB1 := Aside0.mk hB1; clear hI1 hB1 hB1b HND)
   | (go_at_call 22; refine (thermionkit_PlanOf.calls g s0 8 6 W' H' R' C' s1 we w1 HI1.out HB1.out HD.out.plan).mono ?_; rintro e w2 ⟨v3, rfl, hR, hI, hB, hK⟩; obtain ⟨AC, cC, rfl⟩ := Kd.R_slice hR; have HP2 := Aside0.mk (PW.make hI hB hR HB1.out.size); have HN2 := Aside0.mk (Mem.start w2); clear hR hI hB hK HI1 HB1)
   | ((with_reducible refine gate_dst (N := 12) rfl ?_); refine ev_new HN2.out rfl 24 rfl info24 ?_; intro g6 w3 hm3 hq3; have HP3 := Aside0.mk (HP2.out.below hq3); have HN3 := Aside0.mk hm3; clear hm3 hq3 HN2)
   | ((with_reducible refine gate_store (t := 24) (p := 12) rfl ?_); refine ev_store HN3.out rfl 24 (.tmp 12) (.tmp 28) rfl rfl (cs := planV W' H' R' AC C'.length cC) rfl size24 rfl rfl (by simp [Value.oneCell']) ?_; intro w4 hm4 hq4; clear hq4; have HN4 := Aside0.mk hm4; have HP4 := Aside0.mk (HP2.out.below hm4.below); clear hm4 HN3 HP3 HP2)
   | ((with_reducible refine gate_dst (N := 30) rfl ?_); refine ev_load HN4.out.head rfl 24 (.tmp 12) rfl rfl _ Try.underlying24 rfl size24 rfl ?_)
   | (go_at_call 23; refine (thermionkit_VoltsOf.calls kv g s1 W' H' R' AC cC C' v' s2 we w4 HP4.out.dice HP4.out.old HP4.out.reads HP4.out.cap HP4.out.far HVO.out).mono ?_; rintro e wb ⟨vv, rfl, hR, hI, hB, hK⟩; obtain ⟨AV, cV, rfl⟩ := Kd.R_slice hR; have HLB := Aside0.mk (LB.make HP4.out HN4.out hR hB hK); have HM := Aside0.mk (Mem.start wb); clear hR hI hB hK HVO HP4 HN4)
   | ((with_reducible refine gate_dst (N := 33) rfl ?_); refine ev_load (blk_below HP.out (below_step HLB.out.old HM.out.below)) rfl 24 (.tmp 5) rfl rfl _ Try.underlying24 rfl size24 rfl ?_)
   | (go_at_call 30; refine (field_Charge.calls W H R A c C A1 c1 v a2 a3 x1 x2 x3 _ (Kd.C_below HR.out (below_step HLB.out.old HM.out.below)) HC.out (Kd.C_below HR1.out (below_step HLB.out.old HM.out.below)) HC1.out HX.out).mono ?_; rintro e1 w5 ⟨rfl, hb⟩; have HM5 := Aside0.mk (HM.out.step hb); clear hb HM HX)
   | ((with_reducible refine gate_dst (N := 14) rfl ?_); refine ev_new HM5.out rfl 42 rfl info42 ?_; intro g14 w6 hm1 hq1; have HM6 := Aside0.mk hm1; clear hm1 hq1 HM5)
   | ((with_reducible refine gate_store (t := 42) (p := 14) rfl ?_); refine ev_store HM6.out rfl 42 (.tmp 14) (.tmp 38) rfl rfl (cs := #[.int .i64 x1, .int .i64 x2]) rfl size42 rfl rfl (by simp [Value.oneCell']) ?_; intro w7 hm1 hq1; have HM7 := Aside0.mk hm1; clear hm1 hq1 HM6)
   | ((with_reducible refine gate_dst (N := 41) rfl ?_); refine ev_load (blk_below HP.out (below_step HLB.out.old HM7.out.below)) rfl 24 (.tmp 5) rfl rfl _ Try.underlying24 rfl size24 rfl ?_)
   | (go_at_call 31; refine (thermionref01_Charge.calls K W H R A c C A1 c1 v a2 a3 x1 x2 x3 _ (Kd.C_below HR.out (below_step HLB.out.old HM7.out.below)) HC.out (Kd.C_below HR1.out (below_step HLB.out.old HM7.out.below)) HC1.out HY.out).mono ?_; rintro e1 w8 ⟨rfl, hb⟩; have HM8 := Aside0.mk (HM7.out.step hb); clear hb HM7 HY)
   | ((with_reducible refine gate_dst (N := 16) rfl ?_); refine ev_new HM8.out rfl 42 rfl info42 ?_; intro g16 w9 hm1 hq1; have HM9 := Aside0.mk hm1; clear hm1 hq1 HM8)
   | ((with_reducible refine gate_store (t := 42) (p := 16) rfl ?_); refine ev_store HM9.out rfl 42 (.tmp 16) (.tmp 46) rfl rfl (cs := #[.int .i64 x1, .int .i64 x2]) rfl size42 rfl rfl (by simp [Value.oneCell']) ?_; intro w10 hm1 hq1; have HM10 := Aside0.mk hm1; clear hm1 hq1 HM9)
   | ((with_reducible refine gate_dst (N := 48) rfl ?_); refine ev_load HM10.out.second rfl 42 (.tmp 14) rfl rfl _ Try.underlying42 rfl size42 rfl ?_)
   | ((with_reducible refine gate_dst (N := 49) rfl ?_); refine ev_load HM10.out.head rfl 42 (.tmp 16) rfl rfl _ Try.underlying42 rfl size42 rfl ?_)
   | (go_at_call 28; refine (thermionkit_Mod.calls a2 41 n _ HMD.out).mono ?_; rintro e1 w11 ⟨rfl, hb⟩; have HM11 := Aside0.mk (HM10.out.step hb.below); clear hb HM10 HMD)
   | (go_at_call 28; refine (thermionkit_Mod.calls a3 5 e _ HME.out).mono ?_; rintro e1 w12 ⟨rfl, hb⟩; have HM12 := Aside0.mk (HM11.out.step hb.below); clear hb HM11 HME)
   | ((with_reducible refine gate_dst (N := 61) rfl ?_); refine ev_load (HLB.out.plan_at HM12.out.below) rfl 24 (.tmp 12) rfl rfl _ Try.underlying24 rfl size24 rfl ?_)
   | (go_at_call 30; refine (field_Charge.calls W' H' R' AC cC C' AV cV v' n e z1 z2 z3 _ (HLB.out.rc_at HM12.out.below) HLB.out.hc (HLB.out.rv_at HM12.out.below) HLB.out.hv HZ.out).mono ?_; rintro e1 w13 ⟨rfl, hb⟩; have HM13 := Aside0.mk (HM12.out.step hb); clear hb HM12 HZ)
   | ((with_reducible refine gate_store (t := 42) (p := 14) rfl ?_); refine ev_store HM13.out.swap rfl 42 (.tmp 14) (.tmp 66) rfl rfl (cs := #[.int .i64 z1, .int .i64 z2]) rfl size42 rfl rfl (by simp [Value.oneCell']) ?_; intro w14 hm1 hq1; have HM14 := Aside0.mk hm1; clear hm1 hq1 HM13)
   | ((with_reducible refine gate_dst (N := 69) rfl ?_); refine ev_load (HLB.out.plan_at HM14.out.below) rfl 24 (.tmp 12) rfl rfl _ Try.underlying24 rfl size24 rfl ?_)
   | (go_at_call 31; refine (thermionref01_Charge.calls K2 W' H' R' AC cC C' AV cV v' n e z1 z2 z3 _ (HLB.out.rc_at HM14.out.below) HLB.out.hc (HLB.out.rv_at HM14.out.below) HLB.out.hv HZY.out).mono ?_; rintro e1 w15 ⟨rfl, hb⟩; have HM15 := Aside0.mk (HM14.out.step hb); clear hb HM14 HZY)
   | ((with_reducible refine gate_store (t := 42) (p := 16) rfl ?_); refine ev_store HM15.out.swap rfl 42 (.tmp 16) (.tmp 74) rfl rfl (cs := #[.int .i64 z1, .int .i64 z2]) rfl size42 rfl rfl (by simp [Value.oneCell']) ?_; intro w16 hm1 hq1; have HM16 := Aside0.mk hm1; clear hm1 hq1 HM15)
   | ((with_reducible refine gate_dst (N := 76) rfl ?_); refine ev_load HM16.out.second rfl 42 (.tmp 14) rfl rfl _ Try.underlying42 rfl size42 rfl ?_)
   | ((with_reducible refine gate_dst (N := 77) rfl ?_); refine ev_load HM16.out.head rfl 42 (.tmp 16) rfl rfl _ Try.underlying42 rfl size42 rfl ?_)
   | (go_at_call 20; refine (thermionlaw01_awake.calls 10 true _ HAW.out).mono ?_; rintro e1 wE ⟨rfl, hb⟩; have HE := Aside0.mk (below_step HEB.out (below_step HLB.out.old (HM16.out.step hb).below)); clear hb))
  go_ret
  exact ⟨rfl, HE.out⟩
end Go.Proofs.Ytndkkjpgnmahbaa.Print
end

section
namespace Go.Proofs.YtndkkjpgnmahbaaW.PrintWords
open Go.ChangeShapes Go.WideShapes
end Go.Proofs.YtndkkjpgnmahbaaW.PrintWords
end

section
namespace Go.Proofs.Ytndkkjpgnmahbaa.Print
open Go.RowKit Go.Proofs.YtndkkjpgnmahbaaW.PrintWords Go.Proofs.YtndkkjpgnmahbaaW.PrintLast Go.Proofs.YtndkkjpgnmahbaaW.PrintMore
set_option linter.unusedVariables false
set_option linter.unusedSimpArgs false
def Word64 (x : Int) : Prop := (Lit.int .i64 x).wf = true
theorem Word64.range {x : Int} (h : Word64 x) : -9223372036854775808 ≤ x ∧ x ≤ 9223372036854775807 := by
 unfold Word64 at h
 simp only [Lit.wf, Bool.and_eq_true, decide_eq_true_eq] at h
 have e1 : IntKind.min .i64 = -9223372036854775808 := by decide
 have e2 : IntKind.max .i64 = 9223372036854775807 := by decide
 omega
section
variable {H : Type} {enc : TypeId × Value → H} {W : World} {base : Nat} {sp : Nat → Bool} {held : Bool} {n : Nat} {cs : List Value} {x : DataW H × List MemPlace}
theorem trod_int3 (h : DataW.trod enc Try.prog W base sp held n 3 cs = some x) : ∃ y, cs = [.int .i64 y] ∧ Word64 y := by
 obtain ⟨y, rfl, _, hw⟩ := DataW.trod_int Try.underlying3 h
 exact ⟨y, rfl, hw⟩
theorem trod_bool4 (h : DataW.trod enc Try.prog W base sp held n 4 cs = some x) : ∃ y, cs = [.bool y] := by
 obtain ⟨y, rfl, _⟩ := DataW.trod_bool Try.underlying4 h
 exact ⟨y, rfl⟩
theorem pick_list {α : Type} (m : Nat) (P : Nat → α → Prop) (h : ∀ i, i < m → ∃ y, P i y) : ∃ xs : List α, xs.length = m ∧ ∀ i (hi : i < xs.length), P i xs[i] := by
 induction m with
 | zero => exact ⟨[], rfl, fun i hi => absurd hi (by simp)⟩
 | succ m ih =>
  obtain ⟨xs, hl, hx⟩ := ih (fun i hi => h i (by omega))
  obtain ⟨y, hy⟩ := h m (by omega)
  refine ⟨xs ++ [y], by simp [hl], fun i hi => ?_⟩
  by_cases q : i < xs.length
  ·rw [List.getElem_append_left q]
   exact hx i q
  ·have : i = m := by rw [List.length_append, List.length_singleton] at hi; omega
   subst this
   rw [List.getElem_append_right (by omega)]
   simpa [hl] using hy
theorem trod_list {α : Type} {d : Kd α} {t e : TypeId} {Wf : α → Prop} (ht : Try.prog.underlying t = some (.slice e)) (hsz : Try.prog.cellsOf e = d.sz) (hopen : ∀ n cs x, DataW.trod enc Try.prog W base sp held n e cs = some x → ∃ y, d.K W y cs ∧ Wf y)
  (h : DataW.trod enc Try.prog W base sp held n t cs = some x) : ∃ (A : Option Addr) (xs : List α) (c : Nat), cs = [.slice A xs.length c] ∧ xs.length ≤ c ∧ c ≤ maxLen ∧ d.C W A xs.length xs ∧ ∀ y, y ∈ xs → Wf y := by
 rcases DataW.trod_slice ht h with ⟨rfl, _⟩ | ⟨a, len, cap, elems, rest, m, _, rfl, _, hb, hl, hm, hlen, hel, _, _⟩
 ·exact ⟨none, [], 0, rfl, by simp, by simp, ⟨rfl, by simp, fun h => absurd h (by simp)⟩, fun y hy => by cases hy⟩
 ·have each : ∀ i, i < len → ∃ y, (∃ ci, ci.length = d.sz ∧ d.K W y ci ∧ ∀ j u, ci[j]? = some u → W.cell? (a.add (i * d.sz + j)) = some u) ∧ Wf y := by
   intro i hi
   have h1 := hel i hi
   rw [List.getElem?_eq_getElem (by omega), Option.bind_eq_some_iff] at h1
   obtain ⟨ci, hci, htr⟩ := h1
   obtain ⟨y, hK, hW⟩ := hopen _ _ _ htr
   obtain ⟨_, hcl, hcc⟩ := World.cells?_some hci
   rw [hsz] at hcl hcc
   refine ⟨y, ⟨ci, hcl, hK, fun j u hu => ?_⟩, hW⟩
   have hj : j < d.sz := by
    have := (List.getElem?_eq_some_iff.1 hu).1
    omega
   have := hcc j hj
   rw [hu] at this
   rw [← this, add_add]
  obtain ⟨xs, hxl, hxs⟩ := pick_list len _ each
  refine ⟨some a, xs, cap, by rw [hxl], by omega, hm, ⟨rfl, ?_, fun _ => ⟨a, rfl, fun j p hj => ?_⟩⟩, fun y hy => ?_⟩
  ·have : maxLen ≤ 9223372036854775807 := by unfold maxLen; omega
   omega
  ·obtain ⟨hj1, hj2⟩ := List.getElem?_eq_some_iff.1 hj
   have := (hxs j hj1).1
   rw [hj2] at this
   exact this
  ·obtain ⟨i, hi, rfl⟩ := List.mem_iff_getElem.1 hy
   exact (hxs i hi).2
theorem cells3 : Try.prog.cellsOf 3 = 1 := by kernel_rfl
theorem cells4 : Try.prog.cellsOf 4 = 1 := by kernel_rfl
theorem cells22 : Try.prog.cellsOf 22 = 1 := by kernel_rfl
theorem cells24 : Try.prog.cellsOf 24 = 4 := by kernel_rfl
theorem trod_field {t : TypeId} {fs : Array Field} (ht : Try.prog.underlying t = some (.struct fs)) (h : DataW.trod enc Try.prog W base sp held n t cs = some x) :
  cs.length = Try.prog.cellsOf t ∧ ∀ (i : Nat) (f : Field), fs[i]? = some f → ∃ m y, DataW.trod enc Try.prog W base sp held m f.type ((cs.drop f.offset).take (Try.prog.cellsOf f.type)) = some y := by
 obtain ⟨xs, m, _, _, hl, hlen, hf⟩ := DataW.trod_struct ht h
 refine ⟨hl, fun i f hi => ?_⟩
 have h1 := hf i f hi
 have hix : i < xs.length := by
  have := (Array.getElem?_eq_some_iff.1 hi).1
  omega
 rw [List.getElem?_eq_getElem hix] at h1
 exact ⟨m, _, h1⟩
theorem trod_at {t : TypeId} {fs : Array Field} (ht : Try.prog.underlying t = some (.struct fs)) (h : DataW.trod enc Try.prog W base sp held n t cs = some x) (i : Nat) (ty off k : Nat) {f : Field} (hi : fs[i]? = some f) (h1 : f.type = ty) (h2 : f.offset = off) (h3 : Try.prog.cellsOf ty = k) :
  ∃ m y, DataW.trod enc Try.prog W base sp held m ty ((cs.drop off).take k) = some y := by
 obtain ⟨m, y, e⟩ := (trod_field ht h).2 i f hi
 rw [h1, h2, h3] at e
 exact ⟨m, y, e⟩
theorem trod_ints (h : DataW.trod enc Try.prog W base sp held n 22 cs = some x) : ∃ (A : Option Addr) (xs : List Int) (c : Nat), cs = [.slice A xs.length c] ∧ xs.length ≤ c ∧ c ≤ maxLen ∧ (Kd.int .i64).C W A xs.length xs ∧ ∀ y, y ∈ xs → Word64 y :=
 trod_list (d := Kd.int .i64) Try.underlying22 cells3 (fun _ _ _ h => by
  obtain ⟨y, rfl, hw⟩ := trod_int3 h
  exact ⟨y, rfl, hw⟩) h
theorem trod_plan (h : DataW.trod enc Try.prog W base sp held n 24 cs = some x) : ∃ (Wd Hd : Int) (R : Bool) (A : Option Addr) (L : List Int) (c : Nat), cs = [.int .i64 Wd, .int .i64 Hd, .bool R, .slice A L.length c] ∧ Word64 Wd ∧ Word64 Hd ∧ L.length ≤ c ∧ c ≤ maxLen ∧ (Kd.int .i64).C W A L.length L ∧ ∀ y, y ∈ L → Word64 y := by
 have hl := (trod_field Try.underlying24 h).1
 rw [cells24] at hl
 obtain ⟨m0, y0, h0⟩ := trod_at Try.underlying24 h 0 3 0 _ rfl rfl rfl cells3
 obtain ⟨m1, y1, h1⟩ := trod_at Try.underlying24 h 1 3 1 _ rfl rfl rfl cells3
 obtain ⟨m2, y2, h2⟩ := trod_at Try.underlying24 h 2 4 2 _ rfl rfl rfl cells4
 obtain ⟨m3, y3, h3⟩ := trod_at Try.underlying24 h 3 22 3 _ rfl rfl rfl cells22
 obtain ⟨a, e0, w0⟩ := trod_int3 h0
 obtain ⟨b, e1, w1⟩ := trod_int3 h1
 obtain ⟨r, e2⟩ := trod_bool4 h2
 obtain ⟨A, L, c, e3, hc, hm, hC, hw⟩ := trod_ints h3
 match cs, hl with
 | [c0, c1, c2, c3], _ =>
  simp at e0 e1 e2 e3
  subst e0
  subst e1
  subst e2
  subst e3
  exact ⟨a, b, r, A, L, c, rfl, w0, w1, hc, hm, hC, hw⟩
end
end Go.Proofs.Ytndkkjpgnmahbaa.Print
end
