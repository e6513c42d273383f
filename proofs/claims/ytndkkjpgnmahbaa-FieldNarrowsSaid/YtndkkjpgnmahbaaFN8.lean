/- Part 8 of the texts of a claim about Ytndkkjpgnmahbaa, put together by a program of this work: what the Go functions do, and that their calls do so. -/
import Derived.Test.YtndkkjpgnmahbaaFN6
import Derived.Test.YtndkkjpgnmahbaaFN3
import Derived.Test.YtndkkjpgnmahbaaFN5
import Derived.Test.YtndkkjpgnmahbaaFN7
import Derived.SizedLaws
import Derived.ChangeSlices
section
namespace Go.Proofs.Ytndkkjpgnmahbaa.Print
open Go.RowKit Go.Proofs.YtndkkjpgnmahbaaW.PrintWords Go.Proofs.YtndkkjpgnmahbaaW.PrintLast Go.Proofs.YtndkkjpgnmahbaaW.PrintMore Go.Proofs.Field
set_option linter.unusedVariables false
theorem mx_max (x y : Int) : mx x y = max x y := by unfold mx; split <;> omega
theorem greatest_go (W H : Int) (R : Bool) (C : List Int) (hl : C.length ≤ 1000000) : ∀ (d i : Nat) (x : Int), i + d = C.length → thermionkit_Greatest.l0 (d + 1) x (i : Int) W H R C = some ((C.drop i).foldl max x)
  | 0, i, x, hi => by
    rw [thermionkit_Greatest.l0, if_neg (by omega), List.drop_eq_nil_of_le (by omega)]
    rfl
  | d + 1, i, x, hi => by
    have hil : i < C.length := by omega
    have hw : wrap64 ((i : Int) + 1) = ((i + 1 : Nat) : Int) := by rw [IntWalk.wrap64_in _ (by omega)]; omega
    rw [thermionkit_Greatest.l0, if_pos (by omega), if_pos (by omega), hw, greatest_go W H R C hl d (i + 1) _ (by omega), List.drop_eq_getElem_cons hil, List.foldl_cons, mx_max, rd_natc C i hil]
theorem foldl_max_zero {C : List Int} (h : ∀ e, e ∈ C → 0 ≤ e) (hne : C ≠ []) : C.foldl max 0 = maxOf C := by
  cases C with
  | nil => exact absurd rfl hne
  | cons x l =>
    rw [List.foldl_cons]
    have := h x List.mem_cons_self
    rw [show max 0 x = x by omega]
    rfl
theorem greatest_eq (W H : Int) (R : Bool) {C : List Int} (hl : C.length ≤ 1000000) (h : ∀ e, e ∈ C → 0 ≤ e) (hne : C ≠ []) : thermionkit_Greatest.f (C.length + 1) W H R C = some (maxOf C) := by
  have h1 := greatest_go W H R C hl C.length 0 0 (by omega)
  rw [List.drop_zero, foldl_max_zero h hne] at h1
  exact h1
def OkV (x : List Int) : Prop := ∀ v, v ∈ x → -1000000 ≤ v ∧ v ≤ 1000000
theorem obind {α β : Type} {o : Option α} {a : α} {f : α → Option β} (h : o = some a) : o.bind f = f a := by rw [h]; rfl
theorem volts_step (d i : Nat) (x : List Int) (s r1 s1 r2 s2 r3 s3 : Int) (L : List Int) (hL : ([0, r1, r2, 1000000] : List Int) = L) (hLl : (L.length : Int) = 4) (c1 : 0 ≤ r3) (c2 : r3 < 4) (h : i < x.length) 
   (h1 : thermionkit_Dice_Between.f s (-100) 100 = some (r1, s1)) (h2 : thermionkit_Dice_Between.f s1 (-1000000) 1000000 = some (r2, s2)) (h3 : thermionkit_Dice_Upto.f s2 4 = some (r3, s3)) (hw : wrap64 ((i : Int) + 1) = ((i + 1 : Nat) : Int)) :
   thermionkit_VoltsOf.l0 (d + 1) x (i : Int) s = thermionkit_VoltsOf.l0 d (x.set i (rd L r3)) ((i + 1 : Nat) : Int) s3 := by
    rw [thermionkit_VoltsOf.l0, if_pos (by omega), obind h1, obind h2, obind (show some _ = some L by rw [hL]), obind h3]
    rw [if_pos c1, if_pos (by omega), if_pos (by omega), Int.toNat_natCast, hw]
theorem volts_go : ∀ (d i : Nat) (x : List Int) (s : Int), i + d = x.length → x.length ≤ 100 → OkV x → ∃ x' s', thermionkit_VoltsOf.l0 (d + 1) x (i : Int) s = some (x', s') ∧ x'.length = x.length ∧ OkV x' := by
  intro d
  induction d with
  | zero =>
    intro i x s hi hl hx
    refine ⟨x, s, ?_, rfl, hx⟩
    rw [thermionkit_VoltsOf.l0, if_neg (by omega)]
  | succ d ih =>
    intro i x s hi hl hx
    have hw : wrap64 ((i : Int) + 1) = ((i + 1 : Nat) : Int) := by rw [IntWalk.wrap64_in _ (by omega)]; omega
    obtain ⟨r1, h1, a1, a2⟩ := between_eq s (-100) 100 (by omega) (by omega) (by omega)
    obtain ⟨s1, e1⟩ : ∃ s1, nextWord s = s1 := ⟨_, rfl⟩
    rw [e1] at h1
    obtain ⟨r2, h2, b1, b2⟩ := between_eq s1 (-1000000) 1000000 (by omega) (by omega) (by omega)
    obtain ⟨s2, e2⟩ : ∃ s2, nextWord s1 = s2 := ⟨_, rfl⟩
    rw [e2] at h2
    obtain ⟨r3, h3, c1, c2⟩ := upto_eq s2 4 (by omega) (by omega)
    obtain ⟨s3, e3⟩ : ∃ s3, nextWord s2 = s3 := ⟨_, rfl⟩
    rw [e3] at h3
    clear e1 e2 e3
    obtain ⟨L, hL⟩ : ∃ L : List Int, ([0, r1, r2, 1000000] : List Int) = L := ⟨_, rfl⟩
    have hLl : (L.length : Int) = 4 := by rw [← hL]; rfl
    have hv : -1000000 ≤ rd L r3 ∧ rd L r3 ≤ 1000000 := by
      rw [← hL]
      rcases (show r3 = 0 ∨ r3 = 1 ∨ r3 = 2 ∨ r3 = 3 by omega) with rfl | rfl | rfl | rfl
      · exact ⟨by show (-1000000 : Int) ≤ 0; omega, by show (0 : Int) ≤ 1000000; omega⟩
      · exact ⟨by show -1000000 ≤ r1; omega, by show r1 ≤ 1000000; omega⟩
      · exact ⟨b1, b2⟩
      · exact ⟨by show (-1000000 : Int) ≤ 1000000; omega, by show (1000000 : Int) ≤ 1000000; omega⟩
    obtain ⟨x', s', e, e1, e2⟩ := ih (i + 1) (x.set i (rd L r3)) s3 (by rw [List.length_set]; omega) (by rw [List.length_set]; exact hl) (fun v hv' => by
      rcases mem_set hv' with rfl | hv'
      · exact hv
      · exact hx v hv')
    refine ⟨x', s', ?_, by rw [e1, List.length_set], e2⟩
    rw [volts_step (d + 1) i x s r1 s1 r2 s2 r3 s3 L hL hLl c1 c2 (by omega) h1 h2 h3 hw]
    exact e
theorem volts_fine {s W H : Int} {R : Bool} {C : List Int} (hC : checkErr W H R C = 0) (h3 : ∀ e, e ∈ C → 0 ≤ e ∧ e ≤ 3) (hl : C.length ≤ 256) : ∃ k volts s', (∀ k', k ≤ k' → thermionkit_VoltsOf.f k' s W H R C = some (volts, s')) ∧ voltErr W H R C volts = 0 ∧ volts.length ≤ 3 := by
  have hne := check_ne hC
  have hmx := h3 _ (maxOf_mem hne)
  obtain ⟨m, hm⟩ : ∃ m : Nat, maxOf C = m := ⟨(maxOf C).toNat, by omega⟩
  obtain ⟨volts, s', e, e1, e2⟩ := volts_go m 0 (List.replicate m 0) s (by simp) (by rw [List.length_replicate]; omega) (fun v hv => by
    have := List.eq_of_mem_replicate hv
    subst this
    omega)
  rw [List.length_replicate] at e1
  have hg := greatest_eq W H R (C := C) (by omega) (fun x hx => (h3 x hx).1) hne
  have hf : thermionkit_VoltsOf.f (C.length + 100) s W H R C = some (volts, s') := by
    unfold thermionkit_VoltsOf.f
    rw [obind (at_rounds (fun k => thermionkit_Greatest.mono W H R C k) (show C.length + 1 ≤ C.length + 100 by omega) hg)]
    have hmn : mn 8 (maxOf C) = (m : Int) := by rw [hm]; unfold mn; split <;> omega
    rw [hmn, if_pos (by omega), Int.toNat_natCast, if_pos (by omega)]
    exact at_rounds (g := fun k => thermionkit_VoltsOf.l0 k (List.replicate m 0) 0 s) (fun k => thermionkit_VoltsOf.mono_l k _ _ _) (show m + 1 ≤ C.length + 100 by omega) e
  refine ⟨C.length + 100, volts, s', fun k' hk => at_rounds (fun k => thermionkit_VoltsOf.mono s W H R C k) hk hf, ?_, by omega⟩
  unfold voltErr
  rw [if_neg (by rw [hC]; simp), if_neg (by rw [e1, hm]; simp), if_neg (by
    rintro ⟨v, hv, hb⟩
    have := e2 v hv
    omega)]
end Go.Proofs.Ytndkkjpgnmahbaa.Print
end

section
namespace Go.Proofs.Ytndkkjpgnmahbaa.Print
open Go.RowKit Go.Proofs.YtndkkjpgnmahbaaW.PrintWords Go.Proofs.YtndkkjpgnmahbaaW.PrintLast Go.Proofs.YtndkkjpgnmahbaaW.PrintMore Go.Proofs.Field
set_option maxRecDepth 100000 in
theorem awake_true : thermionlaw01_awake.f 10 = some true := by kernel_rfl
end Go.Proofs.Ytndkkjpgnmahbaa.Print
end

section
namespace Go.Proofs.Ytndkkjpgnmahbaa.Print
open Go.RowKit Go.Proofs.YtndkkjpgnmahbaaW.PrintWords Go.Proofs.YtndkkjpgnmahbaaW.PrintLast Go.Proofs.YtndkkjpgnmahbaaW.PrintMore Go.Proofs.Field
set_option linter.unusedVariables false
theorem mod_eq (a m : Int) (h1 : 1 ≤ m) (h2 : m ≤ 4611686018427387904) : ∃ r : Nat, thermionkit_Mod.f a m = some (r : Int) ∧ (r : Int) < m := by
  have hb : Int.tmod a m < m := Int.tmod_lt_of_pos a (by omega)
  have hl : -m < Int.tmod a m := by
    rcases Int.le_total 0 a with q | q
    · have := Int.tmod_nonneg m q; omega
    · have e : Int.tmod a m = - Int.tmod (-a) m := by rw [Int.neg_tmod]; omega
      have := Int.tmod_lt_of_pos (-a) (show 0 < m by omega)
      omega
  unfold thermionkit_Mod.f
  rw [if_neg (by omega), if_neg (by omega)]
  obtain ⟨t, ht⟩ : ∃ t, Int.tmod a m = t := ⟨_, rfl⟩
  rw [ht] at hb hl ⊢
  by_cases q : t < 0
  · rw [if_pos q, IntWalk.wrap64_in _ (by omega)]
    exact ⟨(t + m).toNat, by rw [show ((t + m).toNat : Int) = t + m by omega], by omega⟩
  · rw [if_neg q]
    exact ⟨t.toNat, by rw [show (t.toNat : Int) = t by omega], by omega⟩
theorem dealt_plan (s a1 a2 : Int) (h1 : 1 ≤ a1 ∧ a1 ≤ 16) (h2 : 1 ≤ a2 ∧ a2 ≤ 16) : ∃ (W H : Nat) (R : Bool) (C : List Int) (s1 : Int), thermionkit_PlanOf.f s a1 a2 = some ((W : Int), (H : Int), R, C, s1) ∧ 1 ≤ W ∧ (W : Int) ≤ a1 ∧ 1 ≤ H ∧ (H : Int) ≤ a2 ∧ C.length = W * H ∧ C.length ≤ 256 ∧ (∀ e, e ∈ C → 0 ≤ e ∧ e ≤ 3) ∧ checkErr W H R C = 0 := by
  have h : ∃ W H R C r, thermionkit_PlanOf.f s a1 a2 = some (W, H, R, C, r) := by
    unfold thermionkit_PlanOf.f
    rw [if_pos ⟨h1.1, h1.2, h2.1, h2.2⟩]
    exact ⟨_, _, _, _, _, rfl⟩
  obtain ⟨W, H, R, C, r, h⟩ := h
  obtain ⟨a, b, c, d, e, f, g, i, j⟩ := planOf_fine h
  obtain ⟨W', rfl⟩ : ∃ W' : Nat, W = W' := ⟨W.toNat, by omega⟩
  obtain ⟨H', rfl⟩ : ∃ H' : Nat, H = H' := ⟨H.toNat, by omega⟩
  have hl : C.length = W' * H' := by rw [← Int.natCast_mul] at g; omega
  have h256 : C.length ≤ 256 := by have := Nat.mul_le_mul (show W' ≤ 16 by omega) (show H' ≤ 16 by omega); omega
  exact ⟨W', H', R, C, r, h, by omega, by omega, by omega, by omega, hl, h256, i, j⟩
structure Dealt (s a1 a2 : Int) (W H : Nat) (R : Bool) (C v : List Int) (s1 s2 : Int) : Prop where
  plan : thermionkit_PlanOf.f s a1 a2 = some ((W : Int), (H : Int), R, C, s1)
  volts : ∃ K, ∀ k, K ≤ k → thermionkit_VoltsOf.f k s1 (W : Int) (H : Int) R C = some (v, s2)
  W1 : 1 ≤ W
  W2 : (W : Int) ≤ a1
  H1 : 1 ≤ H
  H2 : (H : Int) ≤ a2
  W16 : W ≤ 16
  H16 : H ≤ 16
  len : C.length = W * H
  small : C.length ≤ 256
  cells : ∀ e, e ∈ C → 0 ≤ e ∧ e ≤ 3
  check : checkErr W H R C = 0
  verr : voltErr W H R C v = 0
  volted : Volted W H R C v
  vlen : v.length ≤ 3
theorem dealt (s a1 a2 : Int) (h1 : 1 ≤ a1 ∧ a1 ≤ 16) (h2 : 1 ≤ a2 ∧ a2 ≤ 16) : ∃ W H R C v s1 s2, Dealt s a1 a2 W H R C v s1 s2 := by
  obtain ⟨W, H, R, C, s1, h, b1, b2, b3, b4, hl, h256, hc, hck⟩ := dealt_plan s a1 a2 h1 h2
  obtain ⟨k, v, s2, hk, hv, hvl⟩ := volts_fine (s := s1) hck hc h256
  obtain ⟨W', H', eW, eH, _, _, _, _, hV⟩ := volted_of hv
  obtain rfl : W = W' := by omega
  obtain rfl : H = H' := by omega
  exact ⟨W, H, R, C, v, s1, s2, h, ⟨k, hk⟩, b1, b2, b3, b4, by omega, by omega, hl, h256, hc, hck, hv, hV, hvl⟩
theorem solve_eq {W H : Nat} {R : Bool} {C v : List Int} {n : Nat} (hv : voltErr W H R C v = 0) (hn : n ≤ 200) :
    field_Solve.f W H R C v n = some ((solveN W H R C v 256 n).1.take C.length, (solveN W H R C v 256 n).2.1.take C.length, ((solveN W H R C v 256 n).2.2.1 : Int), (solveN W H R C v 256 n).2.2.2, 0) := by
  unfold field_Solve.f
  rw [if_neg (by rw [hv]; simp), if_neg (by omega), Int.toNat_natCast, Int.toNat_natCast, Int.toNat_natCast]
theorem bounds_len {W H : Nat} {R : Bool} {C v : List Int} (hV : Volted W H R C v) (h : C.length ≤ 256) (n : Nat) : ((solveN W H R C v 256 n).1.take C.length).length = C.length ∧ ((solveN W H R C v 256 n).2.1.take C.length).length = C.length := by
  have hp := solve_pair hV h n
  have h1 := hp.low.1.len
  have h2 := hp.high.1.len
  rw [List.length_take, List.length_take]
  omega
theorem rd_fn (b : List Int) (i : Nat) (h : i < b.length) : rd b (i : Int) = fn b i := by
  rw [rd_natc b i h]
  unfold fn
  rw [List.getD_eq_getElem?_getD, List.getElem?_eq_getElem h]
  rfl
theorem same_go (x : List Int) (hl : x.length ≤ 1000000) : ∀ (d i : Nat), i + d = x.length → thermionkit_Same.l0 (d + 1) x x (i : Int) = some true
  | 0, i, h => by rw [thermionkit_Same.l0, if_neg (by omega)]
  | d + 1, i, h => by
    have hw : wrap64 ((i : Int) + 1) = ((i + 1 : Nat) : Int) := by rw [IntWalk.wrap64_in _ (by omega)]; omega
    rw [thermionkit_Same.l0, if_pos (by omega), if_pos (by omega), if_pos (by omega), if_pos rfl, hw, same_go x hl d (i + 1) (by omega)]
theorem same_eq (x : List Int) (hl : x.length ≤ 1000000) : ∃ K, ∀ k, K ≤ k → thermionkit_Same.f k x x = some true :=
  Ev.of (g := fun k => thermionkit_Same.f k x x) (fun k => thermionkit_Same.mono x x k) (k := x.length + 1) (by
    unfold thermionkit_Same.f
    rw [if_pos rfl]
    exact same_go x hl x.length 0 (by omega))
theorem same_fields (x y : List Int) (n : Int) (b : Bool) (hx : x.length ≤ 1000000) (hy : y.length ≤ 1000000) : ∃ K, ∀ k, K ≤ k → thermionlaw01_same.f k x y n b x y n b = some true := by
  obtain ⟨K1, h1⟩ := same_eq x hx
  obtain ⟨K2, h2⟩ := same_eq y hy
  refine ⟨max K1 K2, fun k hk => ?_⟩
  unfold thermionlaw01_same.f
  rw [obind (h1 k (by omega)), if_pos rfl, obind (h2 k (by omega)), if_pos rfl, if_pos rfl]
  simp
theorem awake_ev : ∃ K, ∀ k, K ≤ k → thermionlaw01_awake.f k = some true := Ev.of (g := fun k => thermionlaw01_awake.f k) thermionlaw01_awake.mono awake_true
end Go.Proofs.Ytndkkjpgnmahbaa.Print
end

section
namespace Go.Proofs.Ytndkkjpgnmahbaa.Pure
open Go.RowKit Go.Proofs.Ytndkkjpgnmahbaa.Print Go.Proofs.YtndkkjpgnmahbaaW.PrintWords Go.Proofs.YtndkkjpgnmahbaaW.PrintLast Go.Proofs.YtndkkjpgnmahbaaW.PrintMore Go.Proofs.Field
set_option linter.unusedVariables false
theorem narrows_go (n m : Int) (al ah bl bh : List Int) (ak bk : Int) (as' bs : Bool) (K : Nat) (hl : al.length ≤ 256) (e1 : bl.length = al.length) (e2 : ah.length = al.length) (e3 : bh.length = al.length)
    (h1 : ∀ i, i < al.length → fn al i ≤ fn bl i) (h2 : ∀ i, i < al.length → fn bh i ≤ fn ah i)
    (hend : ∀ k, K ≤ k → thermionlaw01_FieldNarrows.l0 (k + 1) n m (al.length : Int) al ah ak as' bl bh bk bs = some true) :
    ∀ (d i k : Nat), i + d = al.length → K + d ≤ k → thermionlaw01_FieldNarrows.l0 (k + 1) n m (i : Int) al ah ak as' bl bh bk bs = some true
  | 0, i, k, h, hk => by
    obtain rfl : i = al.length := by omega
    exact hend k (by omega)
  | d + 1, i, k, h, hk => by
    obtain ⟨k, rfl⟩ : ∃ k', k = k' + 1 := ⟨k - 1, by omega⟩
    have hw : wrap64 ((i : Int) + 1) = ((i + 1 : Nat) : Int) := by rw [IntWalk.wrap64_in _ (by omega)]; omega
    have a1 := h1 i (by omega)
    have a2 := h2 i (by omega)
    rw [thermionlaw01_FieldNarrows.l0, rd_fn al i (by omega), rd_fn bl i (by omega), rd_fn ah i (by omega), rd_fn bh i (by omega), if_pos (by omega), if_pos (by omega), if_pos (by omega), if_neg (by omega), if_pos (by omega), if_pos (by omega), if_neg (by omega), hw]
    exact narrows_go n m al ah bl bh ak bk as' bs K hl e1 e2 e3 h1 h2 hend d (i + 1) k (by omega) (by omega)
theorem FieldNarrows : thermionlaw01_FieldNarrows.Pure := by
  intro l0 a1 a2 _ _ _ _ _
  obtain ⟨s, hs⟩ : ∃ s, thermionkit_NewDice.f l0 = some s := ⟨_, rfl⟩
  obtain ⟨W, H, R, C, v, s1, s2, D⟩ := dealt s 8 6 (by omega) (by omega)
  obtain ⟨n, hn, hn1⟩ := mod_eq a1 41 (by omega) (by omega)
  obtain ⟨m, hm, hm1⟩ := mod_eq a2 21 (by omega) (by omega)
  have hnm : wrap64 ((n : Int) + (m : Int)) = ((n + m : Nat) : Int) := by rw [IntWalk.wrap64_in _ (by omega)]; omega
  have hV := D.volted
  have hN := D.small
  have p1 := solve_pair hV hN n
  obtain ⟨t1, t2⟩ := bounds_len hV hN n
  obtain ⟨t3, t4⟩ := bounds_len hV hN (n + m)
  have f1 := solve_eq (n := n) D.verr (by omega)
  have f2 := solve_eq (n := n + m) D.verr (by omega)
  have hadd := sweeps_add (W := W) (H := H) (R := R) (C := C) n m 0 (laid C v 256 (minOf (onOf C v))) (laid C v 256 (maxOf (onOf C v))) false
  have hbd := sweeps_pair hV.fine hV.len m (solveN W H R C v 256 n).2.2.1 _ _ (solveN W H R C v 256 n).2.2.2 p1
  have hfew := (sweeps_pair hV.fine hV.len n 0 _ _ false ⟨laid_low hV hN, laid_high hV hN⟩).2.2.2.2
  have hst : (solveN W H R C v 256 n).2.2.2 = true → solveN W H R C v 256 (n + m) = solveN W H R C v 256 n := fun q => by
    show sweeps _ _ _ _ _ _ _ _ _ = _
    rw [hadd]
    show sweeps W H R C m (solveN W H R C v 256 n).1 (solveN W H R C v 256 n).2.1 (solveN W H R C v 256 n).2.2.1 (solveN W H R C v 256 n).2.2.2 = _
    rw [q, sweeps_done, ← q]
  have hadd' : solveN W H R C v 256 (n + m) = sweeps W H R C m (solveN W H R C v 256 n).1 (solveN W H R C v 256 n).2.1 (solveN W H R C v 256 n).2.2.1 (solveN W H R C v 256 n).2.2.2 := hadd
  rw [← hadd'] at hbd
  have hfew' : (solveN W H R C v 256 n).2.2.1 ≤ 0 + n := hfew
  have g1 := p1.low.1.len
  have g2 := p1.high.1.len
  have g3 := hbd.1.low.1.len
  have g4 := hbd.1.high.1.len
  obtain ⟨A, hA⟩ : ∃ A, solveN W H R C v 256 n = A := ⟨_, rfl⟩
  obtain ⟨B, hB⟩ : ∃ B, solveN W H R C v 256 (n + m) = B := ⟨_, rfl⟩
  rw [hA] at f1 t1 t2 hbd hst hfew' g1 g2
  rw [hB] at f2 t3 t4 hbd hst g3 g4
  clear hadd hadd' hfew
  obtain ⟨_, b1, b2, b3, b4⟩ := hbd
  obtain ⟨K1, hv⟩ := D.volts
  obtain ⟨K2, hw⟩ := awake_ev
  obtain ⟨K3, hsm⟩ := same_fields (A.1.take C.length) (A.2.1.take C.length) (A.2.2.1 : Int) A.2.2.2 (by omega) (by omega)
  have hend : ∀ k, max K2 K3 ≤ k → thermionlaw01_FieldNarrows.l0 (k + 1) (n : Int) (m : Int) ((A.1.take C.length).length : Int) (A.1.take C.length) (A.2.1.take C.length) (A.2.2.1 : Int) A.2.2.2 (B.1.take C.length) (B.2.1.take C.length) (B.2.2.1 : Int) B.2.2.2 = some true := fun k hk => by
    rw [thermionlaw01_FieldNarrows.l0, if_neg (by omega), hnm]
    by_cases q : A.2.2.2 = true
    · rw [if_pos q]
      have e := hst q
      rw [e, obind (hsm k (by omega)), if_pos rfl, if_pos (by omega), if_pos (by omega), obind (hw k (by omega))]
    · rw [if_neg q, if_pos (by omega), if_pos (by omega), obind (hw k (by omega))]
  have hgo := narrows_go n m (A.1.take C.length) (A.2.1.take C.length) (B.1.take C.length) (B.2.1.take C.length) A.2.2.1 B.2.2.1 A.2.2.2 B.2.2.2 (max K2 K3) (by omega) (by omega) (by omega) (by omega)
    (fun i hi => by rw [fn_take (by omega), fn_take (by omega)]; exact b1 i (by omega)) (fun i hi => by rw [fn_take (by omega), fn_take (by omega)]; exact b2 i (by omega)) hend C.length 0 (max K1 (max K2 K3 + C.length)) (by omega) (by omega)
  refine ⟨max K1 (max K2 K3 + C.length) + 2, ?_⟩
  unfold thermionlaw01_FieldNarrows.f
  rw [obind hs, obind D.plan, obind (hv _ (by omega)), obind hn, obind hm, obind f1, hnm, obind f2, if_pos rfl, if_pos rfl, if_pos (by rw [t1, t3]), if_pos (by rw [t2, t4]), if_pos (by rw [t1])]
  rw [thermionlaw01_FieldNarrows.j0, if_neg (by rw [t2]; simp)]
  exact hgo
end Go.Proofs.Ytndkkjpgnmahbaa.Pure
end

section
namespace Go.Proofs.YtndkkjpgnmahbaaW.PrintWords
open Go.ChangeShapes Go.WideShapes
theorem sized_ints {H : Type} {enc : TypeId × Value → H} {P : Program} {W : World} {base : Nat} {spare : Nat → Bool} {held : Bool} {t e : TypeId} {k : IntKind} {a : Option Addr} {len cap : Nat} {d : DataW H} {ps : List MemPlace} {ts : List TypeId} {ds : List (DataW H)} {j : Nat}
    (hsz : (DataW.weightsEach P ts ds).all (· ≤ reachBytes) = true) (ht : ts[j]? = some t) (hd : ds[j]? = some d) (hu : P.underlying t = some (.slice e)) (he : P.underlying e = some (.int k)) (hc : P.cellsOf e = 1) {B : Nat} (hB : P.bytesOf e = B)
    (h : DataW.Trod enc P W base spare held t (.slice a len cap) d ps) : len * B ≤ 140737488351232 := by
  obtain ⟨fuel, hf⟩ := h
  rcases open_ints hu he hc hf with ⟨hcs, _⟩ | ⟨x, l, c, zs, hcs, _, hl, _, hz, hx, _, _⟩
  · simp [Value.cells] at hcs
    obtain ⟨rfl, rfl, rfl⟩ := hcs
    simp
  · simp [Value.cells] at hcs
    obtain ⟨rfl, rfl, rfl⟩ := hcs
    obtain ⟨hx, _⟩ := Prod.mk.inj hx
    subst hx
    have z := sized_slice hsz ht hd hu
    rw [hB] at z
    have hl2 : len ≤ zs.length := by
      rw [hz]
      split
      · exact hl
      · exact Nat.le_refl _
    have h1 : (lits (H := H) k (zs.take len)).length + (lits (H := H) k (zs.drop len)).length = zs.length := by
      simp [lits]
      omega
    rw [h1] at z
    exact Nat.le_trans (Nat.mul_le_mul_right _ hl2) z
end Go.Proofs.YtndkkjpgnmahbaaW.PrintWords
end
