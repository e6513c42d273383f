/- Part 5 of the texts of a claim about Ytndkkjpgnmahbaa, put together by a program of this work: what the Go functions do, and that their calls do so. -/
import Derived.Test.YtndkkjpgnmahbaaFD4
import Derived.Test.YtndkkjpgnmahbaaFD2
import Derived.Test.YtndkkjpgnmahbaaFD3
section
namespace Go.Proofs.Ytndkkjpgnmahbaa.Print
open Go.RowKit Go.Proofs.YtndkkjpgnmahbaaW.PrintWords Go.Proofs.YtndkkjpgnmahbaaW.PrintLast Go.Proofs.YtndkkjpgnmahbaaW.PrintMore Go.Proofs.Field
set_option linter.unusedVariables false
theorem obnd {α β : Type} {o : Option α} {a : α} (h : o = some a) (f : α → Option β) : o.bind f = f a := by rw [h]; rfl
def wtR (W H : Nat) (R : Bool) (i : Nat) (c : Int) : Int := if 0 ≤ c ∧ c < ((W * H : Nat) : Int) then netM W H R i c.toNat else 0
theorem wtR_nonneg (W H : Nat) (R : Bool) (i : Nat) (c : Int) : 0 ≤ wtR W H R i c := by
 unfold wtR
 split
 ·exact netM_nonneg W H R i _
 ·omega
theorem wt_of (W H : Nat) (R : Bool) (C : List Int) (k : Nat) (m M : Int) (hW : 1 ≤ W ∧ W ≤ 16) (h0 : 0 ≤ m) (h1 : m ≤ 100000) (hM0 : 0 ≤ M) (b : Bool) :
  thermionref01_weight.j1 (k + 1) m M (Int.tmod m W) b (W : Int) (H : Int) R C = some (if b = true then wgt R (m.toNat % W) false else if M = m + W then wgt R (m.toNat % W) true else 0) := by
 have e : Int.tmod m W = ((m.toNat % W : Nat) : Int) := by
  rw [Int.tmod_eq_emod_of_nonneg h0, Int.natCast_emod, Int.toNat_of_nonneg h0]
 have hl : m.toNat % W < W := Nat.mod_lt _ (by omega)
 have w1 : wrap64 (m + (W : Int)) = m + W := IntWalk.wrap64_in _ (by omega)
 have w2 : wrap64 (((m.toNat % W : Nat) : Int) + 1) = ((m.toNat % W : Nat) : Int) + 1 := IntWalk.wrap64_in _ (by omega)
 have w3 : wrap64 (2 * (((m.toNat % W : Nat) : Int) + 1)) = 2 * (((m.toNat % W : Nat) : Int) + 1) := IntWalk.wrap64_in _ (by omega)
 have w4 : wrap64 (2 * ((m.toNat % W : Nat) : Int)) = 2 * ((m.toNat % W : Nat) : Int) := IntWalk.wrap64_in _ (by omega)
 have w5 : wrap64 (2 * ((m.toNat % W : Nat) : Int) + 1) = 2 * ((m.toNat % W : Nat) : Int) + 1 := IntWalk.wrap64_in _ (by omega)
 rw [thermionref01_weight.j1, e, w1, w2, w3, w4, w5]
 unfold wgt
 cases b <;> cases R <;> simp only [if_true, if_false, Bool.false_eq_true] <;> (try split) <;> rfl
theorem weight_eq {W H : Nat} (hW : 1 ≤ W ∧ W ≤ 16) (hH : 1 ≤ H ∧ H ≤ 16) (R : Bool) (C : List Int) {i : Nat} (hi : i < W * H) (c : Int) (k : Nat) :
  thermionref01_weight.f (k + 2) (W : Int) (H : Int) R C (i : Int) c = some (wtR W H R i c) := by
 have hWH : W * H ≤ 256 := Nat.mul_le_mul hW.2 hH.2
 have hWH1 : 1 ≤ W * H := Nat.mul_pos hW.1 hH.1
 have w0 : wrap64 ((W : Int) * (H : Int)) = ((W * H : Nat) : Int) := by
  rw [← Int.natCast_mul]; exact IntWalk.wrap64_in _ (by omega)
 have w1 : wrap64 (((W * H : Nat) : Int) - 1) = ((W * H : Nat) : Int) - 1 := IntWalk.wrap64_in _ (by omega)
 generalize hn : W * H = n at w0 w1 hi hWH hWH1
 unfold thermionref01_weight.f wtR
 rw [w0, w1]
 have b1 : thermionref01_beyond.f (i : Int) 0 ((n : Int) - 1) = some false := by
  unfold thermionref01_beyond.f
  rw [if_neg (by omega), decide_eq_false (by omega)]
 rw [obnd b1, if_neg (by simp), hn]
 by_cases hc : 0 ≤ c ∧ c < (n : Int)
 ·have b2 : thermionref01_beyond.f c 0 ((n : Int) - 1) = some false := by
   unfold thermionref01_beyond.f
   rw [if_neg (by omega), decide_eq_false (by omega)]
  rw [obnd b2, if_pos hc]
  obtain ⟨j, rfl⟩ : ∃ j : Nat, c = (j : Int) := ⟨c.toNat, by omega⟩
  rw [Int.toNat_natCast, thermionref01_weight.j0, if_neg (by simp), if_neg (by omega)]
  have hj : j < n := by omega
  have key : ∀ (m M : Nat), m < n → M < n → m ≤ M → (if (M : Int) = wrap64 ((m : Int) + 1) then thermionref01_weight.j1 (k + 1) (m : Int) (M : Int) (Int.tmod (m : Int) W) (decide (Int.tmod (M : Int) W > 0)) (W : Int) (H : Int) R C else thermionref01_weight.j1 (k + 1) (m : Int) (M : Int) (Int.tmod (m : Int) W) false (W : Int) (H : Int) R C) = some (netM W H R m M) := by
   clear w0 w1 b1 b2 hc hi hj
   intro m M hm hM hle
   have g0 : (0 : Int) ≤ (m : Int) := by omega
   have g1 : (m : Int) ≤ 100000 := by omega
   have g2 : (0 : Int) ≤ (M : Int) := by omega
   have v1 : wrap64 ((m : Int) + 1) = (m : Int) + 1 := IntWalk.wrap64_in _ (by omega)
   have e : Int.tmod (M : Int) W = ((M % W : Nat) : Int) := by
    rw [Int.tmod_eq_emod_of_nonneg (by omega), Int.natCast_emod]
   rw [v1, e]
   obtain ⟨bb, hbb⟩ : ∃ bb, decide (((M % W : Nat) : Int) > 0) = bb := ⟨_, rfl⟩
   rw [hbb, wt_of W H R C k m M hW g0 g1 g2 bb, wt_of W H R C k m M hW g0 g1 g2 false, Int.toNat_natCast]
   unfold netM
   rw [hn, if_pos (show m < n ∧ M < n from ⟨hm, hM⟩)]
   by_cases a : M = m + 1
   ·rw [if_pos (show (M : Int) = (m : Int) + 1 by omega)]
    by_cases d : 0 < M % W
    ·rw [if_pos (by rw [← hbb]; exact decide_eq_true (by omega)), if_pos (show M = m + 1 ∧ 0 < M % W from ⟨a, d⟩)]
    ·rw [if_neg (by rw [← hbb, decide_eq_false (by omega)]; simp), if_neg (show ¬ (M = m + 1 ∧ 0 < M % W) from fun q => d q.2), if_neg (show ¬ (m = M + 1 ∧ 0 < m % W) by omega)]
     by_cases f : M = m + W
     ·rw [if_pos (show (M : Int) = (m : Int) + (W : Int) by omega), if_pos f]
     ·rw [if_neg (show ¬ (M : Int) = (m : Int) + (W : Int) by omega), if_neg f, if_neg (show ¬ m = M + W by omega)]
   ·rw [if_neg (show ¬ (M : Int) = (m : Int) + 1 by omega), if_neg (by simp), if_neg (show ¬ (M = m + 1 ∧ 0 < M % W) from fun q => a q.1), if_neg (show ¬ (m = M + 1 ∧ 0 < m % W) by omega)]
    by_cases f : M = m + W
    ·rw [if_pos (show (M : Int) = (m : Int) + (W : Int) by omega), if_pos f]
    ·rw [if_neg (show ¬ (M : Int) = (m : Int) + (W : Int) by omega), if_neg f, if_neg (show ¬ m = M + W by omega)]
  by_cases q : i ≤ j
  ·have e1 : mn (i : Int) (j : Int) = (i : Int) := by unfold mn; rw [if_neg (by omega)]
   have e2 : mx (i : Int) (j : Int) = (j : Int) := by unfold mx; split <;> omega
   rw [e1, e2]
   exact key i j hi hj q
  ·have e1 : mn (i : Int) (j : Int) = (j : Int) := by unfold mn; rw [if_pos (by omega)]
   have e2 : mx (i : Int) (j : Int) = (i : Int) := by unfold mx; rw [if_neg (by omega)]
   rw [e1, e2, netM_symm]
   exact key j i hj hi (by omega)
 ·have b2 : thermionref01_beyond.f c 0 ((n : Int) - 1) = some true := by
   unfold thermionref01_beyond.f
   by_cases q : c < 0
   ·rw [if_pos q]
   ·rw [if_neg q, decide_eq_true (by omega)]
  rw [obnd b2, if_neg hc, thermionref01_weight.j0, if_pos rfl]
section
variable {W H : Nat} {R : Bool} {C : List Int} {i : Nat}
def cand (W i : Nat) : List Int := if W = 1 then [(i : Int) - 1, (i : Int) + 1] else [(i : Int) - W, (i : Int) - 1, (i : Int) + 1, (i : Int) + W]
def aroundL (W H : Nat) (R : Bool) (i : Nat) : List Int := (cand W i).filter (fun c => decide (0 < wtR W H R i c))
theorem rd_at (l : List Int) (j : Nat) (h : j < l.length) : rd l (j : Int) = l[j] := by
 unfold rd
 rw [Int.toNat_natCast, List.getD_eq_getElem?_getD, List.getElem?_eq_getElem h]
 rfl
theorem around_go (hW : 1 ≤ W ∧ W ≤ 16) (hH : 1 ≤ H ∧ H ≤ 16) (hi : i < W * H) (l : List Int) (hl : l.length ≤ 100) : ∀ (d j : Nat) (acc : List Int) (k : Nat), j + d = l.length → acc.length ≤ j →
  thermionref01_around.l0 (k + d + 3) (i : Int) l acc (j : Int) (W : Int) (H : Int) R C = some (acc ++ (l.drop j).filter (fun c => decide (0 < wtR W H R i c)))
 | 0, j, acc, k, h, ha => by
  rw [show k + 0 + 3 = (k + 2) + 1 by omega, thermionref01_around.l0, if_neg (by omega), List.drop_eq_nil_of_le (by omega)]
  simp
 | d + 1, j, acc, k, h, ha => by
  have hj : j < l.length := by omega
  have hw : wrap64 ((j : Int) + 1) = ((j + 1 : Nat) : Int) := by rw [IntWalk.wrap64_in _ (by omega)]; omega
  rw [show k + (d + 1) + 3 = (k + d + 3) + 1 by omega, thermionref01_around.l0, if_pos (by omega), if_pos (by omega), rd_at l j hj, obnd (weight_eq hW hH R C hi l[j] (k + d + 1)), hw, List.drop_eq_getElem_cons hj, List.filter_cons]
  by_cases q : 0 < wtR W H R i l[j]
  ·rw [if_pos q, if_pos (by omega), around_go hW hH hi l hl d (j + 1) _ k (by omega) (by simp; omega), if_pos (by simpa using q)]
   simp
  ·rw [if_neg q, around_go hW hH hi l hl d (j + 1) _ k (by omega) (by omega), if_neg (by simpa using q)]
theorem around_eq (hW : 1 ≤ W ∧ W ≤ 16) (hH : 1 ≤ H ∧ H ≤ 16) (hi : i < W * H) (k : Nat) : thermionref01_around.f (k + 8) (W : Int) (H : Int) R C (i : Int) = some (aroundL W H R i) := by
 have hWH : W * H ≤ 256 := Nat.mul_le_mul hW.2 hH.2
 have v1 : wrap64 ((i : Int) - 1) = (i : Int) - 1 := IntWalk.wrap64_in _ (by omega)
 have v2 : wrap64 ((i : Int) + 1) = (i : Int) + 1 := IntWalk.wrap64_in _ (by omega)
 have v3 : wrap64 ((i : Int) - (W : Int)) = (i : Int) - W := IntWalk.wrap64_in _ (by omega)
 have v4 : wrap64 ((i : Int) + (W : Int)) = (i : Int) + W := IntWalk.wrap64_in _ (by omega)
 unfold thermionref01_around.f aroundL cand
 rw [v1, v2, v3, v4]
 by_cases q : W = 1
 ·rw [if_pos (show (W : Int) = 1 by omega), if_pos q, show k + 8 = (k + 7) + 1 by omega, thermionref01_around.j0]
  have := around_go (C := C) (R := R) hW hH hi [(i : Int) - 1, (i : Int) + 1] (by simp) 2 0 [] (k + 2) (by simp) (by simp)
  rw [show k + 2 + 2 + 3 = k + 7 by omega] at this
  exact this
 ·rw [if_neg (show ¬ (W : Int) = 1 by omega), if_neg q, show k + 8 = (k + 7) + 1 by omega, thermionref01_around.j0]
  have := around_go (C := C) (R := R) hW hH hi [(i : Int) - W, (i : Int) - 1, (i : Int) + 1, (i : Int) + W] (by simp) 4 0 [] k (by simp) (by simp)
  rw [show k + 4 + 3 = k + 7 by omega] at this
  exact this
theorem wt_up (hi : i < W * H) : wtR W H R i ((i : Int) - W) = if 0 < i / W then wgt R (i % W) true else 0 := by
 obtain ⟨hW, he, hx, hy⟩ := cell_at hi
 have hu := up_ge (W := W) (i := i) hW
 unfold wtR
 generalize hn : W * H = n at hi ⊢
 by_cases q : W ≤ i
 ·rw [if_pos (hu.2 q), if_pos (show 0 ≤ (i : Int) - W ∧ (i : Int) - W < (n : Int) by omega), show ((i : Int) - W).toNat = i - W by omega]
  unfold netM
  have hm : (i - W) % W = i % W := (Nat.mod_eq_sub_mod q).symm
  have h2 : ¬ (i = i - W + 1 ∧ 0 < i % W) := fun ⟨a, b⟩ => by
   have h1 : W = 1 := by omega
   subst h1
   rw [Nat.mod_one] at b
   omega
  rw [hn, if_pos (show i < n ∧ i - W < n by omega), if_neg (show ¬ (i - W = i + 1 ∧ 0 < (i - W) % W) by omega), if_neg h2, if_neg (show ¬ i - W = i + W by omega), if_pos (show i = i - W + W by omega), hm]
 ·rw [if_neg (fun h => q (hu.1 h)), if_neg (by omega)]
theorem wt_down (hi : i < W * H) : wtR W H R i ((i : Int) + W) = if i / W + 1 < H then wgt R (i % W) true else 0 := by
 obtain ⟨hW, he, hx, hy⟩ := cell_at hi
 have hd := down_lt hi
 unfold wtR
 generalize hn : W * H = n at hi hd ⊢
 by_cases q : i + W < n
 ·rw [if_pos (hd.2 q), if_pos (show 0 ≤ (i : Int) + W ∧ (i : Int) + W < (n : Int) by omega), show ((i : Int) + W).toNat = i + W by omega]
  unfold netM
  have h1 : ¬ (i + W = i + 1 ∧ 0 < (i + W) % W) := fun ⟨a, b⟩ => by
   have h1 : W = 1 := by omega
   subst h1
   rw [Nat.mod_one] at b
   omega
  rw [hn, if_pos (show i < n ∧ i + W < n by omega), if_neg h1, if_neg (show ¬ (i = i + W + 1 ∧ 0 < i % W) by omega), if_pos rfl]
 ·rw [if_neg (fun h => q (hd.1 h)), if_neg (by omega)]
theorem wt_left (hi : i < W * H) (h1 : 1 < W) : wtR W H R i ((i : Int) - 1) = if 0 < i % W then wgt R (i % W - 1) false else 0 := by
 obtain ⟨hW, he, hx, hy⟩ := cell_at hi
 unfold wtR
 generalize hn : W * H = n at hi ⊢
 by_cases q : 0 < i
 ·rw [if_pos (show 0 ≤ (i : Int) - 1 ∧ (i : Int) - 1 < (n : Int) by omega), show ((i : Int) - 1).toNat = i - 1 by omega]
  unfold netM
  rw [hn, if_pos (show i < n ∧ i - 1 < n by omega), if_neg (show ¬ (i - 1 = i + 1 ∧ 0 < (i - 1) % W) by omega)]
  by_cases r : 0 < i % W
  ·rw [if_pos (show i = i - 1 + 1 ∧ 0 < i % W from ⟨by omega, r⟩), if_pos r, (left_col r).1]
  ·rw [if_neg (show ¬ (i = i - 1 + 1 ∧ 0 < i % W) from fun h => r h.2), if_neg r, if_neg (show ¬ i - 1 = i + W by omega), if_neg (show ¬ i = i - 1 + W by omega)]
 ·obtain rfl : i = 0 := by omega
  rw [if_neg (by omega), Nat.zero_mod, if_neg (by omega)]
theorem wt_right (hi : i < W * H) (h1 : 1 < W) : wtR W H R i ((i : Int) + 1) = if i % W + 1 < W then wgt R (i % W) false else 0 := by
 obtain ⟨hW, he, hx, hy⟩ := cell_at hi
 have hr := right_mod (W := W) (i := i) hW
 have hl := fun h => right_lt (W := W) (H := H) (i := i) hi h
 unfold wtR
 generalize hn : W * H = n at hi hl ⊢
 by_cases q : i + 1 < n
 ·rw [if_pos (show 0 ≤ (i : Int) + 1 ∧ (i : Int) + 1 < (n : Int) by omega), show ((i : Int) + 1).toNat = i + 1 by omega]
  unfold netM
  rw [hn, if_pos (show i < n ∧ i + 1 < n by omega)]
  by_cases r : i % W + 1 < W
  ·rw [if_pos (show i + 1 = i + 1 ∧ 0 < (i + 1) % W from ⟨rfl, hr.2 r⟩), if_pos r]
  ·rw [if_neg (show ¬ (i + 1 = i + 1 ∧ 0 < (i + 1) % W) from fun h => r (hr.1 h.2)), if_neg (show ¬ (i = i + 1 + 1 ∧ 0 < i % W) by omega), if_neg (show ¬ i + 1 = i + W by omega), if_neg (show ¬ i = i + 1 + W by omega), if_neg r]
 ·rw [if_neg (show ¬ (0 ≤ (i : Int) + 1 ∧ (i : Int) + 1 < (n : Int)) by omega), if_neg (fun h => q (hl h))]
theorem under_if (g : Nat → Int) (p : Prop) [Decidable p] (j : Nat) (w : Int) : under g (if p then [(j, w)] else []) = (if p then w else 0) * g j := by
 split
 ·exact under_one g _
 ·rw [Int.zero_mul]; rfl
theorem cand_under (hi : i < W * H) (g : Nat → Int) : ((cand W i).map (fun c => wtR W H R i c * g c.toNat)).sum = under g (nbs W H R i) := by
 obtain ⟨hW, he, hx, hy⟩ := cell_at hi
 unfold cand nbs
 rw [under_append, under_append, under_append, under_if, under_if, under_if, under_if]
 have e1 : ((i : Int) - W).toNat = i - W := by omega
 have e2 : ((i : Int) - 1).toNat = i - 1 := by omega
 have e3 : ((i : Int) + 1).toNat = i + 1 := by omega
 have e4 : ((i : Int) + W).toNat = i + W := by omega
 by_cases q : W = 1
 ·rw [if_pos q]
  have u := wt_up (R := R) hi
  have d := wt_down (R := R) hi
  subst q
  have n1 : ¬ 0 < i % 1 := by omega
  have n2 : ¬ i % 1 + 1 < 1 := by omega
  rw [if_neg n1, if_neg n2]
  simp only [List.map_cons, List.map_nil, List.sum_cons, List.sum_nil]
  rw [show (i : Int) - 1 = (i : Int) - ((1 : Nat) : Int) from rfl, show (i : Int) + 1 = (i : Int) + ((1 : Nat) : Int) from rfl, u, d, e1, e4]
  omega
 ·have h1 : 1 < W := by omega
  rw [if_neg q]
  simp only [List.map_cons, List.map_nil, List.sum_cons, List.sum_nil]
  rw [wt_up hi, wt_down hi, wt_left hi h1, wt_right hi h1, e1, e2, e3, e4]
  omega
theorem sum_filter {l : List Int} {p : Int → Bool} {f : Int → Int} (h : ∀ c, c ∈ l → p c = false → f c = 0) : ((l.filter p).map f).sum = (l.map f).sum := by
 induction l with
 | nil => rfl
 | cons c l ih =>
  have ih := ih (fun x hx => h x (List.mem_cons_of_mem _ hx))
  rw [List.filter_cons]
  cases q : p c with
  | true => simp only [if_true, List.map_cons, List.sum_cons]; rw [ih]
  | false => simp only [Bool.false_eq_true, if_false, List.map_cons, List.sum_cons]; rw [ih, h c List.mem_cons_self q, Int.zero_add]
theorem around_under (hi : i < W * H) (g : Nat → Int) : ((aroundL W H R i).map (fun c => wtR W H R i c * g c.toNat)).sum = under g (nbs W H R i) := by
 rw [← cand_under hi g]
 refine sum_filter (fun c hc q => ?_)
 have h1 := wtR_nonneg W H R i c
 have h2 : ¬ 0 < wtR W H R i c := by simpa using q
 rw [show wtR W H R i c = 0 by omega, Int.zero_mul]
theorem around_all (hi : i < W * H) : ((aroundL W H R i).map (wtR W H R i)).sum = allOf (nbs W H R i) := by
 rw [allOf_under, ← around_under hi]
 congr 1
 exact List.map_congr_left (fun c _ => (Int.mul_one _).symm)
theorem netM_le (hW : W ≤ 16) (j : Nat) : netM W H R i j ≤ 32 := by
 unfold netM
 split
 ·rename_i h
  obtain ⟨hW0, _, hx, _⟩ := cell_at h.1
  obtain ⟨_, _, hy, _⟩ := cell_at h.2
  have a1 := wgt_le R (i % W) false (by omega)
  have a2 := wgt_le R (j % W) false (by omega)
  have a3 := wgt_le R (i % W) true (by omega)
  have a4 := wgt_le R (j % W) true (by omega)
  repeat' split
  all_goals omega
 ·omega
theorem around_mem {c : Int} (h : c ∈ aroundL W H R i) : 0 < wtR W H R i c ∧ 0 ≤ c ∧ c < ((W * H : Nat) : Int) := by
 have h1 := (List.mem_filter.1 h).2
 have h2 : 0 < wtR W H R i c := by simpa using h1
 refine ⟨h2, ?_⟩
 unfold wtR at h2
 split at h2
 ·assumption
 ·omega
theorem around_len : (aroundL W H R i).length ≤ 4 := by
 refine Nat.le_trans (List.length_filter_le _ _) ?_
 unfold cand
 split <;> simp
end
section
variable {W H : Nat} {R : Bool} {C : List Int} {i : Nat}
theorem mul_32 {x y : Int} (h1 : 0 ≤ x) (h2 : x ≤ 32) (h3 : -1000000 ≤ y) (h4 : y ≤ 1000000) : -32000000 ≤ x * y ∧ x * y ≤ 32000000 := by
 have a1 := Int.mul_le_mul_of_nonneg_left h4 h1
 have a2 := Int.mul_le_mul_of_nonneg_left h3 h1
 omega
theorem wtR_le (hW : W ≤ 16) (c : Int) : wtR W H R i c ≤ 32 := by
 unfold wtR
 split
 ·exact netM_le hW _
 ·omega
theorem sums_go (hW : 1 ≤ W ∧ W ≤ 16) (hH : 1 ≤ H ∧ H ≤ 16) (hi : i < W * H) (b l : List Int) (hl : l.length ≤ 100) (hc : ∀ c, c ∈ l → 0 ≤ c ∧ c < (b.length : Int) ∧ -1000000 ≤ fn b c.toNat ∧ fn b c.toNat ≤ 1000000) :
  ∀ (d j : Nat) (x y : Int) (k : Nat), j + d = l.length → (0 ≤ x ∧ x ≤ 32 * (j : Int)) → (-32000000 * (j : Int) ≤ y ∧ y ≤ 32000000 * (j : Int)) →
  thermionref01_sums.l0 (k + d + 3) b (i : Int) x y l (j : Int) (W : Int) (H : Int) R C = some (x + ((l.drop j).map (wtR W H R i)).sum, y + ((l.drop j).map (fun c => wtR W H R i c * fn b c.toNat)).sum)
 | 0, j, x, y, k, h, hx, hy => by
  rw [show k + 0 + 3 = (k + 2) + 1 by omega, thermionref01_sums.l0, if_neg (by omega), List.drop_eq_nil_of_le (by omega)]
  simp
 | d + 1, j, x, y, k, h, hx, hy => by
  have hj : j < l.length := by omega
  have hw : wrap64 ((j : Int) + 1) = ((j + 1 : Nat) : Int) := by rw [IntWalk.wrap64_in _ (by omega)]; omega
  obtain ⟨c0, c1, c2, c3⟩ := hc l[j] (List.getElem_mem hj)
  have w0 := wtR_nonneg W H R i l[j]
  have w1 := wtR_le (H := H) (R := R) (i := i) hW.2 l[j]
  have hm := mul_32 w0 w1 c2 c3
  have e : rd b l[j] = fn b l[j].toNat := rfl
  rw [show k + (d + 1) + 3 = (k + d + 3) + 1 by omega, thermionref01_sums.l0, if_pos (by omega), if_pos (by omega), rd_at l j hj, obnd (weight_eq hW hH R C hi l[j] (k + d + 1)), if_pos c0, if_pos c1, hw, List.drop_eq_getElem_cons hj, e, List.map_cons, List.map_cons, List.sum_cons, List.sum_cons]
  generalize wtR W H R i l[j] = wt at w0 w1 hm ⊢
  have g1 : wrap64 (wt * fn b l[j].toNat) = wt * fn b l[j].toNat := IntWalk.wrap64_in _ (by omega)
  have g2 : wrap64 (x + wt) = x + wt := IntWalk.wrap64_in _ (by omega)
  have g3 : wrap64 (y + wt * fn b l[j].toNat) = y + wt * fn b l[j].toNat := IntWalk.wrap64_in _ (by omega)
  rw [g1, g2, g3, sums_go hW hH hi b l hl hc d (j + 1) _ _ k (by omega) (by omega) (by omega)]
  rw [Int.add_assoc, Int.add_assoc]
theorem sums_eq (hW : 1 ≤ W ∧ W ≤ 16) (hH : 1 ≤ H ∧ H ≤ 16) (hi : i < W * H) (b : List Int) (hb : W * H ≤ b.length) (hr : ∀ j, j < W * H → -1000000 ≤ fn b j ∧ fn b j ≤ 1000000) (k : Nat) :
  thermionref01_sums.f (k + 8) (W : Int) (H : Int) R C b (i : Int) = some (allOf (nbs W H R i), under (fn b) (nbs W H R i)) := by
 unfold thermionref01_sums.f
 rw [obnd (around_eq hW hH hi k)]
 have hlen := around_len (W := W) (H := H) (R := R) (i := i)
 have h := sums_go (C := C) (R := R) hW hH hi b (aroundL W H R i) (by omega) (fun c hc => by
  obtain ⟨_, h1, h2⟩ := around_mem hc
  have h3 := hr c.toNat (by omega)
  exact ⟨h1, by omega, h3.1, h3.2⟩) (aroundL W H R i).length 0 0 0 (k + 5 - (aroundL W H R i).length) (by omega) (by omega) (by omega)
 rw [show k + 5 - (aroundL W H R i).length + (aroundL W H R i).length + 3 = k + 8 by omega, List.drop_zero, around_all hi, around_under hi, Int.zero_add, Int.zero_add] at h
 exact h
end
end Go.Proofs.Ytndkkjpgnmahbaa.Print
end

section
namespace Go.Proofs.Ytndkkjpgnmahbaa.Print
open Go.RowKit Go.Proofs.YtndkkjpgnmahbaaW.PrintWords Go.Proofs.YtndkkjpgnmahbaaW.PrintLast Go.Proofs.YtndkkjpgnmahbaaW.PrintMore
attribute [local go_sem] max2_int min2_int max_two min_two max_three min_three max_four min_four
set_option linter.unusedVariables false
set_option linter.unusedSimpArgs false
def thermionref01_Down.f (a0 : Int) (a1 : Int) : Option (Int) := if a1 = 0 then (none) else (if (Int.tmod a0 a1) < 0 then (some (wrap64 ((wrap64 (Int.tdiv a0 a1)) - 1))) else (some (wrap64 (Int.tdiv a0 a1))))
set_option maxHeartbeats 8000000 in
set_option maxRecDepth 100000 in
theorem thermionref01_Down.calls (a0 : Int) (a1 : Int) (r : Int) (w : World) (h : thermionref01_Down.f a0 a1 = some r) :
  Calls Try.prog 94 #[.int .i64 a0, .int .i64 a1] w fun e w' => e = .returned (.int .i64 r) ∧ Drawn0 w w' := by
 have H : (if a1 = 0 then (none) else (if (Int.tmod a0 a1) < 0 then (some (wrap64 ((wrap64 (Int.tdiv a0 a1)) - 1))) else (some (wrap64 (Int.tdiv a0 a1))))) = some r := h
 clear h
 by_cases c3 : a1 = 0
 ·rw [if_pos c3] at H
  exact absurd H (by simp)
 ·rw [if_neg c3] at H
  have c3b0 : (a1 == 0) = false := beq_eq_false_iff_ne.mpr c3
  have c3b1 : (a1 != 0) = true := bne_iff_ne.mpr c3
  by_cases c4 : (Int.tmod a0 a1) < 0
  ·rw [if_pos c4] at H
   have c4b0 := decide_eq_true c4
   clear c4
   obtain rfl := Option.some.inj H
   go_enter Try.func94, Try.ntmps94
   go_wp2
   go_ret
   exact ⟨by first | rfl | (simp; done) | (simp [*]; done), by repeat (first | exact Drawn0.refl _ | apply Drawn0.step)⟩
  ·rw [if_neg c4] at H
   have c4b0 := decide_eq_false c4
   clear c4
   obtain rfl := Option.some.inj H
   go_enter Try.func94, Try.ntmps94
   go_wp2
   go_ret
   exact ⟨by first | rfl | (simp; done) | (simp [*]; done), by repeat (first | exact Drawn0.refl _ | apply Drawn0.step)⟩
def thermionref01_Up.f (a0 : Int) (a1 : Int) : Option (Int) := (thermionref01_Down.f (wrap64 (-a0)) a1).bind fun t398 => (some (wrap64 (-t398)))
set_option maxHeartbeats 8000000 in
set_option maxRecDepth 100000 in
theorem thermionref01_Up.calls (a0 : Int) (a1 : Int) (r : Int) (w : World) (h : thermionref01_Up.f a0 a1 = some r) :
  Calls Try.prog 95 #[.int .i64 a0, .int .i64 a1] w fun e w' => e = .returned (.int .i64 r) ∧ Drawn0 w w' := by
 have H : ((thermionref01_Down.f (wrap64 (-a0)) a1).bind fun t398 => (some (wrap64 (-t398)))) = some r := h
 clear h
 replace H := Option.bind_eq_some_iff.mp H
 obtain ⟨t398, A30, H⟩ := H
 replace H : (some (wrap64 (-t398))) = some r := H
 have A3 := Aside0.mk A30
 clear A30
 obtain rfl := Option.some.inj H
 go_enter Try.func95, Try.ntmps95
 go_wp2_with (first | ((with_reducible refine gate_callee (f := 94) rfl ?_); refine goesL_ (some 8) rfl rfl Try.func94 (by kernel_rfl) rfl #[.int .i64 (wrap64 (-a0)), .int .i64 a1] rfl (by (try simp only [List.map_toArray, List.map_cons, List.map_nil]); first | done | rfl | (simp only [List.length_drop, List.length_take]; rfl)) ?_; (with_reducible refine (thermionref01_Down.calls (wrap64 (-a0)) a1 t398 _ A3.out).mono ?_); rintro e w' ⟨rfl, ⟨nd, rfl⟩⟩; refine ⟨_, rfl, ?_⟩))
 go_ret
 exact ⟨by first | rfl | (simp; done) | (simp [*]; done), by repeat (first | exact Drawn0.refl _ | apply Drawn0.step)⟩
end Go.Proofs.Ytndkkjpgnmahbaa.Print
end

section
namespace Go.Proofs.Ytndkkjpgnmahbaa.Print
open Go.RowKit Go.Proofs.YtndkkjpgnmahbaaW.PrintWords Go.Proofs.YtndkkjpgnmahbaaW.PrintLast Go.Proofs.YtndkkjpgnmahbaaW.PrintMore Go.Proofs.Ytndkkjpgnmahbaa.H Go.Proofs.Field
set_option linter.unusedVariables false
def Row4 (W : World) (base g c n : Nat) (l : List Int) : Prop := l.length = n ∧ Kd.R (Kd.int .i64) 3 W base (fun k => k = g) (.slice (some ⟨g, 0, none⟩) n c) l
theorem row4_of {W : World} {base : Nat} {ok : Nat → Prop} {v : Value} {l : List Int} (h : Kd.R (Kd.int .i64) 3 W base ok v l) (hp : 0 < l.length) : ∃ g c, v = .slice (some ⟨g, 0, none⟩) l.length c ∧ Row4 W base g c l.length l ∧ base ≤ g ∧ g < W.heap.size := by
 obtain ⟨g, c, e, hb, hl, _⟩ := Kd.R_form h hp
 subst e
 exact ⟨g, c, rfl, ⟨rfl, Kd.R_reok rfl h (fun k hk => by
  have : (some g : Option Nat) = some k := hk
  exact (Option.some.inj this).symm)⟩, hb, hl⟩
namespace Row4
variable {W W1 : World} {base g c n : Nat} {l : List Int}
theorem below (h : Row4 W base g c n l) (hb : Below W.heap.size W W1) : Row4 W1 base g c n l := ⟨h.1, Kd.R_below h.2 hb⟩
theorem keep {g2 : Nat} (h : Row4 W base g c n l) (hk : KeepBut W W1 g2 none) (hne : g ≠ g2) : Row4 W1 base g c n l := ⟨h.1, Kd.R_keep h.2 hk (fun k e => by subst e; exact hne)⟩
theorem far (h : Row4 W base g c n l) {p : Addr} (hne : g ≠ p.block) (u : Value) : Row4 (W.setCell p u) base g c n l := ⟨h.1, Kd.R_far h.2 (fun k e => by subst e; exact hne) u⟩
theorem reads (h : Row4 W base g c n l) : Kd.C (Kd.int .i64) W (some ⟨g, 0, none⟩) l.length l ∧ n ≤ c := ⟨(Kd.R_reads' h.2).2.2, (Kd.R_reads' h.2).2.1⟩
theorem put (h : Row4 W base g c n l) (i : Nat) (x : Int) : Row4 (W.setCell ⟨g, i, none⟩ (.int .i64 x)) base g c n (l.set i x) := by
 obtain ⟨e, h⟩ := h
 refine ⟨by rw [List.length_set]; exact e, ?_⟩
 exact Kd.R_putn (enc := Value.int .i64) (h1 := fun _ => rfl) h (i : Int) x
theorem cell (h : Row4 W base g c n l) {i : Nat} (hi : i < n) : W.cell? ⟨g, i, none⟩ = some (.int .i64 (fn l i)) ∧ W.frozen? ⟨g, i, none⟩ = false := by
 exact Kd.R_celln (enc := Value.int .i64) (h1 := fun _ => rfl) (0 : Int) h.2 (i : Int) (by omega) (by omega)
theorem ge (h : Row4 W base g c n l) : base ≤ g := Kd.R_base h.2 g rfl
theorem lt (h : Row4 W base g c n l) : g < W.heap.size := Kd.R_lt h.2 g rfl
end Row4
end Go.Proofs.Ytndkkjpgnmahbaa.Print
end

section
namespace Go.Proofs.Field
theorem set_self {b : List Int} {i : Nat} (h : i < b.length) : b.set i (fn b i) = b := by
 apply List.ext_getElem
 ·simp
 ·intro j h1 h2
  rw [List.getElem_set]
  split
  ·rename_i e
   subst e
   unfold fn
   rw [List.getD_eq_getElem?_getD, List.getElem?_eq_getElem h]
   rfl
  ·rfl
theorem swStep_put {up : Bool} {W H : Nat} {R : Bool} {C : List Int} {s : List Int × Bool} {i : Nat} (hl : i < s.1.length) (h : ¬ 0 < fn C i) : swStep up W H R C s i = (s.1.set i (relax up W H R s.1 i), s.2 || (relax up W H R s.1 i != fn s.1 i)) := by
 unfold swStep
 rw [if_neg h]
 by_cases q : relax up W H R s.1 i = fn s.1 i
 ·rw [if_neg (by simpa using q), q, set_self hl]
  simp
 ·rw [if_pos q, bne_iff_ne.mpr q]
  simp
structure SwOk (up : Bool) (W H : Nat) (R : Bool) (C : List Int) (b : List Int) : Prop where
 len : b.length = C.length
 range : ∀ i, i ≤ C.length → ∀ j, j < C.length → -1000000 ≤ fn (sweepTo up W H R C b i).1 j ∧ fn (sweepTo up W H R C b i).1 j ≤ 1000000
end Go.Proofs.Field
namespace Go.Proofs.Ytndkkjpgnmahbaa.Print
open Go.RowKit Go.Proofs.YtndkkjpgnmahbaaW.PrintWords Go.Proofs.YtndkkjpgnmahbaaW.PrintLast Go.Proofs.YtndkkjpgnmahbaaW.PrintMore Go.Proofs.Ytndkkjpgnmahbaa.H Go.Proofs.Field
set_option linter.unusedVariables false
structure RW (w0 w W : World) (gp gf : Nat) (pv fv : Array Value) (g1 c1 g2 c2 n : Nat) (lo hi : List Int) : Prop where
 old : Below w0.heap.size w0 W
 keep : KeepBut w W g1 (some g2)
 p : W.heap[gp]? = some (.cells pv 24 (0, 0))
 f : W.heap[gf]? = some (.cells fv 33 (0, 0))
 r1 : Row4 W w0.heap.size g1 c1 n lo
 r2 : Row4 W w0.heap.size g2 c2 n hi
 ne : g1 ≠ g2
 np : gp ≠ g1 ∧ gp ≠ g2 ∧ gf ≠ g1 ∧ gf ≠ g2
namespace RW
variable {w0 w W W1 : World} {gp gf : Nat} {pv fv : Array Value} {g1 c1 g2 c2 n : Nat} {lo hi : List Int}
theorem step (h : RW w0 w W gp gf pv fv g1 c1 g2 c2 n lo hi) (hb : Below W.heap.size W W1) : RW w0 w W1 gp gf pv fv g1 c1 g2 c2 n lo hi :=
 ⟨below_step h.old hb, h.keep.trans (KeepBut.of_below hb g1 (some g2)) (.inl rfl), blk_below h.p hb, blk_below h.f hb, h.r1.below hb, h.r2.below hb, h.ne, h.np⟩
theorem put1 (h : RW w0 w W gp gf pv fv g1 c1 g2 c2 n lo hi) (i : Nat) (x : Int) : RW w0 w (W.setCell ⟨g1, i, none⟩ (.int .i64 x)) gp gf pv fv g1 c1 g2 c2 n (lo.set i x) hi :=
 ⟨below_set h.old h.r1.ge, h.keep.set_ i _, blk_far (p := ⟨g1, i, none⟩) h.p h.np.1 _, blk_far (p := ⟨g1, i, none⟩) h.f h.np.2.2.1 _, h.r1.put i x, h.r2.far (p := ⟨g1, i, none⟩) h.ne.symm _, h.ne, h.np⟩
theorem put2 (h : RW w0 w W gp gf pv fv g1 c1 g2 c2 n lo hi) (i : Nat) (x : Int) : RW w0 w (W.setCell ⟨g2, i, none⟩ (.int .i64 x)) gp gf pv fv g1 c1 g2 c2 n lo (hi.set i x) := by
 refine ⟨below_set h.old h.r2.ge, ⟨Nat.le_trans h.keep.1 (KeepsOthers.setCell W _ _).size, fun k hk h1 h2 => ?_⟩, blk_far (p := ⟨g2, i, none⟩) h.p h.np.2.1 _, blk_far (p := ⟨g2, i, none⟩) h.f h.np.2.2.2 _, h.r1.far (p := ⟨g2, i, none⟩) h.ne _, h.r2.put i x, h.ne, h.np⟩
 exact (Below.heap_setCell W ⟨g2, i, none⟩ _ k (fun e => h2 (by rw [e]))).trans (h.keep.2 k hk h1 h2)
end RW
theorem sums_at {W H : Nat} (hW : 1 ≤ W ∧ W ≤ 16) (hH : 1 ≤ H ∧ H ≤ 16) (R : Bool) (A : Option Addr) (c : Nat) (C : List Int) (A1 : Option Addr) (c1 m i : Nat) (b : List Int) (w : World) (hr : Kd.C (Kd.int .i64) w A C.length C) (hc : C.length ≤ c) (hl : b.length = m) (hm : m = W * H) (hr1 : Kd.C (Kd.int .i64) w A1 b.length b) (hc1 : m ≤ c1) (hi : i < W * H)
  (hrng : ∀ j, j < W * H → -1000000 ≤ fn b j ∧ fn b j ≤ 1000000) :
  Calls Try.prog 90 #[.agg (planV W H R A C.length c), .slice A1 m c1, .int .i64 i] w fun e w' => e = .returned (.tuple #[.int .i64 (allOf (nbs W H R i)), .int .i64 (under (fn b) (nbs W H R i))]) ∧ Below w.heap.size w w' := by
 subst hl
 exact thermionref01_sums.calls (0 + 8) W H R A c C A1 c1 b i _ _ w hr hc hr1 hc1 (sums_eq hW hH hi b (by omega) hrng 0)
theorem refdown_eq {n d : Int} (hd : 0 < d) (hn : -1000000000000 ≤ n ∧ n ≤ 1000000000000) : thermionref01_Down.f n d = some (n / d) := down_eq hd hn
theorem refup_eq {n d : Int} (hd : 0 < d) (hn : -1000000000000 ≤ n ∧ n ≤ 1000000000000) : thermionref01_Up.f n d = some (-(-n / d)) := up_eq hd hn
end Go.Proofs.Ytndkkjpgnmahbaa.Print
end

section
namespace Go.Proofs.Ytndkkjpgnmahbaa.Print
open Go.RowKit Go.Proofs.YtndkkjpgnmahbaaW.PrintWords Go.Proofs.YtndkkjpgnmahbaaW.PrintLast Go.Proofs.YtndkkjpgnmahbaaW.PrintMore Go.Proofs.Ytndkkjpgnmahbaa.H Go.Proofs.Field
attribute [local go_sem] max2_int min2_int max_two min_two max_three min_three max_four min_four
set_option linter.unusedVariables false
set_option linter.unusedSimpArgs false
set_option maxHeartbeats 6400000 in
set_option maxRecDepth 100000 in
theorem refsweep_calls (W H : Nat) (hW : 1 ≤ W ∧ W ≤ 16) (hH : 1 ≤ H ∧ H ≤ 16) (R : Bool) (A : Option Addr) (c : Nat) (C : List Int) (g1 c1 g2 c2 : Nat) (lo hi : List Int) (kk : Int) (st : Bool) (w0 w : World) (hold : Below w0.heap.size w0 w) (hr : Kd.C (Kd.int .i64) w0 A C.length C) (hc : C.length ≤ c) (hC : C.length = W * H)
  (h1 : Row4 w w0.heap.size g1 c1 C.length lo) (h2 : Row4 w w0.heap.size g2 c2 C.length hi) (hne : g1 ≠ g2) (hall : ∀ i, i < C.length → ¬ 0 < fn C i → 0 < allOf (nbs W H R i)) (hlo : SwOk false W H R C lo) (hhi : SwOk true W H R C hi) :
  Calls Try.prog 75 #[.agg (planV W H R A C.length c), .agg #[.slice (some ⟨g1, 0, none⟩) C.length c1, .slice (some ⟨g2, 0, none⟩) C.length c2, .int .i64 kk, .bool st]] w fun e w' => e = .returned (.bool ((sweep false W H R C lo).2 || (sweep true W H R C hi).2)) ∧ Below w0.heap.size w0 w' ∧ KeepBut w w' g1 (some g2) ∧ Row4 w' w0.heap.size g1 c1 C.length (sweep false W H R C lo).1 ∧ Row4 w' w0.heap.size g2 c2 C.length (sweep true W H R C hi).1 := by
 have HR := Aside0.mk hr
 have HOLD := Aside0.mk hold
 have H1 := Aside0.mk h1
 have H2 := Aside0.mk h2
 have HALL := Aside0.mk hall
 have HLO := Aside0.mk hlo
 have HHI := Aside0.mk hhi
 have HNE := Aside0.mk hne
 have HCC := Aside0.mk hC
 have HWH := Aside0.mk (And.intro hW hH)
 have HHC := Aside0.mk hc
 have HSM : Aside0 (C.length ≤ 256) := ⟨by have := Nat.mul_le_mul hW.2 hH.2; omega⟩
 have HM := Aside0.mk (Mem.start w)
 have hu24 := Try.underlying24
 have hu22 := Try.underlying22
 have hu33 := Try.underlying33
 clear hr hold h1 h2 hall hlo hhi hne hC hW hH hc
 go_enter Try.func75, Try.ntmps75
 go_wp2_with (first
  | ((with_reducible refine gate_dst (N := 2) rfl ?_); refine ev_box HM.out rfl 24 (.tmp 0) rfl (cs := planV W H R A C.length c) rfl ?_; intro g2x wa hm1 hq1; clear hq1; have HM1 := Aside0.mk hm1; clear hm1 HM)
  | ((with_reducible refine gate_dst (N := 3) rfl ?_); refine ev_box HM1.out rfl 33 (.tmp 1) rfl (cs := #[.slice (some ⟨g1, 0, none⟩) C.length c1, .slice (some ⟨g2, 0, none⟩) C.length c2, .int .i64 kk, .bool st]) rfl ?_; intro g3x wb hm1 hq1; clear hq1; have HM2 := Aside0.mk hm1; clear hm1 HM1))
 have HRW0 : Aside0 (RW w0 w wb g2x g3x (planV W H R A C.length c) #[.slice (some ⟨g1, 0, none⟩) C.length c1, .slice (some ⟨g2, 0, none⟩) C.length c2, .int .i64 kk, .bool st] g1 c1 g2 c2 C.length ((sweepTo false W H R C lo 0).1) ((sweepTo true W H R C hi 0).1)) := ⟨⟨below_step HOLD.out HM2.out.below, KeepBut.of_below HM2.out.below _ _, HM2.out.second, HM2.out.head, H1.out.below HM2.out.below, H2.out.below HM2.out.below, HNE.out, by have := HM2.out.drop.geh; have := HM2.out.geh; have := H1.out.lt; have := H2.out.lt; omega⟩⟩
 clear HM2 H1 H2
 go_loopg [5, 6] C.length (fun k v5 v6 w' => ∃ (i : Nat), v5 = .bool ((sweepTo false W H R C lo i).2 || (sweepTo true W H R C hi i).2) ∧ v6 = .int .i64 (i : Int) ∧ Aside0 (i + k = C.length) ∧ Aside0 (RW w0 w w' g2x g3x (planV W H R A C.length c) #[.slice (some ⟨g1, 0, none⟩) C.length c1, .slice (some ⟨g2, 0, none⟩) C.length c2, .int .i64 kk, .bool st] g1 c1 g2 c2 C.length ((sweepTo false W H R C lo i).1) ((sweepTo true W H R C hi i).1)))
 case atStart => exact ⟨0, rfl, by go_num, ⟨by omega⟩, HRW0⟩
 case round =>
  clear HRW0
  obtain ⟨i, rfl, rfl, HK, HS⟩ := hrel
  have q3 : wr.cell? ⟨g2x, 3, none⟩ = some (.slice A C.length c) := (blk_cell HS.out.p 3).trans rfl
  by_cases hci : i < C.length
  ·have HI := Aside0.mk hci
   have HKN : Aside0 (i + 1 + (C.length - (i + 1)) = C.length) := ⟨by omega⟩
   obtain ⟨ad, ead, x0⟩ := at_row (Kd.C_below HR.out HS.out.old) i hci
   subst ead
   have t1 : decide ((i : Int) < (C.length : Int)) = true := by simp; omega
   have t2 : decide (i < C.length) = true := by simp; omega
   have t3 : wrap64 ((i : Int) + 1) = ((i + 1 : Nat) : Int) := by rw [IntWalk.wrap64_in _ (by have := HSM.out; omega)]; omega
   obtain ⟨X, hX⟩ : ∃ X, fn C i = X := ⟨_, rfl⟩
   rw [hX] at x0
   by_cases q : 0 < X
   ·have hg : decide (X > 0) = true := decide_eq_true q
    have HN : Aside0 ((sweepTo false W H R C lo (i + 1)) = (sweepTo false W H R C lo i) ∧ (sweepTo true W H R C hi (i + 1)) = (sweepTo true W H R C hi i)) := ⟨by
     constructor
     ·rw [sweepTo, swStep, hX, if_pos q]
     ·rw [sweepTo, swStep, hX, if_pos q]⟩
    clear q hX
    go_wp2_with fail
    go_roundg (C.length - (i + 1))
    case measure =>
     clear hci t1 t2 t3
     have := HK.out
     have := HI.out
     omega
    case rel => exact ⟨i + 1, by rw [HN.out.1, HN.out.2], by first | exact congrArg _ t3 | go_num, HKN, ⟨by rw [HN.out.1, HN.out.2]; exact HS.out⟩⟩
   ·have hg : decide (X > 0) = false := decide_eq_false q
    have hAL := HALL.out i hci (by rw [hX]; omega)
    have hl1 : (sweepTo false W H R C lo i).1.length = C.length := by rw [sweepTo_length]; exact HLO.out.len
    have hl2 : (sweepTo true W H R C hi i).1.length = C.length := by rw [sweepTo_length]; exact HHI.out.len
    have HN : Aside0 ((sweepTo false W H R C lo (i + 1)) = ((sweepTo false W H R C lo i).1.set i (relax false W H R (sweepTo false W H R C lo i).1 i), (sweepTo false W H R C lo i).2 || (relax false W H R (sweepTo false W H R C lo i).1 i != fn (sweepTo false W H R C lo i).1 i)) ∧ (sweepTo true W H R C hi (i + 1)) = ((sweepTo true W H R C hi i).1.set i (relax true W H R (sweepTo true W H R C hi i).1 i), (sweepTo true W H R C hi i).2 || (relax true W H R (sweepTo true W H R C hi i).1 i != fn (sweepTo true W H R C hi i).1 i))) := ⟨⟨by rw [sweepTo]; exact swStep_put (by rw [hl1]; exact hci) (by rw [hX]; omega), by rw [sweepTo]; exact swStep_put (by rw [hl2]; exact hci) (by rw [hX]; omega)⟩⟩
    have HB1 := Aside0.mk (HLO.out.range i (by omega))
    have HB2 := Aside0.mk (HHI.out.range i (by omega))
    obtain ⟨b1, hb1⟩ : ∃ b, (sweepTo false W H R C lo i).1 = b := ⟨_, rfl⟩
    obtain ⟨b2, hb2⟩ : ∃ b, (sweepTo true W H R C hi i).1 = b := ⟨_, rfl⟩
    obtain ⟨ch1, hch1⟩ : ∃ b, (sweepTo false W H R C lo i).2 = b := ⟨_, rfl⟩
    obtain ⟨ch2, hch2⟩ : ∃ b, (sweepTo true W H R C hi i).2 = b := ⟨_, rfl⟩
    rw [hb1] at hl1 HB1 HS
    rw [hb2] at hl2 HB2 HS
    rw [hb1, hb2, hch1, hch2] at HN
    rw [hch1, hch2]
    have HRL : Aside0 (relax false W H R b1 i = under (fn b1) (nbs W H R i) / allOf (nbs W H R i) ∧ relax true W H R b2 i = -(-under (fn b2) (nbs W H R i) / allOf (nbs W H R i))) := ⟨⟨by show dvd false _ _ = _; unfold dvd; rw [if_neg (by simp)], by show dvd true _ _ = _; unfold dvd; rw [if_pos rfl]⟩⟩
    have hiw : i < W * H := by rw [← HCC.out]; exact hci
    have hub1 := under_bound (f := fn b1) (l := nbs W H R i) (fun p hp => by
     have h8 := nbs_lt hiw hp
     have h9 := HB1.out p.1 (by rw [HCC.out]; exact h8.1)
     exact ⟨h8.2.2.1, h8.2.2.2 HWH.out.1.2, h9.1, h9.2⟩)
    have hub2 := under_bound (f := fn b2) (l := nbs W H R i) (fun p hp => by
     have h8 := nbs_lt hiw hp
     have h9 := HB2.out p.1 (by rw [HCC.out]; exact h8.1)
     exact ⟨h8.2.2.1, h8.2.2.2 HWH.out.1.2, h9.1, h9.2⟩)
    have hnl := nbs_length W H R i
    have HD1 := Aside0.mk (refdown_eq (n := under (fn b1) (nbs W H R i)) hAL (by omega))
    have HD2 := Aside0.mk (refup_eq (n := under (fn b2) (nbs W H R i)) hAL (by omega))
    have HSM1 : Aside0 (∀ V, Below wr.heap.size wr V → Calls Try.prog 90 #[.agg (planV W H R (some ad) C.length c), .slice (some ⟨g1, 0, none⟩) C.length c1, .int .i64 i] V fun e w' => e = .returned (.tuple #[.int .i64 (allOf (nbs W H R i)), .int .i64 (under (fn b1) (nbs W H R i))]) ∧ Below V.heap.size V w') := ⟨fun V hb => sums_at HWH.out.1 HWH.out.2 R (some ad) c C (some ⟨g1, 0, none⟩) c1 C.length i b1 V (Kd.C_below HR.out (below_step HS.out.old hb)) HHC.out hl1 HCC.out (HS.out.step hb).r1.reads.1 HS.out.r1.reads.2 hiw (fun j hj => HB1.out j (by rw [HCC.out]; exact hj))⟩
    have HSM2 : Aside0 (∀ V, Below wr.heap.size wr V → Calls Try.prog 90 #[.agg (planV W H R (some ad) C.length c), .slice (some ⟨g2, 0, none⟩) C.length c2, .int .i64 i] V fun e w' => e = .returned (.tuple #[.int .i64 (allOf (nbs W H R i)), .int .i64 (under (fn b2) (nbs W H R i))]) ∧ Below V.heap.size V w') := ⟨fun V hb => sums_at HWH.out.1 HWH.out.2 R (some ad) c C (some ⟨g2, 0, none⟩) c2 C.length i b2 V (Kd.C_below HR.out (below_step HS.out.old hb)) HHC.out hl2 HCC.out (HS.out.step hb).r2.reads.1 HS.out.r2.reads.2 hiw (fun j hj => HB2.out j (by rw [HCC.out]; exact hj))⟩
    rw [HRL.out.1, HRL.out.2] at HN
    generalize under (fn b1) (nbs W H R i) = SU1 at HD1 HSM1 HN
    generalize under (fn b2) (nbs W H R i) = SU2 at HD2 HSM2 HN
    generalize allOf (nbs W H R i) = AL at HD1 HD2 HSM1 HSM2 HN
    generalize SU1 / AL = r1 at HD1 HN
    generalize -(-SU2 / AL) = r2 at HD2 HN
    obtain ⟨cv1, fv1⟩ := HS.out.r1.cell hci
    obtain ⟨cv2, fv2⟩ := HS.out.r2.cell hci
    obtain ⟨y1, hy1⟩ : ∃ y, fn b1 i = y := ⟨_, rfl⟩
    obtain ⟨y2, hy2⟩ : ∃ y, fn b2 i = y := ⟨_, rfl⟩
    rw [hy1] at HN cv1
    rw [hy2] at HN cv2
    have HY := Aside0.mk (And.intro hy1 hy2)
    have HNX : Aside0 (∀ V', RW w0 w V' g2x g3x (planV W H R (some ad) C.length c) #[.slice (some ⟨g1, 0, none⟩) C.length c1, .slice (some ⟨g2, 0, none⟩) C.length c2, .int .i64 kk, .bool st] g1 c1 g2 c2 C.length (b1.set i r1) (b2.set i r2) → RW w0 w V' g2x g3x (planV W H R (some ad) C.length c) #[.slice (some ⟨g1, 0, none⟩) C.length c1, .slice (some ⟨g2, 0, none⟩) C.length c2, .int .i64 kk, .bool st] g1 c1 g2 c2 C.length ((sweepTo false W H R C lo (i + 1)).1) ((sweepTo true W H R C hi (i + 1)).1)) := ⟨fun V' h => by rw [HN.out.1, HN.out.2]; exact h⟩
    have HCH : Aside0 (((sweepTo false W H R C lo (i + 1)).2 || (sweepTo true W H R C hi (i + 1)).2) = (((ch1 || ch2) || (r1 != y1)) || (r2 != y2))) := ⟨by rw [HN.out.1, HN.out.2]; cases ch1 <;> cases ch2 <;> cases (r1 != y1) <;> cases (r2 != y2) <;> rfl⟩
    have q0 : wr.cell? ⟨g3x, 0, none⟩ = some (.slice (some ⟨g1, 0, none⟩) C.length c1) := (blk_cell HS.out.f 0).trans rfl
    have q1 : wr.cell? ⟨g3x, 1, none⟩ = some (.slice (some ⟨g2, 0, none⟩) C.length c2) := (blk_cell HS.out.f 1).trans rfl
    clear q hX hAL hl1 hl2 hb1 hb2 hch1 hch2 hub1 hub2 hnl hiw hy1 hy2 cv1 fv1 cv2 fv2 HN HRL HB1 HB2
    go_upto_region 10 with (first
     | ((with_reducible refine gate_dst (N := 25) rfl ?_); refine ev_load HS.out.p rfl 24 (.tmp 2) rfl rfl _ Try.underlying24 rfl size24 rfl ?_)
     | (go_at_call 90; (with_reducible refine (HSM1.out _ (Below.refl _ _)).mono ?_); rintro e wc ⟨rfl, hb⟩; have HS1 := Aside0.mk (HS.out.step hb); have HBc := Aside0.mk hb; clear hb HSM1 HS q0 q1 q3 x0)
     | (go_at_call 94; refine (thermionref01_Down.calls _ _ _ _ HD1.out).mono ?_; rintro e wd ⟨rfl, hb⟩; have HS2 := Aside0.mk (HS1.out.step hb.below); have HBd := Aside0.mk (below_step HBc.out hb.below); clear hb HS1 HBc HD1; have q1 : wd.cell? ⟨g3x, 1, none⟩ = some (.slice (some ⟨g2, 0, none⟩) C.length c2) := (blk_cell HS2.out.f 1).trans rfl)
     | ((with_reducible refine gate_dst (N := 36) rfl ?_); refine ev_load HS2.out.p rfl 24 (.tmp 2) rfl rfl _ Try.underlying24 rfl size24 rfl ?_)
     | (go_at_call 90; (with_reducible refine (HSM2.out _ HBd.out).mono ?_); rintro e we ⟨rfl, hb⟩; have HS3 := Aside0.mk (HS2.out.step hb); clear hb HSM2 HS2 HBd q1)
     | (go_at_call 95; refine (thermionref01_Up.calls _ _ _ _ HD2.out).mono ?_; rintro e wf ⟨rfl, hb⟩; have HS4 := Aside0.mk (HS3.out.step hb.below); clear hb HS3 HD2; have q0 : wf.cell? ⟨g3x, 0, none⟩ = some (.slice (some ⟨g1, 0, none⟩) C.length c1) := (blk_cell HS4.out.f 0).trans rfl; have q1 : wf.cell? ⟨g3x, 1, none⟩ = some (.slice (some ⟨g2, 0, none⟩) C.length c2) := (blk_cell HS4.out.f 1).trans rfl))
    obtain ⟨cv1, fv1⟩ := HS4.out.r1.cell hci
    obtain ⟨cv2, fv2⟩ := HS4.out.r2.cell hci
    rw [HY.out.1] at cv1
    rw [HY.out.2] at cv2
    obtain ⟨z1, hz1⟩ : ∃ z, (r1 != y1) = z := ⟨_, rfl⟩
    obtain ⟨z2, hz2⟩ : ∃ z, (r2 != y2) = z := ⟨_, rfl⟩
    rw [hz1, hz2] at HCH
    generalize (ch1 || ch2) = ch at HCH ⊢
    go_cut [5] (fun v5 wc => v5 = .bool ((ch || z1) || z2) ∧ wc = wf)
    case first =>
     cases ch
     ·cases z1
      ·go_wp2_with fail
       go_meet
       case rel => exact ⟨rfl, rfl⟩
      ·go_wp2_with fail
       go_meet
       case rel => exact ⟨rfl, rfl⟩
     ·go_wp2_with fail
      go_meet
      case rel => exact ⟨rfl, rfl⟩
    case rest =>
    obtain ⟨rfl, rfl⟩ := hcut
    have n1 := HNE.out
    have n2 := HNE.out.symm
    have n3 := HS4.out.np.2.2.1
    have n4 := HS4.out.np.2.2.2
    have n5 := n3.symm
    have n6 := n4.symm
    clear hz1 hz2
    go_upto_region 11 with fail
    go_region
    all_goals go_wp2_with fail
    all_goals go_roundg (C.length - (i + 1))
    all_goals (first
     | (case measure =>
       clear hci t1 t2 t3
       have := HK.out
       have := HI.out
       omega)
     | skip)
    all_goals (case rel => exact ⟨i + 1, congrArg Value.bool HCH.out.symm, by first | exact congrArg _ t3 | go_num, HKN, ⟨HNX.out _ (by first | exact ((HS4.out.step (below_drew1 (Below.refl _ _))).put1 i r1).put2 i r2 | exact ((HS4.out.put1 i r1).put2 i r2).step (below_drew1 (Below.refl _ _)))⟩⟩)
  ·obtain rfl : i = C.length := by have := HK.out; omega
   have t1 : decide ((C.length : Int) < (C.length : Int)) = false := by simp
   have t2 : decide (C.length < C.length) = false := by simp
   go_wp2_with fail
   go_ret
   exact ⟨rfl, HS.out.old, HS.out.keep, HS.out.r1, HS.out.r2⟩
end Go.Proofs.Ytndkkjpgnmahbaa.Print
end

section
namespace Go.Proofs.Field
section
variable {W H : Nat} {R : Bool} {C v : List Int}
def leastTo (C v : List Int) : Nat → Int
 | 0 => 1000000
 | m + 1 => if 0 < fn C m then min (leastTo C v m) (volt C v m) else leastTo C v m
def mostTo (C v : List Int) : Nat → Int
 | 0 => -1000000
 | m + 1 => if 0 < fn C m then max (mostTo C v m) (volt C v m) else mostTo C v m
theorem leastTo_le : ∀ {m i : Nat}, i < m → 0 < fn C i → leastTo C v m ≤ volt C v i
 | 0, i, h, _ => absurd h (Nat.not_lt_zero i)
 | m + 1, i, h, hp => by
  rw [leastTo]
  by_cases q : i = m
  ·subst q; rw [if_pos hp]; omega
  ·have := leastTo_le (show i < m by omega) hp
   split <;> omega
theorem mostTo_ge : ∀ {m i : Nat}, i < m → 0 < fn C i → volt C v i ≤ mostTo C v m
 | 0, i, h, _ => absurd h (Nat.not_lt_zero i)
 | m + 1, i, h, hp => by
  rw [mostTo]
  by_cases q : i = m
  ·subst q; rw [if_pos hp]; omega
  ·have := mostTo_ge (show i < m by omega) hp
   split <;> omega
theorem lowest (hV : Volted W H R C v) : leastTo C v C.length ≤ minOf (onOf C v) := by
 obtain ⟨j, hj, hp, e⟩ := on_volt (minOf_mem (on_ne hV))
 rw [← e]; exact leastTo_le hj hp
theorem highest (hV : Volted W H R C v) : maxOf (onOf C v) ≤ mostTo C v C.length := by
 obtain ⟨j, hj, hp, e⟩ := on_volt (maxOf_mem (on_ne hV))
 rw [← e]; exact mostTo_ge hj hp
end
end Go.Proofs.Field
namespace Go.Proofs.Ytndkkjpgnmahbaa.Print
open Go.RowKit Go.Proofs.YtndkkjpgnmahbaaW.PrintWords Go.Proofs.YtndkkjpgnmahbaaW.PrintLast Go.Proofs.YtndkkjpgnmahbaaW.PrintMore Go.Proofs.Field
set_option linter.unusedVariables false
end Go.Proofs.Ytndkkjpgnmahbaa.Print
end

section
namespace Go.Proofs.Ytndkkjpgnmahbaa.Print
open Go.RowKit Go.Proofs.YtndkkjpgnmahbaaW.PrintWords Go.Proofs.YtndkkjpgnmahbaaW.PrintLast Go.Proofs.YtndkkjpgnmahbaaW.PrintMore Go.Proofs.Ytndkkjpgnmahbaa.H Go.Proofs.Field
set_option linter.unusedVariables false
structure Two (W : World) (base : Nat) (vL vH : Value) (lo hi : List Int) : Prop where
 l : Kd.R (Kd.int .i64) 3 W base (fun k => some k ≠ vH.ownBlock) vL lo
 h : Kd.R (Kd.int .i64) 3 W base (fun k => some k ≠ vL.ownBlock) vH hi
theorem R_turn {W w1 : World} {base : Nat} {u v v1 : Value} {xs : List Int} (h : Kd.R (Kd.int .i64) 3 W base (fun k => some k ≠ v.ownBlock) u xs) (hg : W.grownBy w1 v.ownBlock) (hat : v1.ownBlock = v.ownBlock ∨ ∃ b, v1.ownBlock = some b ∧ W.heap.size ≤ b) : Kd.R (Kd.int .i64) 3 w1 base (fun k => some k ≠ v1.ownBlock) u xs :=
 Kd.R_mono (Kd.R_after (ok := fun _ => True) (Kd.R_mono h (fun k hk => ⟨trivial, hk⟩)) hg hat) (fun k hk => hk.2)
structure BS (w W : World) (g2 g4 g8 : Nat) (pv z4 fv : Array Value) (vL vH : Value) (lo hi : List Int) : Prop where
 below : Below w.heap.size w W
 p : W.heap[g2]? = some (.cells pv 24 (0, 0))
 o : W.heap[g4]? = some (.cells z4 33 (0, 0))
 f : W.heap[g8]? = some (.cells fv 33 (0, 0))
 t : Two W w.heap.size vL vH lo hi
 ne : g4 ≠ g8
 ge : w.heap.size ≤ g8 ∧ w.heap.size ≤ g4
namespace BS
variable {w W W1 : World} {g2 g4 g8 : Nat} {pv z4 fv : Array Value} {vL vH v1 : Value} {lo hi l2 : List Int}
theorem step (h : BS w W g2 g4 g8 pv z4 fv vL vH lo hi) (hb : Below W.heap.size W W1) : BS w W1 g2 g4 g8 pv z4 fv vL vH lo hi :=
 ⟨below_step h.below hb, blk_below h.p hb, blk_below h.o hb, blk_below h.f hb, ⟨Kd.R_below h.t.l hb, Kd.R_below h.t.h hb⟩, h.ne, h.ge⟩
theorem blkL (h : BS w W g2 g4 g8 pv z4 fv vL vH lo hi) (hg : W.grownBy W1 vL.ownBlock) {g : Nat} {cs : Array Value} {t : Nat} (hk : W.heap[g]? = some (.cells cs t (0, 0))) (ht : (3 : Nat) ≠ t) : W1.heap[g]? = some (.cells cs t (0, 0)) :=
 (hg.block g (blk_lt hk) (Kd.R_ne h.t.l hk ht)).trans hk
theorem blkH (h : BS w W g2 g4 g8 pv z4 fv vL vH lo hi) (hg : W.grownBy W1 vH.ownBlock) {g : Nat} {cs : Array Value} {t : Nat} (hk : W.heap[g]? = some (.cells cs t (0, 0))) (ht : (3 : Nat) ≠ t) : W1.heap[g]? = some (.cells cs t (0, 0)) :=
 (hg.block g (blk_lt hk) (Kd.R_ne h.t.h hk ht)).trans hk
theorem growL (h : BS w W g2 g4 g8 pv z4 fv vL vH lo hi) (hR : Kd.R (Kd.int .i64) 3 W1 w.heap.size (fun k => some k ≠ vH.ownBlock) v1 l2) (hB : Below w.heap.size w W1) (hg : W.grownBy W1 vL.ownBlock) (hat : v1.ownBlock = vL.ownBlock ∨ ∃ b, v1.ownBlock = some b ∧ W.heap.size ≤ b) : BS w W1 g2 g4 g8 pv z4 fv v1 vH l2 hi :=
 ⟨hB, h.blkL hg h.p (by decide), h.blkL hg h.o (by decide), h.blkL hg h.f (by decide), ⟨hR, R_turn h.t.h hg hat⟩, h.ne, h.ge⟩
theorem growH (h : BS w W g2 g4 g8 pv z4 fv vL vH lo hi) (hR : Kd.R (Kd.int .i64) 3 W1 w.heap.size (fun k => some k ≠ vL.ownBlock) v1 l2) (hB : Below w.heap.size w W1) (hg : W.grownBy W1 vH.ownBlock) (hat : v1.ownBlock = vH.ownBlock ∨ ∃ b, v1.ownBlock = some b ∧ W.heap.size ≤ b) : BS w W1 g2 g4 g8 pv z4 fv vL v1 lo l2 :=
 ⟨hB, h.blkH hg h.p (by decide), h.blkH hg h.o (by decide), h.blkH hg h.f (by decide), ⟨R_turn h.t.l hg hat, hR⟩, h.ne, h.ge⟩
theorem put (h : BS w W g2 g4 g8 pv z4 fv vL vH lo hi) (i : Nat) (u : Value) {fv' : Array Value} (e : fv.setIfInBounds i u = fv') : BS w (W.setCell ⟨g8, i, none⟩ u) g2 g4 g8 pv z4 fv' vL vH lo hi := by
 subst e
 refine ⟨below_set h.below h.ge.1, blk_far (p := ⟨g8, i, none⟩) h.p (blk_ne h.p h.f (by decide)) _, blk_far (p := ⟨g8, i, none⟩) h.o h.ne _, ?_, ⟨?_, ?_⟩, h.ne, h.ge⟩
 ·rw [blk_set h.f i]
 ·exact Kd.R_mono (Kd.R_far (p := ⟨g8, i, none⟩) (Kd.R_types h.t.l h.f (by decide)) (fun k hk => hk.2) u) (fun k hk => hk.1)
 ·exact Kd.R_mono (Kd.R_far (p := ⟨g8, i, none⟩) (Kd.R_types h.t.h h.f (by decide)) (fun k hk => hk.2) u) (fun k hk => hk.1)
end BS
structure Lit1 (W : World) (g : Nat) (x : Int) (vL vH : Value) : Prop where
 b : W.heap[g]? = some (.cells #[.int .i64 x] 3 (0, 0))
 l : some g ≠ vL.ownBlock
 h : some g ≠ vH.ownBlock
theorem Lit1.reads {W : World} {g : Nat} {x : Int} {vL vH : Value} (h : Lit1 W g x vL vH) : Kd.C (Kd.int .i64) W (some ⟨g, 0, none⟩) 1 [x] := C_of_cells (b := [x]) h.b (by simp)
theorem Lit1.step {W W1 : World} {g : Nat} {x : Int} {vL vH : Value} (h : Lit1 W g x vL vH) (hb : Below W.heap.size W W1) : Lit1 W1 g x vL vH := ⟨blk_below h.b hb, h.l, h.h⟩
theorem Lit1.growL {W W1 : World} {g : Nat} {x : Int} {vL vH v1 : Value} (h : Lit1 W g x vL vH) (hg : W.grownBy W1 vL.ownBlock) (hat : v1.ownBlock = vL.ownBlock ∨ ∃ b, v1.ownBlock = some b ∧ W.heap.size ≤ b) : Lit1 W1 g x v1 vH :=
 ⟨(hg.block g (blk_lt h.b) h.l).trans h.b, by
  rcases hat with e | ⟨b, e, hb⟩
  ·rw [e]; exact h.l
  ·rw [e]; intro q; have := Option.some.inj q; have := blk_lt h.b; omega, h.h⟩
theorem Lit1.make {w W : World} {g2 g4 g8 : Nat} {pv z4 fv : Array Value} {vL vH : Value} {lo hi : List Int} (h : BS w W g2 g4 g8 pv z4 fv vL vH lo hi) (x : Int) : Lit1 (W.alloc (.cells #[.int .i64 x] 3)) W.heap.size x vL vH :=
 ⟨blk_new _ _, Kd.fresh' (Kd.R_lt h.t.l) _ (Nat.le_refl _), Kd.fresh' (Kd.R_lt h.t.h) _ (Nat.le_refl _)⟩
def firstTo (C v : List Int) (x : Int) (n : Nat) : List Int := (List.range n).map (fun i => if 0 < fn C i then volt C v i else x)
theorem firstTo_len (C v : List Int) (x : Int) (n : Nat) : (firstTo C v x n).length = n := by simp [firstTo]
theorem firstTo_succ (C v : List Int) (x : Int) (n : Nat) : firstTo C v x (n + 1) = firstTo C v x n ++ [if 0 < fn C n then volt C v n else x] := by
 unfold firstTo
 rw [List.range_succ, List.map_append, List.map_singleton]
end Go.Proofs.Ytndkkjpgnmahbaa.Print
end

section
namespace Go.Proofs.Ytndkkjpgnmahbaa.Print
open Go.RowKit Go.Proofs.YtndkkjpgnmahbaaW.PrintWords Go.Proofs.YtndkkjpgnmahbaaW.PrintLast Go.Proofs.YtndkkjpgnmahbaaW.PrintMore Go.Proofs.Ytndkkjpgnmahbaa.H Go.Proofs.Field
attribute [local go_sem] max2_int min2_int max_two min_two max_three min_three max_four min_four
set_option linter.unusedVariables false
set_option linter.unusedSimpArgs false
def rbF.T6 : Bool × List (List Nat × List Nat) := (true, [([], []), ([], []), ([], []), ([2], [2]), ([], []), ([3, 4], [3, 4]), ([5], [5]), ([6], [6]), ([1, 7], [1, 7]), ([8], [8]), ([0, 9], [0, 9]), ([], []), ([], []), ([], []), ([13], [13]), ([], []), ([14, 15], [14, 15]), ([16], [16]), ([17], [17]), ([12, 18], [12, 18]), ([19], [19]), ([11, 20], [11, 20]), ([10, 0, 1, 2, 3, 4, 5, 6, 7, 8, 9, 10], [0, 10]), ([21, 22, 0, 1, 2, 3, 4, 5, 6, 7, 8, 9, 10, 11, 12, 13, 14, 15, 16, 17, 18, 19, 20, 21, 22], [11, 21])])
def rbF.B6 : List Nat := [0, 0, 0, 4, 0, 28, 60, 124, 254, 510, 1023, 0, 0, 0, 8192, 0, 57344, 122880, 253952, 520192, 1044480, 2095104, 2047, 8388607]
theorem rbF.tab6 : rtab .any (opsOf Try.f74 6) = rbF.T6 := by kernel_rfl
theorem rbF.bits6 : waitsOk rbF.T6.2 rbF.B6 = true := by kernel_rfl
def rbF.T13 : Bool × List (List Nat × List Nat) := (true, [([], []), ([], []), ([1], [1]), ([], []), ([2, 3], [2, 3]), ([4], [4]), ([5], [5]), ([0, 6], [0, 6]), ([7], [7]), ([], []), ([], []), ([10], [10]), ([], []), ([11, 12], [11, 12]), ([13], [13]), ([14], [14]), ([9, 15], [9, 15]), ([16], [16]), ([8, 0, 1, 2, 3, 4, 5, 6, 7, 8], [8]), ([17, 18, 0, 1, 2, 3, 4, 5, 6, 7, 8, 9, 10, 11, 12, 13, 14, 15, 16, 17, 18], [17])])
def rbF.B13 : List Nat := [0, 0, 2, 0, 14, 30, 62, 127, 255, 0, 0, 1024, 0, 7168, 15360, 31744, 65024, 130560, 511, 524287]
theorem rbF.tab13 : rtab .any (opsOf Try.f74 13) = rbF.T13 := by kernel_rfl
theorem rbF.bits13 : waitsOk rbF.T13.2 rbF.B13 = true := by kernel_rfl
def rbF.T14 : Bool × List (List Nat × List Nat) := (true, [([], []), ([0], [0]), ([], []), ([2], [2]), ([1, 3], [1, 3]), ([], []), ([5], [5]), ([], []), ([7], [7]), ([6, 8, 4], [6, 8]), ([0, 1, 2, 3, 4, 5, 6], []), ([10, 4, 9, 0, 1, 2, 3, 4, 5, 6], [4, 10]), ([0, 1, 2, 3, 4, 5, 6, 7, 8, 9, 10, 11], []), ([12, 9, 11, 0, 1, 2, 3, 4, 5, 6, 7, 8, 9, 10, 11], [9, 12])])
def rbF.B14 : List Nat := [0, 1, 0, 4, 15, 0, 32, 0, 128, 511, 127, 2047, 4095, 8191]
theorem rbF.tab14 : rtab .any (opsOf Try.f74 14) = rbF.T14 := by kernel_rfl
theorem rbF.bits14 : waitsOk rbF.T14.2 rbF.B14 = true := by kernel_rfl
theorem results_row {P : Program} {fn : Func} {p : Tmp} {ty : TypeId} (h : fn.results = #[.cell p ty]) (tmps : Array Value) (w : World) (g : Nat) (t : TypeId) (cs : Array Value) (fr : Nat × Nat) (d : TypeDesc)
  (hp : tmps.getD p undef = .pointer (some ⟨g, 0, none⟩)) (hg : w.heap[g]? = some (.cells cs t fr)) (hu : P.underlying ty = some d) (hd : (match d with | .struct _ | .array _ _ => true | _ => false) = true) (hi : (P.info? ty).map (·.size) = some cs.size) :
  (results fn tmps).run P w = .ok (.agg cs) w := by
 have e : tmps[p]?.getD undef = .pointer (some ⟨g, 0, none⟩) := by simpa using hp
 simp [results, h, e, asAddr, run_loadVar_row w g t ty cs fr d hg hu hd hi]
theorem BS.row {w W : World} {g2 g4 g8 : Nat} {pv z4 fv : Array Value} {vL vH : Value} {lo hi : List Int} (h : BS w W g2 g4 g8 pv z4 fv vL vH lo hi) (cs : Array Value) : Two (W.setRow g4 cs) w.heap.size vL vH lo hi ∧ Below w.heap.size w (W.setRow g4 cs) := by
 refine ⟨⟨?_, ?_⟩, ?_⟩
 ·exact Kd.R_mono (Kd.R_step (Kd.R_types h.t.l h.o (by decide)) (fun k hk _ => setRow_other _ _ _ _ hk.2)) (fun k hk => hk.1)
 ·exact Kd.R_mono (Kd.R_step (Kd.R_types h.t.h h.o (by decide)) (fun k hk _ => setRow_other _ _ _ _ hk.2)) (fun k hk => hk.1)
 ·exact ⟨h.below.os, h.below.tape, h.below.output, by rw [size_setRow]; exact h.below.size, fun i hi => by rw [setRow_other _ g4 i _ (by have := h.ge.2; omega)]; exact h.below.block i hi⟩
set_option maxHeartbeats 6400000 in
set_option maxRecDepth 100000 in
theorem refbegin_calls (W H : Int) (R : Bool) (A : Option Addr) (c : Nat) (C : List Int) (A1 : Option Addr) (c1 : Nat) (v : List Int) (w : World) (hr : Kd.C (Kd.int .i64) w A C.length C) (hr1 : Kd.C (Kd.int .i64) w A1 v.length v) (h256 : C.length ≤ 256) (hel : ∀ i, i < C.length → 0 ≤ fn C i ∧ fn C i ≤ 6 ∧ fn C i ≤ v.length) :
  Calls Try.prog 74 #[.agg (planV W H R A C.length c), .slice A1 v.length c1] w fun e w' => ∃ vL vH : Value, e = .returned (.agg #[vL, vH, .int .i64 0, .bool false]) ∧ Two w' w.heap.size vL vH (firstTo C v (leastTo C v C.length) C.length) (firstTo C v (mostTo C v C.length) C.length) ∧ Below w.heap.size w w' := by
 have HR := Aside0.mk hr
 have HR1 := Aside0.mk hr1
 have HSM := Aside0.mk h256
 have HEL := Aside0.mk hel
 have HM := Aside0.mk (Mem.start w)
 have hu24 := Try.underlying24
 have hu22 := Try.underlying22
 have hu33 := Try.underlying33
 clear hr hr1 h256 hel
 go_enter Try.func74, Try.ntmps74
 go_wp2_with (first
  | ((with_reducible refine gate_dst (N := 2) rfl ?_); refine ev_box HM.out rfl 24 (.tmp 0) rfl (cs := planV W H R A C.length c) rfl ?_; intro g2 wa hm1 hq1; clear hq1; have HM1 := Aside0.mk hm1; clear hm1 HM)
  | ((with_reducible refine gate_dst (N := 4) rfl ?_); refine ev_new HM1.out rfl 33 rfl info33 ?_; intro g4 wb hm1 hq1; clear hq1; have HM2 := Aside0.mk hm1; clear hm1 HM1))
 go_loopg [5, 6, 7] C.length (fun k v5 v6 v7 w' => ∃ (i : Nat), v5 = .int .i64 (leastTo C v i) ∧ v6 = .int .i64 (mostTo C v i) ∧ v7 = .int .i64 (i : Int) ∧ Aside0 (i + k = C.length) ∧ Aside0 (Mem w w' [(g4, #[.slice none 0 0, .slice none 0 0, .int .i64 0, .bool false], 33), (g2, planV W H R A C.length c, 24)]))
 case atStart => exact ⟨0, rfl, rfl, by go_num, ⟨by omega⟩, HM2⟩
 case round =>
  clear HM2
  obtain ⟨i, rfl, rfl, rfl, HK, HM⟩ := hrel
  have q3 : wr.cell? ⟨g2, 3, none⟩ = some (.slice A C.length c) := (blk_cell HM.out.second 3).trans rfl
  by_cases hci : i < C.length
  ·have HI := Aside0.mk hci
   have HKN : Aside0 (i + 1 + (C.length - (i + 1)) = C.length) := ⟨by omega⟩
   obtain ⟨ad, ead, x0⟩ := at_row (Kd.C_below HR.out HM.out.below) i hci
   subst ead
   have hel := HEL.out i hci
   have t1 : decide ((i : Int) < (C.length : Int)) = true := by simp; omega
   have t2 : decide (i < C.length) = true := by simp; omega
   have t3 : wrap64 ((i : Int) + 1) = ((i + 1 : Nat) : Int) := by rw [IntWalk.wrap64_in _ (by have := HSM.out; omega)]; omega
   have HST : Aside0 (leastTo C v (i + 1) = (if 0 < fn C i then min (leastTo C v i) (volt C v i) else leastTo C v i) ∧ mostTo C v (i + 1) = (if 0 < fn C i then max (mostTo C v i) (volt C v i) else mostTo C v i)) := ⟨⟨rfl, rfl⟩⟩
   obtain ⟨X, hX⟩ : ∃ X, fn C i = X := ⟨_, rfl⟩
   rw [hX] at x0 hel HST
   have hvt : volt C v i = fn v (X.toNat - 1) := by unfold volt; rw [hX]
   by_cases q : 0 < X
   ·have hg : decide (X > 0) = true := decide_eq_true q
    rw [if_pos q, if_pos q, hvt] at HST
    obtain ⟨m, rfl⟩ : ∃ m : Nat, X = (m : Int) + 1 := ⟨(X - 1).toNat, by omega⟩
    have em : ((m : Int) + 1).toNat - 1 = m := by omega
    rw [em] at HST
    obtain ⟨adv, ev, xv⟩ := at_row (Kd.C_below HR1.out HM.out.below) m (by omega)
    subst ev
    have k1 : (m : Int) < (v.length : Int) := by omega
    have k2 : m < v.length := by omega
    have n1 : IntKind.i64.wrap ((m : Int) + 1 - 1) = (m : Int) := by rw [IntWalk.i64_in _ (by omega)]; omega
    have n2 : wrap64 (m : Int) = (m : Int) := IntWalk.wrap64_in _ (by omega)
    obtain ⟨y, hy⟩ : ∃ y, fn v m = y := ⟨_, rfl⟩
    rw [hy] at xv HST
    have g1 : (if y < leastTo C v i then y else leastTo C v i) = leastTo C v (i + 1) := by rw [HST.out.1]; split <;> omega
    have g3 : (if mostTo C v i < y then y else mostTo C v i) = mostTo C v (i + 1) := by rw [HST.out.2]; split <;> omega
    clear q hel hvt hy hX em HST
    obtain ⟨l1, hl1⟩ : ∃ l1, leastTo C v (i + 1) = l1 := ⟨_, rfl⟩
    obtain ⟨m1, hm1⟩ : ∃ m1, mostTo C v (i + 1) = m1 := ⟨_, rfl⟩
    rw [hl1] at g1
    rw [hm1] at g3
    have HLM := Aside0.mk (And.intro hl1 hm1)
    clear hl1 hm1
    go_upto_region 6 with fail
    have HBd := Aside0.mk (below_drew1 (Below.refl wr.heap.size wr))
    refine start_ (n := 24) (S := fun w' => w'.cell? ⟨g2, 3, none⟩ = some (.slice (some ad) C.length c) ∧ w'.cell? (ad.add i) = some (.int .i64 ((m : Int) + 1)) ∧ w'.cell? (adv.add m) = some (.int .i64 y)) (ds := []) #[false, false, false, false, false, false, false, false, false, false, false, false, false, false, false, false, false, false, false, false, false, false, false, false] (by kernel_rfl) rfl rfl ⟨q3, x0, xv⟩ (fun hHeld => ?_); refine with_tabW rbF.tab6 rbF.bits6 (fun HT_ HW_ => ?_)
    generalize wr.drew = wd at HBd hHeld  ⊢
    refine pure_ (i := 0) (N := some 25) (v := ?_) (a' := ?_) (bS 24 1) rfl rfl (any_of HT_.out (by kernel_rfl)) (fun _ _ _ h => h) (Or.inl ⟨by rfl, ?_⟩) ?_ ?_; rotate_left; (· intro w'; go_simp; with_reducible rfl); rotate_left; (· simp only [Act.put, sT, sZ, sS, i64_w, i32_w]; rfl)
    refine pure_ (i := 1) (N := some 26) (v := ?_) (a' := ?_) (bS 24 3) rfl rfl (any_of HT_.out (by kernel_rfl)) (fun _ _ _ h => h) (Or.inl ⟨by rfl, ?_⟩) ?_ ?_; rotate_left; (· intro w'; go_simp; with_reducible rfl); rotate_left; (· simp only [Act.put, sT, sZ, sS, i64_w, i32_w]; rfl)
    refine pure_ (i := 2) (N := some 27) (v := ?_) (a' := ?_) (bS 24 7) rfl rfl (any_of HT_.out (by kernel_rfl)) (fun _ _ _ h => h) (Or.inl ⟨by rfl, ?_⟩) ?_ ?_; rotate_left; (· intro w'; go_simp; with_reducible rfl); rotate_left; (· simp only [Act.put, sT, sZ, sS, i64_w, i32_w]; rfl)
    refine pure_ (i := 4) (N := some 29) (v := ?_) (a' := ?_) (bS 24 23) rfl rfl (any_of HT_.out (by kernel_rfl)) (fun _ _ _ h => h) (Or.inl ⟨by rfl, ?_⟩) ?_ ?_; rotate_left; (· intro w'; go_simp; with_reducible rfl); rotate_left; (· simp only [Act.put, sT, sZ, sS, i64_w, i32_w]; rfl)
    refine pure_ (i := 11) (N := some 36) (v := ?_) (a' := ?_) (bS 24 2071) rfl rfl (any_of HT_.out (by kernel_rfl)) (fun _ _ _ h => h) (Or.inl ⟨by rfl, ?_⟩) ?_ ?_; rotate_left; (· intro w'; go_simp; with_reducible rfl); rotate_left; (· simp only [Act.put, sT, sZ, sS, i64_w, i32_w]; rfl)
    refine pure_ (i := 12) (N := some 37) (v := ?_) (a' := ?_) (bS 24 6167) rfl rfl (any_of HT_.out (by kernel_rfl)) (fun _ _ _ h => h) (Or.inl ⟨by rfl, ?_⟩) ?_ ?_; rotate_left; (· intro w'; go_simp; with_reducible rfl); rotate_left; (· simp only [Act.put, sT, sZ, sS, i64_w, i32_w]; rfl)
    refine pure_ (i := 13) (N := some 38) (v := ?_) (a' := ?_) (bS 24 14359) rfl rfl (any_of HT_.out (by kernel_rfl)) (fun _ _ _ h => h) (Or.inl ⟨by rfl, ?_⟩) ?_ ?_; rotate_left; (· intro w'; go_simp; with_reducible rfl); rotate_left; (· simp only [Act.put, sT, sZ, sS, i64_w, i32_w]; rfl)
    refine pure_ (i := 15) (N := some 40) (v := ?_) (a' := ?_) (bS 24 47127) rfl rfl (any_of HT_.out (by kernel_rfl)) (fun _ _ _ h => h) (Or.inl ⟨by rfl, ?_⟩) ?_ ?_; rotate_left; (· intro w'; go_simp; with_reducible rfl); rotate_left; (· simp only [Act.put, sT, sZ, sS, i64_w, i32_w]; rfl)
    refine take_ (i := 3) (N := some 28) (v := ?_) (a' := ?_) (bS 24 47135) rfl rfl (take_ofW HT_.out HW_.out (by kernel_rfl)) (fun _ _ _ h => h) (Or.inl ⟨by rfl, ?_⟩) hHeld ?_ ?_; rotate_left; (· rintro w' ⟨s0, s1, s2⟩; go_simp; with_reducible rfl); rotate_left; (· simp only [Act.put, sT, sZ, sS, i64_w, i32_w]; rfl)
    refine pure_ (i := 5) (N := some 30) (v := ?_) (a' := ?_) (bS 24 47167) rfl rfl (any_of HT_.out (by kernel_rfl)) (fun _ _ _ h => h) (Or.inl ⟨by rfl, ?_⟩) ?_ ?_; rotate_left; (· intro w'; go_simp; with_reducible rfl); rotate_left; (· simp only [Act.put, sT, sZ, sS, i64_w, i32_w]; rfl)
    refine take_ (i := 6) (N := some 31) (v := ?_) (a' := ?_) (bS 24 47231) rfl rfl (take_ofW HT_.out HW_.out (by kernel_rfl)) (fun _ _ _ h => h) (Or.inl ⟨by rfl, ?_⟩) hHeld ?_ ?_; rotate_left; (· rintro w' ⟨s0, s1, s2⟩; go_simp; with_reducible rfl); rotate_left; (· simp only [Act.put, sT, sZ, sS, i64_w, i32_w]; rfl)
    refine pure_ (i := 7) (N := some 32) (v := ?_) (a' := ?_) (bS 24 47359) rfl rfl (any_of HT_.out (by kernel_rfl)) (fun _ _ _ h => h) (Or.inl ⟨by rfl, ?_⟩) ?_ ?_; rotate_left; (· intro w'; go_simp; with_reducible rfl); rotate_left; (· simp only [Act.put, sT, sZ, sS, i64_w, i32_w]; rfl)
    refine pure_ (i := 8) (N := some 33) (v := ?_) (a' := ?_) (bS 24 47615) rfl rfl (any_of HT_.out (by kernel_rfl)) (fun _ _ _ h => h) (Or.inl ⟨by rfl, ?_⟩) ?_ ?_; rotate_left; (· intro w'; go_simp; with_reducible rfl); rotate_left; (· simp only [Act.put, sT, sZ, sS, i64_w, i32_w]; rfl)
    refine take_ (i := 9) (N := some 34) (v := ?_) (a' := ?_) (bS 24 48127) rfl rfl (take_ofW HT_.out HW_.out (by kernel_rfl)) (fun _ _ _ h => h) (Or.inl ⟨by rfl, ?_⟩) hHeld ?_ ?_; rotate_left; (· rintro w' ⟨s0, s1, s2⟩; go_simp; with_reducible rfl); rotate_left; (· simp only [Act.put, sT, sZ, sS, i64_w, i32_w]; rfl)
    refine pure_ (i := 10) (N := some 35) (v := ?_) (a' := ?_) (bS 24 49151) rfl rfl (any_of HT_.out (by kernel_rfl)) (fun _ _ _ h => h) (Or.inl ⟨by rfl, ?_⟩) ?_ ?_; rotate_left; (· intro w'; go_simp; with_reducible rfl); rotate_left; (· simp only [Act.put, sT, sZ, sS, i64_w, i32_w]; rfl)
    refine pure_ (i := 22) (N := some 5) (v := ?_) (a' := ?_) (bS 24 4243455) rfl rfl (any_of HT_.out (by kernel_rfl)) (fun _ _ _ h => h) (Or.inl ⟨by rfl, ?_⟩) ?_ ?_; rotate_left; (· intro w'; go_simp; with_reducible rfl); rotate_left; (· simp only [Act.put, sT, sZ, sS, i64_w, i32_w]; rfl)
    refine take_ (i := 14) (N := some 39) (v := ?_) (a' := ?_) (bS 24 4259839) rfl rfl (take_ofW HT_.out HW_.out (by kernel_rfl)) (fun _ _ _ h => h) (Or.inl ⟨by rfl, ?_⟩) hHeld ?_ ?_; rotate_left; (· rintro w' ⟨s0, s1, s2⟩; go_simp; with_reducible rfl); rotate_left; (· simp only [Act.put, sT, sZ, sS, i64_w, i32_w]; rfl)
    refine pure_ (i := 16) (N := some 41) (v := ?_) (a' := ?_) (bS 24 4325375) rfl rfl (any_of HT_.out (by kernel_rfl)) (fun _ _ _ h => h) (Or.inl ⟨by rfl, ?_⟩) ?_ ?_; rotate_left; (· intro w'; go_simp; with_reducible rfl); rotate_left; (· simp only [Act.put, sT, sZ, sS, i64_w, i32_w]; rfl)
    refine take_ (i := 17) (N := some 42) (v := ?_) (a' := ?_) (bS 24 4456447) rfl rfl (take_ofW HT_.out HW_.out (by kernel_rfl)) (fun _ _ _ h => h) (Or.inl ⟨by rfl, ?_⟩) hHeld ?_ ?_; rotate_left; (· rintro w' ⟨s0, s1, s2⟩; go_simp; with_reducible rfl); rotate_left; (· simp only [Act.put, sT, sZ, sS, i64_w, i32_w]; rfl)
    refine pure_ (i := 18) (N := some 43) (v := ?_) (a' := ?_) (bS 24 4718591) rfl rfl (any_of HT_.out (by kernel_rfl)) (fun _ _ _ h => h) (Or.inl ⟨by rfl, ?_⟩) ?_ ?_; rotate_left; (· intro w'; go_simp; with_reducible rfl); rotate_left; (· simp only [Act.put, sT, sZ, sS, i64_w, i32_w]; rfl)
    refine pure_ (i := 19) (N := some 44) (v := ?_) (a' := ?_) (bS 24 5242879) rfl rfl (any_of HT_.out (by kernel_rfl)) (fun _ _ _ h => h) (Or.inl ⟨by rfl, ?_⟩) ?_ ?_; rotate_left; (· intro w'; go_simp; with_reducible rfl); rotate_left; (· simp only [Act.put, sT, sZ, sS, i64_w, i32_w]; rfl)
    refine take_ (i := 20) (N := some 45) (v := ?_) (a' := ?_) (bS 24 6291455) rfl rfl (take_ofW HT_.out HW_.out (by kernel_rfl)) (fun _ _ _ h => h) (Or.inl ⟨by rfl, ?_⟩) hHeld ?_ ?_; rotate_left; (· rintro w' ⟨s0, s1, s2⟩; go_simp; with_reducible rfl); rotate_left; (· simp only [Act.put, sT, sZ, sS, i64_w, i32_w]; rfl)
    refine pure_ (i := 21) (N := some 46) (v := ?_) (a' := ?_) (bS 24 8388607) rfl rfl (any_of HT_.out (by kernel_rfl)) (fun _ _ _ h => h) (Or.inl ⟨by rfl, ?_⟩) ?_ ?_; rotate_left; (· intro w'; go_simp; with_reducible rfl); rotate_left; (· simp only [Act.put, sT, sZ, sS, i64_w, i32_w]; rfl)
    refine pure_ (i := 23) (N := some 6) (v := ?_) (a' := ?_) (bS 24 16777215) rfl rfl (any_of HT_.out (by kernel_rfl)) (fun _ _ _ h => h) (Or.inl ⟨by rfl, ?_⟩) ?_ ?_; rotate_left; (· intro w'; go_simp; with_reducible rfl); rotate_left; (· simp only [Act.put, sT, sZ, sS, i64_w, i32_w]; rfl)
    refine done_ (done_of HT_.out (by kernel_rfl)) ?_
    clear hHeld HT_ HW_
    go_wp2_with fail
    go_roundg (C.length - (i + 1))
    case measure =>
     clear hci t1 t2 t3
     have := HK.out
     have := HI.out
     omega
    case rel => exact ⟨i + 1, congrArg (Value.int .i64) HLM.out.1.symm, congrArg (Value.int .i64) HLM.out.2.symm, by first | exact congrArg _ t3 | go_num, HKN, ⟨HM.out.step HBd.out⟩⟩
   ·have hg : decide (X > 0) = false := decide_eq_false q
    rw [if_neg q, if_neg q] at HST
    clear q hel hvt hX
    go_wp2_with fail
    go_roundg (C.length - (i + 1))
    case measure =>
     clear hci t1 t2 t3
     have := HK.out
     have := HI.out
     omega
    case rel => exact ⟨i + 1, congrArg (Value.int .i64) HST.out.1.symm, congrArg (Value.int .i64) HST.out.2.symm, by first | exact congrArg _ t3 | go_num, HKN, HM⟩
  ·obtain rfl : i = C.length := by have := HK.out; omega
   obtain ⟨wo, rfl⟩ : ∃ wo : World, wo = wr := ⟨_, rfl⟩
   have t1 : decide ((C.length : Int) < (C.length : Int)) = false := by simp
   have t2 : decide (C.length < C.length) = false := by simp
   obtain ⟨L0, hL0⟩ : ∃ x, leastTo C v C.length = x := ⟨_, rfl⟩
   obtain ⟨M0, hM0⟩ : ∃ x, mostTo C v C.length = x := ⟨_, rfl⟩
   rw [hL0, hM0]
   have HLM0 := Aside0.mk (And.intro hL0 hM0)
   clear hL0 hM0
   go_wp2_with (first
    | ((with_reducible refine gate_dst (N := 8) rfl ?_); refine ev_new HM.out rfl 33 rfl info33 ?_; intro g8 wc hm1 hq1; clear hq1; have HM3 := Aside0.mk hm1; clear hm1 HM))
   have HB0 : Aside0 (BS w wc g2 g4 g8 (planV W H R A C.length c) #[.slice none 0 0, .slice none 0 0, .int .i64 0, .bool false] #[.slice none 0 0, .slice none 0 0, .int .i64 0, .bool false] (.slice none 0 0) (.slice none 0 0) (firstTo C v L0 0) (firstTo C v M0 0)) := ⟨⟨HM3.out.below, HM3.out.third, HM3.out.second, HM3.out.head, ⟨Kd.R_nil _ _ _ _ _, Kd.R_nil _ _ _ _ _⟩, (HM3.out.ne _ List.mem_cons_self).symm, ⟨HM3.out.geh, HM3.out.drop.geh⟩⟩⟩
   clear HM3
   go_loopg [9] C.length (fun k v9 w' => ∃ (i : Nat) (vL vH : Value), v9 = .int .i64 (i : Int) ∧ Aside0 (i + k = C.length) ∧ Aside0 (BS w w' g2 g4 g8 (planV W H R A C.length c) #[.slice none 0 0, .slice none 0 0, .int .i64 0, .bool false] #[vL, vH, .int .i64 0, .bool false] vL vH (firstTo C v L0 i) (firstTo C v M0 i)))
   case atStart => exact ⟨0, _, _, by go_num, ⟨by omega⟩, HB0⟩
   case round =>
    clear HB0 HK q3 t1 t2 hci
    obtain ⟨i, vL, vH, rfl, HK, HS⟩ := hrel
    have q3 : wr.cell? ⟨g2, 3, none⟩ = some (.slice A C.length c) := (blk_cell HS.out.p 3).trans rfl
    by_cases hci : i < C.length
    ·have HI := Aside0.mk hci
     have HKN : Aside0 (i + 1 + (C.length - (i + 1)) = C.length) := ⟨by omega⟩
     obtain ⟨ad, ead, x0⟩ := at_row (Kd.C_below HR.out HS.out.below) i hci
     subst ead
     have hel := HEL.out i hci
     have t1 : decide ((i : Int) < (C.length : Int)) = true := by simp; omega
     have t2 : decide (i < C.length) = true := by simp; omega
     have t3 : wrap64 ((i : Int) + 1) = ((i + 1 : Nat) : Int) := by rw [IntWalk.wrap64_in _ (by have := HSM.out; omega)]; omega
     have HFS : Aside0 (firstTo C v L0 (i + 1) = firstTo C v L0 i ++ [if 0 < fn C i then volt C v i else L0] ∧ firstTo C v M0 (i + 1) = firstTo C v M0 i ++ [if 0 < fn C i then volt C v i else M0]) := ⟨⟨firstTo_succ _ _ _ _, firstTo_succ _ _ _ _⟩⟩
     have HLN : Aside0 ((firstTo C v L0 i).length = i ∧ (firstTo C v M0 i).length = i) := ⟨⟨firstTo_len _ _ _ _, firstTo_len _ _ _ _⟩⟩
     obtain ⟨X, hX⟩ : ∃ X, fn C i = X := ⟨_, rfl⟩
     rw [hX] at x0 hel HFS
     have hvt : volt C v i = fn v (X.toNat - 1) := by unfold volt; rw [hX]
     by_cases q : 0 < X
     ·have hg : decide (X > 0) = true := decide_eq_true q
      rw [if_pos q, if_pos q, hvt] at HFS
      obtain ⟨m, rfl⟩ : ∃ m : Nat, X = (m : Int) + 1 := ⟨(X - 1).toNat, by omega⟩
      have em : ((m : Int) + 1).toNat - 1 = m := by omega
      rw [em] at HFS
      obtain ⟨adv, ev, xv⟩ := at_row (Kd.C_below HR1.out HS.out.below) m (by omega)
      subst ev
      have k1 : (m : Int) < (v.length : Int) := by omega
      have k2 : m < v.length := by omega
      have n1 : IntKind.i64.wrap ((m : Int) + 1 - 1) = (m : Int) := by rw [IntWalk.i64_in _ (by omega)]; omega
      have n2 : wrap64 (m : Int) = (m : Int) := IntWalk.wrap64_in _ (by omega)
      obtain ⟨y, hy⟩ : ∃ y, fn v m = y := ⟨_, rfl⟩
      rw [hy] at xv HFS
      clear q hel hvt hX em hy
      go_upto_region 13 with fail
      have HBd := Aside0.mk (below_drew1 (Below.refl wr.heap.size wr))
      refine start_ (n := 20) (S := fun w' => w'.cell? ⟨g2, 3, none⟩ = some (.slice (some ad) C.length c) ∧ w'.cell? (ad.add i) = some (.int .i64 ((m : Int) + 1)) ∧ w'.cell? (adv.add m) = some (.int .i64 y)) (ds := []) #[false, false, false, false, false, false, false, false, false, false, false, false, false, false, false, false, false, false, false, false] (by kernel_rfl) rfl rfl ⟨q3, x0, xv⟩ (fun hHeld => ?_); refine with_tabW rbF.tab13 rbF.bits13 (fun HT_ HW_ => ?_)
      generalize wr.drew = wd at HBd hHeld  ⊢
      refine pure_ (i := 0) (N := some 62) (v := ?_) (a' := ?_) (bS 20 1) rfl rfl (any_of HT_.out (by kernel_rfl)) (fun _ _ _ h => h) (Or.inl ⟨by rfl, ?_⟩) ?_ ?_; rotate_left; (· intro w'; go_simp; with_reducible rfl); rotate_left; (· simp only [Act.put, sT, sZ, sS, i64_w, i32_w]; rfl)
      refine pure_ (i := 1) (N := some 63) (v := ?_) (a' := ?_) (bS 20 3) rfl rfl (any_of HT_.out (by kernel_rfl)) (fun _ _ _ h => h) (Or.inl ⟨by rfl, ?_⟩) ?_ ?_; rotate_left; (· intro w'; go_simp; with_reducible rfl); rotate_left; (· simp only [Act.put, sT, sZ, sS, i64_w, i32_w]; rfl)
      refine pure_ (i := 3) (N := some 65) (v := ?_) (a' := ?_) (bS 20 11) rfl rfl (any_of HT_.out (by kernel_rfl)) (fun _ _ _ h => h) (Or.inl ⟨by rfl, ?_⟩) ?_ ?_; rotate_left; (· intro w'; go_simp; with_reducible rfl); rotate_left; (· simp only [Act.put, sT, sZ, sS, i64_w, i32_w]; rfl)
      refine pure_ (i := 9) (N := some 71) (v := ?_) (a' := ?_) (bS 20 523) rfl rfl (any_of HT_.out (by kernel_rfl)) (fun _ _ _ h => h) (Or.inl ⟨by rfl, ?_⟩) ?_ ?_; rotate_left; (· intro w'; go_simp; with_reducible rfl); rotate_left; (· simp only [Act.put, sT, sZ, sS, i64_w, i32_w]; rfl)
      refine pure_ (i := 10) (N := some 72) (v := ?_) (a' := ?_) (bS 20 1547) rfl rfl (any_of HT_.out (by kernel_rfl)) (fun _ _ _ h => h) (Or.inl ⟨by rfl, ?_⟩) ?_ ?_; rotate_left; (· intro w'; go_simp; with_reducible rfl); rotate_left; (· simp only [Act.put, sT, sZ, sS, i64_w, i32_w]; rfl)
      refine pure_ (i := 12) (N := some 74) (v := ?_) (a' := ?_) (bS 20 5643) rfl rfl (any_of HT_.out (by kernel_rfl)) (fun _ _ _ h => h) (Or.inl ⟨by rfl, ?_⟩) ?_ ?_; rotate_left; (· intro w'; go_simp; with_reducible rfl); rotate_left; (· simp only [Act.put, sT, sZ, sS, i64_w, i32_w]; rfl)
      refine take_ (i := 2) (N := some 64) (v := ?_) (a' := ?_) (bS 20 5647) rfl rfl (take_ofW HT_.out HW_.out (by kernel_rfl)) (fun _ _ _ h => h) (Or.inl ⟨by rfl, ?_⟩) hHeld ?_ ?_; rotate_left; (· rintro w' ⟨s0, s1, s2⟩; go_simp; with_reducible rfl); rotate_left; (· simp only [Act.put, sT, sZ, sS, i64_w, i32_w]; rfl)
      refine pure_ (i := 4) (N := some 66) (v := ?_) (a' := ?_) (bS 20 5663) rfl rfl (any_of HT_.out (by kernel_rfl)) (fun _ _ _ h => h) (Or.inl ⟨by rfl, ?_⟩) ?_ ?_; rotate_left; (· intro w'; go_simp; with_reducible rfl); rotate_left; (· simp only [Act.put, sT, sZ, sS, i64_w, i32_w]; rfl)
      refine take_ (i := 5) (N := some 67) (v := ?_) (a' := ?_) (bS 20 5695) rfl rfl (take_ofW HT_.out HW_.out (by kernel_rfl)) (fun _ _ _ h => h) (Or.inl ⟨by rfl, ?_⟩) hHeld ?_ ?_; rotate_left; (· rintro w' ⟨s0, s1, s2⟩; go_simp; with_reducible rfl); rotate_left; (· simp only [Act.put, sT, sZ, sS, i64_w, i32_w]; rfl)
      refine pure_ (i := 6) (N := some 68) (v := ?_) (a' := ?_) (bS 20 5759) rfl rfl (any_of HT_.out (by kernel_rfl)) (fun _ _ _ h => h) (Or.inl ⟨by rfl, ?_⟩) ?_ ?_; rotate_left; (· intro w'; go_simp; with_reducible rfl); rotate_left; (· simp only [Act.put, sT, sZ, sS, i64_w, i32_w]; rfl)
      refine pure_ (i := 7) (N := some 69) (v := ?_) (a' := ?_) (bS 20 5887) rfl rfl (any_of HT_.out (by kernel_rfl)) (fun _ _ _ h => h) (Or.inl ⟨by rfl, ?_⟩) ?_ ?_; rotate_left; (· intro w'; go_simp; with_reducible rfl); rotate_left; (· simp only [Act.put, sT, sZ, sS, i64_w, i32_w]; rfl)
      refine take_ (i := 8) (N := some 70) (v := ?_) (a' := ?_) (bS 20 6143) rfl rfl (take_ofW HT_.out HW_.out (by kernel_rfl)) (fun _ _ _ h => h) (Or.inl ⟨by rfl, ?_⟩) hHeld ?_ ?_; rotate_left; (· rintro w' ⟨s0, s1, s2⟩; go_simp; with_reducible rfl); rotate_left; (· simp only [Act.put, sT, sZ, sS, i64_w, i32_w]; rfl)
      refine pure_ (i := 18) (N := some 10) (v := ?_) (a' := ?_) (bS 20 268287) rfl rfl (any_of HT_.out (by kernel_rfl)) (fun _ _ _ h => h) (Or.inl ⟨by rfl, ?_⟩) ?_ ?_; rotate_left; (· intro w'; go_simp; with_reducible rfl); rotate_left; (· simp only [Act.put, sT, sZ, sS, i64_w, i32_w]; rfl)
      refine take_ (i := 11) (N := some 73) (v := ?_) (a' := ?_) (bS 20 270335) rfl rfl (take_ofW HT_.out HW_.out (by kernel_rfl)) (fun _ _ _ h => h) (Or.inl ⟨by rfl, ?_⟩) hHeld ?_ ?_; rotate_left; (· rintro w' ⟨s0, s1, s2⟩; go_simp; with_reducible rfl); rotate_left; (· simp only [Act.put, sT, sZ, sS, i64_w, i32_w]; rfl)
      refine pure_ (i := 13) (N := some 75) (v := ?_) (a' := ?_) (bS 20 278527) rfl rfl (any_of HT_.out (by kernel_rfl)) (fun _ _ _ h => h) (Or.inl ⟨by rfl, ?_⟩) ?_ ?_; rotate_left; (· intro w'; go_simp; with_reducible rfl); rotate_left; (· simp only [Act.put, sT, sZ, sS, i64_w, i32_w]; rfl)
      refine take_ (i := 14) (N := some 76) (v := ?_) (a' := ?_) (bS 20 294911) rfl rfl (take_ofW HT_.out HW_.out (by kernel_rfl)) (fun _ _ _ h => h) (Or.inl ⟨by rfl, ?_⟩) hHeld ?_ ?_; rotate_left; (· rintro w' ⟨s0, s1, s2⟩; go_simp; with_reducible rfl); rotate_left; (· simp only [Act.put, sT, sZ, sS, i64_w, i32_w]; rfl)
      refine pure_ (i := 15) (N := some 77) (v := ?_) (a' := ?_) (bS 20 327679) rfl rfl (any_of HT_.out (by kernel_rfl)) (fun _ _ _ h => h) (Or.inl ⟨by rfl, ?_⟩) ?_ ?_; rotate_left; (· intro w'; go_simp; with_reducible rfl); rotate_left; (· simp only [Act.put, sT, sZ, sS, i64_w, i32_w]; rfl)
      refine pure_ (i := 16) (N := some 78) (v := ?_) (a' := ?_) (bS 20 393215) rfl rfl (any_of HT_.out (by kernel_rfl)) (fun _ _ _ h => h) (Or.inl ⟨by rfl, ?_⟩) ?_ ?_; rotate_left; (· intro w'; go_simp; with_reducible rfl); rotate_left; (· simp only [Act.put, sT, sZ, sS, i64_w, i32_w]; rfl)
      refine take_ (i := 17) (N := some 79) (v := ?_) (a' := ?_) (bS 20 524287) rfl rfl (take_ofW HT_.out HW_.out (by kernel_rfl)) (fun _ _ _ h => h) (Or.inl ⟨by rfl, ?_⟩) hHeld ?_ ?_; rotate_left; (· rintro w' ⟨s0, s1, s2⟩; go_simp; with_reducible rfl); rotate_left; (· simp only [Act.put, sT, sZ, sS, i64_w, i32_w]; rfl)
      refine pure_ (i := 19) (N := some 11) (v := ?_) (a' := ?_) (bS 20 1048575) rfl rfl (any_of HT_.out (by kernel_rfl)) (fun _ _ _ h => h) (Or.inl ⟨by rfl, ?_⟩) ?_ ?_; rotate_left; (· intro w'; go_simp; with_reducible rfl); rotate_left; (· simp only [Act.put, sT, sZ, sS, i64_w, i32_w]; rfl)
      refine done_ (done_of HT_.out (by kernel_rfl)) ?_
      clear hHeld HT_ HW_
      obtain ⟨we, rfl⟩ : ∃ we : World, we = wd := ⟨_, rfl⟩
      have HC := Aside0.mk (HS.out.step HBd.out)
      clear HS q3 x0 xv k1 k2 n1 n2 HBd
      generalize firstTo C v L0 i = lo at HC HFS HLN
      generalize firstTo C v M0 i = hi at HC HFS HLN
      go_upto_region 14 with fail
      have u0 : we.cell? ⟨g8, 0, none⟩ = some vL := (blk_cell HC.out.f 0).trans rfl
      have u1 : we.cell? ⟨g8, 1, none⟩ = some vH := (blk_cell HC.out.f 1).trans rfl
      have HBd := Aside0.mk (below_drew1 (Below.refl we.heap.size we))
      refine start_ (n := 14) (S := fun w' => w'.cell? ⟨g8, 0, none⟩ = some (vL) ∧ w'.cell? ⟨g8, 1, none⟩ = some (vH)) (ds := [11, 13]) #[false, false, false, false, false, false, false, false, false, false, false, false, false, false] (by kernel_rfl) rfl rfl ⟨u0, u1⟩ (fun hHeld => ?_); refine with_tabW rbF.tab14 rbF.bits14 (fun HT_ HW_ => ?_)
      generalize we.drew = wd at HBd hHeld  ⊢
      refine pure_ (i := 0) (N := some 80) (v := ?_) (a' := ?_) (bS 14 1) rfl rfl (any_of HT_.out (by kernel_rfl)) (fun _ _ _ h => h) (Or.inl ⟨by rfl, ?_⟩) ?_ ?_; rotate_left; (· intro w'; go_simp; with_reducible rfl); rotate_left; (· simp only [Act.put, sT, sZ, sS, i64_w, i32_w]; rfl)
      refine pure_ (i := 2) (N := some 82) (v := ?_) (a' := ?_) (bS 14 5) rfl rfl (any_of HT_.out (by kernel_rfl)) (fun _ _ _ h => h) (Or.inl ⟨by rfl, ?_⟩) ?_ ?_; rotate_left; (· intro w'; go_simp; with_reducible rfl); rotate_left; (· simp only [Act.put, sT, sZ, sS, i64_w, i32_w]; rfl)
      refine pure_ (i := 5) (N := some 85) (v := ?_) (a' := ?_) (bS 14 37) rfl rfl (any_of HT_.out (by kernel_rfl)) (fun _ _ _ h => h) (Or.inl ⟨by rfl, ?_⟩) ?_ ?_; rotate_left; (· intro w'; go_simp; with_reducible rfl); rotate_left; (· simp only [Act.put, sT, sZ, sS, i64_w, i32_w]; rfl)
      refine pure_ (i := 7) (N := some 87) (v := ?_) (a' := ?_) (bS 14 165) rfl rfl (any_of HT_.out (by kernel_rfl)) (fun _ _ _ h => h) (Or.inl ⟨by rfl, ?_⟩) ?_ ?_; rotate_left; (· intro w'; go_simp; with_reducible rfl); rotate_left; (· simp only [Act.put, sT, sZ, sS, i64_w, i32_w]; rfl)
      refine take_ (i := 1) (N := some 81) (v := ?_) (a' := ?_) (bS 14 167) rfl rfl (take_ofW HT_.out HW_.out (by kernel_rfl)) (fun _ _ _ h => h) (Or.inl ⟨by rfl, ?_⟩) hHeld ?_ ?_; rotate_left; (· rintro w' ⟨s0, s1⟩; go_simp; with_reducible rfl); rotate_left; (· simp only [Act.put, sT, sZ, sS, i64_w, i32_w]; rfl)
      refine take_ (i := 6) (N := some 86) (v := ?_) (a' := ?_) (bS 14 231) rfl rfl (take_ofW HT_.out HW_.out (by kernel_rfl)) (fun _ _ _ h => h) (Or.inl ⟨by rfl, ?_⟩) hHeld ?_ ?_; rotate_left; (· rintro w' ⟨s0, s1⟩; go_simp; with_reducible rfl); rotate_left; (· simp only [Act.put, sT, sZ, sS, i64_w, i32_w]; rfl)
      have HC_wd := Aside0.mk (HC.out.step HBd.out)
      clear HC HBd u0 u1
      refine wpAnyLast_ready (rs := [3, 8]) (by kernel_rfl) (by simp) ?_
      refine AllReadyL.cons (i := 3) rfl (by decide) (fun K hK => ?_) (AllReadyL.cons (i := 8) rfl (by decide) (fun K hK => ?_) AllReadyL.nil)
      ·go_simp
       have HLA_wda := Aside0.mk (Lit1.make HC_wd.out y)
       have HC_wda := Aside0.mk (HC_wd.out.step (below_alloc (Below.refl _ _) (.cells #[.int .i64 y] 3)))
       generalize wd.alloc _ = wda at HC_wda HLA_wda  ⊢
       generalize wd.heap.size = ga at HLA_wda ⊢
       clear hHeld HC_wd 
       refine hK.out _ _ ⟨(blk_cell HC_wda.out.f 0).trans rfl, (blk_cell HC_wda.out.f 1).trans rfl⟩ (fun hHeld => ?_)
       clear hK K
       refine wpAnyLast_ready (rs := [4, 8]) (by kernel_rfl) (by simp) ?_
       refine AllReadyL.cons (i := 4) rfl (by decide) (fun K hK => ?_) (AllReadyL.cons (i := 8) rfl (by decide) (fun K hK => ?_) AllReadyL.nil)
       ·refine Kd.R_append_rows_step (Kd.int .i64) (Rr := (Kd.int .i64).K wda) (w0 := w) w.heap.size (by rfl) (.tmp 81) (.tmp 83) 22 3 (.int .i64 0) 8 rfl Try.underlying22 info3 rfl (by decide) (by omega) vL lo [y] (some ⟨ga, 0, none⟩) 1 1 (fun k => some k ≠ vH.ownBlock) (fun _ => False) rfl rfl HC_wda.out.t.l HLA_wda.out.reads (fun x cs h => h) (fun _ h => h.elim) (Kd.fresh' (Kd.R_lt HC_wda.out.t.h)) HC_wda.out.below HC_wda.out.below.size (by have := HLN.out; have := HI.out; have := HSM.out; omega) ?_
        intro vL2 wdab hR hBx hg hat
        obtain ⟨AL, cL, eL⟩ := Kd.R_slice hR
        obtain ⟨nl, hnl⟩ : ∃ n, (lo ++ [y]).length = n := ⟨_, rfl⟩
        rw [hnl] at eL
        subst eL
        clear hnl
        have HC_wdab := Aside0.mk (HC_wda.out.growL hR hBx hg hat)
        clear hR hBx hg hat hHeld HC_wda HLA_wda 
        refine hK.out _ _ ⟨(blk_cell HC_wdab.out.f 0).trans rfl, (blk_cell HC_wdab.out.f 1).trans rfl⟩ (fun hHeld => ?_)
        clear hK K
        refine norm_ (a' := ?_) ?_ ?_
        rotate_left
        ·show Act.put _ (some 84) _ = _
         simp only [Act.put, sT, sZ, sS, i64_w, i32_w]
         rfl
        refine pure_ (i := 10) (N := some 90) (v := ?_) (a' := ?_) (bS 14 1279) rfl rfl (by kernel_rfl) (fun _ _ _ h => h) (Or.inl ⟨by rfl, ?_⟩) ?_ ?_; rotate_left; (· intro w'; go_simp; with_reducible rfl); rotate_left; (· simp only [Act.put, sT, sZ, sS, i64_w, i32_w]; rfl)
        refine one_ (i := 8) (N := some 88) (bS 14 1535) rfl rfl (by kernel_rfl) (by decide) (fun K hK => ?_)
        go_simp
        have HLB_wdabc := Aside0.mk (Lit1.make HC_wdab.out y)
        have HC_wdabc := Aside0.mk (HC_wdab.out.step (below_alloc (Below.refl _ _) (.cells #[.int .i64 y] 3)))
        generalize wdab.alloc _ = wdabc at HC_wdabc HLB_wdabc  ⊢
        generalize wdab.heap.size = gb at HLB_wdabc ⊢
        clear hHeld HC_wdab 
        refine hK.out _ _ ⟨(blk_cell HC_wdabc.out.f 0).trans rfl, (blk_cell HC_wdabc.out.f 1).trans rfl⟩ (fun hHeld => ?_)
        clear hK K
        refine one_ (i := 9) (N := some 89) (bS 14 2047) rfl rfl (by kernel_rfl) (by decide) (fun K hK => ?_)
        refine Kd.R_append_rows_step (Kd.int .i64) (Rr := (Kd.int .i64).K wdabc) (w0 := w) w.heap.size (by rfl) (.tmp 86) (.tmp 88) 22 3 (.int .i64 0) 8 rfl Try.underlying22 info3 rfl (by decide) (by omega) vH hi [y] (some ⟨gb, 0, none⟩) 1 1 (fun k => some k ≠ (Value.slice AL nl cL).ownBlock) (fun _ => False) rfl rfl HC_wdabc.out.t.h HLB_wdabc.out.reads (fun x cs h => h) (fun _ h => h.elim) (Kd.fresh' (Kd.R_lt HC_wdabc.out.t.l)) HC_wdabc.out.below HC_wdabc.out.below.size (by have := HLN.out; have := HI.out; have := HSM.out; omega) ?_
        intro vH2 wdabcd hR hBx hg hat
        obtain ⟨AH, cH, eH⟩ := Kd.R_slice hR
        obtain ⟨nh, hnh⟩ : ∃ n, (hi ++ [y]).length = n := ⟨_, rfl⟩
        rw [hnh] at eH
        subst eH
        clear hnh
        have HC_wdabcd := Aside0.mk (HC_wdabc.out.growH hR hBx hg hat)
        clear hR hBx hg hat hHeld HC_wdabc HLB_wdabc
        refine hK.out _ _ ⟨(blk_cell HC_wdabcd.out.f 0).trans rfl, (blk_cell HC_wdabcd.out.f 1).trans rfl⟩ (fun hHeld => ?_)
        clear hK K
        refine norm_ (a' := ?_) ?_ ?_
        rotate_left
        ·show Act.put _ (some 89) _ = _
         simp only [Act.put, sT, sZ, sS, i64_w, i32_w]
         rfl
        have r0 : wdabcd.cell? ⟨g8, 0, none⟩ = some vL := (blk_cell HC_wdabcd.out.f 0).trans rfl
        have r1 : wdabcd.cell? ⟨g8, 1, none⟩ = some vH := (blk_cell HC_wdabcd.out.f 1).trans rfl
        have f0 := blk_frozen HC_wdabcd.out.f 0
        have f1 := blk_frozen HC_wdabcd.out.f 1
        refine last_ (i := 11) (N := none) (bS 14 4095) rfl rfl (by kernel_rfl) (by decide) (fun K hK => ?_)
        go_simp
        refine hK.out _ _ ?_
        clear hK K hHeld
        refine pure_ (i := 12) (N := some 91) (v := ?_) (a' := ?_) (bS 14 8191) rfl rfl (by kernel_rfl) (fun _ _ _ h => h) (Or.inl ⟨by rfl, ?_⟩) ?_ ?_; rotate_left; (· intro w'; go_simp; with_reducible rfl); rotate_left; (· simp only [Act.put, sT, sZ, sS, i64_w, i32_w]; rfl)
        refine last_ (i := 13) (N := none) (bS 14 16383) rfl rfl (by kernel_rfl) (by decide) (fun K hK => ?_)
        go_simp
        refine hK.out _ _ ?_
        clear hK K
        refine done_ (by kernel_rfl) ?_
        clear HT_ HW_
        go_wp2_with fail
        go_roundg (C.length - (i + 1))
        case measure =>
         clear hci t1 t2 t3
         have := HK.out
         have := HI.out
         omega
        case rel => exact ⟨i + 1, .slice AL nl cL, .slice AH nh cH, by first | exact congrArg _ t3 | go_num, HKN, ⟨by rw [HFS.out.1, HFS.out.2]; exact (HC_wdabcd.out.put 0 (.slice AL nl cL) (fv' := #[.slice AL nl cL, vH, .int .i64 0, .bool false]) rfl).put 1 (.slice AH nh cH) (fv' := #[.slice AL nl cL, .slice AH nh cH, .int .i64 0, .bool false]) rfl⟩⟩
       ·go_simp
        have HLB_wdab := Aside0.mk (Lit1.make HC_wda.out y)
        have HC_wdab := Aside0.mk (HC_wda.out.step (below_alloc (Below.refl _ _) (.cells #[.int .i64 y] 3)))
        have HLA_wdab := Aside0.mk (HLA_wda.out.step (below_alloc (Below.refl _ _) (.cells #[.int .i64 y] 3)))
        generalize wda.alloc _ = wdab at HC_wdab HLB_wdab HLA_wdab ⊢
        generalize wda.heap.size = gb at HLB_wdab ⊢
        clear hHeld HC_wda HLA_wda
        refine hK.out _ _ ⟨(blk_cell HC_wdab.out.f 0).trans rfl, (blk_cell HC_wdab.out.f 1).trans rfl⟩ (fun hHeld => ?_)
        clear hK K
        refine one_ (i := 4) (N := some 84) (bS 14 511) rfl rfl (by kernel_rfl) (by decide) (fun K hK => ?_)
        refine Kd.R_append_rows_step (Kd.int .i64) (Rr := (Kd.int .i64).K wdab) (w0 := w) w.heap.size (by rfl) (.tmp 81) (.tmp 83) 22 3 (.int .i64 0) 8 rfl Try.underlying22 info3 rfl (by decide) (by omega) vL lo [y] (some ⟨ga, 0, none⟩) 1 1 (fun k => some k ≠ vH.ownBlock) (fun _ => False) rfl rfl HC_wdab.out.t.l HLA_wdab.out.reads (fun x cs h => h) (fun _ h => h.elim) (Kd.fresh' (Kd.R_lt HC_wdab.out.t.h)) HC_wdab.out.below HC_wdab.out.below.size (by have := HLN.out; have := HI.out; have := HSM.out; omega) ?_
        intro vL2 wdabc hR hBx hg hat
        obtain ⟨AL, cL, eL⟩ := Kd.R_slice hR
        obtain ⟨nl, hnl⟩ : ∃ n, (lo ++ [y]).length = n := ⟨_, rfl⟩
        rw [hnl] at eL
        subst eL
        clear hnl
        have HC_wdabc := Aside0.mk (HC_wdab.out.growL hR hBx hg hat)
        have HLB_wdabc := Aside0.mk (HLB_wdab.out.growL hg hat)
        clear hR hBx hg hat hHeld HC_wdab HLA_wdab HLB_wdab
        refine hK.out _ _ ⟨(blk_cell HC_wdabc.out.f 0).trans rfl, (blk_cell HC_wdabc.out.f 1).trans rfl⟩ (fun hHeld => ?_)
        clear hK K
        refine norm_ (a' := ?_) ?_ ?_
        rotate_left
        ·show Act.put _ (some 84) _ = _
         simp only [Act.put, sT, sZ, sS, i64_w, i32_w]
         rfl
        refine pure_ (i := 10) (N := some 90) (v := ?_) (a' := ?_) (bS 14 1535) rfl rfl (by kernel_rfl) (fun _ _ _ h => h) (Or.inl ⟨by rfl, ?_⟩) ?_ ?_; rotate_left; (· intro w'; go_simp; with_reducible rfl); rotate_left; (· simp only [Act.put, sT, sZ, sS, i64_w, i32_w]; rfl)
        refine one_ (i := 9) (N := some 89) (bS 14 2047) rfl rfl (by kernel_rfl) (by decide) (fun K hK => ?_)
        refine Kd.R_append_rows_step (Kd.int .i64) (Rr := (Kd.int .i64).K wdabc) (w0 := w) w.heap.size (by rfl) (.tmp 86) (.tmp 88) 22 3 (.int .i64 0) 8 rfl Try.underlying22 info3 rfl (by decide) (by omega) vH hi [y] (some ⟨gb, 0, none⟩) 1 1 (fun k => some k ≠ (Value.slice AL nl cL).ownBlock) (fun _ => False) rfl rfl HC_wdabc.out.t.h HLB_wdabc.out.reads (fun x cs h => h) (fun _ h => h.elim) (Kd.fresh' (Kd.R_lt HC_wdabc.out.t.l)) HC_wdabc.out.below HC_wdabc.out.below.size (by have := HLN.out; have := HI.out; have := HSM.out; omega) ?_
        intro vH2 wdabcd hR hBx hg hat
        obtain ⟨AH, cH, eH⟩ := Kd.R_slice hR
        obtain ⟨nh, hnh⟩ : ∃ n, (hi ++ [y]).length = n := ⟨_, rfl⟩
        rw [hnh] at eH
        subst eH
        clear hnh
        have HC_wdabcd := Aside0.mk (HC_wdabc.out.growH hR hBx hg hat)
        clear hR hBx hg hat hHeld HC_wdabc HLB_wdabc
        refine hK.out _ _ ⟨(blk_cell HC_wdabcd.out.f 0).trans rfl, (blk_cell HC_wdabcd.out.f 1).trans rfl⟩ (fun hHeld => ?_)
        clear hK K
        refine norm_ (a' := ?_) ?_ ?_
        rotate_left
        ·show Act.put _ (some 89) _ = _
         simp only [Act.put, sT, sZ, sS, i64_w, i32_w]
         rfl
        have r0 : wdabcd.cell? ⟨g8, 0, none⟩ = some vL := (blk_cell HC_wdabcd.out.f 0).trans rfl
        have r1 : wdabcd.cell? ⟨g8, 1, none⟩ = some vH := (blk_cell HC_wdabcd.out.f 1).trans rfl
        have f0 := blk_frozen HC_wdabcd.out.f 0
        have f1 := blk_frozen HC_wdabcd.out.f 1
        refine last_ (i := 11) (N := none) (bS 14 4095) rfl rfl (by kernel_rfl) (by decide) (fun K hK => ?_)
        go_simp
        refine hK.out _ _ ?_
        clear hK K hHeld
        refine pure_ (i := 12) (N := some 91) (v := ?_) (a' := ?_) (bS 14 8191) rfl rfl (by kernel_rfl) (fun _ _ _ h => h) (Or.inl ⟨by rfl, ?_⟩) ?_ ?_; rotate_left; (· intro w'; go_simp; with_reducible rfl); rotate_left; (· simp only [Act.put, sT, sZ, sS, i64_w, i32_w]; rfl)
        refine last_ (i := 13) (N := none) (bS 14 16383) rfl rfl (by kernel_rfl) (by decide) (fun K hK => ?_)
        go_simp
        refine hK.out _ _ ?_
        clear hK K
        refine done_ (by kernel_rfl) ?_
        clear HT_ HW_
        go_wp2_with fail
        go_roundg (C.length - (i + 1))
        case measure =>
         clear hci t1 t2 t3
         have := HK.out
         have := HI.out
         omega
        case rel => exact ⟨i + 1, .slice AL nl cL, .slice AH nh cH, by first | exact congrArg _ t3 | go_num, HKN, ⟨by rw [HFS.out.1, HFS.out.2]; exact (HC_wdabcd.out.put 0 (.slice AL nl cL) (fv' := #[.slice AL nl cL, vH, .int .i64 0, .bool false]) rfl).put 1 (.slice AH nh cH) (fv' := #[.slice AL nl cL, .slice AH nh cH, .int .i64 0, .bool false]) rfl⟩⟩
      ·go_simp
       have HLB_wda := Aside0.mk (Lit1.make HC_wd.out y)
       have HC_wda := Aside0.mk (HC_wd.out.step (below_alloc (Below.refl _ _) (.cells #[.int .i64 y] 3)))
       generalize wd.alloc _ = wda at HC_wda HLB_wda  ⊢
       generalize wd.heap.size = gb at HLB_wda ⊢
       clear hHeld HC_wd 
       refine hK.out _ _ ⟨(blk_cell HC_wda.out.f 0).trans rfl, (blk_cell HC_wda.out.f 1).trans rfl⟩ (fun hHeld => ?_)
       clear hK K
       refine one_ (i := 3) (N := some 83) (bS 14 495) rfl rfl (by kernel_rfl) (by decide) (fun K hK => ?_)
       go_simp
       have HLA_wdab := Aside0.mk (Lit1.make HC_wda.out y)
       have HC_wdab := Aside0.mk (HC_wda.out.step (below_alloc (Below.refl _ _) (.cells #[.int .i64 y] 3)))
       have HLB_wdab := Aside0.mk (HLB_wda.out.step (below_alloc (Below.refl _ _) (.cells #[.int .i64 y] 3)))
       generalize wda.alloc _ = wdab at HC_wdab HLA_wdab HLB_wdab ⊢
       generalize wda.heap.size = ga at HLA_wdab ⊢
       clear hHeld HC_wda HLB_wda
       refine hK.out _ _ ⟨(blk_cell HC_wdab.out.f 0).trans rfl, (blk_cell HC_wdab.out.f 1).trans rfl⟩ (fun hHeld => ?_)
       clear hK K
       refine one_ (i := 4) (N := some 84) (bS 14 511) rfl rfl (by kernel_rfl) (by decide) (fun K hK => ?_)
       refine Kd.R_append_rows_step (Kd.int .i64) (Rr := (Kd.int .i64).K wdab) (w0 := w) w.heap.size (by rfl) (.tmp 81) (.tmp 83) 22 3 (.int .i64 0) 8 rfl Try.underlying22 info3 rfl (by decide) (by omega) vL lo [y] (some ⟨ga, 0, none⟩) 1 1 (fun k => some k ≠ vH.ownBlock) (fun _ => False) rfl rfl HC_wdab.out.t.l HLA_wdab.out.reads (fun x cs h => h) (fun _ h => h.elim) (Kd.fresh' (Kd.R_lt HC_wdab.out.t.h)) HC_wdab.out.below HC_wdab.out.below.size (by have := HLN.out; have := HI.out; have := HSM.out; omega) ?_
       intro vL2 wdabc hR hBx hg hat
       obtain ⟨AL, cL, eL⟩ := Kd.R_slice hR
       obtain ⟨nl, hnl⟩ : ∃ n, (lo ++ [y]).length = n := ⟨_, rfl⟩
       rw [hnl] at eL
       subst eL
       clear hnl
       have HC_wdabc := Aside0.mk (HC_wdab.out.growL hR hBx hg hat)
       have HLB_wdabc := Aside0.mk (HLB_wdab.out.growL hg hat)
       clear hR hBx hg hat hHeld HC_wdab HLA_wdab HLB_wdab
       refine hK.out _ _ ⟨(blk_cell HC_wdabc.out.f 0).trans rfl, (blk_cell HC_wdabc.out.f 1).trans rfl⟩ (fun hHeld => ?_)
       clear hK K
       refine norm_ (a' := ?_) ?_ ?_
       rotate_left
       ·show Act.put _ (some 84) _ = _
        simp only [Act.put, sT, sZ, sS, i64_w, i32_w]
        rfl
       refine pure_ (i := 10) (N := some 90) (v := ?_) (a' := ?_) (bS 14 1535) rfl rfl (by kernel_rfl) (fun _ _ _ h => h) (Or.inl ⟨by rfl, ?_⟩) ?_ ?_; rotate_left; (· intro w'; go_simp; with_reducible rfl); rotate_left; (· simp only [Act.put, sT, sZ, sS, i64_w, i32_w]; rfl)
       refine one_ (i := 9) (N := some 89) (bS 14 2047) rfl rfl (by kernel_rfl) (by decide) (fun K hK => ?_)
       refine Kd.R_append_rows_step (Kd.int .i64) (Rr := (Kd.int .i64).K wdabc) (w0 := w) w.heap.size (by rfl) (.tmp 86) (.tmp 88) 22 3 (.int .i64 0) 8 rfl Try.underlying22 info3 rfl (by decide) (by omega) vH hi [y] (some ⟨gb, 0, none⟩) 1 1 (fun k => some k ≠ (Value.slice AL nl cL).ownBlock) (fun _ => False) rfl rfl HC_wdabc.out.t.h HLB_wdabc.out.reads (fun x cs h => h) (fun _ h => h.elim) (Kd.fresh' (Kd.R_lt HC_wdabc.out.t.l)) HC_wdabc.out.below HC_wdabc.out.below.size (by have := HLN.out; have := HI.out; have := HSM.out; omega) ?_
       intro vH2 wdabcd hR hBx hg hat
       obtain ⟨AH, cH, eH⟩ := Kd.R_slice hR
       obtain ⟨nh, hnh⟩ : ∃ n, (hi ++ [y]).length = n := ⟨_, rfl⟩
       rw [hnh] at eH
       subst eH
       clear hnh
       have HC_wdabcd := Aside0.mk (HC_wdabc.out.growH hR hBx hg hat)
       clear hR hBx hg hat hHeld HC_wdabc HLB_wdabc
       refine hK.out _ _ ⟨(blk_cell HC_wdabcd.out.f 0).trans rfl, (blk_cell HC_wdabcd.out.f 1).trans rfl⟩ (fun hHeld => ?_)
       clear hK K
       refine norm_ (a' := ?_) ?_ ?_
       rotate_left
       ·show Act.put _ (some 89) _ = _
        simp only [Act.put, sT, sZ, sS, i64_w, i32_w]
        rfl
       have r0 : wdabcd.cell? ⟨g8, 0, none⟩ = some vL := (blk_cell HC_wdabcd.out.f 0).trans rfl
       have r1 : wdabcd.cell? ⟨g8, 1, none⟩ = some vH := (blk_cell HC_wdabcd.out.f 1).trans rfl
       have f0 := blk_frozen HC_wdabcd.out.f 0
       have f1 := blk_frozen HC_wdabcd.out.f 1
       refine last_ (i := 11) (N := none) (bS 14 4095) rfl rfl (by kernel_rfl) (by decide) (fun K hK => ?_)
       go_simp
       refine hK.out _ _ ?_
       clear hK K hHeld
       refine pure_ (i := 12) (N := some 91) (v := ?_) (a' := ?_) (bS 14 8191) rfl rfl (by kernel_rfl) (fun _ _ _ h => h) (Or.inl ⟨by rfl, ?_⟩) ?_ ?_; rotate_left; (· intro w'; go_simp; with_reducible rfl); rotate_left; (· simp only [Act.put, sT, sZ, sS, i64_w, i32_w]; rfl)
       refine last_ (i := 13) (N := none) (bS 14 16383) rfl rfl (by kernel_rfl) (by decide) (fun K hK => ?_)
       go_simp
       refine hK.out _ _ ?_
       clear hK K
       refine done_ (by kernel_rfl) ?_
       clear HT_ HW_
       go_wp2_with fail
       go_roundg (C.length - (i + 1))
       case measure =>
        clear hci t1 t2 t3
        have := HK.out
        have := HI.out
        omega
       case rel => exact ⟨i + 1, .slice AL nl cL, .slice AH nh cH, by first | exact congrArg _ t3 | go_num, HKN, ⟨by rw [HFS.out.1, HFS.out.2]; exact (HC_wdabcd.out.put 0 (.slice AL nl cL) (fv' := #[.slice AL nl cL, vH, .int .i64 0, .bool false]) rfl).put 1 (.slice AH nh cH) (fv' := #[.slice AL nl cL, .slice AH nh cH, .int .i64 0, .bool false]) rfl⟩⟩
     ·have hg : decide (X > 0) = false := decide_eq_false q
      rw [if_neg q, if_neg q] at HFS
      obtain ⟨we, rfl⟩ : ∃ we : World, we = wr := ⟨_, rfl⟩
      have HC := HS
      clear q hel hvt hX HS
      generalize firstTo C v L0 i = lo at HC HFS HLN
      generalize firstTo C v M0 i = hi at HC HFS HLN
      go_upto_region 14 with fail
      have u0 : we.cell? ⟨g8, 0, none⟩ = some vL := (blk_cell HC.out.f 0).trans rfl
      have u1 : we.cell? ⟨g8, 1, none⟩ = some vH := (blk_cell HC.out.f 1).trans rfl
      have HBd := Aside0.mk (below_drew1 (Below.refl we.heap.size we))
      refine start_ (n := 14) (S := fun w' => w'.cell? ⟨g8, 0, none⟩ = some (vL) ∧ w'.cell? ⟨g8, 1, none⟩ = some (vH)) (ds := [11, 13]) #[false, false, false, false, false, false, false, false, false, false, false, false, false, false] (by kernel_rfl) rfl rfl ⟨u0, u1⟩ (fun hHeld => ?_); refine with_tabW rbF.tab14 rbF.bits14 (fun HT_ HW_ => ?_)
      generalize we.drew = wd at HBd hHeld  ⊢
      refine pure_ (i := 0) (N := some 80) (v := ?_) (a' := ?_) (bS 14 1) rfl rfl (any_of HT_.out (by kernel_rfl)) (fun _ _ _ h => h) (Or.inl ⟨by rfl, ?_⟩) ?_ ?_; rotate_left; (· intro w'; go_simp; with_reducible rfl); rotate_left; (· simp only [Act.put, sT, sZ, sS, i64_w, i32_w]; rfl)
      refine pure_ (i := 2) (N := some 82) (v := ?_) (a' := ?_) (bS 14 5) rfl rfl (any_of HT_.out (by kernel_rfl)) (fun _ _ _ h => h) (Or.inl ⟨by rfl, ?_⟩) ?_ ?_; rotate_left; (· intro w'; go_simp; with_reducible rfl); rotate_left; (· simp only [Act.put, sT, sZ, sS, i64_w, i32_w]; rfl)
      refine pure_ (i := 5) (N := some 85) (v := ?_) (a' := ?_) (bS 14 37) rfl rfl (any_of HT_.out (by kernel_rfl)) (fun _ _ _ h => h) (Or.inl ⟨by rfl, ?_⟩) ?_ ?_; rotate_left; (· intro w'; go_simp; with_reducible rfl); rotate_left; (· simp only [Act.put, sT, sZ, sS, i64_w, i32_w]; rfl)
      refine pure_ (i := 7) (N := some 87) (v := ?_) (a' := ?_) (bS 14 165) rfl rfl (any_of HT_.out (by kernel_rfl)) (fun _ _ _ h => h) (Or.inl ⟨by rfl, ?_⟩) ?_ ?_; rotate_left; (· intro w'; go_simp; with_reducible rfl); rotate_left; (· simp only [Act.put, sT, sZ, sS, i64_w, i32_w]; rfl)
      refine take_ (i := 1) (N := some 81) (v := ?_) (a' := ?_) (bS 14 167) rfl rfl (take_ofW HT_.out HW_.out (by kernel_rfl)) (fun _ _ _ h => h) (Or.inl ⟨by rfl, ?_⟩) hHeld ?_ ?_; rotate_left; (· rintro w' ⟨s0, s1⟩; go_simp; with_reducible rfl); rotate_left; (· simp only [Act.put, sT, sZ, sS, i64_w, i32_w]; rfl)
      refine take_ (i := 6) (N := some 86) (v := ?_) (a' := ?_) (bS 14 231) rfl rfl (take_ofW HT_.out HW_.out (by kernel_rfl)) (fun _ _ _ h => h) (Or.inl ⟨by rfl, ?_⟩) hHeld ?_ ?_; rotate_left; (· rintro w' ⟨s0, s1⟩; go_simp; with_reducible rfl); rotate_left; (· simp only [Act.put, sT, sZ, sS, i64_w, i32_w]; rfl)
      have HC_wd := Aside0.mk (HC.out.step HBd.out)
      clear HC HBd u0 u1
      refine wpAnyLast_ready (rs := [3, 8]) (by kernel_rfl) (by simp) ?_
      refine AllReadyL.cons (i := 3) rfl (by decide) (fun K hK => ?_) (AllReadyL.cons (i := 8) rfl (by decide) (fun K hK => ?_) AllReadyL.nil)
      ·go_simp
       have HLA_wda := Aside0.mk (Lit1.make HC_wd.out L0)
       have HC_wda := Aside0.mk (HC_wd.out.step (below_alloc (Below.refl _ _) (.cells #[.int .i64 L0] 3)))
       generalize wd.alloc _ = wda at HC_wda HLA_wda  ⊢
       generalize wd.heap.size = ga at HLA_wda ⊢
       clear hHeld HC_wd 
       refine hK.out _ _ ⟨(blk_cell HC_wda.out.f 0).trans rfl, (blk_cell HC_wda.out.f 1).trans rfl⟩ (fun hHeld => ?_)
       clear hK K
       refine wpAnyLast_ready (rs := [4, 8]) (by kernel_rfl) (by simp) ?_
       refine AllReadyL.cons (i := 4) rfl (by decide) (fun K hK => ?_) (AllReadyL.cons (i := 8) rfl (by decide) (fun K hK => ?_) AllReadyL.nil)
       ·refine Kd.R_append_rows_step (Kd.int .i64) (Rr := (Kd.int .i64).K wda) (w0 := w) w.heap.size (by rfl) (.tmp 81) (.tmp 83) 22 3 (.int .i64 0) 8 rfl Try.underlying22 info3 rfl (by decide) (by omega) vL lo [L0] (some ⟨ga, 0, none⟩) 1 1 (fun k => some k ≠ vH.ownBlock) (fun _ => False) rfl rfl HC_wda.out.t.l HLA_wda.out.reads (fun x cs h => h) (fun _ h => h.elim) (Kd.fresh' (Kd.R_lt HC_wda.out.t.h)) HC_wda.out.below HC_wda.out.below.size (by have := HLN.out; have := HI.out; have := HSM.out; omega) ?_
        intro vL2 wdab hR hBx hg hat
        obtain ⟨AL, cL, eL⟩ := Kd.R_slice hR
        obtain ⟨nl, hnl⟩ : ∃ n, (lo ++ [L0]).length = n := ⟨_, rfl⟩
        rw [hnl] at eL
        subst eL
        clear hnl
        have HC_wdab := Aside0.mk (HC_wda.out.growL hR hBx hg hat)
        clear hR hBx hg hat hHeld HC_wda HLA_wda 
        refine hK.out _ _ ⟨(blk_cell HC_wdab.out.f 0).trans rfl, (blk_cell HC_wdab.out.f 1).trans rfl⟩ (fun hHeld => ?_)
        clear hK K
        refine norm_ (a' := ?_) ?_ ?_
        rotate_left
        ·show Act.put _ (some 84) _ = _
         simp only [Act.put, sT, sZ, sS, i64_w, i32_w]
         rfl
        refine pure_ (i := 10) (N := some 90) (v := ?_) (a' := ?_) (bS 14 1279) rfl rfl (by kernel_rfl) (fun _ _ _ h => h) (Or.inl ⟨by rfl, ?_⟩) ?_ ?_; rotate_left; (· intro w'; go_simp; with_reducible rfl); rotate_left; (· simp only [Act.put, sT, sZ, sS, i64_w, i32_w]; rfl)
        refine one_ (i := 8) (N := some 88) (bS 14 1535) rfl rfl (by kernel_rfl) (by decide) (fun K hK => ?_)
        go_simp
        have HLB_wdabc := Aside0.mk (Lit1.make HC_wdab.out M0)
        have HC_wdabc := Aside0.mk (HC_wdab.out.step (below_alloc (Below.refl _ _) (.cells #[.int .i64 M0] 3)))
        generalize wdab.alloc _ = wdabc at HC_wdabc HLB_wdabc  ⊢
        generalize wdab.heap.size = gb at HLB_wdabc ⊢
        clear hHeld HC_wdab 
        refine hK.out _ _ ⟨(blk_cell HC_wdabc.out.f 0).trans rfl, (blk_cell HC_wdabc.out.f 1).trans rfl⟩ (fun hHeld => ?_)
        clear hK K
        refine one_ (i := 9) (N := some 89) (bS 14 2047) rfl rfl (by kernel_rfl) (by decide) (fun K hK => ?_)
        refine Kd.R_append_rows_step (Kd.int .i64) (Rr := (Kd.int .i64).K wdabc) (w0 := w) w.heap.size (by rfl) (.tmp 86) (.tmp 88) 22 3 (.int .i64 0) 8 rfl Try.underlying22 info3 rfl (by decide) (by omega) vH hi [M0] (some ⟨gb, 0, none⟩) 1 1 (fun k => some k ≠ (Value.slice AL nl cL).ownBlock) (fun _ => False) rfl rfl HC_wdabc.out.t.h HLB_wdabc.out.reads (fun x cs h => h) (fun _ h => h.elim) (Kd.fresh' (Kd.R_lt HC_wdabc.out.t.l)) HC_wdabc.out.below HC_wdabc.out.below.size (by have := HLN.out; have := HI.out; have := HSM.out; omega) ?_
        intro vH2 wdabcd hR hBx hg hat
        obtain ⟨AH, cH, eH⟩ := Kd.R_slice hR
        obtain ⟨nh, hnh⟩ : ∃ n, (hi ++ [M0]).length = n := ⟨_, rfl⟩
        rw [hnh] at eH
        subst eH
        clear hnh
        have HC_wdabcd := Aside0.mk (HC_wdabc.out.growH hR hBx hg hat)
        clear hR hBx hg hat hHeld HC_wdabc HLB_wdabc
        refine hK.out _ _ ⟨(blk_cell HC_wdabcd.out.f 0).trans rfl, (blk_cell HC_wdabcd.out.f 1).trans rfl⟩ (fun hHeld => ?_)
        clear hK K
        refine norm_ (a' := ?_) ?_ ?_
        rotate_left
        ·show Act.put _ (some 89) _ = _
         simp only [Act.put, sT, sZ, sS, i64_w, i32_w]
         rfl
        have r0 : wdabcd.cell? ⟨g8, 0, none⟩ = some vL := (blk_cell HC_wdabcd.out.f 0).trans rfl
        have r1 : wdabcd.cell? ⟨g8, 1, none⟩ = some vH := (blk_cell HC_wdabcd.out.f 1).trans rfl
        have f0 := blk_frozen HC_wdabcd.out.f 0
        have f1 := blk_frozen HC_wdabcd.out.f 1
        refine last_ (i := 11) (N := none) (bS 14 4095) rfl rfl (by kernel_rfl) (by decide) (fun K hK => ?_)
        go_simp
        refine hK.out _ _ ?_
        clear hK K hHeld
        refine pure_ (i := 12) (N := some 91) (v := ?_) (a' := ?_) (bS 14 8191) rfl rfl (by kernel_rfl) (fun _ _ _ h => h) (Or.inl ⟨by rfl, ?_⟩) ?_ ?_; rotate_left; (· intro w'; go_simp; with_reducible rfl); rotate_left; (· simp only [Act.put, sT, sZ, sS, i64_w, i32_w]; rfl)
        refine last_ (i := 13) (N := none) (bS 14 16383) rfl rfl (by kernel_rfl) (by decide) (fun K hK => ?_)
        go_simp
        refine hK.out _ _ ?_
        clear hK K
        refine done_ (by kernel_rfl) ?_
        clear HT_ HW_
        go_wp2_with fail
        go_roundg (C.length - (i + 1))
        case measure =>
         clear hci t1 t2 t3
         have := HK.out
         have := HI.out
         omega
        case rel => exact ⟨i + 1, .slice AL nl cL, .slice AH nh cH, by first | exact congrArg _ t3 | go_num, HKN, ⟨by rw [HFS.out.1, HFS.out.2]; exact (HC_wdabcd.out.put 0 (.slice AL nl cL) (fv' := #[.slice AL nl cL, vH, .int .i64 0, .bool false]) rfl).put 1 (.slice AH nh cH) (fv' := #[.slice AL nl cL, .slice AH nh cH, .int .i64 0, .bool false]) rfl⟩⟩
       ·go_simp
        have HLB_wdab := Aside0.mk (Lit1.make HC_wda.out M0)
        have HC_wdab := Aside0.mk (HC_wda.out.step (below_alloc (Below.refl _ _) (.cells #[.int .i64 M0] 3)))
        have HLA_wdab := Aside0.mk (HLA_wda.out.step (below_alloc (Below.refl _ _) (.cells #[.int .i64 M0] 3)))
        generalize wda.alloc _ = wdab at HC_wdab HLB_wdab HLA_wdab ⊢
        generalize wda.heap.size = gb at HLB_wdab ⊢
        clear hHeld HC_wda HLA_wda
        refine hK.out _ _ ⟨(blk_cell HC_wdab.out.f 0).trans rfl, (blk_cell HC_wdab.out.f 1).trans rfl⟩ (fun hHeld => ?_)
        clear hK K
        refine one_ (i := 4) (N := some 84) (bS 14 511) rfl rfl (by kernel_rfl) (by decide) (fun K hK => ?_)
        refine Kd.R_append_rows_step (Kd.int .i64) (Rr := (Kd.int .i64).K wdab) (w0 := w) w.heap.size (by rfl) (.tmp 81) (.tmp 83) 22 3 (.int .i64 0) 8 rfl Try.underlying22 info3 rfl (by decide) (by omega) vL lo [L0] (some ⟨ga, 0, none⟩) 1 1 (fun k => some k ≠ vH.ownBlock) (fun _ => False) rfl rfl HC_wdab.out.t.l HLA_wdab.out.reads (fun x cs h => h) (fun _ h => h.elim) (Kd.fresh' (Kd.R_lt HC_wdab.out.t.h)) HC_wdab.out.below HC_wdab.out.below.size (by have := HLN.out; have := HI.out; have := HSM.out; omega) ?_
        intro vL2 wdabc hR hBx hg hat
        obtain ⟨AL, cL, eL⟩ := Kd.R_slice hR
        obtain ⟨nl, hnl⟩ : ∃ n, (lo ++ [L0]).length = n := ⟨_, rfl⟩
        rw [hnl] at eL
        subst eL
        clear hnl
        have HC_wdabc := Aside0.mk (HC_wdab.out.growL hR hBx hg hat)
        have HLB_wdabc := Aside0.mk (HLB_wdab.out.growL hg hat)
        clear hR hBx hg hat hHeld HC_wdab HLA_wdab HLB_wdab
        refine hK.out _ _ ⟨(blk_cell HC_wdabc.out.f 0).trans rfl, (blk_cell HC_wdabc.out.f 1).trans rfl⟩ (fun hHeld => ?_)
        clear hK K
        refine norm_ (a' := ?_) ?_ ?_
        rotate_left
        ·show Act.put _ (some 84) _ = _
         simp only [Act.put, sT, sZ, sS, i64_w, i32_w]
         rfl
        refine pure_ (i := 10) (N := some 90) (v := ?_) (a' := ?_) (bS 14 1535) rfl rfl (by kernel_rfl) (fun _ _ _ h => h) (Or.inl ⟨by rfl, ?_⟩) ?_ ?_; rotate_left; (· intro w'; go_simp; with_reducible rfl); rotate_left; (· simp only [Act.put, sT, sZ, sS, i64_w, i32_w]; rfl)
        refine one_ (i := 9) (N := some 89) (bS 14 2047) rfl rfl (by kernel_rfl) (by decide) (fun K hK => ?_)
        refine Kd.R_append_rows_step (Kd.int .i64) (Rr := (Kd.int .i64).K wdabc) (w0 := w) w.heap.size (by rfl) (.tmp 86) (.tmp 88) 22 3 (.int .i64 0) 8 rfl Try.underlying22 info3 rfl (by decide) (by omega) vH hi [M0] (some ⟨gb, 0, none⟩) 1 1 (fun k => some k ≠ (Value.slice AL nl cL).ownBlock) (fun _ => False) rfl rfl HC_wdabc.out.t.h HLB_wdabc.out.reads (fun x cs h => h) (fun _ h => h.elim) (Kd.fresh' (Kd.R_lt HC_wdabc.out.t.l)) HC_wdabc.out.below HC_wdabc.out.below.size (by have := HLN.out; have := HI.out; have := HSM.out; omega) ?_
        intro vH2 wdabcd hR hBx hg hat
        obtain ⟨AH, cH, eH⟩ := Kd.R_slice hR
        obtain ⟨nh, hnh⟩ : ∃ n, (hi ++ [M0]).length = n := ⟨_, rfl⟩
        rw [hnh] at eH
        subst eH
        clear hnh
        have HC_wdabcd := Aside0.mk (HC_wdabc.out.growH hR hBx hg hat)
        clear hR hBx hg hat hHeld HC_wdabc HLB_wdabc
        refine hK.out _ _ ⟨(blk_cell HC_wdabcd.out.f 0).trans rfl, (blk_cell HC_wdabcd.out.f 1).trans rfl⟩ (fun hHeld => ?_)
        clear hK K
        refine norm_ (a' := ?_) ?_ ?_
        rotate_left
        ·show Act.put _ (some 89) _ = _
         simp only [Act.put, sT, sZ, sS, i64_w, i32_w]
         rfl
        have r0 : wdabcd.cell? ⟨g8, 0, none⟩ = some vL := (blk_cell HC_wdabcd.out.f 0).trans rfl
        have r1 : wdabcd.cell? ⟨g8, 1, none⟩ = some vH := (blk_cell HC_wdabcd.out.f 1).trans rfl
        have f0 := blk_frozen HC_wdabcd.out.f 0
        have f1 := blk_frozen HC_wdabcd.out.f 1
        refine last_ (i := 11) (N := none) (bS 14 4095) rfl rfl (by kernel_rfl) (by decide) (fun K hK => ?_)
        go_simp
        refine hK.out _ _ ?_
        clear hK K hHeld
        refine pure_ (i := 12) (N := some 91) (v := ?_) (a' := ?_) (bS 14 8191) rfl rfl (by kernel_rfl) (fun _ _ _ h => h) (Or.inl ⟨by rfl, ?_⟩) ?_ ?_; rotate_left; (· intro w'; go_simp; with_reducible rfl); rotate_left; (· simp only [Act.put, sT, sZ, sS, i64_w, i32_w]; rfl)
        refine last_ (i := 13) (N := none) (bS 14 16383) rfl rfl (by kernel_rfl) (by decide) (fun K hK => ?_)
        go_simp
        refine hK.out _ _ ?_
        clear hK K
        refine done_ (by kernel_rfl) ?_
        clear HT_ HW_
        go_wp2_with fail
        go_roundg (C.length - (i + 1))
        case measure =>
         clear hci t1 t2 t3
         have := HK.out
         have := HI.out
         omega
        case rel => exact ⟨i + 1, .slice AL nl cL, .slice AH nh cH, by first | exact congrArg _ t3 | go_num, HKN, ⟨by rw [HFS.out.1, HFS.out.2]; exact (HC_wdabcd.out.put 0 (.slice AL nl cL) (fv' := #[.slice AL nl cL, vH, .int .i64 0, .bool false]) rfl).put 1 (.slice AH nh cH) (fv' := #[.slice AL nl cL, .slice AH nh cH, .int .i64 0, .bool false]) rfl⟩⟩
      ·go_simp
       have HLB_wda := Aside0.mk (Lit1.make HC_wd.out M0)
       have HC_wda := Aside0.mk (HC_wd.out.step (below_alloc (Below.refl _ _) (.cells #[.int .i64 M0] 3)))
       generalize wd.alloc _ = wda at HC_wda HLB_wda  ⊢
       generalize wd.heap.size = gb at HLB_wda ⊢
       clear hHeld HC_wd 
       refine hK.out _ _ ⟨(blk_cell HC_wda.out.f 0).trans rfl, (blk_cell HC_wda.out.f 1).trans rfl⟩ (fun hHeld => ?_)
       clear hK K
       refine one_ (i := 3) (N := some 83) (bS 14 495) rfl rfl (by kernel_rfl) (by decide) (fun K hK => ?_)
       go_simp
       have HLA_wdab := Aside0.mk (Lit1.make HC_wda.out L0)
       have HC_wdab := Aside0.mk (HC_wda.out.step (below_alloc (Below.refl _ _) (.cells #[.int .i64 L0] 3)))
       have HLB_wdab := Aside0.mk (HLB_wda.out.step (below_alloc (Below.refl _ _) (.cells #[.int .i64 L0] 3)))
       generalize wda.alloc _ = wdab at HC_wdab HLA_wdab HLB_wdab ⊢
       generalize wda.heap.size = ga at HLA_wdab ⊢
       clear hHeld HC_wda HLB_wda
       refine hK.out _ _ ⟨(blk_cell HC_wdab.out.f 0).trans rfl, (blk_cell HC_wdab.out.f 1).trans rfl⟩ (fun hHeld => ?_)
       clear hK K
       refine one_ (i := 4) (N := some 84) (bS 14 511) rfl rfl (by kernel_rfl) (by decide) (fun K hK => ?_)
       refine Kd.R_append_rows_step (Kd.int .i64) (Rr := (Kd.int .i64).K wdab) (w0 := w) w.heap.size (by rfl) (.tmp 81) (.tmp 83) 22 3 (.int .i64 0) 8 rfl Try.underlying22 info3 rfl (by decide) (by omega) vL lo [L0] (some ⟨ga, 0, none⟩) 1 1 (fun k => some k ≠ vH.ownBlock) (fun _ => False) rfl rfl HC_wdab.out.t.l HLA_wdab.out.reads (fun x cs h => h) (fun _ h => h.elim) (Kd.fresh' (Kd.R_lt HC_wdab.out.t.h)) HC_wdab.out.below HC_wdab.out.below.size (by have := HLN.out; have := HI.out; have := HSM.out; omega) ?_
       intro vL2 wdabc hR hBx hg hat
       obtain ⟨AL, cL, eL⟩ := Kd.R_slice hR
       obtain ⟨nl, hnl⟩ : ∃ n, (lo ++ [L0]).length = n := ⟨_, rfl⟩
       rw [hnl] at eL
       subst eL
       clear hnl
       have HC_wdabc := Aside0.mk (HC_wdab.out.growL hR hBx hg hat)
       have HLB_wdabc := Aside0.mk (HLB_wdab.out.growL hg hat)
       clear hR hBx hg hat hHeld HC_wdab HLA_wdab HLB_wdab
       refine hK.out _ _ ⟨(blk_cell HC_wdabc.out.f 0).trans rfl, (blk_cell HC_wdabc.out.f 1).trans rfl⟩ (fun hHeld => ?_)
       clear hK K
       refine norm_ (a' := ?_) ?_ ?_
       rotate_left
       ·show Act.put _ (some 84) _ = _
        simp only [Act.put, sT, sZ, sS, i64_w, i32_w]
        rfl
       refine pure_ (i := 10) (N := some 90) (v := ?_) (a' := ?_) (bS 14 1535) rfl rfl (by kernel_rfl) (fun _ _ _ h => h) (Or.inl ⟨by rfl, ?_⟩) ?_ ?_; rotate_left; (· intro w'; go_simp; with_reducible rfl); rotate_left; (· simp only [Act.put, sT, sZ, sS, i64_w, i32_w]; rfl)
       refine one_ (i := 9) (N := some 89) (bS 14 2047) rfl rfl (by kernel_rfl) (by decide) (fun K hK => ?_)
       refine Kd.R_append_rows_step (Kd.int .i64) (Rr := (Kd.int .i64).K wdabc) (w0 := w) w.heap.size (by rfl) (.tmp 86) (.tmp 88) 22 3 (.int .i64 0) 8 rfl Try.underlying22 info3 rfl (by decide) (by omega) vH hi [M0] (some ⟨gb, 0, none⟩) 1 1 (fun k => some k ≠ (Value.slice AL nl cL).ownBlock) (fun _ => False) rfl rfl HC_wdabc.out.t.h HLB_wdabc.out.reads (fun x cs h => h) (fun _ h => h.elim) (Kd.fresh' (Kd.R_lt HC_wdabc.out.t.l)) HC_wdabc.out.below HC_wdabc.out.below.size (by have := HLN.out; have := HI.out; have := HSM.out; omega) ?_
       intro vH2 wdabcd hR hBx hg hat
       obtain ⟨AH, cH, eH⟩ := Kd.R_slice hR
       obtain ⟨nh, hnh⟩ : ∃ n, (hi ++ [M0]).length = n := ⟨_, rfl⟩
       rw [hnh] at eH
       subst eH
       clear hnh
       have HC_wdabcd := Aside0.mk (HC_wdabc.out.growH hR hBx hg hat)
       clear hR hBx hg hat hHeld HC_wdabc HLB_wdabc
       refine hK.out _ _ ⟨(blk_cell HC_wdabcd.out.f 0).trans rfl, (blk_cell HC_wdabcd.out.f 1).trans rfl⟩ (fun hHeld => ?_)
       clear hK K
       refine norm_ (a' := ?_) ?_ ?_
       rotate_left
       ·show Act.put _ (some 89) _ = _
        simp only [Act.put, sT, sZ, sS, i64_w, i32_w]
        rfl
       have r0 : wdabcd.cell? ⟨g8, 0, none⟩ = some vL := (blk_cell HC_wdabcd.out.f 0).trans rfl
       have r1 : wdabcd.cell? ⟨g8, 1, none⟩ = some vH := (blk_cell HC_wdabcd.out.f 1).trans rfl
       have f0 := blk_frozen HC_wdabcd.out.f 0
       have f1 := blk_frozen HC_wdabcd.out.f 1
       refine last_ (i := 11) (N := none) (bS 14 4095) rfl rfl (by kernel_rfl) (by decide) (fun K hK => ?_)
       go_simp
       refine hK.out _ _ ?_
       clear hK K hHeld
       refine pure_ (i := 12) (N := some 91) (v := ?_) (a' := ?_) (bS 14 8191) rfl rfl (by kernel_rfl) (fun _ _ _ h => h) (Or.inl ⟨by rfl, ?_⟩) ?_ ?_; rotate_left; (· intro w'; go_simp; with_reducible rfl); rotate_left; (· simp only [Act.put, sT, sZ, sS, i64_w, i32_w]; rfl)
       refine last_ (i := 13) (N := none) (bS 14 16383) rfl rfl (by kernel_rfl) (by decide) (fun K hK => ?_)
       go_simp
       refine hK.out _ _ ?_
       clear hK K
       refine done_ (by kernel_rfl) ?_
       clear HT_ HW_
       go_wp2_with fail
       go_roundg (C.length - (i + 1))
       case measure =>
        clear hci t1 t2 t3
        have := HK.out
        have := HI.out
        omega
       case rel => exact ⟨i + 1, .slice AL nl cL, .slice AH nh cH, by first | exact congrArg _ t3 | go_num, HKN, ⟨by rw [HFS.out.1, HFS.out.2]; exact (HC_wdabcd.out.put 0 (.slice AL nl cL) (fv' := #[.slice AL nl cL, vH, .int .i64 0, .bool false]) rfl).put 1 (.slice AH nh cH) (fv' := #[.slice AL nl cL, .slice AH nh cH, .int .i64 0, .bool false]) rfl⟩⟩
    ·obtain rfl : i = C.length := by have := HK.out; omega
     have t1 : decide ((C.length : Int) < (C.length : Int)) = false := by simp
     have t2 : decide (C.length < C.length) = false := by simp
     obtain ⟨AL, cL, eL⟩ := Kd.R_slice HS.out.t.l
     obtain ⟨AH, cH, eH⟩ := Kd.R_slice HS.out.t.h
     rw [firstTo_len] at eL eH
     subst eL eH
     go_wp2_with (first
      | ((with_reducible refine gate_dst (N := 92) rfl ?_); refine ev_load HS.out.f rfl 33 (.tmp 8) rfl rfl _ Try.underlying33 rfl size33 rfl ?_)
      | ((with_reducible refine gate_store (t := 33) (p := 4) rfl ?_); refine ev_storeB HS.out.o rfl 33 (.tmp 4) (.tmp 92) rfl rfl rfl size33 rfl rfl (by simp [Value.oneCell']) ?_))
     (try simp only [Exit.inBlock, Exit.then])
     obtain ⟨e1, e2⟩ := HLM0.out
     subst e1 e2
     exact bodyPost_ret (results_row rfl _ _ g4 33 _ (0, 0) _ rfl (setRow_heap _ _ _ _ _ _ HS.out.o) hu33 rfl (by rw [size33]; rfl)) rfl ⟨_, _, rfl, (HS.out.row _).1, (HS.out.row _).2⟩
end Go.Proofs.Ytndkkjpgnmahbaa.Print
end

section
namespace Go.Proofs.Ytndkkjpgnmahbaa.Print
open Go.RowKit Go.Proofs.YtndkkjpgnmahbaaW.PrintWords Go.Proofs.YtndkkjpgnmahbaaW.PrintLast Go.Proofs.YtndkkjpgnmahbaaW.PrintMore
attribute [local go_sem] max2_int min2_int max_two min_two max_three min_three max_four min_four
set_option linter.unusedVariables false
set_option linter.unusedSimpArgs false
mutual
def thermionref01_held.l0 : Nat → List Bool → Int → Int → Int → Bool → List Int → Option (List Bool)
 | 0, _, _, _, _, _, _ => none
 | k + 1, x3, x4, x261000, x261001, x261002, x261003 => if x4 < (x261003.length : Int) then (if 0 ≤ x4 then (if x4 < (x3.length : Int) then (thermionref01_held.l0 k (x3.set (x4 : Int).toNat (decide ((rd x261003 x4) > 0))) (wrap64 (x4 + 1)) x261000 x261001 x261002 x261003) else (none)) else (none)) else (thermionref01_held.l1 k x3 true x261000 x261001 x261002 x261003)
def thermionref01_held.l1 : Nat → List Bool → Bool → Int → Int → Bool → List Int → Option (List Bool)
 | 0, _, _, _, _, _, _ => none
 | k + 1, x3, x5, x261000, x261001, x261002, x261003 => if x5 = true then (thermionref01_held.l2 k x3 false 0 x261000 x261001 x261002 x261003) else (some x3)
def thermionref01_held.l2 : Nat → List Bool → Bool → Int → Int → Int → Bool → List Int → Option (List Bool)
 | 0, _, _, _, _, _, _, _ => none
 | k + 1, x3, x5, x6, x261000, x261001, x261002, x261003 => if x6 < (x261003.length : Int) then ((thermionref01_around.f k x261000 x261001 x261002 x261003 x6).bind fun t266 => (thermionref01_held.l3 k x3 x5 x6 t266 0 x261000 x261001 x261002 x261003)) else (thermionref01_held.l1 k x3 x5 x261000 x261001 x261002 x261003)
def thermionref01_held.l3 : Nat → List Bool → Bool → Int → List Int → Int → Int → Int → Bool → List Int → Option (List Bool)
 | 0, _, _, _, _, _, _, _, _, _ => none
 | k + 1, x3, x5, x6, x7, x8, x261000, x261001, x261002, x261003 => if x8 < (x7.length : Int) then (if 0 ≤ x8 then (if 0 ≤ (rd x7 x8) then (if (rd x7 x8) < (x3.length : Int) then (if rdOf false x3 (rd x7 x8) = true then (if 0 ≤ x6 then (if x6 < (x3.length : Int) then (if rdOf false x3 x6 = true then (thermionref01_held.l3 k x3 x5 x6 x7 (wrap64 (x8 + 1)) x261000 x261001 x261002 x261003) else (thermionref01_held.l3 k (x3.set (x6 : Int).toNat true) true x6 x7 (wrap64 (x8 + 1)) x261000 x261001 x261002 x261003)) else (none)) else (none)) else (thermionref01_held.l3 k x3 x5 x6 x7 (wrap64 (x8 + 1)) x261000 x261001 x261002 x261003)) else (none)) else (none)) else (none)) else (thermionref01_held.l2 k x3 x5 (wrap64 (x6 + 1)) x261000 x261001 x261002 x261003)
end
def thermionref01_held.f (k : Nat) (a0_0 : Int) (a0_1 : Int) (a0_2 : Bool) (l0_3 : List Int) : Option (List Bool) := if 0 ≤ (l0_3.length : Int) then (if ((l0_3.length : Int) : Int).toNat ≤ 281474976710656 then (thermionref01_held.l0 k (List.replicate ((l0_3.length : Int) : Int).toNat false) 0 a0_0 a0_1 a0_2 l0_3) else (none)) else (none)
set_option maxHeartbeats 8000000 in
set_option maxRecDepth 100000 in
theorem thermionref01_held.calls (k : Nat) (a0_0 : Int) (a0_1 : Int) (a0_2 : Bool) (A0_3 : Option Addr) (c0_3 : Nat) (l0_3 : List Int) (r : List Bool) (w : World) (hr0_3 : Kd.C (Kd.int .i64) w A0_3 l0_3.length l0_3) (hc0_3 : l0_3.length ≤ c0_3) (h : thermionref01_held.f k a0_0 a0_1 a0_2 l0_3 = some r) :
  Calls Try.prog 84 #[.agg #[.int .i64 a0_0, .int .i64 a0_1, .bool a0_2, .slice A0_3 l0_3.length c0_3]] w fun e w' => ∃ v0_ : Value, e = .returned (v0_) ∧ Kd.R Kd.bool 4 w' w.heap.size (fun _ => True) v0_ r ∧ Below w.heap.size w w' := by
 have hu24 := Try.underlying24
 have HR0_3 := Aside0.mk hr0_3
 have HC0_3 := Aside0.mk hc0_3
 clear hr0_3 hc0_3
 have HB := Aside0.mk (Below.refl w.heap.size w)
 have H : (if 0 ≤ (l0_3.length : Int) then (if ((l0_3.length : Int) : Int).toNat ≤ 281474976710656 then (thermionref01_held.l0 k (List.replicate ((l0_3.length : Int) : Int).toNat false) 0 a0_0 a0_1 a0_2 l0_3) else (none)) else (none)) = some r := h
 clear h
 by_cases c2 : 0 ≤ (l0_3.length : Int)
 ·rw [if_pos c2] at H
  have c2b0 := eq_true c2
  have c2b1 := decide_eq_true c2
  clear c2
  by_cases c3 : ((l0_3.length : Int) : Int).toNat ≤ 281474976710656
  ·rw [if_pos c3] at H
   have c3b0 := eq_true c3
   have c3b1 := decide_eq_true c3
   clear c3
   obtain ⟨y261, hy261⟩ : ∃ y_ : List Bool, y_ = (List.replicate ((l0_3.length : Int) : Int).toNat false) := ⟨_, rfl⟩
   replace H : (thermionref01_held.l0 k y261 0 a0_0 a0_1 a0_2 l0_3) = some r := by first | (rw [hy261]; with_reducible exact H) | (have H2_ := (Option.bind_some _ _).symm.trans H; rw [hy261]; with_reducible exact H2_) | (have H2_ := (Option.bind_some _ _).symm.trans H; with_reducible exact H2_) | with_reducible exact H | (rw [hy261]; exact H) | exact H
   have Ny261 := Aside0.mk hy261
   clear hy261
   have H' := Aside0.mk H
   clear H
   go_enter Try.func84, Try.ntmps84
   go_wp2_with (first | ((with_reducible refine gate_dst (N := 1) rfl ?_); refine box_event ?hg (N := 1) ?hd (cs := #[.int .i64 a0_0, .int .i64 a0_1, .bool a0_2, .slice A0_3 l0_3.length c0_3]) (t := 24) ?hr ?_; (case hd => rfl); (case hg => rfl); (case hr => first | (go_simp; done) | (go_simp; rfl)); intro gb260 hg w4 hbox hb; have n0_ := Aside0.mk (below_step (by repeat (first | (with_reducible first | exact HB.out | apply below_alloc | apply pw_below_drewN | apply below_drew1) | exact HB.out)) hb); have n1_ := Aside0.mk (hbox); have n2_ := Aside0.mk ((by rw [hg]; exact (below_size (by repeat (first | (with_reducible first | exact HB.out | apply below_alloc | apply pw_below_drewN | apply below_drew1) | exact HB.out))) : w.heap.size ≤ gb260)); have n3_ := Aside0.mk ((by rw [hg]; exact (below_size (by repeat (first | (with_reducible first | exact HB.out | apply below_alloc | apply pw_below_drewN | apply below_drew1) | exact HB.out))) : w.heap.size ≤ gb260)); clear HB; have HB := n0_; have BK260 := n1_; have GW260 := n2_; have GE260 := n3_; clear n0_ n1_ n2_ n3_; clear hb hbox hg; have hcz5_0 : w4.cell? ⟨gb260, 0, none⟩ = some (.int .i64 a0_0) := (blk_cell BK260.out 0).trans rfl; have hcz5_1 : w4.cell? ⟨gb260, 1, none⟩ = some (.int .i64 a0_1) := (blk_cell BK260.out 1).trans rfl; have hcz5_2 : w4.cell? ⟨gb260, 2, none⟩ = some (.bool a0_2) := (blk_cell BK260.out 2).trans rfl; have hcz5_3 : w4.cell? ⟨gb260, 3, none⟩ = some (.slice A0_3 l0_3.length c0_3) := (blk_cell BK260.out 3).trans rfl; have hfz5_0 := blk_frozen BK260.out 0; have hfz5_1 := blk_frozen BK260.out 1; have hfz5_2 := blk_frozen BK260.out 2; have hfz5_3 := blk_frozen BK260.out 3) | ((with_reducible refine gate_dst (N := 12) rfl ?_); refine Kd.R_make Kd.bool _ 4 rfl (N := 12) rfl 100 _ _ rfl (l0_3.length : Int) rfl rfl Try.underlying100 (.bool false) 1 info4 rfl (by decide) (by omega) false (ok := fun _ => True) (okp := fun _ => True) rfl (fun _ hk => hk) trivial (of_decide_eq_true (by first | (with_reducible assumption) | assumption)) (Nat.le_trans (Nat.mul_le_mul_right _ (of_decide_eq_true (by first | (with_reducible assumption) | assumption) : (l0_3.length : Int).toNat ≤ 281474976710656)) (by omega)) (Below.refl _ _) (Nat.le_refl _) ?_; intro v262 w6 ho7 hb hg_ hnew_; clear hg_ hnew_; (first | rw [← Ny261.out] at ho7 | (simp only [Int.reduceToNat] at ho7; rw [← Ny261.out] at ho7)); have n0_ := Aside0.mk (Kd.R_lower ho7 (below_size (by repeat (first | (with_reducible first | exact HB.out | apply below_alloc | apply pw_below_drewN | apply below_drew1 | refine below_set ?_ GE260.out) | exact HB.out)))); have n1_ := Aside0.mk (blk_below (g := gb260) (o := .cells #[.int .i64 a0_0, .int .i64 a0_1, .bool a0_2, .slice A0_3 l0_3.length c0_3] 24 (0, 0)) (by (with_reducible repeat (first | refine blk_drewN ?_ _ | refine blk_drew ?_ | refine blk_alloc ?_ _)); exact BK260.out) hb); have n2_ := Aside0.mk (below_step (by repeat (first | (with_reducible first | exact HB.out | apply below_alloc | apply pw_below_drewN | apply below_drew1 | refine below_set ?_ GE260.out) | exact HB.out)) hb); clear BK260; clear HB; have HO263 := n0_; have BK260 := n1_; have HB := n2_; clear n0_ n1_ n2_; clear hb ho7))
   go_loopg [4] k (fun kq v4 w' => ∃ (x3_1 : List Bool) (x4_1 : Int), v4 = .int .i64 x4_1 ∧ Aside0 (thermionref01_held.l0 kq x3_1 x4_1 a0_0 a0_1 a0_2 l0_3 = some r) ∧ Aside0 (kq ≤ k) ∧ Aside0 (Kd.R Kd.bool 4 w' w.heap.size (fun _ => True) v262 x3_1) ∧ Aside0 (w'.heap[gb260]? = some (.cells #[.int .i64 a0_0, .int .i64 a0_1, .bool a0_2, (.slice A0_3 l0_3.length c0_3)] 24 (0, 0))) ∧ Aside0 (Below w.heap.size w w'))
   case atStart => exact ⟨(y261), (0), (by first | rfl | (simp; done) | (simp [*]; done)), H', ⟨Nat.le_refl _⟩, ⟨by (with_reducible repeat (first | apply Kd.R_alloc | apply Kd.R_drewN | apply Kd.R_drew)); exact HO263.out⟩, ⟨by (with_reducible repeat (first | refine blk_drewN ?_ _ | refine blk_drew ?_ | refine blk_alloc ?_ _)); exact BK260.out⟩, ⟨by repeat (first | (with_reducible first | exact HB.out | apply below_alloc | apply pw_below_drewN | apply below_drew1 | refine below_set ?_ GE260.out) | exact HB.out)⟩⟩
   case round =>
    clear H'
    try clear c2
    try clear c2b0
    try clear c2b1
    try clear p2
    try clear c3
    try clear c3b0
    try clear c3b1
    try clear hcz5_0
    try clear hcz5_1
    try clear hcz5_2
    try clear hcz5_3
    try clear hfz5_0
    try clear hfz5_1
    try clear hfz5_2
    try clear hfz5_3
    obtain ⟨x3_1, x4_1, rfl, HA, HK1, HO_3, BK260, HB⟩ := hrel
    cases gk with
    | zero => exact absurd HA.out (by simp [thermionref01_held.l0])
    | succ k1 =>
     have H := HA.out
     clear HA
     simp only [thermionref01_held.l0] at H
     by_cases c8 : x4_1 < (l0_3.length : Int)
     ·rw [if_pos c8] at H
      have c8b0 := decide_eq_true c8
      clear c8
      by_cases c9 : 0 ≤ x4_1
      ·rw [if_pos c9] at H
       have c9b0 := decide_eq_true c9
       clear c9
       by_cases c10 : x4_1 < (x3_1.length : Int)
       ·rw [if_pos c10] at H
        have c10b0 := decide_eq_true c10
        clear c10
        obtain ⟨y265, hy265⟩ : ∃ y_ : List Bool, y_ = (x3_1.set (x4_1 : Int).toNat (decide ((rd l0_3 x4_1) > 0))) := ⟨_, rfl⟩
        replace H : (thermionref01_held.l0 k1 y265 (wrap64 (x4_1 + 1)) a0_0 a0_1 a0_2 l0_3) = some r := by first | (rw [hy265]; with_reducible exact H) | (have H2_ := (Option.bind_some _ _).symm.trans H; rw [hy265]; with_reducible exact H2_) | (have H2_ := (Option.bind_some _ _).symm.trans H; with_reducible exact H2_) | with_reducible exact H | (rw [hy265]; exact H) | exact H
        have Ny265 := Aside0.mk hy265
        clear hy265
        have H' := Aside0.mk H
        clear H
        have hcz12_0 : wr.cell? ⟨gb260, 0, none⟩ = some (.int .i64 a0_0) := (blk_cell BK260.out 0).trans rfl
        have hcz12_1 : wr.cell? ⟨gb260, 1, none⟩ = some (.int .i64 a0_1) := (blk_cell BK260.out 1).trans rfl
        have hcz12_2 : wr.cell? ⟨gb260, 2, none⟩ = some (.bool a0_2) := (blk_cell BK260.out 2).trans rfl
        have hcz12_3 : wr.cell? ⟨gb260, 3, none⟩ = some (.slice A0_3 l0_3.length c0_3) := (blk_cell BK260.out 3).trans rfl
        have hfz12_0 := blk_frozen BK260.out 0
        have hfz12_1 := blk_frozen BK260.out 1
        have hfz12_2 := blk_frozen BK260.out 2
        have hfz12_3 := blk_frozen BK260.out 3
        have p264 : 0 ≤ (x4_1 : Int) := of_decide_eq_true (by first | (with_reducible assumption) | assumption)
        have q264 : x4_1 < (l0_3.length : Int) := of_decide_eq_true (by first | (with_reducible assumption) | assumption)
        obtain ⟨ad264, e264, hx264_0⟩ := Kd.at_int HR0_3.out x4_1 p264 q264
        cases e264
        replace hx264_0 := (HB.out.cell (World.block_lt_of_cell? w _ hx264_0)).trans hx264_0
        replace p264 := eq_true p264
        replace q264 := eq_true q264
        have p11 : 0 ≤ (x4_1 : Int) := of_decide_eq_true (by first | (with_reducible assumption) | assumption)
        have q11 : (x4_1 : Int) < ((x3_1.length : Int) : Int) := of_decide_eq_true (by first | (with_reducible assumption) | assumption)
        obtain ⟨go11, co11, eo11, gb11, gl11, cl11, HG11⟩ := Kd.R_form HO_3.out (by omega)
        (first | cases eo11 | (injection eo11 with ea_ en_ ec_; (first | subst ea_ | (injection ea_ with ea_; subst ea_)); subst ec_; clear en_))
        have GB11 := Aside0.mk gb11
        have GG11 := Aside0.mk HG11
        clear gb11 gl11 HG11
        obtain ⟨hx11_0, hf11_0⟩ := Kd.R_celln false HO_3.out (x4_1 : Int) p11 q11
        replace p11 := eq_true p11
        replace q11 := eq_true q11
        have HP13 := Kd.R_putg HO_3.out (x4_1 : Int) (decide ((rd l0_3 x4_1) > 0))
        go_wp2_with (first | ((with_reducible refine gate_store (t := 4) (p := 28) rfl ?_); refine store_event (t := 4) (p := 28) (v := ?vo_w14) (w1 := (wr.setCell ⟨go11, (x4_1 : Int).toNat, none⟩ (.bool (decide ((rd l0_3 x4_1) > 0))))) ?hg ?ho ?hn ?hr ?_; (case ho => rfl); (case hg => rfl); (case hn => rfl); (case hr => first | (go_simp; done) | (go_simp; rfl)); intro w14 hw; have hg : wr.grownBy w14 (some go11) := (by rw [hw]; exact HP13.2); have hp_ : Kd.R Kd.bool 4 w14 w.heap.size (fun _ => True) (.slice (some ⟨go11, 0, none⟩) x3_1.length co11) y265 := (by rw [hw, Ny265.out]; exact HP13.1); clear HP13; have n0_ := Aside0.mk (hp_); have n1_ := Aside0.mk (blk_grown (g := gb260) (o := .cells #[.int .i64 a0_0, .int .i64 a0_1, .bool a0_2, .slice (some ad264) l0_3.length c0_3] 24 (0, 0)) (by (with_reducible repeat (first | refine blk_drewN ?_ _ | refine blk_drew ?_ | refine blk_alloc ?_ _)); exact BK260.out) hg (Kd.R_ne HO_3.out BK260.out (by decide))); have n2_ := Aside0.mk ((by rw [hw]; exact below_set (HB.out) GB11.out : Below w.heap.size w w14)); clear HO_3; clear BK260; clear HB; have HO_3 := n0_; have BK260 := n1_; have HB := n2_; clear n0_ n1_ n2_; clear hg hw hp_))
        go_roundg k1
        case measure => have := HK1.out; omega
        case rel => exact ⟨(y265), (wrap64 (x4_1 + 1)), (by first | rfl | (simp; done) | (simp [*]; done)), H', ⟨by have := HK1.out; omega⟩, ⟨by (with_reducible repeat (first | apply Kd.R_alloc | apply Kd.R_drewN | apply Kd.R_drew)); exact HO_3.out⟩, ⟨by (with_reducible repeat (first | refine blk_drewN ?_ _ | refine blk_drew ?_ | refine blk_alloc ?_ _)); exact BK260.out⟩, ⟨by repeat (first | (with_reducible first | exact HB.out | apply below_alloc | apply pw_below_drewN | apply below_drew1 | refine below_set ?_ GE260.out) | exact HB.out)⟩⟩
       ·rw [if_neg c10] at H
        exact absurd H (by simp)
      ·rw [if_neg c9] at H
       exact absurd H (by simp)
     ·rw [if_neg c8] at H
      have c8b0 := decide_eq_false c8
      clear c8
      have H' := Aside0.mk H
      clear H
      have hcz15_0 : wr.cell? ⟨gb260, 0, none⟩ = some (.int .i64 a0_0) := (blk_cell BK260.out 0).trans rfl
      have hcz15_1 : wr.cell? ⟨gb260, 1, none⟩ = some (.int .i64 a0_1) := (blk_cell BK260.out 1).trans rfl
      have hcz15_2 : wr.cell? ⟨gb260, 2, none⟩ = some (.bool a0_2) := (blk_cell BK260.out 2).trans rfl
      have hcz15_3 : wr.cell? ⟨gb260, 3, none⟩ = some (.slice A0_3 l0_3.length c0_3) := (blk_cell BK260.out 3).trans rfl
      have hfz15_0 := blk_frozen BK260.out 0
      have hfz15_1 := blk_frozen BK260.out 1
      have hfz15_2 := blk_frozen BK260.out 2
      have hfz15_3 := blk_frozen BK260.out 3
      go_wp2
      go_loopg [5] k1 (fun kq v5 w' => ∃ (x3_2 : List Bool) (x5_2 : Bool), v5 = .bool x5_2 ∧ Aside0 (thermionref01_held.l1 kq x3_2 x5_2 a0_0 a0_1 a0_2 l0_3 = some r) ∧ Aside0 (kq ≤ k1) ∧ Aside0 (Kd.R Kd.bool 4 w' w.heap.size (fun _ => True) v262 x3_2) ∧ Aside0 (w'.heap[gb260]? = some (.cells #[.int .i64 a0_0, .int .i64 a0_1, .bool a0_2, (.slice A0_3 l0_3.length c0_3)] 24 (0, 0))) ∧ Aside0 (Below w.heap.size w w'))
      case atStart => exact ⟨(x3_1), (true), (by first | rfl | (simp; done) | (simp [*]; done)), H', ⟨Nat.le_refl _⟩, ⟨by (with_reducible repeat (first | apply Kd.R_alloc | apply Kd.R_drewN | apply Kd.R_drew)); exact HO_3.out⟩, ⟨by (with_reducible repeat (first | refine blk_drewN ?_ _ | refine blk_drew ?_ | refine blk_alloc ?_ _)); exact BK260.out⟩, ⟨by repeat (first | (with_reducible first | exact HB.out | apply below_alloc | apply pw_below_drewN | apply below_drew1 | refine below_set ?_ GE260.out) | exact HB.out)⟩⟩
      case round =>
       clear H'
       try clear c1
       try clear p1
       try clear q1
       try clear hx1
       try clear hf1
       try clear c2
       try clear c2b0
       try clear c2b1
       try clear p2
       try clear q2
       try clear hx2
       try clear c3
       try clear c3b0
       try clear c3b1
       try clear p6
       try clear c8
       try clear c8b0
       try clear c9
       try clear c9b0
       try clear c10
       try clear c10b0
       try clear p11
       try clear q11
       try clear hx11
       try clear hf11
       try clear hcz12_0
       try clear hcz12_1
       try clear hcz12_2
       try clear hcz12_3
       try clear hcz15_0
       try clear hcz15_1
       try clear hcz15_2
       try clear hcz15_3
       try clear hcz5_0
       try clear hcz5_1
       try clear hcz5_2
       try clear hcz5_3
       try clear hfz12_0
       try clear hfz12_1
       try clear hfz12_2
       try clear hfz12_3
       try clear hfz15_0
       try clear hfz15_1
       try clear hfz15_2
       try clear hfz15_3
       try clear hfz5_0
       try clear hfz5_1
       try clear hfz5_2
       try clear hfz5_3
       try clear hx11_0
       try clear hx264_0
       try clear p11
       try clear p2
       try clear p264
       try clear q11
       try clear q264
       obtain ⟨x3_2, x5_2, rfl, HA, HK2, HO_3, BK260, HB⟩ := hrel
       cases gk with
       | zero => exact absurd HA.out (by simp [thermionref01_held.l1])
       | succ k2 =>
        have H := HA.out
        clear HA
        simp only [thermionref01_held.l1] at H
        by_cases c16 : x5_2 = true
        ·subst c16
         have H1 : (thermionref01_held.l2 k2 x3_2 false 0 a0_0 a0_1 a0_2 l0_3) = some r := by rw [if_pos rfl] at H; exact H
         clear H
         have H := H1
         clear H1
         have H' := Aside0.mk H
         clear H
         go_wp2
         go_loopg [5, 6] k2 (fun kq v5 v6 w' => ∃ (x3_3 : List Bool) (x5_3 : Bool) (x6_3 : Int), v5 = .bool x5_3 ∧ v6 = .int .i64 x6_3 ∧ Aside0 (thermionref01_held.l2 kq x3_3 x5_3 x6_3 a0_0 a0_1 a0_2 l0_3 = some r) ∧ Aside0 (kq ≤ k2) ∧ Aside0 (Kd.R Kd.bool 4 w' w.heap.size (fun _ => True) v262 x3_3) ∧ Aside0 (w'.heap[gb260]? = some (.cells #[.int .i64 a0_0, .int .i64 a0_1, .bool a0_2, (.slice A0_3 l0_3.length c0_3)] 24 (0, 0))) ∧ Aside0 (Below w.heap.size w w'))
         case atStart => exact ⟨(x3_2), (false), (0), (by first | rfl | (simp; done) | (simp [*]; done)), (by first | rfl | (simp; done) | (simp [*]; done)), H', ⟨Nat.le_refl _⟩, ⟨by (with_reducible repeat (first | apply Kd.R_alloc | apply Kd.R_drewN | apply Kd.R_drew)); exact HO_3.out⟩, ⟨by (with_reducible repeat (first | refine blk_drewN ?_ _ | refine blk_drew ?_ | refine blk_alloc ?_ _)); exact BK260.out⟩, ⟨by repeat (first | (with_reducible first | exact HB.out | apply below_alloc | apply pw_below_drewN | apply below_drew1 | refine below_set ?_ GE260.out) | exact HB.out)⟩⟩
         case round =>
          clear H'
          try clear c1
          try clear p1
          try clear q1
          try clear hx1
          try clear hf1
          try clear c2
          try clear c2b0
          try clear c2b1
          try clear p2
          try clear q2
          try clear hx2
          try clear c3
          try clear c3b0
          try clear c3b1
          try clear p6
          try clear c8
          try clear c8b0
          try clear c9
          try clear c9b0
          try clear c10
          try clear c10b0
          try clear p11
          try clear q11
          try clear hx11
          try clear hf11
          try clear c16
          try clear hcz12_0
          try clear hcz12_1
          try clear hcz12_2
          try clear hcz12_3
          try clear hcz15_0
          try clear hcz15_1
          try clear hcz15_2
          try clear hcz15_3
          try clear hcz5_0
          try clear hcz5_1
          try clear hcz5_2
          try clear hcz5_3
          try clear hfz12_0
          try clear hfz12_1
          try clear hfz12_2
          try clear hfz12_3
          try clear hfz15_0
          try clear hfz15_1
          try clear hfz15_2
          try clear hfz15_3
          try clear hfz5_0
          try clear hfz5_1
          try clear hfz5_2
          try clear hfz5_3
          try clear hx11_0
          try clear hx264_0
          try clear p1
          try clear p11
          try clear p2
          try clear p264
          try clear p6
          try clear q1
          try clear q11
          try clear q2
          try clear q264
          obtain ⟨x3_3, x5_3, x6_3, rfl, rfl, HA, HK3, HO_3, BK260, HB⟩ := hrel
          cases gk with
          | zero => exact absurd HA.out (by simp [thermionref01_held.l2])
          | succ k3 =>
           have H := HA.out
           clear HA
           simp only [thermionref01_held.l2] at H
           by_cases c17 : x6_3 < (l0_3.length : Int)
           ·rw [if_pos c17] at H
            have c17b0 := decide_eq_true c17
            clear c17
            replace H := Option.bind_eq_some_iff.mp H
            obtain ⟨t266, A180, H⟩ := H
            replace H : (thermionref01_held.l3 k3 x3_3 x5_3 x6_3 t266 0 a0_0 a0_1 a0_2 l0_3) = some r := H
            have A18 := Aside0.mk A180
            clear A180
            have H' := Aside0.mk H
            clear H
            have hcz19_0 : wr.cell? ⟨gb260, 0, none⟩ = some (.int .i64 a0_0) := (blk_cell BK260.out 0).trans rfl
            have hcz19_1 : wr.cell? ⟨gb260, 1, none⟩ = some (.int .i64 a0_1) := (blk_cell BK260.out 1).trans rfl
            have hcz19_2 : wr.cell? ⟨gb260, 2, none⟩ = some (.bool a0_2) := (blk_cell BK260.out 2).trans rfl
            have hcz19_3 : wr.cell? ⟨gb260, 3, none⟩ = some (.slice A0_3 l0_3.length c0_3) := (blk_cell BK260.out 3).trans rfl
            have hfz19_0 := blk_frozen BK260.out 0
            have hfz19_1 := blk_frozen BK260.out 1
            have hfz19_2 := blk_frozen BK260.out 2
            have hfz19_3 := blk_frozen BK260.out 3
            go_wp2_with (first | ((with_reducible refine gate_callee (f := 100) rfl ?_); refine goesL_ (some 39) rfl rfl Try.func100 (by kernel_rfl) rfl #[.agg #[.int .i64 a0_0, .int .i64 a0_1, .bool a0_2, .slice A0_3 l0_3.length c0_3], .int .i64 x6_3] rfl (by (try simp only [List.map_toArray, List.map_cons, List.map_nil]); first | done | rfl | (simp only [List.length_drop, List.length_take]; rfl)) ?_; (with_reducible refine (thermionref01_around.calls k3 a0_0 a0_1 a0_2 _ _ l0_3 x6_3 t266 _ ?side1 ?side2 A18.out).mono ?_); (case side1 => repeat (first | exact (Kd.C_below HR0_3.out HB.out) | (with_reducible refine Kd.C_alloc ?_ _) | (with_reducible refine Kd.C_drewN ?_ _) | (with_reducible refine Kd.C_drew ?_))); (case side2 => exact HC0_3.out); rintro e w20 ⟨v267, rfl, ho0, hb⟩; refine ⟨_, rfl, ?_⟩; have n0_ := Aside0.mk (Kd.R_below (by (with_reducible repeat (first | apply Kd.R_alloc | apply Kd.R_drewN | apply Kd.R_drew)); exact HO_3.out) hb); have n1_ := Aside0.mk (Kd.R_lower ho0 (below_size (by repeat (first | (with_reducible first | exact HB.out | apply below_alloc | apply pw_below_drewN | apply below_drew1 | refine below_set ?_ GE260.out) | exact HB.out)))); have n2_ := Aside0.mk (blk_below (g := gb260) (o := .cells #[.int .i64 a0_0, .int .i64 a0_1, .bool a0_2, .slice A0_3 l0_3.length c0_3] 24 (0, 0)) (by (with_reducible repeat (first | refine blk_drewN ?_ _ | refine blk_drew ?_ | refine blk_alloc ?_ _)); exact BK260.out) hb); have n3_ := Aside0.mk (below_step (by repeat (first | (with_reducible first | exact HB.out | apply below_alloc | apply pw_below_drewN | apply below_drew1 | refine below_set ?_ GE260.out) | exact HB.out)) hb); clear HO_3; clear BK260; clear HB; have HO_3 := n0_; have HO268 := n1_; have BK260 := n2_; have HB := n3_; clear n0_ n1_ n2_ n3_; (try clear hb); (try clear hb2); (try clear hk); (try clear hi); (try clear ho0)))
            go_loopg [5, 8] k3 (fun kq v5 v8 w' => ∃ (x3_4 : List Bool) (x5_4 : Bool) (x8_4 : Int), v5 = .bool x5_4 ∧ v8 = .int .i64 x8_4 ∧ Aside0 (thermionref01_held.l3 kq x3_4 x5_4 x6_3 t266 x8_4 a0_0 a0_1 a0_2 l0_3 = some r) ∧ Aside0 (kq ≤ k3) ∧ Aside0 (Kd.R Kd.bool 4 w' w.heap.size (fun _ => True) v262 x3_4) ∧ Aside0 (Kd.R (Kd.int .i64) 3 w' w.heap.size (fun _ => True) v267 t266) ∧ Aside0 (w'.heap[gb260]? = some (.cells #[.int .i64 a0_0, .int .i64 a0_1, .bool a0_2, (.slice A0_3 l0_3.length c0_3)] 24 (0, 0))) ∧ Aside0 (Below w.heap.size w w'))
            case atStart => exact ⟨(x3_3), (x5_3), (0), (by first | rfl | (simp; done) | (simp [*]; done)), (by first | rfl | (simp; done) | (simp [*]; done)), H', ⟨Nat.le_refl _⟩, ⟨by (with_reducible repeat (first | apply Kd.R_alloc | apply Kd.R_drewN | apply Kd.R_drew)); exact HO_3.out⟩, ⟨by (with_reducible repeat (first | apply Kd.R_alloc | apply Kd.R_drewN | apply Kd.R_drew)); exact HO268.out⟩, ⟨by (with_reducible repeat (first | refine blk_drewN ?_ _ | refine blk_drew ?_ | refine blk_alloc ?_ _)); exact BK260.out⟩, ⟨by repeat (first | (with_reducible first | exact HB.out | apply below_alloc | apply pw_below_drewN | apply below_drew1 | refine below_set ?_ GE260.out) | exact HB.out)⟩⟩
            case round =>
             clear H'
             try clear c1
             try clear p1
             try clear q1
             try clear hx1
             try clear hf1
             try clear c2
             try clear c2b0
             try clear c2b1
             try clear p2
             try clear q2
             try clear hx2
             try clear c3
             try clear c3b0
             try clear c3b1
             try clear p6
             try clear c8
             try clear c8b0
             try clear c9
             try clear c9b0
             try clear c10
             try clear c10b0
             try clear p11
             try clear q11
             try clear hx11
             try clear hf11
             try clear c16
             try clear c17
             try clear c17b0
             try clear hcz12_0
             try clear hcz12_1
             try clear hcz12_2
             try clear hcz12_3
             try clear hcz15_0
             try clear hcz15_1
             try clear hcz15_2
             try clear hcz15_3
             try clear hcz19_0
             try clear hcz19_1
             try clear hcz19_2
             try clear hcz19_3
             try clear hcz5_0
             try clear hcz5_1
             try clear hcz5_2
             try clear hcz5_3
             try clear hfz12_0
             try clear hfz12_1
             try clear hfz12_2
             try clear hfz12_3
             try clear hfz15_0
             try clear hfz15_1
             try clear hfz15_2
             try clear hfz15_3
             try clear hfz19_0
             try clear hfz19_1
             try clear hfz19_2
             try clear hfz19_3
             try clear hfz5_0
             try clear hfz5_1
             try clear hfz5_2
             try clear hfz5_3
             try clear hx11_0
             try clear hx264_0
             try clear p1
             try clear p11
             try clear p2
             try clear p264
             try clear p6
             try clear q1
             try clear q11
             try clear q2
             try clear q264
             obtain ⟨x3_4, x5_4, x8_4, rfl, rfl, HA, HK4, HO_3, HO_7, BK260, HB⟩ := hrel
             cases gk with
             | zero => exact absurd HA.out (by simp [thermionref01_held.l3])
             | succ k4 =>
              have H := HA.out
              clear HA
              simp only [thermionref01_held.l3] at H
              by_cases c21 : x8_4 < (t266.length : Int)
              ·rw [if_pos c21] at H
               have c21b0 := decide_eq_true c21
               clear c21
               by_cases c22 : 0 ≤ x8_4
               ·rw [if_pos c22] at H
                have c22b0 := decide_eq_true c22
                clear c22
                by_cases c23 : 0 ≤ (rd t266 x8_4)
                ·rw [if_pos c23] at H
                 have c23b0 := decide_eq_true c23
                 clear c23
                 by_cases c24 : (rd t266 x8_4) < (x3_4.length : Int)
                 ·rw [if_pos c24] at H
                  have c24b0 := decide_eq_true c24
                  clear c24
                  obtain ⟨bq25, hbq25⟩ : ∃ b_ : Bool, b_ = (rdOf false x3_4 (rd t266 x8_4)) := ⟨_, rfl⟩
                  replace H : (if bq25 = true then (if 0 ≤ x6_3 then (if x6_3 < (x3_4.length : Int) then (if rdOf false x3_4 x6_3 = true then (thermionref01_held.l3 k4 x3_4 x5_4 x6_3 t266 (wrap64 (x8_4 + 1)) a0_0 a0_1 a0_2 l0_3) else (thermionref01_held.l3 k4 (x3_4.set (x6_3 : Int).toNat true) true x6_3 t266 (wrap64 (x8_4 + 1)) a0_0 a0_1 a0_2 l0_3)) else (none)) else (none)) else (thermionref01_held.l3 k4 x3_4 x5_4 x6_3 t266 (wrap64 (x8_4 + 1)) a0_0 a0_1 a0_2 l0_3)) = some r := by rw [← hbq25] at H; exact H
                  have Nbq25 := Aside0.mk hbq25
                  clear hbq25
                  by_cases c26 : bq25 = true
                  ·subst c26
                   have H1 : (if 0 ≤ x6_3 then (if x6_3 < (x3_4.length : Int) then (if rdOf false x3_4 x6_3 = true then (thermionref01_held.l3 k4 x3_4 x5_4 x6_3 t266 (wrap64 (x8_4 + 1)) a0_0 a0_1 a0_2 l0_3) else (thermionref01_held.l3 k4 (x3_4.set (x6_3 : Int).toNat true) true x6_3 t266 (wrap64 (x8_4 + 1)) a0_0 a0_1 a0_2 l0_3)) else (none)) else (none)) = some r := by rw [if_pos rfl] at H; exact H
                   clear H
                   have H := H1
                   clear H1
                   by_cases c27 : 0 ≤ x6_3
                   ·rw [if_pos c27] at H
                    have c27b0 := decide_eq_true c27
                    clear c27
                    by_cases c28 : x6_3 < (x3_4.length : Int)
                    ·rw [if_pos c28] at H
                     have c28b0 := decide_eq_true c28
                     clear c28
                     obtain ⟨bq29, hbq29⟩ : ∃ b_ : Bool, b_ = (rdOf false x3_4 x6_3) := ⟨_, rfl⟩
                     replace H : (if bq29 = true then (thermionref01_held.l3 k4 x3_4 x5_4 x6_3 t266 (wrap64 (x8_4 + 1)) a0_0 a0_1 a0_2 l0_3) else (thermionref01_held.l3 k4 (x3_4.set (x6_3 : Int).toNat true) true x6_3 t266 (wrap64 (x8_4 + 1)) a0_0 a0_1 a0_2 l0_3)) = some r := by rw [← hbq29] at H; exact H
                     have Nbq29 := Aside0.mk hbq29
                     clear hbq29
                     by_cases c30 : bq29 = true
                     ·subst c30
                      have H1 : (thermionref01_held.l3 k4 x3_4 x5_4 x6_3 t266 (wrap64 (x8_4 + 1)) a0_0 a0_1 a0_2 l0_3) = some r := by rw [if_pos rfl] at H; exact H
                      clear H
                      have H := H1
                      clear H1
                      have H' := Aside0.mk H
                      clear H
                      obtain ⟨Ao31, co31, eo31⟩ := Kd.R_slice HO_7.out
                      subst eo31
                      have p269 : 0 ≤ (x8_4 : Int) := of_decide_eq_true (by first | (with_reducible assumption) | assumption)
                      have q269 : x8_4 < (t266.length : Int) := of_decide_eq_true (by first | (with_reducible assumption) | assumption)
                      obtain ⟨ad269, e269, hx269_0⟩ := Kd.at_int (Kd.R_reads' HO_7.out).2.2 x8_4 p269 q269
                      cases e269
                      replace p269 := eq_true p269
                      replace q269 := eq_true q269
                      obtain ⟨Ao32, co32, eo32⟩ := Kd.R_slice HO_3.out
                      subst eo32
                      have p270 : 0 ≤ ((rd t266 x8_4) : Int) := of_decide_eq_true (by first | (with_reducible assumption) | assumption)
                      have q270 : (rd t266 x8_4) < (x3_4.length : Int) := of_decide_eq_true (by first | (with_reducible assumption) | assumption)
                      obtain ⟨ad270, e270, hx270_0⟩ := Kd.at_bool (Kd.R_reads' HO_3.out).2.2 (rd t266 x8_4) p270 q270
                      (try rw [← Nbq25.out] at hx270_0)
                      (try rw [← Nbq29.out] at hx270_0)
                      cases e270
                      replace p270 := eq_true p270
                      replace q270 := eq_true q270
                      have p271 : 0 ≤ (x6_3 : Int) := of_decide_eq_true (by first | (with_reducible assumption) | assumption)
                      have q271 : x6_3 < (x3_4.length : Int) := of_decide_eq_true (by first | (with_reducible assumption) | assumption)
                      obtain ⟨ad271, e271, hx271_0⟩ := Kd.at_bool (Kd.R_reads' HO_3.out).2.2 x6_3 p271 q271
                      (try rw [← Nbq25.out] at hx271_0)
                      (try rw [← Nbq29.out] at hx271_0)
                      obtain rfl : ad270 = ad271 := (by injection e271)
                      replace p271 := eq_true p271
                      replace q271 := eq_true q271
                      go_wp2
                      go_roundg k4
                      case measure => have := HK1.out; have := HK2.out; have := HK3.out; have := HK4.out; omega
                      case rel => exact ⟨(x3_4), (x5_4), (wrap64 (x8_4 + 1)), (by first | rfl | (simp; done) | (simp [*]; done)), (by first | rfl | (simp; done) | (simp [*]; done)), H', ⟨by have := HK1.out; have := HK2.out; have := HK3.out; have := HK4.out; omega⟩, ⟨by (with_reducible repeat (first | apply Kd.R_alloc | apply Kd.R_drewN | apply Kd.R_drew)); exact HO_3.out⟩, ⟨by (with_reducible repeat (first | apply Kd.R_alloc | apply Kd.R_drewN | apply Kd.R_drew)); exact HO_7.out⟩, ⟨by (with_reducible repeat (first | refine blk_drewN ?_ _ | refine blk_drew ?_ | refine blk_alloc ?_ _)); exact BK260.out⟩, ⟨by repeat (first | (with_reducible first | exact HB.out | apply below_alloc | apply pw_below_drewN | apply below_drew1 | refine below_set ?_ GE260.out) | exact HB.out)⟩⟩
                     ·replace c30 := Bool.eq_false_iff.mpr c30
                      subst c30
                      have H1 : (thermionref01_held.l3 k4 (x3_4.set (x6_3 : Int).toNat true) true x6_3 t266 (wrap64 (x8_4 + 1)) a0_0 a0_1 a0_2 l0_3) = some r := by rw [if_neg (show ¬ (false = true) by decide)] at H; exact H
                      clear H
                      have H := H1
                      clear H1
                      obtain ⟨y272, hy272⟩ : ∃ y_ : List Bool, y_ = (x3_4.set (x6_3 : Int).toNat true) := ⟨_, rfl⟩
                      replace H : (thermionref01_held.l3 k4 y272 true x6_3 t266 (wrap64 (x8_4 + 1)) a0_0 a0_1 a0_2 l0_3) = some r := by first | (rw [hy272]; with_reducible exact H) | (have H2_ := (Option.bind_some _ _).symm.trans H; rw [hy272]; with_reducible exact H2_) | (have H2_ := (Option.bind_some _ _).symm.trans H; with_reducible exact H2_) | with_reducible exact H | (rw [hy272]; exact H) | exact H
                      have Ny272 := Aside0.mk hy272
                      clear hy272
                      have H' := Aside0.mk H
                      clear H
                      obtain ⟨Ao34, co34, eo34⟩ := Kd.R_slice HO_7.out
                      subst eo34
                      have p269 : 0 ≤ (x8_4 : Int) := of_decide_eq_true (by first | (with_reducible assumption) | assumption)
                      have q269 : x8_4 < (t266.length : Int) := of_decide_eq_true (by first | (with_reducible assumption) | assumption)
                      obtain ⟨ad269, e269, hx269_0⟩ := Kd.at_int (Kd.R_reads' HO_7.out).2.2 x8_4 p269 q269
                      cases e269
                      replace p269 := eq_true p269
                      replace q269 := eq_true q269
                      obtain ⟨Ao35, co35, eo35⟩ := Kd.R_slice HO_3.out
                      subst eo35
                      have p270 : 0 ≤ ((rd t266 x8_4) : Int) := of_decide_eq_true (by first | (with_reducible assumption) | assumption)
                      have q270 : (rd t266 x8_4) < (x3_4.length : Int) := of_decide_eq_true (by first | (with_reducible assumption) | assumption)
                      obtain ⟨ad270, e270, hx270_0⟩ := Kd.at_bool (Kd.R_reads' HO_3.out).2.2 (rd t266 x8_4) p270 q270
                      (try rw [← Nbq25.out] at hx270_0)
                      (try rw [← Nbq29.out] at hx270_0)
                      cases e270
                      replace p270 := eq_true p270
                      replace q270 := eq_true q270
                      have p271 : 0 ≤ (x6_3 : Int) := of_decide_eq_true (by first | (with_reducible assumption) | assumption)
                      have q271 : x6_3 < (x3_4.length : Int) := of_decide_eq_true (by first | (with_reducible assumption) | assumption)
                      obtain ⟨ad271, e271, hx271_0⟩ := Kd.at_bool (Kd.R_reads' HO_3.out).2.2 x6_3 p271 q271
                      (try rw [← Nbq25.out] at hx271_0)
                      (try rw [← Nbq29.out] at hx271_0)
                      obtain rfl : ad270 = ad271 := (by injection e271)
                      replace p271 := eq_true p271
                      replace q271 := eq_true q271
                      have p33 : 0 ≤ (x6_3 : Int) := of_decide_eq_true (by first | (with_reducible assumption) | assumption)
                      have q33 : (x6_3 : Int) < ((x3_4.length : Int) : Int) := of_decide_eq_true (by first | (with_reducible assumption) | assumption)
                      obtain ⟨go33, co33, eo33, gb33, gl33, cl33, HG33⟩ := Kd.R_form HO_3.out (by omega)
                      (first | cases eo33 | (injection eo33 with ea_ en_ ec_; (first | subst ea_ | (injection ea_ with ea_; subst ea_)); subst ec_; clear en_))
                      have GB33 := Aside0.mk gb33
                      have GG33 := Aside0.mk HG33
                      clear gb33 gl33 HG33
                      (first | simp only [add_plain] at hx270_0 | skip)
                      (first | simp only [add_plain] at hx271_0 | skip)
                      obtain ⟨hx33_0, hf33_0⟩ := Kd.R_celln false HO_3.out (x6_3 : Int) p33 q33
                      replace p33 := eq_true p33
                      replace q33 := eq_true q33
                      have HP36 := Kd.R_putg HO_3.out (x6_3 : Int) true
                      go_wp2_with (first | ((with_reducible refine gate_store (t := 4) (p := 62) rfl ?_); refine store_event (t := 4) (p := 62) (v := ?vo_w37) (w1 := (wr.setCell ⟨go33, (x6_3 : Int).toNat, none⟩ (.bool true))) ?hg ?ho ?hn ?hr ?_; (case ho => rfl); (case hg => rfl); (case hn => rfl); (case hr => first | (go_simp; done) | (go_simp; rfl)); intro w37 hw; have hg : wr.grownBy w37 (some go33) := (by rw [hw]; exact HP36.2); have hp_ : Kd.R Kd.bool 4 w37 w.heap.size (fun _ => True) (.slice (some ⟨go33, 0, none⟩) x3_4.length co35) y272 := (by rw [hw, Ny272.out]; exact HP36.1); clear HP36; have n0_ := Aside0.mk (hp_); have n1_ := Aside0.mk (Kd.R_over' (v := (.slice (some ⟨go33, 0, none⟩) x3_4.length co35)) (by (with_reducible repeat (first | apply Kd.R_alloc | apply Kd.R_drewN | apply Kd.R_drew)); exact HO_7.out) (Kd.R_typed HO_3.out) (by decide) hg); have n2_ := Aside0.mk (blk_grown (g := gb260) (o := .cells #[.int .i64 a0_0, .int .i64 a0_1, .bool a0_2, .slice A0_3 l0_3.length c0_3] 24 (0, 0)) (by (with_reducible repeat (first | refine blk_drewN ?_ _ | refine blk_drew ?_ | refine blk_alloc ?_ _)); exact BK260.out) hg (Kd.R_ne HO_3.out BK260.out (by decide))); have n3_ := Aside0.mk ((by rw [hw]; exact below_set (HB.out) GB33.out : Below w.heap.size w w37)); clear HO_3; clear HO_7; clear BK260; clear HB; have HO_3 := n0_; have HO_7 := n1_; have BK260 := n2_; have HB := n3_; clear n0_ n1_ n2_ n3_; clear hg hw hp_))
                      go_roundg k4
                      case measure => have := HK1.out; have := HK2.out; have := HK3.out; have := HK4.out; omega
                      case rel => exact ⟨(y272), (true), (wrap64 (x8_4 + 1)), (by first | rfl | (simp; done) | (simp [*]; done)), (by first | rfl | (simp; done) | (simp [*]; done)), H', ⟨by have := HK1.out; have := HK2.out; have := HK3.out; have := HK4.out; omega⟩, ⟨by (with_reducible repeat (first | apply Kd.R_alloc | apply Kd.R_drewN | apply Kd.R_drew)); exact HO_3.out⟩, ⟨by (with_reducible repeat (first | apply Kd.R_alloc | apply Kd.R_drewN | apply Kd.R_drew)); exact HO_7.out⟩, ⟨by (with_reducible repeat (first | refine blk_drewN ?_ _ | refine blk_drew ?_ | refine blk_alloc ?_ _)); exact BK260.out⟩, ⟨by repeat (first | (with_reducible first | exact HB.out | apply below_alloc | apply pw_below_drewN | apply below_drew1 | refine below_set ?_ GE260.out) | exact HB.out)⟩⟩
                    ·rw [if_neg c28] at H
                     exact absurd H (by simp)
                   ·rw [if_neg c27] at H
                    exact absurd H (by simp)
                  ·replace c26 := Bool.eq_false_iff.mpr c26
                   subst c26
                   have H1 : (thermionref01_held.l3 k4 x3_4 x5_4 x6_3 t266 (wrap64 (x8_4 + 1)) a0_0 a0_1 a0_2 l0_3) = some r := by rw [if_neg (show ¬ (false = true) by decide)] at H; exact H
                   clear H
                   have H := H1
                   clear H1
                   have H' := Aside0.mk H
                   clear H
                   obtain ⟨Ao38, co38, eo38⟩ := Kd.R_slice HO_7.out
                   subst eo38
                   have p269 : 0 ≤ (x8_4 : Int) := of_decide_eq_true (by first | (with_reducible assumption) | assumption)
                   have q269 : x8_4 < (t266.length : Int) := of_decide_eq_true (by first | (with_reducible assumption) | assumption)
                   obtain ⟨ad269, e269, hx269_0⟩ := Kd.at_int (Kd.R_reads' HO_7.out).2.2 x8_4 p269 q269
                   cases e269
                   replace p269 := eq_true p269
                   replace q269 := eq_true q269
                   obtain ⟨Ao39, co39, eo39⟩ := Kd.R_slice HO_3.out
                   subst eo39
                   have p270 : 0 ≤ ((rd t266 x8_4) : Int) := of_decide_eq_true (by first | (with_reducible assumption) | assumption)
                   have q270 : (rd t266 x8_4) < (x3_4.length : Int) := of_decide_eq_true (by first | (with_reducible assumption) | assumption)
                   obtain ⟨ad270, e270, hx270_0⟩ := Kd.at_bool (Kd.R_reads' HO_3.out).2.2 (rd t266 x8_4) p270 q270
                   (try rw [← Nbq25.out] at hx270_0)
                   cases e270
                   replace p270 := eq_true p270
                   replace q270 := eq_true q270
                   go_wp2
                   go_roundg k4
                   case measure => have := HK1.out; have := HK2.out; have := HK3.out; have := HK4.out; omega
                   case rel => exact ⟨(x3_4), (x5_4), (wrap64 (x8_4 + 1)), (by first | rfl | (simp; done) | (simp [*]; done)), (by first | rfl | (simp; done) | (simp [*]; done)), H', ⟨by have := HK1.out; have := HK2.out; have := HK3.out; have := HK4.out; omega⟩, ⟨by (with_reducible repeat (first | apply Kd.R_alloc | apply Kd.R_drewN | apply Kd.R_drew)); exact HO_3.out⟩, ⟨by (with_reducible repeat (first | apply Kd.R_alloc | apply Kd.R_drewN | apply Kd.R_drew)); exact HO_7.out⟩, ⟨by (with_reducible repeat (first | refine blk_drewN ?_ _ | refine blk_drew ?_ | refine blk_alloc ?_ _)); exact BK260.out⟩, ⟨by repeat (first | (with_reducible first | exact HB.out | apply below_alloc | apply pw_below_drewN | apply below_drew1 | refine below_set ?_ GE260.out) | exact HB.out)⟩⟩
                 ·rw [if_neg c24] at H
                  exact absurd H (by simp)
                ·rw [if_neg c23] at H
                 exact absurd H (by simp)
               ·rw [if_neg c22] at H
                exact absurd H (by simp)
              ·rw [if_neg c21] at H
               have c21b0 := decide_eq_false c21
               clear c21
               have H' := Aside0.mk H
               clear H
               obtain ⟨Ao40, co40, eo40⟩ := Kd.R_slice HO_7.out
               subst eo40
               go_wp2
               go_roundg k4
               case measure => have := HK1.out; have := HK2.out; have := HK3.out; have := HK4.out; omega
               case rel => exact ⟨(x3_4), (x5_4), (wrap64 (x6_3 + 1)), (by first | rfl | (simp; done) | (simp [*]; done)), (by first | rfl | (simp; done) | (simp [*]; done)), H', ⟨by have := HK1.out; have := HK2.out; have := HK3.out; have := HK4.out; omega⟩, ⟨by (with_reducible repeat (first | apply Kd.R_alloc | apply Kd.R_drewN | apply Kd.R_drew)); exact HO_3.out⟩, ⟨by (with_reducible repeat (first | refine blk_drewN ?_ _ | refine blk_drew ?_ | refine blk_alloc ?_ _)); exact BK260.out⟩, ⟨by repeat (first | (with_reducible first | exact HB.out | apply below_alloc | apply pw_below_drewN | apply below_drew1 | refine below_set ?_ GE260.out) | exact HB.out)⟩⟩
           ·rw [if_neg c17] at H
            have c17b0 := decide_eq_false c17
            clear c17
            have H' := Aside0.mk H
            clear H
            have hcz41_0 : wr.cell? ⟨gb260, 0, none⟩ = some (.int .i64 a0_0) := (blk_cell BK260.out 0).trans rfl
            have hcz41_1 : wr.cell? ⟨gb260, 1, none⟩ = some (.int .i64 a0_1) := (blk_cell BK260.out 1).trans rfl
            have hcz41_2 : wr.cell? ⟨gb260, 2, none⟩ = some (.bool a0_2) := (blk_cell BK260.out 2).trans rfl
            have hcz41_3 : wr.cell? ⟨gb260, 3, none⟩ = some (.slice A0_3 l0_3.length c0_3) := (blk_cell BK260.out 3).trans rfl
            have hfz41_0 := blk_frozen BK260.out 0
            have hfz41_1 := blk_frozen BK260.out 1
            have hfz41_2 := blk_frozen BK260.out 2
            have hfz41_3 := blk_frozen BK260.out 3
            go_wp2
            go_roundg k3
            case measure => have := HK1.out; have := HK2.out; have := HK3.out; omega
            case rel => exact ⟨(x3_3), (x5_3), (by first | rfl | (simp; done) | (simp [*]; done)), H', ⟨by have := HK1.out; have := HK2.out; have := HK3.out; omega⟩, ⟨by (with_reducible repeat (first | apply Kd.R_alloc | apply Kd.R_drewN | apply Kd.R_drew)); exact HO_3.out⟩, ⟨by (with_reducible repeat (first | refine blk_drewN ?_ _ | refine blk_drew ?_ | refine blk_alloc ?_ _)); exact BK260.out⟩, ⟨by repeat (first | (with_reducible first | exact HB.out | apply below_alloc | apply pw_below_drewN | apply below_drew1 | refine below_set ?_ GE260.out) | exact HB.out)⟩⟩
        ·replace c16 := Bool.eq_false_iff.mpr c16
         subst c16
         have H1 : (some x3_2) = some r := by rw [if_neg (show ¬ (false = true) by decide)] at H; exact H
         clear H
         have H := H1
         clear H1
         obtain rfl := Option.some.inj H
         go_wp2
         go_ret
         exact ⟨_, by first | rfl | (simp [errW_none, errW_some] <;> rfl) | (simp [*, errW_none, errW_some] <;> rfl), by (with_reducible repeat (first | apply Kd.R_alloc | apply Kd.R_drewN | apply Kd.R_drew)); exact HO_3.out, by repeat (first | (with_reducible first | exact HB.out | apply below_alloc | apply pw_below_drewN | apply below_drew1 | refine below_set ?_ GE260.out) | exact HB.out)⟩
  ·rw [if_neg c3] at H
   exact absurd H (by simp)
 ·rw [if_neg c2] at H
  exact absurd H (by simp)
mutual
def thermionref01_Check.j0 : Nat → Bool → Int → Int → Bool → List Int → Option (Int)
 | 0, _, _, _, _, _ => none
 | k + 1, x14, x274000, x274001, x274002, x274003 => if x14 = true then (some 2) else (if (x274003.length : Int) = (wrap64 (x274000 * x274001)) then (thermionref01_Check.l0 k false 0 x274000 x274001 x274002 x274003) else (some 3))
def thermionref01_Check.l0 : Nat → Bool → Int → Int → Int → Bool → List Int → Option (Int)
 | 0, _, _, _, _, _, _ => none
 | k + 1, x3, x4, x274000, x274001, x274002, x274003 => if x4 < (x274003.length : Int) then (if 0 ≤ x4 then ((thermionref01_beyond.f (rd x274003 x4) 0 6).bind fun t277 => (if t277 = true then (some 2) else (if x3 = true then (thermionref01_Check.l0 k true (wrap64 (x4 + 1)) x274000 x274001 x274002 x274003) else (thermionref01_Check.l0 k (decide ((rd x274003 x4) > 0)) (wrap64 (x4 + 1)) x274000 x274001 x274002 x274003)))) else (none)) else (if x3 = true then ((thermionref01_held.f k x274000 x274001 x274002 x274003).bind fun t279 => (thermionref01_Check.l1 k t279 0)) else (some 7))
def thermionref01_Check.l1 : Nat → List Bool → Int → Option (Int)
 | 0, _, _ => none
 | k + 1, x5, x6 => if x6 < (x5.length : Int) then (if 0 ≤ x6 then (if rdOf false x5 x6 = true then (thermionref01_Check.l1 k x5 (wrap64 (x6 + 1))) else (some 13)) else (none)) else (some 0)
end
def thermionref01_Check.f (k : Nat) (a0_0 : Int) (a0_1 : Int) (a0_2 : Bool) (l0_3 : List Int) : Option (Int) := (thermionref01_beyond.f a0_0 1 16).bind fun t274 => (if t274 = true then (thermionref01_Check.j0 k true a0_0 a0_1 a0_2 l0_3) else ((thermionref01_beyond.f a0_1 1 16).bind fun t275 => (thermionref01_Check.j0 k t275 a0_0 a0_1 a0_2 l0_3)))
set_option maxHeartbeats 8000000 in
set_option maxRecDepth 100000 in
theorem thermionref01_Check.calls (k : Nat) (a0_0 : Int) (a0_1 : Int) (a0_2 : Bool) (A0_3 : Option Addr) (c0_3 : Nat) (l0_3 : List Int) (r : Int) (w : World) (hr0_3 : Kd.C (Kd.int .i64) w A0_3 l0_3.length l0_3) (hc0_3 : l0_3.length ≤ c0_3) (h : thermionref01_Check.f k a0_0 a0_1 a0_2 l0_3 = some r) :
  Calls Try.prog 40 #[.agg #[.int .i64 a0_0, .int .i64 a0_1, .bool a0_2, .slice A0_3 l0_3.length c0_3]] w fun e w' => e = .returned (.int .i64 r) ∧ Below w.heap.size w w' := by
 have hu24 := Try.underlying24
 have HR0_3 := Aside0.mk hr0_3
 have HC0_3 := Aside0.mk hc0_3
 clear hr0_3 hc0_3
 have HB := Aside0.mk (Below.refl w.heap.size w)
 have H : ((thermionref01_beyond.f a0_0 1 16).bind fun t274 => (if t274 = true then (thermionref01_Check.j0 k true a0_0 a0_1 a0_2 l0_3) else ((thermionref01_beyond.f a0_1 1 16).bind fun t275 => (thermionref01_Check.j0 k t275 a0_0 a0_1 a0_2 l0_3)))) = some r := h
 clear h
 have HC2 := Aside0.mk H
 clear H
 go_enter Try.func40, Try.ntmps40
 go_upto_region 1 with (first | ((with_reducible refine gate_dst (N := 1) rfl ?_); refine box_event ?hg (N := 1) ?hd (cs := #[.int .i64 a0_0, .int .i64 a0_1, .bool a0_2, .slice A0_3 l0_3.length c0_3]) (t := 24) ?hr ?_; (case hd => rfl); (case hg => rfl); (case hr => first | (go_simp; done) | (go_simp; rfl)); intro gb273 hg w3 hbox hb; have n0_ := Aside0.mk (below_step (by repeat (first | (with_reducible first | exact HB.out | apply below_alloc | apply pw_below_drewN | apply below_drew1) | exact HB.out)) hb); have n1_ := Aside0.mk (hbox); have n2_ := Aside0.mk ((by rw [hg]; exact (below_size (by repeat (first | (with_reducible first | exact HB.out | apply below_alloc | apply pw_below_drewN | apply below_drew1) | exact HB.out))) : w.heap.size ≤ gb273)); have n3_ := Aside0.mk ((by rw [hg]; exact (below_size (by repeat (first | (with_reducible first | exact HB.out | apply below_alloc | apply pw_below_drewN | apply below_drew1) | exact HB.out))) : w.heap.size ≤ gb273)); clear HB; have HB := n0_; have BK273 := n1_; have GW273 := n2_; have GE273 := n3_; clear n0_ n1_ n2_ n3_; clear hb hbox hg))
 (try simp only [Act.put, List.setIfInBounds_toArray, List.set_cons_zero, List.set_cons_succ])
 go_cut [14] (fun v14 wc => ∃ (kq : Nat) (x14_1 : Bool), v14 = .bool x14_1 ∧ Aside0 (thermionref01_Check.j0 kq x14_1 a0_0 a0_1 a0_2 l0_3 = some r) ∧ Aside0 (kq ≤ k) ∧ Aside0 (wc.heap[gb273]? = some (.cells #[.int .i64 a0_0, .int .i64 a0_1, .bool a0_2, (.slice A0_3 l0_3.length c0_3)] 24 (0, 0))) ∧ Aside0 (Below w.heap.size w wc))
 case first =>
  have H := HC2.out
  clear HC2
  replace H := Option.bind_eq_some_iff.mp H
  obtain ⟨t274, A40, H⟩ := H
  replace H : (if t274 = true then (thermionref01_Check.j0 k true a0_0 a0_1 a0_2 l0_3) else ((thermionref01_beyond.f a0_1 1 16).bind fun t275 => (thermionref01_Check.j0 k t275 a0_0 a0_1 a0_2 l0_3))) = some r := H
  have A4 := Aside0.mk A40
  clear A40
  by_cases c5 : t274 = true
  ·subst c5
   have H1 : (thermionref01_Check.j0 k true a0_0 a0_1 a0_2 l0_3) = some r := by rw [if_pos rfl] at H; exact H
   clear H
   have H := H1
   clear H1
   have H' := Aside0.mk H
   clear H
   have hcz6_0 : w3.cell? ⟨gb273, 0, none⟩ = some (.int .i64 a0_0) := (blk_cell BK273.out 0).trans rfl
   have hcz6_1 : w3.cell? ⟨gb273, 1, none⟩ = some (.int .i64 a0_1) := (blk_cell BK273.out 1).trans rfl
   have hcz6_2 : w3.cell? ⟨gb273, 2, none⟩ = some (.bool a0_2) := (blk_cell BK273.out 2).trans rfl
   have hcz6_3 : w3.cell? ⟨gb273, 3, none⟩ = some (.slice A0_3 l0_3.length c0_3) := (blk_cell BK273.out 3).trans rfl
   have hfz6_0 := blk_frozen BK273.out 0
   have hfz6_1 := blk_frozen BK273.out 1
   have hfz6_2 := blk_frozen BK273.out 2
   have hfz6_3 := blk_frozen BK273.out 3
   go_wp2_with (first | ((with_reducible refine gate_callee (f := 73) rfl ?_); refine goesL_ (some 9) rfl rfl Try.func73 (by kernel_rfl) rfl #[.int .i64 a0_0, .int .i64 1, .int .i64 16] rfl (by (try simp only [List.map_toArray, List.map_cons, List.map_nil]); first | done | rfl | (simp only [List.length_drop, List.length_take]; rfl)) ?_; (with_reducible refine (thermionref01_beyond.calls a0_0 1 16 true _ A4.out).mono ?_); rintro e w' ⟨rfl, ⟨nd, rfl⟩⟩; refine ⟨_, rfl, ?_⟩))
   go_meet
   case rel => exact ⟨_, (true), (by first | rfl | (simp; done) | (simp [*]; done)), H', ⟨by first | omega | exact Nat.le_refl _⟩, ⟨by (with_reducible repeat (first | refine blk_drewN ?_ _ | refine blk_drew ?_ | refine blk_alloc ?_ _)); exact BK273.out⟩, ⟨by repeat (first | (with_reducible first | exact HB.out | apply below_alloc | apply pw_below_drewN | apply below_drew1 | refine below_set ?_ GE273.out) | exact HB.out)⟩⟩
  ·replace c5 := Bool.eq_false_iff.mpr c5
   subst c5
   have H1 : ((thermionref01_beyond.f a0_1 1 16).bind fun t275 => (thermionref01_Check.j0 k t275 a0_0 a0_1 a0_2 l0_3)) = some r := by rw [if_neg (show ¬ (false = true) by decide)] at H; exact H
   clear H
   have H := H1
   clear H1
   replace H := Option.bind_eq_some_iff.mp H
   obtain ⟨t275, A70, H⟩ := H
   replace H : (thermionref01_Check.j0 k t275 a0_0 a0_1 a0_2 l0_3) = some r := H
   have A7 := Aside0.mk A70
   clear A70
   have H' := Aside0.mk H
   clear H
   have hcz8_0 : w3.cell? ⟨gb273, 0, none⟩ = some (.int .i64 a0_0) := (blk_cell BK273.out 0).trans rfl
   have hcz8_1 : w3.cell? ⟨gb273, 1, none⟩ = some (.int .i64 a0_1) := (blk_cell BK273.out 1).trans rfl
   have hcz8_2 : w3.cell? ⟨gb273, 2, none⟩ = some (.bool a0_2) := (blk_cell BK273.out 2).trans rfl
   have hcz8_3 : w3.cell? ⟨gb273, 3, none⟩ = some (.slice A0_3 l0_3.length c0_3) := (blk_cell BK273.out 3).trans rfl
   have hfz8_0 := blk_frozen BK273.out 0
   have hfz8_1 := blk_frozen BK273.out 1
   have hfz8_2 := blk_frozen BK273.out 2
   have hfz8_3 := blk_frozen BK273.out 3
   go_wp2_with (first | ((with_reducible refine gate_callee (f := 73) rfl ?_); refine goesL_ (some 9) rfl rfl Try.func73 (by kernel_rfl) rfl #[.int .i64 a0_0, .int .i64 1, .int .i64 16] rfl (by (try simp only [List.map_toArray, List.map_cons, List.map_nil]); first | done | rfl | (simp only [List.length_drop, List.length_take]; rfl)) ?_; (with_reducible refine (thermionref01_beyond.calls a0_0 1 16 false _ A4.out).mono ?_); rintro e w' ⟨rfl, ⟨nd, rfl⟩⟩; refine ⟨_, rfl, ?_⟩) | (go_at_call 73; (with_reducible refine (thermionref01_beyond.calls a0_1 1 16 t275 _ A7.out).mono ?_); rintro e w' ⟨rfl, ⟨nd, rfl⟩⟩))
   go_meet
   case rel => exact ⟨_, (t275), (by first | rfl | (simp; done) | (simp [*]; done)), H', ⟨by first | omega | exact Nat.le_refl _⟩, ⟨by (with_reducible repeat (first | refine blk_drewN ?_ _ | refine blk_drew ?_ | refine blk_alloc ?_ _)); exact BK273.out⟩, ⟨by repeat (first | (with_reducible first | exact HB.out | apply below_alloc | apply pw_below_drewN | apply below_drew1 | refine below_set ?_ GE273.out) | exact HB.out)⟩⟩
 case rest =>
  clear HC2
  try clear p2
  try clear c4
  try clear c5
  try clear c7
  try clear hcz6_0
  try clear hcz6_1
  try clear hcz6_2
  try clear hcz6_3
  try clear hcz8_0
  try clear hcz8_1
  try clear hcz8_2
  try clear hcz8_3
  try clear hfz6_0
  try clear hfz6_1
  try clear hfz6_2
  try clear hfz6_3
  try clear hfz8_0
  try clear hfz8_1
  try clear hfz8_2
  try clear hfz8_3
  obtain ⟨kq, x14_1, rfl, HA, HJ1, BK273, HB⟩ := hcut
  cases kq with
  | zero => exact absurd HA.out (by simp [thermionref01_Check.j0])
  | succ kj1 =>
   have H := HA.out
   clear HA
   simp only [thermionref01_Check.j0] at H
   by_cases c9 : x14_1 = true
   ·subst c9
    have H1 : (some 2) = some r := by rw [if_pos rfl] at H; exact H
    clear H
    have H := H1
    clear H1
    obtain rfl := Option.some.inj H
    go_wp2
    go_ret
    exact ⟨by first | rfl | (simp [errW_none, errW_some] <;> rfl) | (simp [*, errW_none, errW_some] <;> rfl), by repeat (first | (with_reducible first | exact HB.out | apply below_alloc | apply pw_below_drewN | apply below_drew1 | refine below_set ?_ GE273.out) | exact HB.out)⟩
   ·replace c9 := Bool.eq_false_iff.mpr c9
    subst c9
    have H1 : (if (l0_3.length : Int) = (wrap64 (a0_0 * a0_1)) then (thermionref01_Check.l0 kj1 false 0 a0_0 a0_1 a0_2 l0_3) else (some 3)) = some r := by rw [if_neg (show ¬ (false = true) by decide)] at H; exact H
    clear H
    have H := H1
    clear H1
    by_cases c10 : (l0_3.length : Int) = (wrap64 (a0_0 * a0_1))
    ·rw [if_pos c10] at H
     have c10b0 : ((l0_3.length : Int) == (wrap64 (a0_0 * a0_1))) = true := beq_iff_eq.mpr c10
     have c10b1 : ((l0_3.length : Int) != (wrap64 (a0_0 * a0_1))) = false := bne_eq_false_iff_eq.mpr c10
     clear c10
     have H' := Aside0.mk H
     clear H
     have hcz11_0 : wc.cell? ⟨gb273, 0, none⟩ = some (.int .i64 a0_0) := (blk_cell BK273.out 0).trans rfl
     have hcz11_1 : wc.cell? ⟨gb273, 1, none⟩ = some (.int .i64 a0_1) := (blk_cell BK273.out 1).trans rfl
     have hcz11_2 : wc.cell? ⟨gb273, 2, none⟩ = some (.bool a0_2) := (blk_cell BK273.out 2).trans rfl
     have hcz11_3 : wc.cell? ⟨gb273, 3, none⟩ = some (.slice A0_3 l0_3.length c0_3) := (blk_cell BK273.out 3).trans rfl
     have hfz11_0 := blk_frozen BK273.out 0
     have hfz11_1 := blk_frozen BK273.out 1
     have hfz11_2 := blk_frozen BK273.out 2
     have hfz11_3 := blk_frozen BK273.out 3
     go_wp2
     go_loopg [3, 4] kj1 (fun kq v3 v4 w' => ∃ (x3_2 : Bool) (x4_2 : Int), v3 = .bool x3_2 ∧ v4 = .int .i64 x4_2 ∧ Aside0 (thermionref01_Check.l0 kq x3_2 x4_2 a0_0 a0_1 a0_2 l0_3 = some r) ∧ Aside0 (kq ≤ kj1) ∧ Aside0 (w'.heap[gb273]? = some (.cells #[.int .i64 a0_0, .int .i64 a0_1, .bool a0_2, (.slice A0_3 l0_3.length c0_3)] 24 (0, 0))) ∧ Aside0 (Below w.heap.size w w'))
     case atStart => exact ⟨(false), (0), (by first | rfl | (simp; done) | (simp [*]; done)), (by first | rfl | (simp; done) | (simp [*]; done)), H', ⟨Nat.le_refl _⟩, ⟨by (with_reducible repeat (first | refine blk_drewN ?_ _ | refine blk_drew ?_ | refine blk_alloc ?_ _)); exact BK273.out⟩, ⟨by repeat (first | (with_reducible first | exact HB.out | apply below_alloc | apply pw_below_drewN | apply below_drew1 | refine below_set ?_ GE273.out) | exact HB.out)⟩⟩
     case round =>
      clear H'
      try clear c1
      try clear p2
      try clear c4
      try clear c5
      try clear p6
      try clear c7
      try clear c9
      try clear c10
      try clear c10b0
      try clear c10b1
      try clear hcz11_0
      try clear hcz11_1
      try clear hcz11_2
      try clear hcz11_3
      try clear hcz6_0
      try clear hcz6_1
      try clear hcz6_2
      try clear hcz6_3
      try clear hcz8_0
      try clear hcz8_1
      try clear hcz8_2
      try clear hcz8_3
      try clear hfz11_0
      try clear hfz11_1
      try clear hfz11_2
      try clear hfz11_3
      try clear hfz6_0
      try clear hfz6_1
      try clear hfz6_2
      try clear hfz6_3
      try clear hfz8_0
      try clear hfz8_1
      try clear hfz8_2
      try clear hfz8_3
      try clear p2
      obtain ⟨x3_2, x4_2, rfl, rfl, HA, HK2, BK273, HB⟩ := hrel
      cases gk with
      | zero => exact absurd HA.out (by simp [thermionref01_Check.l0])
      | succ k2 =>
       have H := HA.out
       clear HA
       simp only [thermionref01_Check.l0] at H
       by_cases c12 : x4_2 < (l0_3.length : Int)
       ·rw [if_pos c12] at H
        have c12b0 := decide_eq_true c12
        clear c12
        by_cases c13 : 0 ≤ x4_2
        ·rw [if_pos c13] at H
         have c13b0 := decide_eq_true c13
         clear c13
         replace H := Option.bind_eq_some_iff.mp H
         obtain ⟨t277, A140, H⟩ := H
         replace H : (if t277 = true then (some 2) else (if x3_2 = true then (thermionref01_Check.l0 k2 true (wrap64 (x4_2 + 1)) a0_0 a0_1 a0_2 l0_3) else (thermionref01_Check.l0 k2 (decide ((rd l0_3 x4_2) > 0)) (wrap64 (x4_2 + 1)) a0_0 a0_1 a0_2 l0_3))) = some r := H
         have A14 := Aside0.mk A140
         clear A140
         by_cases c15 : t277 = true
         ·subst c15
          have H1 : (some 2) = some r := by rw [if_pos rfl] at H; exact H
          clear H
          have H := H1
          clear H1
          obtain rfl := Option.some.inj H
          have hcz16_0 : wr.cell? ⟨gb273, 0, none⟩ = some (.int .i64 a0_0) := (blk_cell BK273.out 0).trans rfl
          have hcz16_1 : wr.cell? ⟨gb273, 1, none⟩ = some (.int .i64 a0_1) := (blk_cell BK273.out 1).trans rfl
          have hcz16_2 : wr.cell? ⟨gb273, 2, none⟩ = some (.bool a0_2) := (blk_cell BK273.out 2).trans rfl
          have hcz16_3 : wr.cell? ⟨gb273, 3, none⟩ = some (.slice A0_3 l0_3.length c0_3) := (blk_cell BK273.out 3).trans rfl
          have hfz16_0 := blk_frozen BK273.out 0
          have hfz16_1 := blk_frozen BK273.out 1
          have hfz16_2 := blk_frozen BK273.out 2
          have hfz16_3 := blk_frozen BK273.out 3
          have p276 : 0 ≤ (x4_2 : Int) := of_decide_eq_true (by first | (with_reducible assumption) | assumption)
          have q276 : x4_2 < (l0_3.length : Int) := of_decide_eq_true (by first | (with_reducible assumption) | assumption)
          obtain ⟨ad276, e276, hx276_0⟩ := Kd.at_int HR0_3.out x4_2 p276 q276
          cases e276
          replace hx276_0 := (HB.out.cell (World.block_lt_of_cell? w _ hx276_0)).trans hx276_0
          replace p276 := eq_true p276
          replace q276 := eq_true q276
          go_wp2_with (first | ((with_reducible refine gate_callee (f := 73) rfl ?_); refine goesL_ (some 36) rfl rfl Try.func73 (by kernel_rfl) rfl #[.int .i64 (rd l0_3 x4_2), .int .i64 0, .int .i64 6] rfl (by (try simp only [List.map_toArray, List.map_cons, List.map_nil]); first | done | rfl | (simp only [List.length_drop, List.length_take]; rfl)) ?_; (with_reducible refine (thermionref01_beyond.calls (rd l0_3 x4_2) 0 6 true _ A14.out).mono ?_); rintro e w' ⟨rfl, ⟨nd, rfl⟩⟩; refine ⟨_, rfl, ?_⟩))
          go_ret
          exact ⟨by first | rfl | (simp [errW_none, errW_some] <;> rfl) | (simp [*, errW_none, errW_some] <;> rfl), by repeat (first | (with_reducible first | exact HB.out | apply below_alloc | apply pw_below_drewN | apply below_drew1 | refine below_set ?_ GE273.out) | exact HB.out)⟩
         ·replace c15 := Bool.eq_false_iff.mpr c15
          subst c15
          have H1 : (if x3_2 = true then (thermionref01_Check.l0 k2 true (wrap64 (x4_2 + 1)) a0_0 a0_1 a0_2 l0_3) else (thermionref01_Check.l0 k2 (decide ((rd l0_3 x4_2) > 0)) (wrap64 (x4_2 + 1)) a0_0 a0_1 a0_2 l0_3)) = some r := by rw [if_neg (show ¬ (false = true) by decide)] at H; exact H
          clear H
          have H := H1
          clear H1
          by_cases c17 : x3_2 = true
          ·subst c17
           have H1 : (thermionref01_Check.l0 k2 true (wrap64 (x4_2 + 1)) a0_0 a0_1 a0_2 l0_3) = some r := by rw [if_pos rfl] at H; exact H
           clear H
           have H := H1
           clear H1
           have H' := Aside0.mk H
           clear H
           have hcz18_0 : wr.cell? ⟨gb273, 0, none⟩ = some (.int .i64 a0_0) := (blk_cell BK273.out 0).trans rfl
           have hcz18_1 : wr.cell? ⟨gb273, 1, none⟩ = some (.int .i64 a0_1) := (blk_cell BK273.out 1).trans rfl
           have hcz18_2 : wr.cell? ⟨gb273, 2, none⟩ = some (.bool a0_2) := (blk_cell BK273.out 2).trans rfl
           have hcz18_3 : wr.cell? ⟨gb273, 3, none⟩ = some (.slice A0_3 l0_3.length c0_3) := (blk_cell BK273.out 3).trans rfl
           have hfz18_0 := blk_frozen BK273.out 0
           have hfz18_1 := blk_frozen BK273.out 1
           have hfz18_2 := blk_frozen BK273.out 2
           have hfz18_3 := blk_frozen BK273.out 3
           have p276 : 0 ≤ (x4_2 : Int) := of_decide_eq_true (by first | (with_reducible assumption) | assumption)
           have q276 : x4_2 < (l0_3.length : Int) := of_decide_eq_true (by first | (with_reducible assumption) | assumption)
           obtain ⟨ad276, e276, hx276_0⟩ := Kd.at_int HR0_3.out x4_2 p276 q276
           cases e276
           replace hx276_0 := (HB.out.cell (World.block_lt_of_cell? w _ hx276_0)).trans hx276_0
           replace p276 := eq_true p276
           replace q276 := eq_true q276
           go_wp2_with (first | ((with_reducible refine gate_callee (f := 73) rfl ?_); refine goesL_ (some 36) rfl rfl Try.func73 (by kernel_rfl) rfl #[.int .i64 (rd l0_3 x4_2), .int .i64 0, .int .i64 6] rfl (by (try simp only [List.map_toArray, List.map_cons, List.map_nil]); first | done | rfl | (simp only [List.length_drop, List.length_take]; rfl)) ?_; (with_reducible refine (thermionref01_beyond.calls (rd l0_3 x4_2) 0 6 false _ A14.out).mono ?_); rintro e w' ⟨rfl, ⟨nd, rfl⟩⟩; refine ⟨_, rfl, ?_⟩))
           go_roundg k2
           case measure => have := HJ1.out; have := HK2.out; omega
           case rel => exact ⟨(true), (wrap64 (x4_2 + 1)), (by first | rfl | (simp; done) | (simp [*]; done)), (by first | rfl | (simp; done) | (simp [*]; done)), H', ⟨by have := HJ1.out; have := HK2.out; omega⟩, ⟨by (with_reducible repeat (first | refine blk_drewN ?_ _ | refine blk_drew ?_ | refine blk_alloc ?_ _)); exact BK273.out⟩, ⟨by repeat (first | (with_reducible first | exact HB.out | apply below_alloc | apply pw_below_drewN | apply below_drew1 | refine below_set ?_ GE273.out) | exact HB.out)⟩⟩
          ·replace c17 := Bool.eq_false_iff.mpr c17
           subst c17
           have H1 : (thermionref01_Check.l0 k2 (decide ((rd l0_3 x4_2) > 0)) (wrap64 (x4_2 + 1)) a0_0 a0_1 a0_2 l0_3) = some r := by rw [if_neg (show ¬ (false = true) by decide)] at H; exact H
           clear H
           have H := H1
           clear H1
           have H' := Aside0.mk H
           clear H
           have hcz19_0 : wr.cell? ⟨gb273, 0, none⟩ = some (.int .i64 a0_0) := (blk_cell BK273.out 0).trans rfl
           have hcz19_1 : wr.cell? ⟨gb273, 1, none⟩ = some (.int .i64 a0_1) := (blk_cell BK273.out 1).trans rfl
           have hcz19_2 : wr.cell? ⟨gb273, 2, none⟩ = some (.bool a0_2) := (blk_cell BK273.out 2).trans rfl
           have hcz19_3 : wr.cell? ⟨gb273, 3, none⟩ = some (.slice A0_3 l0_3.length c0_3) := (blk_cell BK273.out 3).trans rfl
           have hfz19_0 := blk_frozen BK273.out 0
           have hfz19_1 := blk_frozen BK273.out 1
           have hfz19_2 := blk_frozen BK273.out 2
           have hfz19_3 := blk_frozen BK273.out 3
           have p276 : 0 ≤ (x4_2 : Int) := of_decide_eq_true (by first | (with_reducible assumption) | assumption)
           have q276 : x4_2 < (l0_3.length : Int) := of_decide_eq_true (by first | (with_reducible assumption) | assumption)
           obtain ⟨ad276, e276, hx276_0⟩ := Kd.at_int HR0_3.out x4_2 p276 q276
           cases e276
           replace hx276_0 := (HB.out.cell (World.block_lt_of_cell? w _ hx276_0)).trans hx276_0
           replace p276 := eq_true p276
           replace q276 := eq_true q276
           go_wp2_with (first | ((with_reducible refine gate_callee (f := 73) rfl ?_); refine goesL_ (some 36) rfl rfl Try.func73 (by kernel_rfl) rfl #[.int .i64 (rd l0_3 x4_2), .int .i64 0, .int .i64 6] rfl (by (try simp only [List.map_toArray, List.map_cons, List.map_nil]); first | done | rfl | (simp only [List.length_drop, List.length_take]; rfl)) ?_; (with_reducible refine (thermionref01_beyond.calls (rd l0_3 x4_2) 0 6 false _ A14.out).mono ?_); rintro e w' ⟨rfl, ⟨nd, rfl⟩⟩; refine ⟨_, rfl, ?_⟩; have p278 : 0 ≤ (x4_2 : Int) := of_decide_eq_true (by first | (with_reducible assumption) | assumption); have q278 : x4_2 < (l0_3.length : Int) := of_decide_eq_true (by first | (with_reducible assumption) | assumption); obtain ⟨ad278, e278, hx278_0⟩ := Kd.at_int HR0_3.out x4_2 p278 q278; obtain rfl : ad276 = ad278 := (by injection e278); replace hx278_0 := (HB.out.cell (World.block_lt_of_cell? w _ hx278_0)).trans hx278_0; replace p278 := eq_true p278; replace q278 := eq_true q278))
           go_roundg k2
           case measure => have := HJ1.out; have := HK2.out; omega
           case rel => exact ⟨(decide ((rd l0_3 x4_2) > 0)), (wrap64 (x4_2 + 1)), (by first | rfl | (simp; done) | (simp [*]; done)), (by first | rfl | (simp; done) | (simp [*]; done)), H', ⟨by have := HJ1.out; have := HK2.out; omega⟩, ⟨by (with_reducible repeat (first | refine blk_drewN ?_ _ | refine blk_drew ?_ | refine blk_alloc ?_ _)); exact BK273.out⟩, ⟨by repeat (first | (with_reducible first | exact HB.out | apply below_alloc | apply pw_below_drewN | apply below_drew1 | refine below_set ?_ GE273.out) | exact HB.out)⟩⟩
        ·rw [if_neg c13] at H
         exact absurd H (by simp)
       ·rw [if_neg c12] at H
        have c12b0 := decide_eq_false c12
        clear c12
        by_cases c20 : x3_2 = true
        ·subst c20
         have H1 : ((thermionref01_held.f k2 a0_0 a0_1 a0_2 l0_3).bind fun t279 => (thermionref01_Check.l1 k2 t279 0)) = some r := by rw [if_pos rfl] at H; exact H
         clear H
         have H := H1
         clear H1
         replace H := Option.bind_eq_some_iff.mp H
         obtain ⟨t279, A210, H⟩ := H
         replace H : (thermionref01_Check.l1 k2 t279 0) = some r := H
         have A21 := Aside0.mk A210
         clear A210
         have H' := Aside0.mk H
         clear H
         have hcz22_0 : wr.cell? ⟨gb273, 0, none⟩ = some (.int .i64 a0_0) := (blk_cell BK273.out 0).trans rfl
         have hcz22_1 : wr.cell? ⟨gb273, 1, none⟩ = some (.int .i64 a0_1) := (blk_cell BK273.out 1).trans rfl
         have hcz22_2 : wr.cell? ⟨gb273, 2, none⟩ = some (.bool a0_2) := (blk_cell BK273.out 2).trans rfl
         have hcz22_3 : wr.cell? ⟨gb273, 3, none⟩ = some (.slice A0_3 l0_3.length c0_3) := (blk_cell BK273.out 3).trans rfl
         have hfz22_0 := blk_frozen BK273.out 0
         have hfz22_1 := blk_frozen BK273.out 1
         have hfz22_2 := blk_frozen BK273.out 2
         have hfz22_3 := blk_frozen BK273.out 3
         go_wp2_with (first | ((with_reducible refine gate_callee (f := 84) rfl ?_); refine goesL_ (some 49) rfl rfl Try.func84 (by kernel_rfl) rfl #[.agg #[.int .i64 a0_0, .int .i64 a0_1, .bool a0_2, .slice A0_3 l0_3.length c0_3]] rfl (by (try simp only [List.map_toArray, List.map_cons, List.map_nil]); first | done | rfl | (simp only [List.length_drop, List.length_take]; rfl)) ?_; (with_reducible refine (thermionref01_held.calls k2 a0_0 a0_1 a0_2 _ _ l0_3 t279 _ ?side1 ?side2 A21.out).mono ?_); (case side1 => repeat (first | exact (Kd.C_below HR0_3.out HB.out) | (with_reducible refine Kd.C_alloc ?_ _) | (with_reducible refine Kd.C_drewN ?_ _) | (with_reducible refine Kd.C_drew ?_))); (case side2 => exact HC0_3.out); rintro e w23 ⟨v280, rfl, ho0, hb⟩; refine ⟨_, rfl, ?_⟩; have n0_ := Aside0.mk (Kd.R_lower ho0 (below_size (by repeat (first | (with_reducible first | exact HB.out | apply below_alloc | apply pw_below_drewN | apply below_drew1 | refine below_set ?_ GE273.out) | exact HB.out)))); have n1_ := Aside0.mk (blk_below (g := gb273) (o := .cells #[.int .i64 a0_0, .int .i64 a0_1, .bool a0_2, .slice A0_3 l0_3.length c0_3] 24 (0, 0)) (by (with_reducible repeat (first | refine blk_drewN ?_ _ | refine blk_drew ?_ | refine blk_alloc ?_ _)); exact BK273.out) hb); have n2_ := Aside0.mk (below_step (by repeat (first | (with_reducible first | exact HB.out | apply below_alloc | apply pw_below_drewN | apply below_drew1 | refine below_set ?_ GE273.out) | exact HB.out)) hb); clear BK273; clear HB; have HO281 := n0_; have BK273 := n1_; have HB := n2_; clear n0_ n1_ n2_; (try clear hb); (try clear hb2); (try clear hk); (try clear hi); (try clear ho0)))
         go_loopg [6] k2 (fun kq v6 w' => ∃ (x6_3 : Int), v6 = .int .i64 x6_3 ∧ Aside0 (thermionref01_Check.l1 kq t279 x6_3 = some r) ∧ Aside0 (kq ≤ k2) ∧ Aside0 (Kd.R Kd.bool 4 w' w.heap.size (fun _ => True) v280 t279) ∧ Aside0 (w'.heap[gb273]? = some (.cells #[.int .i64 a0_0, .int .i64 a0_1, .bool a0_2, (.slice A0_3 l0_3.length c0_3)] 24 (0, 0))) ∧ Aside0 (Below w.heap.size w w'))
         case atStart => exact ⟨(0), (by first | rfl | (simp; done) | (simp [*]; done)), H', ⟨Nat.le_refl _⟩, ⟨by (with_reducible repeat (first | apply Kd.R_alloc | apply Kd.R_drewN | apply Kd.R_drew)); exact HO281.out⟩, ⟨by (with_reducible repeat (first | refine blk_drewN ?_ _ | refine blk_drew ?_ | refine blk_alloc ?_ _)); exact BK273.out⟩, ⟨by repeat (first | (with_reducible first | exact HB.out | apply below_alloc | apply pw_below_drewN | apply below_drew1 | refine below_set ?_ GE273.out) | exact HB.out)⟩⟩
         case round =>
          clear H'
          try clear c1
          try clear c2
          try clear p2
          try clear q2
          try clear hx2
          try clear c4
          try clear c5
          try clear p6
          try clear c7
          try clear c8
          try clear c9
          try clear c10
          try clear c10b0
          try clear c10b1
          try clear c12
          try clear c12b0
          try clear c13
          try clear c13b0
          try clear c15
          try clear c17
          try clear c20
          try clear hcz11_0
          try clear hcz11_1
          try clear hcz11_2
          try clear hcz11_3
          try clear hcz16_0
          try clear hcz16_1
          try clear hcz16_2
          try clear hcz16_3
          try clear hcz18_0
          try clear hcz18_1
          try clear hcz18_2
          try clear hcz18_3
          try clear hcz19_0
          try clear hcz19_1
          try clear hcz19_2
          try clear hcz19_3
          try clear hcz22_0
          try clear hcz22_1
          try clear hcz22_2
          try clear hcz22_3
          try clear hcz6_0
          try clear hcz6_1
          try clear hcz6_2
          try clear hcz6_3
          try clear hcz8_0
          try clear hcz8_1
          try clear hcz8_2
          try clear hcz8_3
          try clear hfz11_0
          try clear hfz11_1
          try clear hfz11_2
          try clear hfz11_3
          try clear hfz16_0
          try clear hfz16_1
          try clear hfz16_2
          try clear hfz16_3
          try clear hfz18_0
          try clear hfz18_1
          try clear hfz18_2
          try clear hfz18_3
          try clear hfz19_0
          try clear hfz19_1
          try clear hfz19_2
          try clear hfz19_3
          try clear hfz22_0
          try clear hfz22_1
          try clear hfz22_2
          try clear hfz22_3
          try clear hfz6_0
          try clear hfz6_1
          try clear hfz6_2
          try clear hfz6_3
          try clear hfz8_0
          try clear hfz8_1
          try clear hfz8_2
          try clear hfz8_3
          try clear hx276_0
          try clear hx278_0
          try clear p2
          try clear p276
          try clear p278
          try clear p6
          try clear q276
          try clear q278
          obtain ⟨x6_3, rfl, HA, HK3, HO_5, BK273, HB⟩ := hrel
          cases gk with
          | zero => exact absurd HA.out (by simp [thermionref01_Check.l1])
          | succ k3 =>
           have H := HA.out
           clear HA
           simp only [thermionref01_Check.l1] at H
           by_cases c24 : x6_3 < (t279.length : Int)
           ·rw [if_pos c24] at H
            have c24b0 := decide_eq_true c24
            clear c24
            by_cases c25 : 0 ≤ x6_3
            ·rw [if_pos c25] at H
             have c25b0 := decide_eq_true c25
             clear c25
             obtain ⟨bq26, hbq26⟩ : ∃ b_ : Bool, b_ = (rdOf false t279 x6_3) := ⟨_, rfl⟩
             replace H : (if bq26 = true then (thermionref01_Check.l1 k3 t279 (wrap64 (x6_3 + 1))) else (some 13)) = some r := by rw [← hbq26] at H; exact H
             have Nbq26 := Aside0.mk hbq26
             clear hbq26
             by_cases c27 : bq26 = true
             ·subst c27
              have H1 : (thermionref01_Check.l1 k3 t279 (wrap64 (x6_3 + 1))) = some r := by rw [if_pos rfl] at H; exact H
              clear H
              have H := H1
              clear H1
              have H' := Aside0.mk H
              clear H
              obtain ⟨Ao28, co28, eo28⟩ := Kd.R_slice HO_5.out
              subst eo28
              have p282 : 0 ≤ (x6_3 : Int) := of_decide_eq_true (by first | (with_reducible assumption) | assumption)
              have q282 : x6_3 < (t279.length : Int) := of_decide_eq_true (by first | (with_reducible assumption) | assumption)
              obtain ⟨ad282, e282, hx282_0⟩ := Kd.at_bool (Kd.R_reads' HO_5.out).2.2 x6_3 p282 q282
              (try rw [← Nbq26.out] at hx282_0)
              cases e282
              replace p282 := eq_true p282
              replace q282 := eq_true q282
              go_wp2
              go_roundg k3
              case measure => have := HJ1.out; have := HK2.out; have := HK3.out; omega
              case rel => exact ⟨(wrap64 (x6_3 + 1)), (by first | rfl | (simp; done) | (simp [*]; done)), H', ⟨by have := HJ1.out; have := HK2.out; have := HK3.out; omega⟩, ⟨by (with_reducible repeat (first | apply Kd.R_alloc | apply Kd.R_drewN | apply Kd.R_drew)); exact HO_5.out⟩, ⟨by (with_reducible repeat (first | refine blk_drewN ?_ _ | refine blk_drew ?_ | refine blk_alloc ?_ _)); exact BK273.out⟩, ⟨by repeat (first | (with_reducible first | exact HB.out | apply below_alloc | apply pw_below_drewN | apply below_drew1 | refine below_set ?_ GE273.out) | exact HB.out)⟩⟩
             ·replace c27 := Bool.eq_false_iff.mpr c27
              subst c27
              have H1 : (some 13) = some r := by rw [if_neg (show ¬ (false = true) by decide)] at H; exact H
              clear H
              have H := H1
              clear H1
              obtain rfl := Option.some.inj H
              obtain ⟨Ao29, co29, eo29⟩ := Kd.R_slice HO_5.out
              subst eo29
              have p282 : 0 ≤ (x6_3 : Int) := of_decide_eq_true (by first | (with_reducible assumption) | assumption)
              have q282 : x6_3 < (t279.length : Int) := of_decide_eq_true (by first | (with_reducible assumption) | assumption)
              obtain ⟨ad282, e282, hx282_0⟩ := Kd.at_bool (Kd.R_reads' HO_5.out).2.2 x6_3 p282 q282
              (try rw [← Nbq26.out] at hx282_0)
              cases e282
              replace p282 := eq_true p282
              replace q282 := eq_true q282
              go_wp2
              go_ret
              exact ⟨by first | rfl | (simp [errW_none, errW_some] <;> rfl) | (simp [*, errW_none, errW_some] <;> rfl), by repeat (first | (with_reducible first | exact HB.out | apply below_alloc | apply pw_below_drewN | apply below_drew1 | refine below_set ?_ GE273.out) | exact HB.out)⟩
            ·rw [if_neg c25] at H
             exact absurd H (by simp)
           ·rw [if_neg c24] at H
            have c24b0 := decide_eq_false c24
            clear c24
            obtain rfl := Option.some.inj H
            obtain ⟨Ao30, co30, eo30⟩ := Kd.R_slice HO_5.out
            subst eo30
            go_wp2
            go_ret
            exact ⟨by first | rfl | (simp [errW_none, errW_some] <;> rfl) | (simp [*, errW_none, errW_some] <;> rfl), by repeat (first | (with_reducible first | exact HB.out | apply below_alloc | apply pw_below_drewN | apply below_drew1 | refine below_set ?_ GE273.out) | exact HB.out)⟩
        ·replace c20 := Bool.eq_false_iff.mpr c20
         subst c20
         have H1 : (some 7) = some r := by rw [if_neg (show ¬ (false = true) by decide)] at H; exact H
         clear H
         have H := H1
         clear H1
         obtain rfl := Option.some.inj H
         have hcz31_0 : wr.cell? ⟨gb273, 0, none⟩ = some (.int .i64 a0_0) := (blk_cell BK273.out 0).trans rfl
         have hcz31_1 : wr.cell? ⟨gb273, 1, none⟩ = some (.int .i64 a0_1) := (blk_cell BK273.out 1).trans rfl
         have hcz31_2 : wr.cell? ⟨gb273, 2, none⟩ = some (.bool a0_2) := (blk_cell BK273.out 2).trans rfl
         have hcz31_3 : wr.cell? ⟨gb273, 3, none⟩ = some (.slice A0_3 l0_3.length c0_3) := (blk_cell BK273.out 3).trans rfl
         have hfz31_0 := blk_frozen BK273.out 0
         have hfz31_1 := blk_frozen BK273.out 1
         have hfz31_2 := blk_frozen BK273.out 2
         have hfz31_3 := blk_frozen BK273.out 3
         go_wp2
         go_ret
         exact ⟨by first | rfl | (simp [errW_none, errW_some] <;> rfl) | (simp [*, errW_none, errW_some] <;> rfl), by repeat (first | (with_reducible first | exact HB.out | apply below_alloc | apply pw_below_drewN | apply below_drew1 | refine below_set ?_ GE273.out) | exact HB.out)⟩
    ·rw [if_neg c10] at H
     have c10b0 : ((l0_3.length : Int) == (wrap64 (a0_0 * a0_1))) = false := beq_eq_false_iff_ne.mpr c10
     have c10b1 : ((l0_3.length : Int) != (wrap64 (a0_0 * a0_1))) = true := bne_iff_ne.mpr c10
     obtain rfl := Option.some.inj H
     have hcz32_0 : wc.cell? ⟨gb273, 0, none⟩ = some (.int .i64 a0_0) := (blk_cell BK273.out 0).trans rfl
     have hcz32_1 : wc.cell? ⟨gb273, 1, none⟩ = some (.int .i64 a0_1) := (blk_cell BK273.out 1).trans rfl
     have hcz32_2 : wc.cell? ⟨gb273, 2, none⟩ = some (.bool a0_2) := (blk_cell BK273.out 2).trans rfl
     have hcz32_3 : wc.cell? ⟨gb273, 3, none⟩ = some (.slice A0_3 l0_3.length c0_3) := (blk_cell BK273.out 3).trans rfl
     have hfz32_0 := blk_frozen BK273.out 0
     have hfz32_1 := blk_frozen BK273.out 1
     have hfz32_2 := blk_frozen BK273.out 2
     have hfz32_3 := blk_frozen BK273.out 3
     go_wp2
     go_ret
     exact ⟨by first | rfl | (simp [errW_none, errW_some] <;> rfl) | (simp [*, errW_none, errW_some] <;> rfl), by repeat (first | (with_reducible first | exact HB.out | apply below_alloc | apply pw_below_drewN | apply below_drew1 | refine below_set ?_ GE273.out) | exact HB.out)⟩
def thermionref01_greatest.l0 : Nat → Int → Int → Int → Int → Bool → List Int → Option (Int)
 | 0, _, _, _, _, _, _ => none
 | k + 1, x3, x4, x284000, x284001, x284002, x284003 => if x4 < (x284003.length : Int) then (if 0 ≤ x4 then (thermionref01_greatest.l0 k (mx x3 (rd x284003 x4)) (wrap64 (x4 + 1)) x284000 x284001 x284002 x284003) else (none)) else (some x3)
def thermionref01_greatest.f (k : Nat) (a0_0 : Int) (a0_1 : Int) (a0_2 : Bool) (l0_3 : List Int) : Option (Int) := thermionref01_greatest.l0 k 0 0 a0_0 a0_1 a0_2 l0_3
set_option maxHeartbeats 8000000 in
set_option maxRecDepth 100000 in
theorem thermionref01_greatest.calls (k : Nat) (a0_0 : Int) (a0_1 : Int) (a0_2 : Bool) (A0_3 : Option Addr) (c0_3 : Nat) (l0_3 : List Int) (r : Int) (w : World) (hr0_3 : Kd.C (Kd.int .i64) w A0_3 l0_3.length l0_3) (hc0_3 : l0_3.length ≤ c0_3) (h : thermionref01_greatest.f k a0_0 a0_1 a0_2 l0_3 = some r) :
  Calls Try.prog 87 #[.agg #[.int .i64 a0_0, .int .i64 a0_1, .bool a0_2, .slice A0_3 l0_3.length c0_3]] w fun e w' => e = .returned (.int .i64 r) ∧ Below w.heap.size w w' := by
 have hu24 := Try.underlying24
 have HR0_3 := Aside0.mk hr0_3
 have HC0_3 := Aside0.mk hc0_3
 clear hr0_3 hc0_3
 have HB := Aside0.mk (Below.refl w.heap.size w)
 have H : (thermionref01_greatest.l0 k 0 0 a0_0 a0_1 a0_2 l0_3) = some r := h
 clear h
 have H' := Aside0.mk H
 clear H
 go_enter Try.func87, Try.ntmps87
 go_wp2_with (first | ((with_reducible refine gate_dst (N := 1) rfl ?_); refine box_event ?hg (N := 1) ?hd (cs := #[.int .i64 a0_0, .int .i64 a0_1, .bool a0_2, .slice A0_3 l0_3.length c0_3]) (t := 24) ?hr ?_; (case hd => rfl); (case hg => rfl); (case hr => first | (go_simp; done) | (go_simp; rfl)); intro gb283 hg w2 hbox hb; have n0_ := Aside0.mk (below_step (by repeat (first | (with_reducible first | exact HB.out | apply below_alloc | apply pw_below_drewN | apply below_drew1) | exact HB.out)) hb); have n1_ := Aside0.mk (hbox); have n2_ := Aside0.mk ((by rw [hg]; exact (below_size (by repeat (first | (with_reducible first | exact HB.out | apply below_alloc | apply pw_below_drewN | apply below_drew1) | exact HB.out))) : w.heap.size ≤ gb283)); have n3_ := Aside0.mk ((by rw [hg]; exact (below_size (by repeat (first | (with_reducible first | exact HB.out | apply below_alloc | apply pw_below_drewN | apply below_drew1) | exact HB.out))) : w.heap.size ≤ gb283)); clear HB; have HB := n0_; have BK283 := n1_; have GW283 := n2_; have GE283 := n3_; clear n0_ n1_ n2_ n3_; clear hb hbox hg))
 go_loopg [3, 4] k (fun kq v3 v4 w' => ∃ (x3_1 : Int) (x4_1 : Int), v3 = .int .i64 x3_1 ∧ v4 = .int .i64 x4_1 ∧ Aside0 (thermionref01_greatest.l0 kq x3_1 x4_1 a0_0 a0_1 a0_2 l0_3 = some r) ∧ Aside0 (kq ≤ k) ∧ Aside0 (w'.heap[gb283]? = some (.cells #[.int .i64 a0_0, .int .i64 a0_1, .bool a0_2, (.slice A0_3 l0_3.length c0_3)] 24 (0, 0))) ∧ Aside0 (Below w.heap.size w w'))
 case atStart => exact ⟨(0), (0), (by first | rfl | (simp; done) | (simp [*]; done)), (by first | rfl | (simp; done) | (simp [*]; done)), H', ⟨Nat.le_refl _⟩, ⟨by (with_reducible repeat (first | refine blk_drewN ?_ _ | refine blk_drew ?_ | refine blk_alloc ?_ _)); exact BK283.out⟩, ⟨by repeat (first | (with_reducible first | exact HB.out | apply below_alloc | apply pw_below_drewN | apply below_drew1 | refine below_set ?_ GE283.out) | exact HB.out)⟩⟩
 case round =>
  clear H'
  try clear p2
  obtain ⟨x3_1, x4_1, rfl, rfl, HA, HK1, BK283, HB⟩ := hrel
  cases gk with
  | zero => exact absurd HA.out (by simp [thermionref01_greatest.l0])
  | succ k1 =>
   have H := HA.out
   clear HA
   simp only [thermionref01_greatest.l0] at H
   by_cases c3 : x4_1 < (l0_3.length : Int)
   ·rw [if_pos c3] at H
    have c3b0 := decide_eq_true c3
    clear c3
    by_cases c4 : 0 ≤ x4_1
    ·rw [if_pos c4] at H
     have c4b0 := decide_eq_true c4
     clear c4
     obtain ⟨ji5, hji5⟩ : ∃ j_ : Int, (mx x3_1 (rd l0_3 x4_1)) = j_ := ⟨_, rfl⟩
     replace H : (thermionref01_greatest.l0 k1 ji5 (wrap64 (x4_1 + 1)) a0_0 a0_1 a0_2 l0_3) = some r := by first | (rw [hji5] at H; exact H) | (simp only [hji5] at H ⊢; exact H)
     have hji5_ : (if x3_1 < (rd l0_3 x4_1) then (rd l0_3 x4_1) else x3_1) = ji5 := hji5
     have H' := Aside0.mk H
     clear H
     have hcz6_0 : wr.cell? ⟨gb283, 0, none⟩ = some (.int .i64 a0_0) := (blk_cell BK283.out 0).trans rfl
     have hcz6_1 : wr.cell? ⟨gb283, 1, none⟩ = some (.int .i64 a0_1) := (blk_cell BK283.out 1).trans rfl
     have hcz6_2 : wr.cell? ⟨gb283, 2, none⟩ = some (.bool a0_2) := (blk_cell BK283.out 2).trans rfl
     have hcz6_3 : wr.cell? ⟨gb283, 3, none⟩ = some (.slice A0_3 l0_3.length c0_3) := (blk_cell BK283.out 3).trans rfl
     have hfz6_0 := blk_frozen BK283.out 0
     have hfz6_1 := blk_frozen BK283.out 1
     have hfz6_2 := blk_frozen BK283.out 2
     have hfz6_3 := blk_frozen BK283.out 3
     have p284 : 0 ≤ (x4_1 : Int) := of_decide_eq_true (by first | (with_reducible assumption) | assumption)
     have q284 : x4_1 < (l0_3.length : Int) := of_decide_eq_true (by first | (with_reducible assumption) | assumption)
     obtain ⟨ad284, e284, hx284_0⟩ := Kd.at_int HR0_3.out x4_1 p284 q284
     cases e284
     replace hx284_0 := (HB.out.cell (World.block_lt_of_cell? w _ hx284_0)).trans hx284_0
     replace p284 := eq_true p284
     replace q284 := eq_true q284
     go_wp2
     go_roundg k1
     case measure => have := HK1.out; omega
     case rel => exact ⟨(ji5), (wrap64 (x4_1 + 1)), (by first | rfl | (simp; done) | (simp only [← hji5] <;> (first | rfl | simp)) | (simp [*]; done)), (by first | rfl | (simp; done) | (simp [*]; done)), H', ⟨by have := HK1.out; omega⟩, ⟨by (with_reducible repeat (first | refine blk_drewN ?_ _ | refine blk_drew ?_ | refine blk_alloc ?_ _)); exact BK283.out⟩, ⟨by repeat (first | (with_reducible first | exact HB.out | apply below_alloc | apply pw_below_drewN | apply below_drew1 | refine below_set ?_ GE283.out) | exact HB.out)⟩⟩
    ·rw [if_neg c4] at H
     exact absurd H (by simp)
   ·rw [if_neg c3] at H
    have c3b0 := decide_eq_false c3
    clear c3
    obtain rfl := Option.some.inj H
    have hcz7_0 : wr.cell? ⟨gb283, 0, none⟩ = some (.int .i64 a0_0) := (blk_cell BK283.out 0).trans rfl
    have hcz7_1 : wr.cell? ⟨gb283, 1, none⟩ = some (.int .i64 a0_1) := (blk_cell BK283.out 1).trans rfl
    have hcz7_2 : wr.cell? ⟨gb283, 2, none⟩ = some (.bool a0_2) := (blk_cell BK283.out 2).trans rfl
    have hcz7_3 : wr.cell? ⟨gb283, 3, none⟩ = some (.slice A0_3 l0_3.length c0_3) := (blk_cell BK283.out 3).trans rfl
    have hfz7_0 := blk_frozen BK283.out 0
    have hfz7_1 := blk_frozen BK283.out 1
    have hfz7_2 := blk_frozen BK283.out 2
    have hfz7_3 := blk_frozen BK283.out 3
    go_wp2
    go_ret
    exact ⟨by first | rfl | (simp [errW_none, errW_some] <;> rfl) | (simp [*, errW_none, errW_some] <;> rfl), by repeat (first | (with_reducible first | exact HB.out | apply below_alloc | apply pw_below_drewN | apply below_drew1 | refine below_set ?_ GE283.out) | exact HB.out)⟩
def thermionref01_CheckVolts.l0 : Nat → List Int → Int → Option (Int)
 | 0, _, _ => none
 | k + 1, x1, x6 => if x6 < (x1.length : Int) then (if 0 ≤ x6 then ((thermionref01_beyond.f (rd x1 x6) (-1000000) 1000000).bind fun t289 => (if t289 = true then (some 2) else (thermionref01_CheckVolts.l0 k x1 (wrap64 (x6 + 1))))) else (none)) else (some 0)
def thermionref01_CheckVolts.f (k : Nat) (a0_0 : Int) (a0_1 : Int) (a0_2 : Bool) (l0_3 : List Int) (l1 : List Int) : Option (Int) := (thermionref01_Check.f k a0_0 a0_1 a0_2 l0_3).bind fun t286 => (if t286 = 0 then ((thermionref01_greatest.f k a0_0 a0_1 a0_2 l0_3).bind fun t287 => (if (l1.length : Int) = t287 then (thermionref01_CheckVolts.l0 k l1 0) else (some 3))) else (some t286))
set_option maxHeartbeats 8000000 in
set_option maxRecDepth 100000 in
theorem thermionref01_CheckVolts.calls (k : Nat) (a0_0 : Int) (a0_1 : Int) (a0_2 : Bool) (A0_3 : Option Addr) (c0_3 : Nat) (l0_3 : List Int) (A1 : Option Addr) (c1 : Nat) (l1 : List Int) (r : Int) (w : World) (hr0_3 : Kd.C (Kd.int .i64) w A0_3 l0_3.length l0_3) (hc0_3 : l0_3.length ≤ c0_3) (hr1 : Kd.C (Kd.int .i64) w A1 l1.length l1) (hc1 : l1.length ≤ c1) (h : thermionref01_CheckVolts.f k a0_0 a0_1 a0_2 l0_3 l1 = some r) :
  Calls Try.prog 42 #[.agg #[.int .i64 a0_0, .int .i64 a0_1, .bool a0_2, .slice A0_3 l0_3.length c0_3], .slice A1 l1.length c1] w fun e w' => e = .returned (.int .i64 r) ∧ Below w.heap.size w w' := by
 have hu24 := Try.underlying24
 have HR0_3 := Aside0.mk hr0_3
 have HC0_3 := Aside0.mk hc0_3
 clear hr0_3 hc0_3
 have HR1 := Aside0.mk hr1
 have HC1 := Aside0.mk hc1
 clear hr1 hc1
 have HB := Aside0.mk (Below.refl w.heap.size w)
 have H : ((thermionref01_Check.f k a0_0 a0_1 a0_2 l0_3).bind fun t286 => (if t286 = 0 then ((thermionref01_greatest.f k a0_0 a0_1 a0_2 l0_3).bind fun t287 => (if (l1.length : Int) = t287 then (thermionref01_CheckVolts.l0 k l1 0) else (some 3))) else (some t286))) = some r := h
 clear h
 replace H := Option.bind_eq_some_iff.mp H
 obtain ⟨t286, A30, H⟩ := H
 replace H : (if t286 = 0 then ((thermionref01_greatest.f k a0_0 a0_1 a0_2 l0_3).bind fun t287 => (if (l1.length : Int) = t287 then (thermionref01_CheckVolts.l0 k l1 0) else (some 3))) else (some t286)) = some r := H
 have A3 := Aside0.mk A30
 clear A30
 by_cases c4 : t286 = 0
 ·rw [if_pos c4] at H
  have c4b0 : (t286 == 0) = true := beq_iff_eq.mpr c4
  have c4b1 : (t286 != 0) = false := bne_eq_false_iff_eq.mpr c4
  clear c4
  replace H := Option.bind_eq_some_iff.mp H
  obtain ⟨t287, A50, H⟩ := H
  replace H : (if (l1.length : Int) = t287 then (thermionref01_CheckVolts.l0 k l1 0) else (some 3)) = some r := H
  have A5 := Aside0.mk A50
  clear A50
  by_cases c6 : (l1.length : Int) = t287
  ·rw [if_pos c6] at H
   have c6b0 : ((l1.length : Int) == t287) = true := beq_iff_eq.mpr c6
   have c6b1 : ((l1.length : Int) != t287) = false := bne_eq_false_iff_eq.mpr c6
   clear c6
   have H' := Aside0.mk H
   clear H
   go_enter Try.func42, Try.ntmps42
   go_wp2_with (first | ((with_reducible refine gate_dst (N := 2) rfl ?_); refine box_event ?hg (N := 2) ?hd (cs := #[.int .i64 a0_0, .int .i64 a0_1, .bool a0_2, .slice A0_3 l0_3.length c0_3]) (t := 24) ?hr ?_; (case hd => rfl); (case hg => rfl); (case hr => first | (go_simp; done) | (go_simp; rfl)); intro gb285 hg w7 hbox hb; have n0_ := Aside0.mk (below_step (by repeat (first | (with_reducible first | exact HB.out | apply below_alloc | apply pw_below_drewN | apply below_drew1) | exact HB.out)) hb); have n1_ := Aside0.mk (hbox); have n2_ := Aside0.mk ((by rw [hg]; exact (below_size (by repeat (first | (with_reducible first | exact HB.out | apply below_alloc | apply pw_below_drewN | apply below_drew1) | exact HB.out))) : w.heap.size ≤ gb285)); have n3_ := Aside0.mk ((by rw [hg]; exact (below_size (by repeat (first | (with_reducible first | exact HB.out | apply below_alloc | apply pw_below_drewN | apply below_drew1) | exact HB.out))) : w.heap.size ≤ gb285)); clear HB; have HB := n0_; have BK285 := n1_; have GW285 := n2_; have GE285 := n3_; clear n0_ n1_ n2_ n3_; clear hb hbox hg; have hcz8_0 : w7.cell? ⟨gb285, 0, none⟩ = some (.int .i64 a0_0) := (blk_cell BK285.out 0).trans rfl; have hcz8_1 : w7.cell? ⟨gb285, 1, none⟩ = some (.int .i64 a0_1) := (blk_cell BK285.out 1).trans rfl; have hcz8_2 : w7.cell? ⟨gb285, 2, none⟩ = some (.bool a0_2) := (blk_cell BK285.out 2).trans rfl; have hcz8_3 : w7.cell? ⟨gb285, 3, none⟩ = some (.slice A0_3 l0_3.length c0_3) := (blk_cell BK285.out 3).trans rfl; have hfz8_0 := blk_frozen BK285.out 0; have hfz8_1 := blk_frozen BK285.out 1; have hfz8_2 := blk_frozen BK285.out 2; have hfz8_3 := blk_frozen BK285.out 3) | ((with_reducible refine gate_callee (f := 40) rfl ?_); refine goesL_ (some 8) rfl rfl Try.func40 (by kernel_rfl) rfl #[.agg #[.int .i64 a0_0, .int .i64 a0_1, .bool a0_2, .slice A0_3 l0_3.length c0_3]] rfl (by (try simp only [List.map_toArray, List.map_cons, List.map_nil]); first | done | rfl | (simp only [List.length_drop, List.length_take]; rfl)) ?_; (with_reducible refine (thermionref01_Check.calls k a0_0 a0_1 a0_2 _ _ l0_3 t286 _ ?side1 ?side2 A3.out).mono ?_); (case side1 => repeat (first | exact (Kd.C_below HR0_3.out HB.out) | (with_reducible refine Kd.C_alloc ?_ _) | (with_reducible refine Kd.C_drewN ?_ _) | (with_reducible refine Kd.C_drew ?_))); (case side2 => exact HC0_3.out); rintro e w9 ⟨rfl, hb⟩; refine ⟨_, rfl, ?_⟩; have n0_ := Aside0.mk (blk_below (g := gb285) (o := .cells #[.int .i64 a0_0, .int .i64 a0_1, .bool a0_2, .slice A0_3 l0_3.length c0_3] 24 (0, 0)) (by (with_reducible repeat (first | refine blk_drewN ?_ _ | refine blk_drew ?_ | refine blk_alloc ?_ _)); exact BK285.out) hb); have n1_ := Aside0.mk (below_step (by repeat (first | (with_reducible first | exact HB.out | apply below_alloc | apply pw_below_drewN | apply below_drew1 | refine below_set ?_ GE285.out) | exact HB.out)) hb); clear BK285; clear HB; have BK285 := n0_; have HB := n1_; clear n0_ n1_; (try clear hb); (try clear hb2); (try clear hk); (try clear hi); have hcz10_0 : w9.cell? ⟨gb285, 0, none⟩ = some (.int .i64 a0_0) := (blk_cell BK285.out 0).trans rfl; have hcz10_1 : w9.cell? ⟨gb285, 1, none⟩ = some (.int .i64 a0_1) := (blk_cell BK285.out 1).trans rfl; have hcz10_2 : w9.cell? ⟨gb285, 2, none⟩ = some (.bool a0_2) := (blk_cell BK285.out 2).trans rfl; have hcz10_3 : w9.cell? ⟨gb285, 3, none⟩ = some (.slice A0_3 l0_3.length c0_3) := (blk_cell BK285.out 3).trans rfl; have hfz10_0 := blk_frozen BK285.out 0; have hfz10_1 := blk_frozen BK285.out 1; have hfz10_2 := blk_frozen BK285.out 2; have hfz10_3 := blk_frozen BK285.out 3) | ((with_reducible refine gate_callee (f := 87) rfl ?_); refine goesL_ (some 15) rfl rfl Try.func87 (by kernel_rfl) rfl #[.agg #[.int .i64 a0_0, .int .i64 a0_1, .bool a0_2, .slice A0_3 l0_3.length c0_3]] rfl (by (try simp only [List.map_toArray, List.map_cons, List.map_nil]); first | done | rfl | (simp only [List.length_drop, List.length_take]; rfl)) ?_; (with_reducible refine (thermionref01_greatest.calls k a0_0 a0_1 a0_2 _ _ l0_3 t287 _ ?side1 ?side2 A5.out).mono ?_); (case side1 => repeat (first | exact (Kd.C_below HR0_3.out HB.out) | (with_reducible refine Kd.C_alloc ?_ _) | (with_reducible refine Kd.C_drewN ?_ _) | (with_reducible refine Kd.C_drew ?_))); (case side2 => exact HC0_3.out); rintro e w11 ⟨rfl, hb⟩; refine ⟨_, rfl, ?_⟩; have n0_ := Aside0.mk (blk_below (g := gb285) (o := .cells #[.int .i64 a0_0, .int .i64 a0_1, .bool a0_2, .slice A0_3 l0_3.length c0_3] 24 (0, 0)) (by (with_reducible repeat (first | refine blk_drewN ?_ _ | refine blk_drew ?_ | refine blk_alloc ?_ _)); exact BK285.out) hb); have n1_ := Aside0.mk (below_step (by repeat (first | (with_reducible first | exact HB.out | apply below_alloc | apply pw_below_drewN | apply below_drew1 | refine below_set ?_ GE285.out) | exact HB.out)) hb); clear BK285; clear HB; have BK285 := n0_; have HB := n1_; clear n0_ n1_; (try clear hb); (try clear hb2); (try clear hk); (try clear hi)))
   go_loopg [6] k (fun kq v6 w' => ∃ (x6_1 : Int), v6 = .int .i64 x6_1 ∧ Aside0 (thermionref01_CheckVolts.l0 kq l1 x6_1 = some r) ∧ Aside0 (kq ≤ k) ∧ Aside0 (w'.heap[gb285]? = some (.cells #[.int .i64 a0_0, .int .i64 a0_1, .bool a0_2, (.slice A0_3 l0_3.length c0_3)] 24 (0, 0))) ∧ Aside0 (Below w.heap.size w w'))
   case atStart => exact ⟨(0), (by first | rfl | (simp; done) | (simp [*]; done)), H', ⟨Nat.le_refl _⟩, ⟨by (with_reducible repeat (first | refine blk_drewN ?_ _ | refine blk_drew ?_ | refine blk_alloc ?_ _)); exact BK285.out⟩, ⟨by repeat (first | (with_reducible first | exact HB.out | apply below_alloc | apply pw_below_drewN | apply below_drew1 | refine below_set ?_ GE285.out) | exact HB.out)⟩⟩
   case round =>
    clear H'
    try clear c1
    try clear p2
    try clear c4
    try clear c4b0
    try clear c4b1
    try clear c6
    try clear c6b0
    try clear c6b1
    try clear c8
    try clear hcz10_0
    try clear hcz10_1
    try clear hcz10_2
    try clear hcz10_3
    try clear hcz8_0
    try clear hcz8_1
    try clear hcz8_2
    try clear hcz8_3
    try clear hfz10_0
    try clear hfz10_1
    try clear hfz10_2
    try clear hfz10_3
    try clear hfz8_0
    try clear hfz8_1
    try clear hfz8_2
    try clear hfz8_3
    obtain ⟨x6_1, rfl, HA, HK1, BK285, HB⟩ := hrel
    cases gk with
    | zero => exact absurd HA.out (by simp [thermionref01_CheckVolts.l0])
    | succ k1 =>
     have H := HA.out
     clear HA
     simp only [thermionref01_CheckVolts.l0] at H
     by_cases c12 : x6_1 < (l1.length : Int)
     ·rw [if_pos c12] at H
      have c12b0 := decide_eq_true c12
      clear c12
      by_cases c13 : 0 ≤ x6_1
      ·rw [if_pos c13] at H
       have c13b0 := decide_eq_true c13
       clear c13
       replace H := Option.bind_eq_some_iff.mp H
       obtain ⟨t289, A140, H⟩ := H
       replace H : (if t289 = true then (some 2) else (thermionref01_CheckVolts.l0 k1 l1 (wrap64 (x6_1 + 1)))) = some r := H
       have A14 := Aside0.mk A140
       clear A140
       by_cases c15 : t289 = true
       ·subst c15
        have H1 : (some 2) = some r := by rw [if_pos rfl] at H; exact H
        clear H
        have H := H1
        clear H1
        obtain rfl := Option.some.inj H
        have p288 : 0 ≤ (x6_1 : Int) := of_decide_eq_true (by first | (with_reducible assumption) | assumption)
        have q288 : x6_1 < (l1.length : Int) := of_decide_eq_true (by first | (with_reducible assumption) | assumption)
        obtain ⟨ad288, e288, hx288_0⟩ := Kd.at_int HR1.out x6_1 p288 q288
        cases e288
        replace hx288_0 := (HB.out.cell (World.block_lt_of_cell? w _ hx288_0)).trans hx288_0
        replace p288 := eq_true p288
        replace q288 := eq_true q288
        go_wp2_with (first | ((with_reducible refine gate_callee (f := 73) rfl ?_); refine goesL_ (some 27) rfl rfl Try.func73 (by kernel_rfl) rfl #[.int .i64 (rd l1 x6_1), .int .i64 (-1000000), .int .i64 1000000] rfl (by (try simp only [List.map_toArray, List.map_cons, List.map_nil]); first | done | rfl | (simp only [List.length_drop, List.length_take]; rfl)) ?_; (with_reducible refine (thermionref01_beyond.calls (rd l1 x6_1) (-1000000) 1000000 true _ A14.out).mono ?_); rintro e w' ⟨rfl, ⟨nd, rfl⟩⟩; refine ⟨_, rfl, ?_⟩))
        go_ret
        exact ⟨by first | rfl | (simp [errW_none, errW_some] <;> rfl) | (simp [*, errW_none, errW_some] <;> rfl), by repeat (first | (with_reducible first | exact HB.out | apply below_alloc | apply pw_below_drewN | apply below_drew1 | refine below_set ?_ GE285.out) | exact HB.out)⟩
       ·replace c15 := Bool.eq_false_iff.mpr c15
        subst c15
        have H1 : (thermionref01_CheckVolts.l0 k1 l1 (wrap64 (x6_1 + 1))) = some r := by rw [if_neg (show ¬ (false = true) by decide)] at H; exact H
        clear H
        have H := H1
        clear H1
        have H' := Aside0.mk H
        clear H
        have p288 : 0 ≤ (x6_1 : Int) := of_decide_eq_true (by first | (with_reducible assumption) | assumption)
        have q288 : x6_1 < (l1.length : Int) := of_decide_eq_true (by first | (with_reducible assumption) | assumption)
        obtain ⟨ad288, e288, hx288_0⟩ := Kd.at_int HR1.out x6_1 p288 q288
        cases e288
        replace hx288_0 := (HB.out.cell (World.block_lt_of_cell? w _ hx288_0)).trans hx288_0
        replace p288 := eq_true p288
        replace q288 := eq_true q288
        go_wp2_with (first | ((with_reducible refine gate_callee (f := 73) rfl ?_); refine goesL_ (some 27) rfl rfl Try.func73 (by kernel_rfl) rfl #[.int .i64 (rd l1 x6_1), .int .i64 (-1000000), .int .i64 1000000] rfl (by (try simp only [List.map_toArray, List.map_cons, List.map_nil]); first | done | rfl | (simp only [List.length_drop, List.length_take]; rfl)) ?_; (with_reducible refine (thermionref01_beyond.calls (rd l1 x6_1) (-1000000) 1000000 false _ A14.out).mono ?_); rintro e w' ⟨rfl, ⟨nd, rfl⟩⟩; refine ⟨_, rfl, ?_⟩))
        go_roundg k1
        case measure => have := HK1.out; omega
        case rel => exact ⟨(wrap64 (x6_1 + 1)), (by first | rfl | (simp; done) | (simp [*]; done)), H', ⟨by have := HK1.out; omega⟩, ⟨by (with_reducible repeat (first | refine blk_drewN ?_ _ | refine blk_drew ?_ | refine blk_alloc ?_ _)); exact BK285.out⟩, ⟨by repeat (first | (with_reducible first | exact HB.out | apply below_alloc | apply pw_below_drewN | apply below_drew1 | refine below_set ?_ GE285.out) | exact HB.out)⟩⟩
      ·rw [if_neg c13] at H
       exact absurd H (by simp)
     ·rw [if_neg c12] at H
      have c12b0 := decide_eq_false c12
      clear c12
      obtain rfl := Option.some.inj H
      go_wp2
      go_ret
      exact ⟨by first | rfl | (simp [errW_none, errW_some] <;> rfl) | (simp [*, errW_none, errW_some] <;> rfl), by repeat (first | (with_reducible first | exact HB.out | apply below_alloc | apply pw_below_drewN | apply below_drew1 | refine below_set ?_ GE285.out) | exact HB.out)⟩
  ·rw [if_neg c6] at H
   have c6b0 : ((l1.length : Int) == t287) = false := beq_eq_false_iff_ne.mpr c6
   have c6b1 : ((l1.length : Int) != t287) = true := bne_iff_ne.mpr c6
   obtain rfl := Option.some.inj H
   go_enter Try.func42, Try.ntmps42
   go_wp2_with (first | ((with_reducible refine gate_dst (N := 2) rfl ?_); refine box_event ?hg (N := 2) ?hd (cs := #[.int .i64 a0_0, .int .i64 a0_1, .bool a0_2, .slice A0_3 l0_3.length c0_3]) (t := 24) ?hr ?_; (case hd => rfl); (case hg => rfl); (case hr => first | (go_simp; done) | (go_simp; rfl)); intro gb285 hg w16 hbox hb; have n0_ := Aside0.mk (below_step (by repeat (first | (with_reducible first | exact HB.out | apply below_alloc | apply pw_below_drewN | apply below_drew1) | exact HB.out)) hb); have n1_ := Aside0.mk (hbox); have n2_ := Aside0.mk ((by rw [hg]; exact (below_size (by repeat (first | (with_reducible first | exact HB.out | apply below_alloc | apply pw_below_drewN | apply below_drew1) | exact HB.out))) : w.heap.size ≤ gb285)); have n3_ := Aside0.mk ((by rw [hg]; exact (below_size (by repeat (first | (with_reducible first | exact HB.out | apply below_alloc | apply pw_below_drewN | apply below_drew1) | exact HB.out))) : w.heap.size ≤ gb285)); clear HB; have HB := n0_; have BK285 := n1_; have GW285 := n2_; have GE285 := n3_; clear n0_ n1_ n2_ n3_; clear hb hbox hg; have hcz17_0 : w16.cell? ⟨gb285, 0, none⟩ = some (.int .i64 a0_0) := (blk_cell BK285.out 0).trans rfl; have hcz17_1 : w16.cell? ⟨gb285, 1, none⟩ = some (.int .i64 a0_1) := (blk_cell BK285.out 1).trans rfl; have hcz17_2 : w16.cell? ⟨gb285, 2, none⟩ = some (.bool a0_2) := (blk_cell BK285.out 2).trans rfl; have hcz17_3 : w16.cell? ⟨gb285, 3, none⟩ = some (.slice A0_3 l0_3.length c0_3) := (blk_cell BK285.out 3).trans rfl; have hfz17_0 := blk_frozen BK285.out 0; have hfz17_1 := blk_frozen BK285.out 1; have hfz17_2 := blk_frozen BK285.out 2; have hfz17_3 := blk_frozen BK285.out 3) | ((with_reducible refine gate_callee (f := 40) rfl ?_); refine goesL_ (some 8) rfl rfl Try.func40 (by kernel_rfl) rfl #[.agg #[.int .i64 a0_0, .int .i64 a0_1, .bool a0_2, .slice A0_3 l0_3.length c0_3]] rfl (by (try simp only [List.map_toArray, List.map_cons, List.map_nil]); first | done | rfl | (simp only [List.length_drop, List.length_take]; rfl)) ?_; (with_reducible refine (thermionref01_Check.calls k a0_0 a0_1 a0_2 _ _ l0_3 t286 _ ?side1 ?side2 A3.out).mono ?_); (case side1 => repeat (first | exact (Kd.C_below HR0_3.out HB.out) | (with_reducible refine Kd.C_alloc ?_ _) | (with_reducible refine Kd.C_drewN ?_ _) | (with_reducible refine Kd.C_drew ?_))); (case side2 => exact HC0_3.out); rintro e w18 ⟨rfl, hb⟩; refine ⟨_, rfl, ?_⟩; have n0_ := Aside0.mk (blk_below (g := gb285) (o := .cells #[.int .i64 a0_0, .int .i64 a0_1, .bool a0_2, .slice A0_3 l0_3.length c0_3] 24 (0, 0)) (by (with_reducible repeat (first | refine blk_drewN ?_ _ | refine blk_drew ?_ | refine blk_alloc ?_ _)); exact BK285.out) hb); have n1_ := Aside0.mk (below_step (by repeat (first | (with_reducible first | exact HB.out | apply below_alloc | apply pw_below_drewN | apply below_drew1 | refine below_set ?_ GE285.out) | exact HB.out)) hb); clear BK285; clear HB; have BK285 := n0_; have HB := n1_; clear n0_ n1_; (try clear hb); (try clear hb2); (try clear hk); (try clear hi); have hcz19_0 : w18.cell? ⟨gb285, 0, none⟩ = some (.int .i64 a0_0) := (blk_cell BK285.out 0).trans rfl; have hcz19_1 : w18.cell? ⟨gb285, 1, none⟩ = some (.int .i64 a0_1) := (blk_cell BK285.out 1).trans rfl; have hcz19_2 : w18.cell? ⟨gb285, 2, none⟩ = some (.bool a0_2) := (blk_cell BK285.out 2).trans rfl; have hcz19_3 : w18.cell? ⟨gb285, 3, none⟩ = some (.slice A0_3 l0_3.length c0_3) := (blk_cell BK285.out 3).trans rfl; have hfz19_0 := blk_frozen BK285.out 0; have hfz19_1 := blk_frozen BK285.out 1; have hfz19_2 := blk_frozen BK285.out 2; have hfz19_3 := blk_frozen BK285.out 3) | ((with_reducible refine gate_callee (f := 87) rfl ?_); refine goesL_ (some 15) rfl rfl Try.func87 (by kernel_rfl) rfl #[.agg #[.int .i64 a0_0, .int .i64 a0_1, .bool a0_2, .slice A0_3 l0_3.length c0_3]] rfl (by (try simp only [List.map_toArray, List.map_cons, List.map_nil]); first | done | rfl | (simp only [List.length_drop, List.length_take]; rfl)) ?_; (with_reducible refine (thermionref01_greatest.calls k a0_0 a0_1 a0_2 _ _ l0_3 t287 _ ?side1 ?side2 A5.out).mono ?_); (case side1 => repeat (first | exact (Kd.C_below HR0_3.out HB.out) | (with_reducible refine Kd.C_alloc ?_ _) | (with_reducible refine Kd.C_drewN ?_ _) | (with_reducible refine Kd.C_drew ?_))); (case side2 => exact HC0_3.out); rintro e w20 ⟨rfl, hb⟩; refine ⟨_, rfl, ?_⟩; have n0_ := Aside0.mk (blk_below (g := gb285) (o := .cells #[.int .i64 a0_0, .int .i64 a0_1, .bool a0_2, .slice A0_3 l0_3.length c0_3] 24 (0, 0)) (by (with_reducible repeat (first | refine blk_drewN ?_ _ | refine blk_drew ?_ | refine blk_alloc ?_ _)); exact BK285.out) hb); have n1_ := Aside0.mk (below_step (by repeat (first | (with_reducible first | exact HB.out | apply below_alloc | apply pw_below_drewN | apply below_drew1 | refine below_set ?_ GE285.out) | exact HB.out)) hb); clear BK285; clear HB; have BK285 := n0_; have HB := n1_; clear n0_ n1_; (try clear hb); (try clear hb2); (try clear hk); (try clear hi)))
   go_ret
   exact ⟨by first | rfl | (simp [errW_none, errW_some] <;> rfl) | (simp [*, errW_none, errW_some] <;> rfl), by repeat (first | (with_reducible first | exact HB.out | apply below_alloc | apply pw_below_drewN | apply below_drew1 | refine below_set ?_ GE285.out) | exact HB.out)⟩
 ·rw [if_neg c4] at H
  have c4b0 : (t286 == 0) = false := beq_eq_false_iff_ne.mpr c4
  have c4b1 : (t286 != 0) = true := bne_iff_ne.mpr c4
  obtain rfl := Option.some.inj H
  go_enter Try.func42, Try.ntmps42
  go_wp2_with (first | ((with_reducible refine gate_dst (N := 2) rfl ?_); refine box_event ?hg (N := 2) ?hd (cs := #[.int .i64 a0_0, .int .i64 a0_1, .bool a0_2, .slice A0_3 l0_3.length c0_3]) (t := 24) ?hr ?_; (case hd => rfl); (case hg => rfl); (case hr => first | (go_simp; done) | (go_simp; rfl)); intro gb285 hg w21 hbox hb; have n0_ := Aside0.mk (below_step (by repeat (first | (with_reducible first | exact HB.out | apply below_alloc | apply pw_below_drewN | apply below_drew1) | exact HB.out)) hb); have n1_ := Aside0.mk (hbox); have n2_ := Aside0.mk ((by rw [hg]; exact (below_size (by repeat (first | (with_reducible first | exact HB.out | apply below_alloc | apply pw_below_drewN | apply below_drew1) | exact HB.out))) : w.heap.size ≤ gb285)); have n3_ := Aside0.mk ((by rw [hg]; exact (below_size (by repeat (first | (with_reducible first | exact HB.out | apply below_alloc | apply pw_below_drewN | apply below_drew1) | exact HB.out))) : w.heap.size ≤ gb285)); clear HB; have HB := n0_; have BK285 := n1_; have GW285 := n2_; have GE285 := n3_; clear n0_ n1_ n2_ n3_; clear hb hbox hg; have hcz22_0 : w21.cell? ⟨gb285, 0, none⟩ = some (.int .i64 a0_0) := (blk_cell BK285.out 0).trans rfl; have hcz22_1 : w21.cell? ⟨gb285, 1, none⟩ = some (.int .i64 a0_1) := (blk_cell BK285.out 1).trans rfl; have hcz22_2 : w21.cell? ⟨gb285, 2, none⟩ = some (.bool a0_2) := (blk_cell BK285.out 2).trans rfl; have hcz22_3 : w21.cell? ⟨gb285, 3, none⟩ = some (.slice A0_3 l0_3.length c0_3) := (blk_cell BK285.out 3).trans rfl; have hfz22_0 := blk_frozen BK285.out 0; have hfz22_1 := blk_frozen BK285.out 1; have hfz22_2 := blk_frozen BK285.out 2; have hfz22_3 := blk_frozen BK285.out 3) | ((with_reducible refine gate_callee (f := 40) rfl ?_); refine goesL_ (some 8) rfl rfl Try.func40 (by kernel_rfl) rfl #[.agg #[.int .i64 a0_0, .int .i64 a0_1, .bool a0_2, .slice A0_3 l0_3.length c0_3]] rfl (by (try simp only [List.map_toArray, List.map_cons, List.map_nil]); first | done | rfl | (simp only [List.length_drop, List.length_take]; rfl)) ?_; (with_reducible refine (thermionref01_Check.calls k a0_0 a0_1 a0_2 _ _ l0_3 t286 _ ?side1 ?side2 A3.out).mono ?_); (case side1 => repeat (first | exact (Kd.C_below HR0_3.out HB.out) | (with_reducible refine Kd.C_alloc ?_ _) | (with_reducible refine Kd.C_drewN ?_ _) | (with_reducible refine Kd.C_drew ?_))); (case side2 => exact HC0_3.out); rintro e w23 ⟨rfl, hb⟩; refine ⟨_, rfl, ?_⟩; have n0_ := Aside0.mk (blk_below (g := gb285) (o := .cells #[.int .i64 a0_0, .int .i64 a0_1, .bool a0_2, .slice A0_3 l0_3.length c0_3] 24 (0, 0)) (by (with_reducible repeat (first | refine blk_drewN ?_ _ | refine blk_drew ?_ | refine blk_alloc ?_ _)); exact BK285.out) hb); have n1_ := Aside0.mk (below_step (by repeat (first | (with_reducible first | exact HB.out | apply below_alloc | apply pw_below_drewN | apply below_drew1 | refine below_set ?_ GE285.out) | exact HB.out)) hb); clear BK285; clear HB; have BK285 := n0_; have HB := n1_; clear n0_ n1_; (try clear hb); (try clear hb2); (try clear hk); (try clear hi)))
  go_ret
  exact ⟨by first | rfl | (simp [errW_none, errW_some] <;> rfl) | (simp [*, errW_none, errW_some] <;> rfl), by repeat (first | (with_reducible first | exact HB.out | apply below_alloc | apply pw_below_drewN | apply below_drew1 | refine below_set ?_ GE285.out) | exact HB.out)⟩
end Go.Proofs.Ytndkkjpgnmahbaa.Print
end

section
namespace Go.Proofs.Ytndkkjpgnmahbaa.Print
open Go.RowKit Go.Proofs.YtndkkjpgnmahbaaW.PrintWords Go.Proofs.YtndkkjpgnmahbaaW.PrintLast Go.Proofs.YtndkkjpgnmahbaaW.PrintMore Go.Proofs.Field
set_option linter.unusedVariables false
def Ev {α : Type} (f : Nat → Option α) (r : α) : Prop := ∃ K, ∀ k, K ≤ k → f k = some r
theorem Ev.step {α : Type} {f g : Nat → Option α} {r : α} (hg : Ev g r) (K0 : Nat) (h : ∀ k, K0 ≤ k → f (k + 1) = g k) : Ev f r := by
 obtain ⟨K, hK⟩ := hg
 refine ⟨K + K0 + 1, fun k hk => ?_⟩
 obtain ⟨k, rfl⟩ : ∃ k', k = k' + 1 := ⟨k - 1, by omega⟩
 rw [h k (by omega)]
 exact hK k (by omega)
theorem Ev.now {α : Type} {f : Nat → Option α} {r : α} (h : ∀ k, f (k + 1) = some r) : Ev f r := ⟨1, fun k hk => by
 obtain ⟨k, rfl⟩ : ∃ k', k = k' + 1 := ⟨k - 1, by omega⟩
 exact h k⟩
section
variable {W H : Nat} {R : Bool} {C : List Int}
def unmarked (b : List Bool) (n : Nat) : Nat := unseen b n
theorem unmarked_set {b : List Bool} {i : Nat} (h : b.getD i false = false) (hi : i < b.length) : ∀ n, unmarked (b.set i true) n + (if i < n then 1 else 0) = unmarked b n
 | 0 => by rw [if_neg (by omega)]; rfl
 | n + 1 => by
  have ih := unmarked_set h hi n
  unfold unmarked at ih ⊢
  rw [unseen, unseen, getD_set hi]
  by_cases q : n = i
  ·subst q
   rw [if_neg (Nat.lt_irrefl n)] at ih
   rw [if_pos (show n = n from rfl), if_pos (show true = true from rfl), if_pos (show n < n + 1 by omega), h, if_neg (show ¬ false = true by simp)]
   omega
  ·rw [if_neg (show ¬ n = i from q)]
   by_cases r : i < n
   ·rw [if_pos (show i < n from r)] at ih; rw [if_pos (show i < n + 1 by omega)]; omega
   ·rw [if_neg (show ¬ i < n from r)] at ih; rw [if_neg (show ¬ i < n + 1 by omega)]; omega
def hput (i : Nat) (s : List Bool × Bool) (c : Int) : List Bool × Bool := if s.1.getD c.toNat false = true then (if s.1.getD i false = true then s else (s.1.set i true, true)) else s
structure Grow (W H : Nat) (R : Bool) (C : List Int) (s t : List Bool × Bool) : Prop where
 len : t.1.length = s.1.length
 mono : ∀ j, s.1.getD j false = true → t.1.getD j false = true
 sound : (∀ j, j < W * H → s.1.getD j false = true → (net W H R C).Reach j) → ∀ j, j < W * H → t.1.getD j false = true → (net W H R C).Reach j
 flag : t = s ∨ (t.2 = true ∧ unmarked t.1 (W * H) < unmarked s.1 (W * H))
namespace Grow
variable {s t u : List Bool × Bool}
theorem refl (s : List Bool × Bool) : Grow W H R C s s := ⟨rfl, fun _ h => h, fun h => h, .inl rfl⟩
theorem trans (h : Grow W H R C s t) (k : Grow W H R C t u) : Grow W H R C s u := by
 refine ⟨k.len.trans h.len, fun j hj => k.mono j (h.mono j hj), fun hs => k.sound (h.sound hs), ?_⟩
 rcases h.flag with rfl | ⟨a, b⟩
 ·exact k.flag
 ·rcases k.flag with rfl | ⟨c, d⟩
  ·exact .inr ⟨a, b⟩
  ·exact .inr ⟨c, by omega⟩
end Grow
theorem hput_grow {i : Nat} (hi : i < W * H) {s : List Bool × Bool} (hl : s.1.length = W * H) {c : Int} (hc : c ∈ aroundL W H R i) : Grow W H R C s (hput i s c) := by
 unfold hput
 split
 ·rename_i q
  split
  ·exact Grow.refl s
  ·rename_i r
   have r' : s.1.getD i false = false := by simpa using r
   have hil : i < s.1.length := by omega
   refine ⟨by simp, fun j hj => ?_, fun hs j hj hm => ?_, .inr ⟨rfl, ?_⟩⟩
   ·show (s.1.set i true).getD j false = true
    rw [getD_set hil]; split
    ·rfl
    ·exact hj
   ·have hm : (s.1.set i true).getD j false = true := hm
    rw [getD_set hil] at hm
    by_cases e : j = i
    ·subst e
     obtain ⟨h1, h2, h3⟩ := around_mem hc
     have h4 : wtR W H R j c = netM W H R j c.toNat := by unfold wtR; rw [if_pos ⟨h2, h3⟩]
     exact .step hj (by rw [h4] at h1; exact h1) (hs c.toNat (by omega) q)
    ·rw [if_neg e] at hm
     exact hs j hj hm
   ·have := unmarked_set r' hil (W * H)
    rw [if_pos hi] at this
    show unmarked (s.1.set i true) (W * H) < _
    omega
 ·exact Grow.refl s
theorem hputs_grow {i : Nat} (hi : i < W * H) : ∀ (l : List Int) (s : List Bool × Bool), s.1.length = W * H → (∀ c, c ∈ l → c ∈ aroundL W H R i) → Grow W H R C s (l.foldl (hput i) s)
 | [], s, _, _ => Grow.refl s
 | c :: l, s, hl, hc => by
  have h1 := hput_grow (C := C) hi hl (hc c List.mem_cons_self)
  exact h1.trans (hputs_grow hi l _ (by rw [h1.len]; exact hl) (fun x hx => hc x (List.mem_cons_of_mem _ hx)))
theorem hputs_done {i : Nat} : ∀ (l : List Int) (s : List Bool × Bool), (l.foldl (hput i) s = s) → s.2 = false → ∀ c, c ∈ l → s.1.getD c.toNat false = true → s.1.getD i false = true
 | [], s, _, _, c, hc, _ => by cases hc
 | a :: l, s, h, hf, c, hc, hm => by
  have keep : ∀ (l : List Int) (s : List Bool × Bool), s.2 = true → (l.foldl (hput i) s).2 = true := by
   intro l
   induction l with
   | nil => exact fun s h => h
   | cons a l ih =>
    intro s h
    refine ih _ ?_
    unfold hput
    split
    ·split
     ·exact h
     ·rfl
    ·exact h
  have ha : hput i s a = s := by
   unfold hput
   split
   ·rename_i q
    split
    ·rfl
    ·rename_i r
     exfalso
     have e : hput i s a = (s.1.set i true, true) := by unfold hput; rw [if_pos q, if_neg r]
     have := keep l (hput i s a) (by rw [e])
     rw [List.foldl_cons] at h
     rw [h, hf] at this
     cases this
   ·rfl
  rw [List.foldl_cons, ha] at h
  rcases List.mem_cons.1 hc with rfl | hc
  ·unfold hput at ha
   rw [if_pos hm] at ha
   by_cases r : s.1.getD i false = true
   ·exact r
   ·rw [if_neg r] at ha
    have := congrArg (·.2) ha
    simp [hf] at this
  ·exact hputs_done l s h hf c hc hm
def hcell (W H : Nat) (R : Bool) (s : List Bool × Bool) (i : Nat) : List Bool × Bool := (aroundL W H R i).foldl (hput i) s
def hround (W H : Nat) (R : Bool) (s : List Bool × Bool) : Nat → List Bool × Bool
 | 0 => s
 | n + 1 => hcell W H R (hround W H R s n) n
theorem hround_grow {s : List Bool × Bool} (hl : s.1.length = W * H) : ∀ n, n ≤ W * H → Grow W H R C s (hround W H R s n)
 | 0, _ => Grow.refl s
 | n + 1, hn => by
  have h1 : Grow W H R C s (hround W H R s n) := hround_grow hl n (by omega)
  exact h1.trans (hputs_grow (by omega) _ _ (by rw [h1.len]; exact hl) (fun c hc => hc))
theorem hround_still {s : List Bool × Bool} (hl : s.1.length = W * H) (hf : s.2 = false) : ∀ n, n ≤ W * H → (hround W H R s n).2 = false → hround W H R s n = s ∧ ∀ i, i < n → ∀ c, c ∈ aroundL W H R i → s.1.getD c.toNat false = true → s.1.getD i false = true
 | 0, _, _ => ⟨rfl, fun i hi => absurd hi (Nat.not_lt_zero i)⟩
 | n + 1, hn, h => by
  have g := hround_grow (R := R) (C := []) hl n (by omega)
  have h1 : Grow W H R [] (hround W H R s n) (hround W H R s (n + 1)) := hputs_grow (by omega) _ _ (by rw [g.len]; exact hl) (fun c hc => hc)
  have e : hround W H R s (n + 1) = hround W H R s n := by
   rcases h1.flag with e | ⟨a, _⟩
   ·exact e
   ·rw [h] at a; cases a
  obtain ⟨e2, h2⟩ := hround_still hl hf n (by omega) (by rw [← e]; exact h)
  refine ⟨e.trans e2, fun i hi c hc hm => ?_⟩
  by_cases q : i = n
  ·subst q
   have e3 : (aroundL W H R i).foldl (hput i) s = s := by
    have : hround W H R s (i + 1) = s := e.trans e2
    rw [hround, hcell, e2] at this
    exact this
   exact hputs_done _ s e3 hf c hc hm
  ·exact h2 i (by omega) c hc hm
end
end Go.Proofs.Ytndkkjpgnmahbaa.Print
end

section
namespace Go.Proofs.Ytndkkjpgnmahbaa.Print
open Go.RowKit Go.Proofs.YtndkkjpgnmahbaaW.PrintWords Go.Proofs.YtndkkjpgnmahbaaW.PrintLast Go.Proofs.YtndkkjpgnmahbaaW.PrintMore Go.Proofs.Field
set_option linter.unusedVariables false
section
variable {W H : Nat} {R : Bool} {C : List Int}
theorem held_l3 {i : Nat} (hi : i < W * H) (hWH : W * H ≤ 256) {l : List Int} (hl : l.length ≤ 100) (hm : ∀ c, c ∈ l → 0 ≤ c ∧ c < ((W * H : Nat) : Int)) {r : List Bool} :
  ∀ (d j : Nat) (s : List Bool × Bool), j + d = l.length → s.1.length = W * H → Ev (fun k => thermionref01_held.l2 k ((l.drop j).foldl (hput i) s).1 ((l.drop j).foldl (hput i) s).2 (wrap64 ((i : Int) + 1)) (W : Int) (H : Int) R C) r →
  Ev (fun k => thermionref01_held.l3 k s.1 s.2 (i : Int) l (j : Int) (W : Int) (H : Int) R C) r
 | 0, j, s, h, hs, he => by
  rw [List.drop_eq_nil_of_le (by omega)] at he
  refine he.step 0 (fun k _ => ?_)
  show thermionref01_held.l3 (k + 1) _ _ _ _ _ _ _ _ _ = _
  rw [thermionref01_held.l3, if_neg (by omega)]
  rfl
 | d + 1, j, s, h, hs, he => by
  have hj : j < l.length := by omega
  have hw : wrap64 ((j : Int) + 1) = ((j + 1 : Nat) : Int) := by rw [IntWalk.wrap64_in _ (by omega)]; omega
  obtain ⟨c0, c1⟩ := hm l[j] (List.getElem_mem hj)
  rw [List.drop_eq_getElem_cons hj, List.foldl_cons] at he
  have hs2 : (hput i s l[j]).1.length = W * H := by
   unfold hput
   split
   ·split
    ·exact hs
    ·simpa using hs
   ·exact hs
  refine (held_l3 hi hWH hl hm d (j + 1) (hput i s l[j]) (by omega) hs2 he).step 0 (fun k _ => ?_)
  show thermionref01_held.l3 (k + 1) _ _ _ _ _ _ _ _ _ = _
  rw [thermionref01_held.l3, if_pos (by omega), if_pos (by omega), rd_at l j hj, if_pos c0, if_pos (by omega), hw]
  show (if s.1.getD l[j].toNat false = true then _ else _) = _
  unfold hput
  by_cases q : s.1.getD l[j].toNat false = true
  ·rw [if_pos q, if_pos q, if_pos (by omega), if_pos (by omega)]
   show (if s.1.getD (i : Int).toNat false = true then _ else _) = _
   rw [Int.toNat_natCast]
   by_cases p : s.1.getD i false = true
   ·rw [if_pos p, if_pos p]
   ·rw [if_neg p, if_neg p]
  ·rw [if_neg q, if_neg q]
theorem held_l2 (hW : 1 ≤ W ∧ W ≤ 16) (hH : 1 ≤ H ∧ H ≤ 16) (hC : C.length = W * H) {r : List Bool} {s : List Bool × Bool} (hs : s.1.length = W * H)
  (he : Ev (fun k => thermionref01_held.l1 k (hround W H R s (W * H)).1 (hround W H R s (W * H)).2 (W : Int) (H : Int) R C) r) : ∀ d n, n + d = W * H → Ev (fun k => thermionref01_held.l2 k (hround W H R s n).1 (hround W H R s n).2 (n : Int) (W : Int) (H : Int) R C) r
 | 0, n, h => by
  obtain rfl : n = W * H := by omega
  refine he.step 0 (fun k _ => ?_)
  show thermionref01_held.l2 (k + 1) _ _ _ _ _ _ _ = _
  rw [thermionref01_held.l2, if_neg (by omega)]
 | d + 1, n, h => by
  have hWH : W * H ≤ 256 := Nat.mul_le_mul hW.2 hH.2
  have hw : wrap64 ((n : Int) + 1) = ((n + 1 : Nat) : Int) := by rw [IntWalk.wrap64_in _ (by omega)]; omega
  have ih := held_l2 hW hH hC hs he d (n + 1) (by omega)
  have hlen := around_len (W := W) (H := H) (R := R) (i := n)
  have g := hround_grow (R := R) (C := C) hs n (by omega)
  have h3 := held_l3 (R := R) (C := C) (i := n) (l := aroundL W H R n) (r := r) (by omega) hWH (by omega) (fun c hc => (around_mem hc).2) (aroundL W H R n).length 0 (hround W H R s n) (by omega) (by rw [g.len]; exact hs) (by rw [List.drop_zero, hw]; exact ih)
  refine h3.step 8 (fun k hk => ?_)
  obtain ⟨k, rfl⟩ : ∃ k', k = k' + 8 := ⟨k - 8, by omega⟩
  show thermionref01_held.l2 (k + 8 + 1) _ _ _ _ _ _ _ = _
  rw [thermionref01_held.l2, if_pos (by omega), obnd (around_eq hW hH (by omega) k)]
  rfl
theorem held_l1 (hW : 1 ≤ W ∧ W ≤ 16) (hH : 1 ≤ H ∧ H ≤ 16) (hC : C.length = W * H) : ∀ (m : Nat) (b : List Bool), b.length = W * H → unmarked b (W * H) ≤ m → (∀ j, j < W * H → b.getD j false = true → (net W H R C).Reach j) →
  ∃ r, Ev (fun k => thermionref01_held.l1 k b true (W : Int) (H : Int) R C) r ∧ r.length = W * H ∧ (∀ j, j < W * H → r.getD j false = true → (net W H R C).Reach j) ∧ (∀ j, b.getD j false = true → r.getD j false = true) ∧ ∀ i, i < W * H → ∀ c, c ∈ aroundL W H R i → r.getD c.toNat false = true → r.getD i false = true := fun m => by
 induction m with
 | zero =>
  intro b hb hu hs
  have g := hround_grow (R := R) (C := C) (s := (b, false)) hb (W * H) (Nat.le_refl _)
  have e : (hround W H R (b, false) (W * H)).2 = false := by
   rcases g.flag with e | ⟨_, e⟩
   ·rw [e]
   ·have e : unmarked _ _ < unmarked b (W * H) := e
    omega
  obtain ⟨e2, h2⟩ := hround_still (R := R) (s := (b, false)) hb rfl (W * H) (Nat.le_refl _) e
  refine ⟨b, ?_, hb, hs, fun j h => h, h2⟩
  refine Ev.step (held_l2 (C := C) (R := R) hW hH hC (s := (b, false)) hb ?_ (W * H) 0 (by omega)) 0 (fun k _ => ?_)
  ·rw [e2]
   refine Ev.now (fun k => ?_)
   rw [thermionref01_held.l1, if_neg (by simp)]
  ·show thermionref01_held.l1 (k + 1) _ _ _ _ _ _ = _
   rw [thermionref01_held.l1, if_pos rfl]
   rfl
 | succ m ih =>
  intro b hb hu hs
  have g := hround_grow (R := R) (C := C) (s := (b, false)) hb (W * H) (Nat.le_refl _)
  have start : ∀ r, Ev (fun k => thermionref01_held.l1 k (hround W H R (b, false) (W * H)).1 (hround W H R (b, false) (W * H)).2 (W : Int) (H : Int) R C) r → Ev (fun k => thermionref01_held.l1 k b true (W : Int) (H : Int) R C) r := fun r he => by
   refine Ev.step (held_l2 (C := C) (R := R) hW hH hC (s := (b, false)) hb he (W * H) 0 (by omega)) 0 (fun k _ => ?_)
   show thermionref01_held.l1 (k + 1) _ _ _ _ _ _ = _
   rw [thermionref01_held.l1, if_pos rfl]
   rfl
  cases e : (hround W H R (b, false) (W * H)).2 with
  | false =>
   obtain ⟨e2, h2⟩ := hround_still (R := R) (s := (b, false)) hb rfl (W * H) (Nat.le_refl _) e
   refine ⟨b, start b ?_, hb, hs, fun j h => h, h2⟩
   rw [e2]
   refine Ev.now (fun k => ?_)
   rw [thermionref01_held.l1, if_neg (by simp)]
  | true =>
   have hlt : unmarked (hround W H R (b, false) (W * H)).1 (W * H) < unmarked b (W * H) := by
    rcases g.flag with q | ⟨_, q⟩
    ·rw [q] at e; cases e
    ·exact q
   obtain ⟨r, h1, h2, h3, h4, h5⟩ := ih (hround W H R (b, false) (W * H)).1 (by rw [g.len]; exact hb) (by omega) (g.sound hs)
   exact ⟨r, start r (by rw [e]; exact h1), h2, h3, fun j hj => h4 j (g.mono j hj), h5⟩
def seedB (C : List Int) (n : Nat) : List Bool := (List.range C.length).map (fun j => decide (j < n ∧ 0 < fn C j))
theorem seedB_len (C : List Int) (n : Nat) : (seedB C n).length = C.length := by simp [seedB]
theorem seedB_get {C : List Int} {n j : Nat} (h : j < C.length) : (seedB C n).getD j false = decide (j < n ∧ 0 < fn C j) := by
 unfold seedB
 rw [List.getD_eq_getElem?_getD, List.getElem?_map, List.getElem?_range h]
 rfl
theorem seedB_zero (C : List Int) : List.replicate C.length false = seedB C 0 := by
 refine List.ext_getElem (by rw [seedB_len, List.length_replicate]) (fun k h1 h2 => ?_)
 simp [seedB]
theorem seedB_succ {C : List Int} {n : Nat} (hn : n < C.length) : (seedB C n).set n (decide (rd C (n : Int) > 0)) = seedB C (n + 1) := by
 refine List.ext_getElem (by rw [List.length_set, seedB_len, seedB_len]) (fun k h1 h2 => ?_)
 rw [List.getElem_set]
 show (if n = k then decide (fn C n > 0) else _) = _
 by_cases q : n = k
 ·subst q
  rw [if_pos rfl]
  simp [seedB]
 ·rw [if_neg q]
  simp only [seedB, List.getElem_map, List.getElem_range]
  congr 1
  exact propext ⟨fun h => ⟨by omega, h.2⟩, fun h => ⟨by omega, h.2⟩⟩
theorem held_l0 (hC : C.length ≤ 256) {r : List Bool} (he : Ev (fun k => thermionref01_held.l1 k (seedB C C.length) true (W : Int) (H : Int) R C) r) : ∀ d n, n + d = C.length → Ev (fun k => thermionref01_held.l0 k (seedB C n) (n : Int) (W : Int) (H : Int) R C) r
 | 0, n, h => by
  obtain rfl : n = C.length := by omega
  refine he.step 0 (fun k _ => ?_)
  show thermionref01_held.l0 (k + 1) _ _ _ _ _ _ = _
  rw [thermionref01_held.l0, if_neg (by omega)]
 | d + 1, n, h => by
  have hw : wrap64 ((n : Int) + 1) = ((n + 1 : Nat) : Int) := by rw [IntWalk.wrap64_in _ (by omega)]; omega
  refine (held_l0 hC he d (n + 1) (by omega)).step 0 (fun k _ => ?_)
  show thermionref01_held.l0 (k + 1) _ _ _ _ _ _ = _
  rw [thermionref01_held.l0, if_pos (by omega), if_pos (by omega), if_pos (by rw [seedB_len]; omega), hw, Int.toNat_natCast, seedB_succ (by omega)]
theorem around_of_M {i j : Nat} (hi : i < W * H) (hj : j < W * H) (h : 0 < netM W H R i j) : (j : Int) ∈ aroundL W H R i := by
 refine List.mem_filter.2 ⟨?_, ?_⟩
 ·obtain ⟨hW, he, hx, hy⟩ := cell_at hi
  obtain ⟨p, hp, e⟩ := List.mem_map.1 (nb_of_M hi hj h)
  have hu := up_ge (W := W) (i := i) hW
  have hcol := fun h => left_col (W := W) (i := i) h
  unfold nbs at hp
  simp only [List.mem_append] at hp
  unfold cand
  by_cases q : W = 1
  ·rw [if_pos q]
   rcases hp with hp | hp | hp | hp <;> split at hp <;> simp at hp
   ·have h1 := (hcol (by assumption)).2; subst hp; simp at e; subst e; simp; omega
   ·subst hp; simp at e; subst e; simp
   ·have h1 := hu.1 (by assumption); subst hp; simp at e; subst e; simp; omega
   ·subst hp; simp at e; subst e; simp; omega
  ·rw [if_neg q]
   rcases hp with hp | hp | hp | hp <;> split at hp <;> simp at hp
   ·have h1 := (hcol (by assumption)).2; subst hp; simp at e; subst e; simp; omega
   ·subst hp; simp at e; subst e; simp
   ·have h1 := hu.1 (by assumption); subst hp; simp at e; subst e; simp; omega
   ·subst hp; simp at e; subst e; simp
 ·unfold wtR
  rw [if_pos (by omega), Int.toNat_natCast]
  exact decide_eq_true h
theorem held_eq (hW : 1 ≤ W ∧ W ≤ 16) (hH : 1 ≤ H ∧ H ≤ 16) (hC : C.length = W * H) : ∃ r, Ev (fun k => thermionref01_held.f k (W : Int) (H : Int) R C) r ∧ r.length = C.length ∧ ∀ j, j < C.length → (r.getD j false = true ↔ (net W H R C).Reach j) := by
 have hWH : W * H ≤ 256 := Nat.mul_le_mul hW.2 hH.2
 obtain ⟨r, h1, h2, h3, h4, h5⟩ := held_l1 (R := R) hW hH hC (unmarked (seedB C C.length) (W * H)) (seedB C C.length) (by rw [seedB_len]; exact hC) (Nat.le_refl _) (fun j hj hm => by
  rw [seedB_get (by omega)] at hm
  exact .el hj (by simpa [net] using (of_decide_eq_true hm).2))
 refine ⟨r, ?_, by omega, fun j hj => ⟨h3 j (by omega), fun h => ?_⟩⟩
 ·obtain ⟨K, hK⟩ := held_l0 (W := W) (H := H) (R := R) (by omega) h1 C.length 0 (by omega)
  refine ⟨K, fun k hk => ?_⟩
  show thermionref01_held.f k _ _ _ _ = _
  unfold thermionref01_held.f
  rw [if_pos (by omega), Int.toNat_natCast, if_pos (by omega), seedB_zero]
  exact hK k hk
 ·induction h with
  | @el i hi he =>
   refine h4 i ?_
   rw [seedB_get (by omega)]
   exact decide_eq_true ⟨by omega, by simpa [net] using he⟩
  | @step i k hi hM hk ih =>
   have hkl : k < W * H := hk.lt
   refine h5 i hi (k : Int) (around_of_M hi hkl hM) ?_
   rw [Int.toNat_natCast]
   exact ih (by omega)
end
theorem beyond_eq (n a b : Int) : thermionref01_beyond.f n a b = some (decide (n < a ∨ b < n)) := by
 unfold thermionref01_beyond.f
 by_cases q : n < a
 ·rw [if_pos q, decide_eq_true (Or.inl q)]
 ·rw [if_neg q]
  congr 1
  exact decide_eq_decide.2 ⟨fun h => .inr h, fun h => h.resolve_left q⟩
theorem rdOf_at (r : List Bool) (j : Nat) : rdOf false r (j : Int) = r.getD j false := by
 unfold rdOf
 rw [Int.toNat_natCast]
section
variable {W H : Nat} {R : Bool} {C : List Int}
theorem check_l1_ok {r : List Bool} (hr : r.length ≤ 256) (h : ∀ i, i < r.length → r.getD i false = true) : ∀ d j, j + d = r.length → Ev (fun k => thermionref01_Check.l1 k r (j : Int)) 0
 | 0, j, hj => Ev.now (fun k => by rw [thermionref01_Check.l1, if_neg (by omega)])
 | d + 1, j, hj => by
  have hw : wrap64 ((j : Int) + 1) = ((j + 1 : Nat) : Int) := by rw [IntWalk.wrap64_in _ (by omega)]; omega
  refine (check_l1_ok hr h d (j + 1) (by omega)).step 0 (fun k _ => ?_)
  show thermionref01_Check.l1 (k + 1) _ _ = _
  rw [thermionref01_Check.l1, if_pos (by omega), if_pos (by omega), rdOf_at, if_pos (h j (by omega)), hw]
theorem check_l1_bad {r : List Bool} (hr : r.length ≤ 256) {i : Nat} (hi : i < r.length) (h : r.getD i false = false) : ∀ d j, j + d = i → Ev (fun k => thermionref01_Check.l1 k r (j : Int)) 13
 | 0, j, hj => Ev.now (fun k => by
  obtain rfl : j = i := by omega
  rw [thermionref01_Check.l1, if_pos (by omega), if_pos (by omega), rdOf_at, h, if_neg (by simp)])
 | d + 1, j, hj => by
  have hw : wrap64 ((j : Int) + 1) = ((j + 1 : Nat) : Int) := by rw [IntWalk.wrap64_in _ (by omega)]; omega
  by_cases q : r.getD j false = true
  ·refine (check_l1_bad hr hi h d (j + 1) (by omega)).step 0 (fun k _ => ?_)
   show thermionref01_Check.l1 (k + 1) _ _ = _
   rw [thermionref01_Check.l1, if_pos (by omega), if_pos (by omega), rdOf_at, if_pos q, hw]
  ·exact Ev.now (fun k => by rw [thermionref01_Check.l1, if_pos (by omega), if_pos (by omega), rdOf_at, if_neg q])
def endErr (W H : Nat) (R : Bool) (C : List Int) : Int := if ∃ e, e ∈ C ∧ (e < 0 ∨ 6 < e) then 2 else if ∀ e, e ∈ C → e = 0 then 7 else if looseB W H R C = true then 13 else 0
theorem Ev.bind {α β : Type} {f : Nat → Option α} {a : α} {g : Nat → α → Option β} {r : β} (h : Ev f a) (hg : Ev (fun k => g k a) r) : Ev (fun k => (f k).bind (g k)) r := by
 obtain ⟨K1, h1⟩ := h
 obtain ⟨K2, h2⟩ := hg
 refine ⟨K1 + K2, fun k hk => ?_⟩
 show (f k).bind (g k) = _
 rw [obnd (h1 k (by omega))]
 exact h2 k (by omega)
theorem check_l0 (hW : 1 ≤ W ∧ W ≤ 16) (hH : 1 ≤ H ∧ H ≤ 16) (hC : C.length = W * H) : ∀ (d n : Nat), n + d = C.length → (∀ j, j < n → 0 ≤ fn C j ∧ fn C j ≤ 6) → ∀ b : Bool, (b = true ↔ ∃ j, j < n ∧ 0 < fn C j) →
  Ev (fun k => thermionref01_Check.l0 k b (n : Int) (W : Int) (H : Int) R C) (endErr W H R C)
 | 0, n, h, hr, b, hb => by
  have hWH : W * H ≤ 256 := Nat.mul_le_mul hW.2 hH.2
  obtain rfl : n = C.length := by omega
  have h1 : ¬ ∃ e, e ∈ C ∧ (e < 0 ∨ 6 < e) := fun ⟨e, he, hb⟩ => by
   obtain ⟨j, hj, rfl⟩ := mem_fn he
   have := hr j hj
   omega
  unfold endErr
  rw [if_neg h1]
  cases b with
  | false =>
   rw [if_pos]
   ·refine Ev.now (fun k => ?_)
    rw [thermionref01_Check.l0, if_neg (by omega), if_neg (by simp)]
   ·intro e he
    obtain ⟨j, hj, rfl⟩ := mem_fn he
    have := hr j hj
    by_cases q : 0 < fn C j
    ·exact absurd (hb.2 ⟨j, hj, q⟩) (by simp)
    ·omega
  | true =>
   obtain ⟨j, hj, hp⟩ := hb.1 rfl
   rw [if_neg (fun h => by have := h _ (fn_mem hj); omega)]
   obtain ⟨r, e1, e2, e3⟩ := held_eq (R := R) hW hH hC
   have hend : Ev (fun k => thermionref01_Check.l1 k r 0) (if looseB W H R C = true then 13 else 0) := by
    cases q : looseB W H R C with
    | false =>
     have hl := (loose_iff hC (by omega)).1 q
     rw [if_neg (by simp)]
     exact check_l1_ok (by omega) (fun i hi => (e3 i (by omega)).2 (hl i (by omega))) r.length 0 (by omega)
    | true =>
     rw [if_pos rfl]
     have hn : ¬ ∀ i, i < r.length → r.getD i false = true := fun h => by
      have := (loose_iff (R := R) hC (by omega)).2 (fun i hi => (e3 i hi).1 (h i (by omega)))
      rw [q] at this; cases this
     obtain ⟨i, hi⟩ := Classical.not_forall.1 hn
     have hi2 : i < r.length := Classical.byContradiction fun q => hi (fun w => absurd w q)
     have hf : r.getD i false = false := by
      cases z : r.getD i false with
      | false => rfl
      | true => exact absurd (fun _ => z) hi
     exact check_l1_bad (by omega) hi2 hf i 0 (by omega)
   refine (Ev.bind (g := fun k t286 => thermionref01_Check.l1 k t286 0) e1 hend).step 0 (fun k _ => ?_)
   show thermionref01_Check.l0 (k + 1) _ _ _ _ _ _ = _
   rw [thermionref01_Check.l0, if_neg (by omega), if_pos rfl]
 | d + 1, n, h, hr, b, hb => by
  have hWH : W * H ≤ 256 := Nat.mul_le_mul hW.2 hH.2
  have hw : wrap64 ((n : Int) + 1) = ((n + 1 : Nat) : Int) := by rw [IntWalk.wrap64_in _ (by omega)]; omega
  have e : rd C (n : Int) = fn C n := rfl
  by_cases q : fn C n < 0 ∨ 6 < fn C n
  ·unfold endErr
   rw [if_pos ⟨_, fn_mem (show n < C.length by omega), q⟩]
   refine Ev.now (fun k => ?_)
   rw [thermionref01_Check.l0, if_pos (by omega), if_pos (by omega), e, obnd (beyond_eq _ _ _), decide_eq_true q, if_pos rfl]
  ·have hq : 0 ≤ fn C n ∧ fn C n ≤ 6 := by omega
   have ih := check_l0 hW hH hC d (n + 1) (by omega) (fun j hj => by
    by_cases z : j = n
    ·subst z; exact hq
    ·exact hr j (by omega)) (b || decide (fn C n > 0)) (by
     rw [Bool.or_eq_true, hb, decide_eq_true_iff]
     constructor
     ·rintro (⟨j, hj, hp⟩ | hp)
      ·exact ⟨j, by omega, hp⟩
      ·exact ⟨n, by omega, hp⟩
     ·rintro ⟨j, hj, hp⟩
      by_cases z : j = n
      ·subst z; exact .inr hp
      ·exact .inl ⟨j, by omega, hp⟩)
   refine ih.step 0 (fun k _ => ?_)
   show thermionref01_Check.l0 (k + 1) _ _ _ _ _ _ = _
   rw [thermionref01_Check.l0, if_pos (by omega), if_pos (by omega), e, obnd (beyond_eq _ _ _), decide_eq_false q, if_neg (by simp), hw]
   cases b <;> rfl
end
theorem refcheck_eq (W H : Int) (R : Bool) (C : List Int) : Ev (fun k => thermionref01_Check.f k W H R C) (checkErr W H R C) := by
 unfold checkErr
 by_cases q1 : W < 1 ∨ 16 < W
 ·rw [if_pos (by omega)]
  refine Ev.now (fun k => ?_)
  unfold thermionref01_Check.f
  rw [obnd (beyond_eq _ _ _), decide_eq_true q1, if_pos rfl, thermionref01_Check.j0, if_pos rfl]
 ·by_cases q2 : H < 1 ∨ 16 < H
  ·rw [if_pos (by omega)]
   refine Ev.now (fun k => ?_)
   unfold thermionref01_Check.f
   rw [obnd (beyond_eq _ _ _), decide_eq_false q1, if_neg (by simp), obnd (beyond_eq _ _ _), decide_eq_true q2, thermionref01_Check.j0, if_pos rfl]
  ·obtain ⟨W', rfl⟩ : ∃ W' : Nat, W = W' := ⟨W.toNat, by omega⟩
   obtain ⟨H', rfl⟩ : ∃ H' : Nat, H = H' := ⟨H.toNat, by omega⟩
   have hW : 1 ≤ W' ∧ W' ≤ 16 := by omega
   have hH : 1 ≤ H' ∧ H' ≤ 16 := by omega
   have hWH : W' * H' ≤ 256 := Nat.mul_le_mul hW.2 hH.2
   have w0 : wrap64 ((W' : Int) * (H' : Int)) = ((W' * H' : Nat) : Int) := by
    rw [← Int.natCast_mul]; exact IntWalk.wrap64_in _ (by omega)
   rw [if_neg (by omega), ← Int.natCast_mul, Int.toNat_natCast, Int.toNat_natCast]
   by_cases q3 : C.length = W' * H'
   ·rw [if_neg (by rw [q3]; simp)]
    have h0 := check_l0 (R := R) hW hH q3 C.length 0 (by omega) (fun j hj => absurd hj (Nat.not_lt_zero j)) false ⟨fun h => by simp at h, fun ⟨j, hj, _⟩ => absurd hj (Nat.not_lt_zero j)⟩
    refine h0.step 0 (fun k _ => ?_)
    show thermionref01_Check.f (k + 1) _ _ _ _ = _
    unfold thermionref01_Check.f
    rw [obnd (beyond_eq _ _ _), decide_eq_false q1, if_neg (by simp), obnd (beyond_eq _ _ _), decide_eq_false q2, thermionref01_Check.j0, if_neg (by simp), w0, if_pos (by rw [q3])]
    rfl
   ·rw [if_pos (by intro h; exact q3 (by exact Int.ofNat.inj h))]
    refine Ev.now (fun k => ?_)
    unfold thermionref01_Check.f
    rw [obnd (beyond_eq _ _ _), decide_eq_false q1, if_neg (by simp), obnd (beyond_eq _ _ _), decide_eq_false q2, thermionref01_Check.j0, if_neg (by simp), w0, if_neg (by intro h; exact q3 (by exact Int.ofNat.inj h))]
theorem refgreatest_go (W H : Int) (R : Bool) (C : List Int) (hl : C.length ≤ 1000000) : ∀ (d i : Nat) (x : Int), i + d = C.length → Ev (fun k => thermionref01_greatest.l0 k x (i : Int) W H R C) ((C.drop i).foldl max x)
 | 0, i, x, hi => by
  rw [List.drop_eq_nil_of_le (by omega)]
  exact Ev.now (fun k => by rw [thermionref01_greatest.l0, if_neg (by omega)]; rfl)
 | d + 1, i, x, hi => by
  have hil : i < C.length := by omega
  have hw : wrap64 ((i : Int) + 1) = ((i + 1 : Nat) : Int) := by rw [IntWalk.wrap64_in _ (by omega)]; omega
  rw [List.drop_eq_getElem_cons hil, List.foldl_cons]
  refine (refgreatest_go W H R C hl d (i + 1) (max x C[i]) (by omega)).step 0 (fun k _ => ?_)
  show thermionref01_greatest.l0 (k + 1) _ _ _ _ _ _ = _
  rw [thermionref01_greatest.l0, if_pos (by omega), if_pos (by omega), hw, mx_max, rd_at C i hil]
theorem refvolts_ok {v : List Int} (hl : v.length ≤ 100) (h : ∀ x, x ∈ v → -1000000 ≤ x ∧ x ≤ 1000000) : ∀ d j, j + d = v.length → Ev (fun k => thermionref01_CheckVolts.l0 k v (j : Int)) 0
 | 0, j, hj => Ev.now (fun k => by rw [thermionref01_CheckVolts.l0, if_neg (by omega)])
 | d + 1, j, hj => by
  have hw : wrap64 ((j : Int) + 1) = ((j + 1 : Nat) : Int) := by rw [IntWalk.wrap64_in _ (by omega)]; omega
  have hj2 : j < v.length := by omega
  have := h v[j] (List.getElem_mem hj2)
  refine (refvolts_ok hl h d (j + 1) (by omega)).step 0 (fun k _ => ?_)
  show thermionref01_CheckVolts.l0 (k + 1) _ _ = _
  rw [thermionref01_CheckVolts.l0, if_pos (by omega), if_pos (by omega), rd_at v j hj2, obnd (beyond_eq _ _ _), decide_eq_false (by omega), if_neg (by simp), hw]
theorem refvolts_bad {v : List Int} (hl : v.length ≤ 100) {i : Nat} (hi : i < v.length) (h : v[i] < -1000000 ∨ 1000000 < v[i]) : ∀ d j, j + d = i → Ev (fun k => thermionref01_CheckVolts.l0 k v (j : Int)) 2
 | 0, j, hj => Ev.now (fun k => by
  obtain rfl : j = i := by omega
  rw [thermionref01_CheckVolts.l0, if_pos (by omega), if_pos (by omega), rd_at v j hi, obnd (beyond_eq _ _ _), decide_eq_true h, if_pos rfl])
 | d + 1, j, hj => by
  have hw : wrap64 ((j : Int) + 1) = ((j + 1 : Nat) : Int) := by rw [IntWalk.wrap64_in _ (by omega)]; omega
  have hj2 : j < v.length := by omega
  by_cases q : v[j] < -1000000 ∨ 1000000 < v[j]
  ·exact Ev.now (fun k => by rw [thermionref01_CheckVolts.l0, if_pos (by omega), if_pos (by omega), rd_at v j hj2, obnd (beyond_eq _ _ _), decide_eq_true q, if_pos rfl])
  ·refine (refvolts_bad hl hi h d (j + 1) (by omega)).step 0 (fun k _ => ?_)
   show thermionref01_CheckVolts.l0 (k + 1) _ _ = _
   rw [thermionref01_CheckVolts.l0, if_pos (by omega), if_pos (by omega), rd_at v j hj2, obnd (beyond_eq _ _ _), decide_eq_false q, if_neg (by simp), hw]
theorem refvolts_eq (W H : Int) (R : Bool) (C v : List Int) : Ev (fun k => thermionref01_CheckVolts.f k W H R C v) (voltErr W H R C v) := by
 unfold voltErr
 have hck := refcheck_eq W H R C
 by_cases q : checkErr W H R C = 0
 ·rw [if_neg (by simpa using q)]
  obtain ⟨a1, a2, a3, a4, a5, a6, a7, a8⟩ := check_parts q
  have h256 : C.length ≤ 256 := by
   obtain ⟨W', rfl⟩ : ∃ W' : Nat, W = W' := ⟨W.toNat, by omega⟩
   obtain ⟨H', rfl⟩ : ∃ H' : Nat, H = H' := ⟨H.toNat, by omega⟩
   have hWH : W' * H' ≤ 256 := Nat.mul_le_mul (show W' ≤ 16 by omega) (show H' ≤ 16 by omega)
   rw [← Int.natCast_mul] at a5
   omega
  have hmax : C.foldl max 0 = maxOf C := foldl_max_zero (fun e he => (a6 e he).1) (fun h => by
   obtain ⟨e, he, _⟩ := a7
   rw [h] at he
   cases he)
  have hm6 : maxOf C ≤ 6 := by
   have hne : C ≠ [] := fun h => by
    obtain ⟨e, he, _⟩ := a7
    rw [h] at he
    cases he
   exact (a6 _ (maxOf_mem hne)).2
  have hgr := refgreatest_go W H R C (by omega) C.length 0 0 (by omega)
  rw [List.drop_zero, hmax] at hgr
  rw [q] at hck
  refine Ev.bind (g := fun k t293 => if t293 = 0 then ((thermionref01_greatest.f k W H R C).bind fun t294 => (if (v.length : Int) = t294 then (thermionref01_CheckVolts.l0 k v 0) else (some 3))) else (some t293)) hck ?_
  show Ev (fun k => if (0 : Int) = 0 then ((thermionref01_greatest.f k W H R C).bind fun t294 => (if (v.length : Int) = t294 then (thermionref01_CheckVolts.l0 k v 0) else (some 3))) else (some 0)) _
  simp only [if_true]
  refine Ev.bind (f := fun k => thermionref01_greatest.f k W H R C) (g := fun k t294 => if (v.length : Int) = t294 then (thermionref01_CheckVolts.l0 k v 0) else (some 3)) hgr ?_
  show Ev (fun k => if (v.length : Int) = maxOf C then (thermionref01_CheckVolts.l0 k v 0) else (some 3)) _
  by_cases q2 : (v.length : Int) = maxOf C
  ·rw [if_neg (by simpa using q2)]
   simp only [if_pos q2]
   by_cases q3 : ∃ x, x ∈ v ∧ (x < -1000000 ∨ 1000000 < x)
   ·rw [if_pos q3]
    obtain ⟨x, hx, hb⟩ := q3
    obtain ⟨i, hi, rfl⟩ := List.mem_iff_getElem.1 hx
    exact refvolts_bad (by omega) hi hb i 0 (by omega)
   ·rw [if_neg q3]
    refine refvolts_ok (by omega) (fun x hx => ?_) v.length 0 (by omega)
    have h1 : ¬ (x < -1000000 ∨ 1000000 < x) := fun h => q3 ⟨x, hx, h⟩
    omega
  ·rw [if_pos (by simpa using q2)]
   simp only [if_neg q2]
   exact ⟨0, fun k _ => rfl⟩
 ·rw [if_pos (by simpa using q)]
  refine (Ev.bind hck (g := fun k t293 => if t293 = 0 then ((thermionref01_greatest.f k W H R C).bind fun t294 => (if (v.length : Int) = t294 then (thermionref01_CheckVolts.l0 k v 0) else (some 3))) else (some t293)) ⟨0, fun k _ => if_neg q⟩)
end Go.Proofs.Ytndkkjpgnmahbaa.Print
end
