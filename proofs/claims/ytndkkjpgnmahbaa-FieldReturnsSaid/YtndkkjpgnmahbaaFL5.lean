/- Part 5 of the texts of a claim about Ytndkkjpgnmahbaa, put together by a program of this work: what the Go functions do, and that their calls do so. -/
import Derived.Test.YtndkkjpgnmahbaaFL2
import Derived.Test.YtndkkjpgnmahbaaFL4
import Derived.Test.YtndkkjpgnmahbaaFL3
import Derived.IntWalk
section
namespace Go.Proofs.Ytndkkjpgnmahbaa.Print
open Go.RowKit Go.Proofs.YtndkkjpgnmahbaaW.PrintWords Go.Proofs.YtndkkjpgnmahbaaW.PrintLast Go.Proofs.YtndkkjpgnmahbaaW.PrintMore
attribute [local go_sem] max2_int min2_int max_two min_two max_three min_three max_four min_four
set_option linter.unusedVariables false
set_option linter.unusedSimpArgs false
def field_Influence.f (k : Nat) (a0_0 : Int) (a0_1 : Int) (a0_2 : Bool) (l0_3 : List Int) (a1 : Int) (a2 : Int) (a3 : Int) : Option (Int × Int × Int) := (field_apart.f k a0_0 a0_1 a0_2 l0_3 a1 (([a2, a3] : List Int))).bind fun t483 => (if t483 = 0 then ((slices_Max_int_int.f l0_3).bind fun t484 => (if 0 ≤ t484 then (if (t484 : Int).toNat ≤ 35184372088832 then ((some (List.replicate (t484 : Int).toNat 0 : List Int)).bind fun y485 => (if 0 ≤ (wrap64 (a2 - 1)) then (if (wrap64 (a2 - 1)) < (y485.length : Int) then ((field_Charge.f a0_0 a0_1 a0_2 l0_3 (y485.set ((wrap64 (a2 - 1)) : Int).toNat 1000000) a1 a3).bind fun bt489 => (some (wrap64 (-bt489.2.1), wrap64 (-bt489.1), bt489.2.2))) else (none)) else (none))) else (none)) else (none))) else (some (0, 0, t483)))
set_option maxHeartbeats 8000000 in
set_option maxRecDepth 100000 in
theorem field_Influence.calls (k : Nat) (a0_0 : Int) (a0_1 : Int) (a0_2 : Bool) (A0_3 : Option Addr) (c0_3 : Nat) (l0_3 : List Int) (a1 : Int) (a2 : Int) (a3 : Int) (r1 : Int) (r2 : Int) (r3 : Int) (w : World) (hr0_3 : Kd.C (Kd.int .i64) w A0_3 l0_3.length l0_3) (hc0_3 : l0_3.length ≤ c0_3) (h : field_Influence.f k a0_0 a0_1 a0_2 l0_3 a1 a2 a3 = some (r1, r2, r3)) :
  Calls Try.prog 52 #[.agg #[.int .i64 a0_0, .int .i64 a0_1, .bool a0_2, .slice A0_3 l0_3.length c0_3], .int .i64 a1, .int .i64 a2, .int .i64 a3] w fun e w' => e = .returned (.tuple #[.agg #[.int .i64 r1, .int .i64 r2], .int .i64 r3]) ∧ Below w.heap.size w w' := by
 have hu24 := Try.underlying24
 have hu42 := Try.underlying42
 have HR0_3 := Aside0.mk hr0_3
 have HC0_3 := Aside0.mk hc0_3
 clear hr0_3 hc0_3
 have HB := Aside0.mk (Below.refl w.heap.size w)
 have H : ((field_apart.f k a0_0 a0_1 a0_2 l0_3 a1 (([a2, a3] : List Int))).bind fun t483 => (if t483 = 0 then ((slices_Max_int_int.f l0_3).bind fun t484 => (if 0 ≤ t484 then (if (t484 : Int).toNat ≤ 35184372088832 then ((some (List.replicate (t484 : Int).toNat 0 : List Int)).bind fun y485 => (if 0 ≤ (wrap64 (a2 - 1)) then (if (wrap64 (a2 - 1)) < (y485.length : Int) then ((field_Charge.f a0_0 a0_1 a0_2 l0_3 (y485.set ((wrap64 (a2 - 1)) : Int).toNat 1000000) a1 a3).bind fun bt489 => (some (wrap64 (-bt489.2.1), wrap64 (-bt489.1), bt489.2.2))) else (none)) else (none))) else (none)) else (none))) else (some (0, 0, t483)))) = some (r1, r2, r3) := h
 clear h
 obtain ⟨y480, hy480⟩ : ∃ y_ : List Int, y_ = (([a2, a3] : List Int)) := ⟨_, rfl⟩
 replace H : ((field_apart.f k a0_0 a0_1 a0_2 l0_3 a1 y480).bind fun t483 => (if t483 = 0 then ((slices_Max_int_int.f l0_3).bind fun t484 => (if 0 ≤ t484 then (if (t484 : Int).toNat ≤ 35184372088832 then ((some (List.replicate (t484 : Int).toNat 0 : List Int)).bind fun y485 => (if 0 ≤ (wrap64 (a2 - 1)) then (if (wrap64 (a2 - 1)) < (y485.length : Int) then ((field_Charge.f a0_0 a0_1 a0_2 l0_3 (y485.set ((wrap64 (a2 - 1)) : Int).toNat 1000000) a1 a3).bind fun bt489 => (some (wrap64 (-bt489.2.1), wrap64 (-bt489.1), bt489.2.2))) else (none)) else (none))) else (none)) else (none))) else (some (0, 0, t483)))) = some (r1, r2, r3) := by first | (rw [hy480]; with_reducible exact H) | (have H2_ := (Option.bind_some _ _).symm.trans H; rw [hy480]; with_reducible exact H2_) | (have H2_ := (Option.bind_some _ _).symm.trans H; with_reducible exact H2_) | with_reducible exact H | (rw [hy480]; exact H) | exact H
 have Ny480 := Aside0.mk hy480
 clear hy480
 obtain ⟨t483, A50, H⟩ := Option.bind_eq_some_iff.mp H
 have A5 := Aside0.mk A50
 clear A50
 by_cases c6 : t483 = 0
 ·rw [if_pos c6] at H
  obtain ⟨c6b0, c6b1⟩ := aEq c6
  clear c6
  obtain ⟨t484, A70, H⟩ := Option.bind_eq_some_iff.mp H
  have A7 := Aside0.mk A70
  clear A70
  by_cases c8 : 0 ≤ t484
  ·rw [if_pos c8] at H
   have c8b0 := eq_true c8
   have c8b1 := decide_eq_true c8
   clear c8
   by_cases c9 : (t484 : Int).toNat ≤ 35184372088832
   ·rw [if_pos c9] at H
    have c9b0 := eq_true c9
    have c9b1 := decide_eq_true c9
    clear c9
    obtain ⟨y485, hy485⟩ : ∃ y_ : List Int, y_ = (List.replicate (t484 : Int).toNat 0) := ⟨_, rfl⟩
    replace H : (if 0 ≤ (wrap64 (a2 - 1)) then (if (wrap64 (a2 - 1)) < (y485.length : Int) then ((field_Charge.f a0_0 a0_1 a0_2 l0_3 (y485.set ((wrap64 (a2 - 1)) : Int).toNat 1000000) a1 a3).bind fun bt489 => (some (wrap64 (-bt489.2.1), wrap64 (-bt489.1), bt489.2.2))) else (none)) else (none)) = some (r1, r2, r3) := by first | (rw [hy485]; with_reducible exact H) | (have H2_ := (Option.bind_some _ _).symm.trans H; rw [hy485]; with_reducible exact H2_) | (have H2_ := (Option.bind_some _ _).symm.trans H; with_reducible exact H2_) | with_reducible exact H | (rw [hy485]; exact H) | exact H
    have Ny485 := Aside0.mk hy485
    clear hy485
    obtain ⟨ji10, hji10⟩ : ∃ j_ : Int, (wrap64 (a2 - 1)) = j_ := ⟨_, rfl⟩
    replace H : (if 0 ≤ (ji10) then (if (ji10) < (y485.length : Int) then ((field_Charge.f a0_0 a0_1 a0_2 l0_3 (y485.set ((ji10) : Int).toNat 1000000) a1 a3).bind fun bt489 => (some (wrap64 (-bt489.2.1), wrap64 (-bt489.1), bt489.2.2))) else (none)) else (none)) = some (r1, r2, r3) := by first | (rw [hji10] at H; exact H) | (simp only [hji10] at H ⊢; exact H)
    (try rw [hji10] at A5)
    (try rw [hji10] at A7)
    have hji10w : (IntKind.i64.wrap (a2 - 1)) = ji10 := (i64_w _).trans hji10
    by_cases c11 : 0 ≤ (ji10)
    ·rw [if_pos c11] at H
     have c11b0 := decide_eq_true c11
     clear c11
     by_cases c12 : (ji10) < (y485.length : Int)
     ·rw [if_pos c12] at H
      have c12b0 := decide_eq_true c12
      clear c12
      obtain ⟨y488, hy488⟩ : ∃ y_ : List Int, y_ = (y485.set ((ji10) : Int).toNat 1000000) := ⟨_, rfl⟩
      replace H : ((field_Charge.f a0_0 a0_1 a0_2 l0_3 y488 a1 a3).bind fun bt489 => (some (wrap64 (-bt489.2.1), wrap64 (-bt489.1), bt489.2.2))) = some (r1, r2, r3) := by first | (rw [hy488]; with_reducible exact H) | (have H2_ := (Option.bind_some _ _).symm.trans H; rw [hy488]; with_reducible exact H2_) | (have H2_ := (Option.bind_some _ _).symm.trans H; with_reducible exact H2_) | with_reducible exact H | (rw [hy488]; exact H) | exact H
      have Ny488 := Aside0.mk hy488
      clear hy488
      replace H := Option.bind_eq_some_iff.mp H
      obtain ⟨⟨t489, t490, t491⟩, A140, H⟩ := H
      replace H : (some (wrap64 (-t490), wrap64 (-t489), t491)) = some (r1, r2, r3) := H
      have A14 := Aside0.mk A140
      clear A140
      simp only [Option.some.injEq, Prod.mk.injEq] at H
      obtain ⟨rfl, rfl, rfl⟩ := H
      go_enter Try.func52, Try.ntmps52
      go_wp2_with (first | ((with_reducible refine gate_dst (N := 4) rfl ?_); refine aBox 4 #[.int .i64 a0_0, .int .i64 a0_1, .bool a0_2, .slice A0_3 l0_3.length c0_3] 24 ?_; intro gb478 hg w15 hbox hb; have BK478 := Aside0.mk (hbox); have GW478 := aGe hg HB; have GE478 := aGe hg HB; replace HB := aBs HB hb; clear hb hbox hg) | ((with_reducible refine gate_dst (N := 8) rfl ?_); refine aBox 8 #[.int .i64 0, .int .i64 0] 42 ?_; intro gb479 hg w16 hbox hb; have BK479 := Aside0.mk (hbox); have GW479 := aGe hg HB; have GE479 := aGe hg HB; replace HB := aBs HB hb; have NB478_479 := aNl hg BK478; have NB479_478 := aNg hg BK478; replace BK478 := aBb BK478 hb; clear hb hbox hg; have hnb17 := NB478_479.out; have hnc17 := NB479_478.out; obtain ⟨⟨hcz18_0, hcz18_1, hcz18_2, hcz18_3⟩, hfz18_0, hfz18_1, hfz18_2, hfz18_3⟩ := aC4 BK478) | ((with_reducible refine gate_dst (N := 18) rfl ?_); refine Kd.R_lit (Kd.int .i64) _ 3 ?hg (N := 18) ?hd (xs := ([a2, a3] : List Int)) (inner := [.int .i64 a2, .int .i64 a3]) (ok := fun _ => True) (okp := fun _ => True) ?hr ?hp (fun _ hk => hk) trivial (Below.refl _ _) (Nat.le_refl _) (by simp) ?_; (case hd => rfl); (case hg => rfl); (case hr => first | (go_simp; done) | (go_simp; rfl)); (case hp => exact (Reps.one (show Kd.M (Kd.int .i64) _ _ _ a2 [.int .i64 a2] from rfl) (Reps.one (show Kd.M (Kd.int .i64) _ _ _ a3 [.int .i64 a3] from rfl) (Reps.none _ _)))); intro v481 w19 ho20 hb hg_ hnew_; clear hg_ hnew_; (first | rw [← Ny480.out] at ho20 | (simp only [Int.reduceToNat] at ho20; rw [← Ny480.out] at ho20)); have HO482 := Aside0.mk (Kd.R_lower ho20 (below_size (aBl HB).out)); replace BK478 := aBb BK478 hb; replace BK479 := aBb BK479 hb; replace HB := aBs HB hb; clear hb ho20; obtain ⟨Ao21, co21, eo21⟩ := Kd.R_slice HO482.out; subst eo21) | ((with_reducible refine gate_callee (f := 91) rfl ?_); refine goesL_ (some 19) rfl rfl Try.func91 (by kernel_rfl) rfl #[.agg #[.int .i64 a0_0, .int .i64 a0_1, .bool a0_2, .slice A0_3 l0_3.length c0_3], .int .i64 a1, .slice Ao21 y480.length co21] rfl aA ?_; (with_reducible refine (field_apart.calls k a0_0 a0_1 a0_2 _ _ l0_3 a1 _ _ y480 t483 _ ?side1 ?side2 ?side3 ?side4 A5.out).mono ?_); (case side1 => exact aC HR0_3 HB); (case side2 => exact HC0_3.out); (case side3 => repeat (first | exact (Kd.R_reads' HO482.out).2.2 | (with_reducible refine Kd.C_alloc ?_ _) | (with_reducible refine Kd.C_drewN ?_ _) | (with_reducible refine Kd.C_drew ?_))); (case side4 => exact (Kd.R_reads' HO482.out).2.1); rintro e w22 ⟨rfl, hb⟩; refine ⟨_, rfl, ?_⟩; replace HO482 := aRb HO482 hb; replace BK478 := aBb BK478 hb; replace BK479 := aBb BK479 hb; replace HB := aBs HB hb; (try clear hb); (try clear hb2); (try clear hk); (try clear hi); obtain ⟨⟨hcz23_0, hcz23_1, hcz23_2, hcz23_3⟩, hfz23_0, hfz23_1, hfz23_2, hfz23_3⟩ := aC4 BK478) | ((with_reducible refine gate_callee (f := 82) rfl ?_); refine goesL_ (some 26) rfl rfl Try.func82 (by kernel_rfl) rfl #[.slice A0_3 l0_3.length c0_3] rfl aA ?_; (with_reducible refine (slices_Max_int_int.calls _ _ l0_3 t484 _ ?side1 ?side2 A7.out).mono ?_); (case side1 => exact aC HR0_3 HB); (case side2 => exact HC0_3.out); rintro e w' ⟨rfl, ⟨nd, rfl⟩⟩; refine ⟨_, rfl, ?_⟩; (try (rw [drewN_self w22]; generalize hq_ : World.drewN w22 _ = w22; replace HO482 : Aside0 (Kd.R (Kd.int .i64) 3 w22 w.heap.size (fun _ => True) (.slice Ao21 y480.length co21) y480) := ⟨by rw [← hq_]; exact (aRk HO482).out⟩; replace BK478 : Aside0 (w22.heap[gb478]? = some (.cells #[.int .i64 a0_0, .int .i64 a0_1, .bool a0_2, .slice A0_3 l0_3.length c0_3] 24 (0, 0))) := ⟨by rw [← hq_]; exact (aBk BK478).out⟩; replace BK479 : Aside0 (w22.heap[gb479]? = some (.cells #[.int .i64 0, .int .i64 0] 42 (0, 0))) := ⟨by rw [← hq_]; exact (aBk BK479).out⟩; replace HB : Aside0 (Below w.heap.size w w22) := ⟨by rw [← hq_]; exact (aBl HB).out⟩; clear hq_))) | ((with_reducible refine gate_dst (N := 27) rfl ?_); refine Kd.R_make (Kd.int .i64) _ 3 rfl (N := 27) rfl 22 _ _ rfl t484 rfl rfl Try.underlying22 (.int .i64 0) 8 info3 rfl (by decide) (by omega) 0 (ok := fun _ => True) (okp := fun _ => True) rfl (fun _ hk => hk) trivial (aD) (Nat.le_trans (Nat.mul_le_mul_right _ (aD : t484.toNat ≤ 35184372088832)) (by omega)) (Below.refl _ _) (Nat.le_refl _) ?_; intro v486 w24 ho25 hb hg_ hnew_; clear hg_ hnew_; (first | rw [← Ny485.out] at ho25 | (simp only [Int.reduceToNat] at ho25; rw [← Ny485.out] at ho25)); have HO487 := Aside0.mk (Kd.R_lower (Kd.R_new' ho25 (Kd.R_lt (aRk HO482).out)) (below_size (aBl HB).out)); replace HO482 := Aside0.mk (Kd.R_elder' (aRk HO482).out (Kd.R_base ho25) hb); replace BK478 := aBb BK478 hb; replace BK479 := aBb BK479 hb; replace HB := aBs HB hb; clear hb ho25; have p13 : 0 ≤ ((ji10) : Int) := aD; have q13 : ((ji10) : Int) < ((y485.length : Int) : Int) := aD; obtain ⟨go13, co13, eo13, gb13, gl13, cl13, HG13⟩ := Kd.R_form HO487.out (by omega); (first | cases eo13 | (injection eo13 with ea_ en_ ec_; (first | subst ea_ | (injection ea_ with ea_; subst ea_)); subst ec_; clear en_)); have GB13 := Aside0.mk gb13; have GG13 := Aside0.mk HG13; clear gb13 gl13 HG13; obtain ⟨hx13_0, hf13_0⟩ := Kd.R_celln 0 HO487.out ((ji10) : Int) p13 q13; replace p13 := eq_true p13; replace q13 := eq_true q13; have n_ := Aside0.mk (Kd.R_mono (ok' := (fun k_ => some k_ ≠ (.slice Ao21 y480.length co21 : Value).ownBlock)) HO487.out (fun k_ hk => hk.2)); clear HO487; have HO487 := n_; clear n_; obtain ⟨hy26_, hz26_⟩ := Kd.R_celln 0 HO487.out ((ji10) : Int) (aD) (aD); have HP26 := Kd.R_putg HO487.out ((ji10) : Int) 1000000) | ((with_reducible refine gate_store (t := 3) (p := 31) rfl ?_); refine store_event (t := 3) (p := 31) (v := ?vo_w27) (w1 := (w24.setCell ⟨go13, ((ji10) : Int).toNat, none⟩ (.int .i64 1000000))) ?hg ?ho ?hn ?hr ?_; (case ho => rfl); (case hg => rfl); (case hn => rfl); (case hr => first | (go_simp; done) | (go_simp; rfl)); intro w27 hw; have hg : w24.grownBy w27 (some go13) := (by rw [hw]; exact HP26.2); have hp_ : Kd.R (Kd.int .i64) 3 w27 w.heap.size (fun k_ => some k_ ≠ (.slice Ao21 y480.length co21 : Value).ownBlock) (.slice (some ⟨go13, 0, none⟩) y485.length co13) y488 := (by rw [hw, Ny488.out]; exact HP26.1); clear HP26; replace BK478 := (aBg BK478 hg (Kd.R_ne HO487.out BK478.out (by decide))); replace BK479 := (aBg BK479 hg (Kd.R_ne HO487.out BK479.out (by decide))); replace HO482 := Aside0.mk (Kd.R_after (v := (.slice (some ⟨go13, 0, none⟩) y485.length co13)) (v1 := (.slice (some ⟨go13, 0, none⟩) y485.length co13)) (ok := (fun _ => True)) (aRk HO482).out hg (.inl rfl)); replace HO487 := Aside0.mk (hp_); replace HB := Aside0.mk ((by rw [hw]; exact below_set (HB.out) GB13.out : Below w.heap.size w w27)); clear hg hw hp_; obtain ⟨⟨hcz28_0, hcz28_1, hcz28_2, hcz28_3⟩, hfz28_0, hfz28_1, hfz28_2, hfz28_3⟩ := aC4 BK478) | ((with_reducible refine gate_callee (f := 30) rfl ?_); refine goesL_ (some 37) rfl rfl Try.func30 (by kernel_rfl) rfl #[.agg #[.int .i64 a0_0, .int .i64 a0_1, .bool a0_2, .slice A0_3 l0_3.length c0_3], .slice (some ⟨go13, 0, none⟩) y488.length co13, .int .i64 a1, .int .i64 a3] rfl (by (try simp only [List.map_toArray, List.map_cons, List.map_nil]); first | done | (rw [show y488.length = y485.length from (Kd.R_reads' HO487.out).1.symm] <;> rfl) | rfl | (simp only [List.length_drop, List.length_take]; rfl)) ?_; (with_reducible refine (field_Charge.calls a0_0 a0_1 a0_2 _ _ l0_3 _ _ y488 a1 a3 t489 t490 t491 _ ?side1 ?side2 ?side3 ?side4 A14.out).mono ?_); (case side1 => exact aC HR0_3 HB); (case side2 => exact HC0_3.out); (case side3 => repeat (first | exact (Kd.R_reads' HO487.out).2.2 | (with_reducible refine Kd.C_alloc ?_ _) | (with_reducible refine Kd.C_drewN ?_ _) | (with_reducible refine Kd.C_drew ?_))); (case side4 => rw [show y488.length = y485.length from (Kd.R_reads' HO487.out).1.symm]; exact (Kd.R_reads' HO487.out).2.1); rintro e w29 ⟨rfl, hb⟩; refine ⟨_, rfl, ?_⟩; replace HO482 := aRb HO482 hb; replace HO487 := aRb HO487 hb; replace BK478 := aBb BK478 hb; replace BK479 := aBb BK479 hb; replace HB := aBs HB hb; (try clear hb); (try clear hb2); (try clear hk); (try clear hi)) | ((with_reducible refine gate_dst (N := 12) rfl ?_); refine aBox 12 #[.int .i64 0, .int .i64 0] 42 ?_; intro gb492 hg w30 hbox hb; replace HO482 := aRb HO482 hb; replace HO487 := aRb HO487 hb; have BK492 := Aside0.mk (hbox); have GW492 := aGe hg HB; have GE492 := aGe hg HB; replace HB := aBs HB hb; have NB478_492 := aNl hg BK478; have NB492_478 := aNg hg BK478; replace BK478 := aBb BK478 hb; have NB479_492 := aNl hg BK479; have NB492_479 := aNg hg BK479; replace BK479 := aBb BK479 hb; clear hb hbox hg; have hnb31 := NB492_478.out; have hnc31 := NB478_492.out; have hnb32 := NB492_479.out; have hnc32 := NB479_492.out; obtain ⟨⟨hcz33_0, hcz33_1⟩, hfz33_0, hfz33_1⟩ := aC2 BK492; obtain ⟨⟨hcz34_0, hcz34_1⟩, hfz34_0, hfz34_1⟩ := aC2 BK479))
      refine bodyPost_ret (results_ct rfl _ _ gb479 42 #[.int .i64 (wrap64 (-t490)), .int .i64 (wrap64 (-t489))] (0, 0) _ rfl (by (with_reducible repeat (first | refine blk_drewN ?_ _ | refine blk_drew ?_ | refine blk_alloc ?_ _)); refine blk_put (cs := #[.int .i64 (wrap64 (-t490)), .int .i64 0]) ?_ 1 _ rfl; (with_reducible repeat (first | refine blk_drewN ?_ _ | refine blk_drew ?_ | refine blk_alloc ?_ _)); refine blk_put (cs := #[.int .i64 0, .int .i64 0]) ?_ 0 _ rfl; (with_reducible repeat (first | refine blk_drewN ?_ _ | refine blk_drew ?_ | refine blk_alloc ?_ _)); refine blk_far ?_ NB479_492.out _; (with_reducible repeat (first | refine blk_drewN ?_ _ | refine blk_drew ?_ | refine blk_alloc ?_ _)); refine blk_far ?_ NB479_492.out _; (with_reducible repeat (first | refine blk_drewN ?_ _ | refine blk_drew ?_ | refine blk_alloc ?_ _)); exact BK479.out) Try.underlying42 rfl (by kernel_rfl)) rfl ?_
      exact ⟨by first | rfl | (simp [errW_none, errW_some] <;> rfl) | (simp only [← hji10]; first | rfl | (simp [errW_none, errW_some] <;> rfl)) | (simp [*, errW_none, errW_some] <;> rfl), (aBl HB).out⟩
     ·rw [if_neg c12] at H
      exact absurd H (by simp)
    ·rw [if_neg c11] at H
     exact absurd H (by simp)
   ·rw [if_neg c9] at H
    exact absurd H (by simp)
  ·rw [if_neg c8] at H
   exact absurd H (by simp)
 ·rw [if_neg c6] at H
  obtain ⟨c6b0, c6b1⟩ := aNe c6
  simp only [Option.some.injEq, Prod.mk.injEq] at H
  obtain ⟨rfl, rfl, rfl⟩ := H
  go_enter Try.func52, Try.ntmps52
  go_wp2_with (first | ((with_reducible refine gate_dst (N := 4) rfl ?_); refine aBox 4 #[.int .i64 a0_0, .int .i64 a0_1, .bool a0_2, .slice A0_3 l0_3.length c0_3] 24 ?_; intro gb478 hg w35 hbox hb; have BK478 := Aside0.mk (hbox); have GW478 := aGe hg HB; have GE478 := aGe hg HB; replace HB := aBs HB hb; clear hb hbox hg) | ((with_reducible refine gate_dst (N := 8) rfl ?_); refine aBox 8 #[.int .i64 0, .int .i64 0] 42 ?_; intro gb479 hg w36 hbox hb; have BK479 := Aside0.mk (hbox); have GW479 := aGe hg HB; have GE479 := aGe hg HB; replace HB := aBs HB hb; have NB478_479 := aNl hg BK478; have NB479_478 := aNg hg BK478; replace BK478 := aBb BK478 hb; clear hb hbox hg; have hnb37 := NB478_479.out; have hnc37 := NB479_478.out; obtain ⟨⟨hcz38_0, hcz38_1, hcz38_2, hcz38_3⟩, hfz38_0, hfz38_1, hfz38_2, hfz38_3⟩ := aC4 BK478) | ((with_reducible refine gate_dst (N := 18) rfl ?_); refine Kd.R_lit (Kd.int .i64) _ 3 ?hg (N := 18) ?hd (xs := ([a2, a3] : List Int)) (inner := [.int .i64 a2, .int .i64 a3]) (ok := fun _ => True) (okp := fun _ => True) ?hr ?hp (fun _ hk => hk) trivial (Below.refl _ _) (Nat.le_refl _) (by simp) ?_; (case hd => rfl); (case hg => rfl); (case hr => first | (go_simp; done) | (go_simp; rfl)); (case hp => exact (Reps.one (show Kd.M (Kd.int .i64) _ _ _ a2 [.int .i64 a2] from rfl) (Reps.one (show Kd.M (Kd.int .i64) _ _ _ a3 [.int .i64 a3] from rfl) (Reps.none _ _)))); intro v481 w39 ho40 hb hg_ hnew_; clear hg_ hnew_; (first | rw [← Ny480.out] at ho40 | (simp only [Int.reduceToNat] at ho40; rw [← Ny480.out] at ho40)); have HO482 := Aside0.mk (Kd.R_lower ho40 (below_size (aBl HB).out)); replace BK478 := aBb BK478 hb; replace BK479 := aBb BK479 hb; replace HB := aBs HB hb; clear hb ho40; obtain ⟨Ao41, co41, eo41⟩ := Kd.R_slice HO482.out; subst eo41) | ((with_reducible refine gate_callee (f := 91) rfl ?_); refine goesL_ (some 19) rfl rfl Try.func91 (by kernel_rfl) rfl #[.agg #[.int .i64 a0_0, .int .i64 a0_1, .bool a0_2, .slice A0_3 l0_3.length c0_3], .int .i64 a1, .slice Ao41 y480.length co41] rfl aA ?_; (with_reducible refine (field_apart.calls k a0_0 a0_1 a0_2 _ _ l0_3 a1 _ _ y480 t483 _ ?side1 ?side2 ?side3 ?side4 A5.out).mono ?_); (case side1 => exact aC HR0_3 HB); (case side2 => exact HC0_3.out); (case side3 => repeat (first | exact (Kd.R_reads' HO482.out).2.2 | (with_reducible refine Kd.C_alloc ?_ _) | (with_reducible refine Kd.C_drewN ?_ _) | (with_reducible refine Kd.C_drew ?_))); (case side4 => exact (Kd.R_reads' HO482.out).2.1); rintro e w42 ⟨rfl, hb⟩; refine ⟨_, rfl, ?_⟩; replace HO482 := aRb HO482 hb; replace BK478 := aBb BK478 hb; replace BK479 := aBb BK479 hb; replace HB := aBs HB hb; (try clear hb); (try clear hb2); (try clear hk); (try clear hi); obtain ⟨⟨hcz43_0, hcz43_1⟩, hfz43_0, hfz43_1⟩ := aC2 BK479))
  refine bodyPost_ret (results_ct rfl _ _ gb479 42 #[.int .i64 0, .int .i64 0] (0, 0) _ rfl (by (with_reducible repeat (first | refine blk_drewN ?_ _ | refine blk_drew ?_ | refine blk_alloc ?_ _)); refine blk_put (cs := #[.int .i64 0, .int .i64 0]) ?_ 1 _ rfl; (with_reducible repeat (first | refine blk_drewN ?_ _ | refine blk_drew ?_ | refine blk_alloc ?_ _)); refine blk_put (cs := #[.int .i64 0, .int .i64 0]) ?_ 0 _ rfl; (with_reducible repeat (first | refine blk_drewN ?_ _ | refine blk_drew ?_ | refine blk_alloc ?_ _)); exact BK479.out) Try.underlying42 rfl (by kernel_rfl)) rfl ?_
  exact ⟨by first | rfl | (simp [errW_none, errW_some] <;> rfl) | (simp [*, errW_none, errW_some] <;> rfl), (aBl HB).out⟩
end Go.Proofs.Ytndkkjpgnmahbaa.Print
end

section
namespace Go.Proofs.Ytndkkjpgnmahbaa.Print
open Go.RowKit Go.Proofs.YtndkkjpgnmahbaaW.PrintWords Go.Proofs.YtndkkjpgnmahbaaW.PrintLast Go.Proofs.YtndkkjpgnmahbaaW.PrintMore Go.Proofs.Field
set_option linter.unusedVariables false
theorem contains_ev (l : List Int) (b : Int) (hl : l.length ≤ 1000000) {k : Nat} (hk : l.length + 1 ≤ k) : slices_Contains_int_int.f k l b = some (l.contains b) :=
 at_rounds (g := fun k => slices_Contains_int_int.f k l b) (fun k => slices_Contains_int_int.mono l b k) hk (contains_int l b hl rfl)
theorem has_ev (W H : Int) (R : Bool) (C : List Int) (e : Int) (hl : C.length ≤ 1000000) {k : Nat} (hk : C.length + 1 ≤ k) : field_has.f k W H R C e = some (hasB C e) := by
 obtain ⟨d, rfl⟩ : ∃ d, k = C.length + 1 + d := ⟨k - (C.length + 1), by omega⟩
 exact has_eq W H R C e hl d
def dupFrom (l : List Int) (i : Nat) : Nat → Bool
 | 0 => false
 | d + 1 => (l.take i).contains (fn l i) || dupFrom l (i + 1) d
def apartErr (W H : Int) (R : Bool) (C : List Int) (n : Int) (l : List Int) : Int :=
 if checkErr W H R C ≠ 0 then checkErr W H R C else if n < 0 ∨ 200 < n then 2 else if l.all (hasB C) = false then 7 else if dupFrom l 0 l.length = true then 9 else 0
theorem apart_l1 (l : List Int) (hl : l.length ≤ 1000) : ∀ (d i k : Nat), i + d = l.length → d + l.length + 2 ≤ k → field_apart.l1 k l l (l.length : Int) (i : Int) = some (if dupFrom l i d = true then 9 else 0)
 | 0, i, k, h, hk => by
  obtain ⟨k, rfl⟩ : ∃ k', k = k' + 1 := ⟨k - 1, by omega⟩
  rw [field_apart.l1, if_neg (by omega), dupFrom, if_neg (by simp)]
 | d + 1, i, k, h, hk => by
  obtain ⟨k, rfl⟩ : ∃ k', k = k' + 1 := ⟨k - 1, by omega⟩
  have hw : wrap64 ((i : Int) + 1) = ((i + 1 : Nat) : Int) := by rw [IntWalk.wrap64_in _ (by omega)]; omega
  rw [field_apart.l1, if_pos (by omega), if_pos (by omega), if_pos (by omega), if_pos (by omega), Int.toNat_natCast, rd_fn l i (by omega), obind (contains_ev _ _ (by rw [List.length_take]; omega) (by rw [List.length_take]; omega)), dupFrom]
  cases q : (l.take i).contains (fn l i) with
  | true => rw [if_pos rfl, if_pos (by simp)]
  | false =>
   rw [if_neg (by simp), hw, apart_l1 l hl d (i + 1) k (by omega) (by omega), Bool.false_or]
theorem apart_l0 (W H : Int) (R : Bool) (C l : List Int) (hC : C.length ≤ 1000) (hl : l.length ≤ 1000) : ∀ (d i k : Nat), i + d = l.length → d + 2 * l.length + C.length + 5 ≤ k →
  field_apart.l0 k l l (l.length : Int) (i : Int) W H R C = some (if (l.drop i).all (hasB C) = false then 7 else if dupFrom l 0 l.length = true then 9 else 0)
 | 0, i, k, h, hk => by
  obtain ⟨k, rfl⟩ : ∃ k', k = k' + 1 := ⟨k - 1, by omega⟩
  have h1 := apart_l1 l hl l.length 0 k (by omega) (by omega)
  rw [field_apart.l0, if_neg (by omega), List.drop_eq_nil_of_le (by omega)]
  exact h1
 | d + 1, i, k, h, hk => by
  obtain ⟨k, rfl⟩ : ∃ k', k = k' + 1 := ⟨k - 1, by omega⟩
  have hw : wrap64 ((i : Int) + 1) = ((i + 1 : Nat) : Int) := by rw [IntWalk.wrap64_in _ (by omega)]; omega
  have hil : i < l.length := by omega
  have e : fn l i = l[i] := by unfold fn; rw [List.getD_eq_getElem?_getD, List.getElem?_eq_getElem hil]; rfl
  rw [field_apart.l0, if_pos (by omega), if_pos (by omega), if_pos (by omega), rd_fn l i hil, obind (has_ev W H R C _ (by omega) (by omega)), List.drop_eq_getElem_cons hil, List.all_cons, ← e]
  cases q : hasB C (fn l i) with
  | true => rw [if_pos rfl, hw, apart_l0 W H R C l hC hl d (i + 1) k (by omega) (by omega), Bool.true_and]
  | false => rw [if_neg (by simp), if_pos (by simp)]
theorem apart_eq (W H : Int) (R : Bool) (C l : List Int) (n : Int) (hC : C.length ≤ 1000) (hl : l.length ≤ 1000) {k : Nat} (hk : 3 * l.length + C.length + 6 ≤ k) : field_apart.f k W H R C n l = some (apartErr W H R C n l) := by
 obtain ⟨k, rfl⟩ : ∃ k', k = k' + 1 := ⟨k - 1, by omega⟩
 unfold field_apart.f apartErr
 rw [obind (show field_Check.f W H R C = some (checkErr W H R C) from rfl)]
 by_cases q : checkErr W H R C = 0
 ·rw [if_pos q, if_neg (show ¬ checkErr W H R C ≠ 0 from fun f => f q)]
  by_cases r : n < 0
  ·rw [if_pos r, field_apart.j0, if_pos rfl, if_pos (.inl r)]
  ·rw [if_neg r, field_apart.j0]
   by_cases t : n > 200
   ·rw [if_pos (by simpa using t), if_pos (.inr t)]
   ·have h0 := apart_l0 W H R C l hC hl l.length 0 k (by omega) (by omega)
    rw [List.drop_zero] at h0
    rw [if_neg (by simpa using t), if_neg (by omega)]
    exact h0
 ·rw [if_neg q, if_pos q]
theorem hasB_mem {C : List Int} {e : Int} : hasB C e = true ↔ 0 < e ∧ e ∈ C := by
 unfold hasB
 rw [Bool.and_eq_true, decide_eq_true_eq, List.contains_iff_mem]
theorem apart_two {W H : Int} {R : Bool} {C : List Int} {n a b : Int} (hck : checkErr W H R C = 0) (hn : 0 ≤ n ∧ n ≤ 200) (hab : a ≠ b) : apartErr W H R C n [a, b] = if hasB C a = true ∧ hasB C b = true then 0 else 7 := by
 unfold apartErr
 rw [if_neg (by simpa using hck), if_neg (by omega)]
 by_cases q : hasB C a = true ∧ hasB C b = true
 ·rw [if_pos q, if_neg (by simp [q.1, q.2]), if_neg]
  simp [dupFrom, fn, Ne.symm hab]
 ·rw [if_neg q, if_pos]
  simp only [List.all_cons, List.all_nil, Bool.and_true]
  cases h1 : hasB C a <;> cases h2 : hasB C b <;> simp_all
theorem unit_right {W H : Int} {R : Bool} {C : List Int} {m : Nat} {a : Int} (hck : checkErr W H R C = 0) (hm : maxOf C = m) (ha : 1 ≤ a ∧ a ≤ m) : voltErr W H R C (unitV m a 1000000) = 0 := by
 unfold voltErr
 rw [if_neg (by simpa using hck), if_neg (by unfold unitV; rw [List.length_set, List.length_replicate, hm]; simp), if_neg]
 rintro ⟨v, hv, hb⟩
 obtain ⟨i, hi, rfl⟩ := mem_fn hv
 rw [fn_unitV ha] at hb
 split at hb <;> omega
theorem has_max {C : List Int} {m : Nat} {a : Int} (hm : maxOf C = m) (h : hasB C a = true) : 1 ≤ a ∧ a ≤ m := by
 obtain ⟨h1, h2⟩ := hasB_mem.1 h
 have := le_maxOf h2
 omega
theorem influence_eq {W H : Nat} {R : Bool} {C : List Int} {n m : Nat} {a b : Int} (hck : checkErr W H R C = 0) (hn : n ≤ 200) (hab : a ≠ b) (hm : maxOf C = m) (ha : hasB C a = true) (hb : hasB C b = true) {k : Nat} (hk : C.length + 12 ≤ k) :
  ∃ (hV : Volted W H R C (unitV m a 1000000)), C.length ≤ 256 ∧ field_Influence.f k W H R C n a b = some (inflow W H R C b (solveN W H R C (unitV m a 1000000) 256 n).1, inflow W H R C b (solveN W H R C (unitV m a 1000000) 256 n).2.1, 0) := by
 have ha' := has_max hm ha
 have hb' := has_max hm hb
 have hv := unit_right hck hm ha'
 obtain ⟨W', H', eW, eH, hW16, hH16, h256, _, hV⟩ := volted_of hv
 obtain rfl : W = W' := by omega
 obtain rfl : H = H' := by omega
 refine ⟨hV, h256, ?_⟩
 have hne := check_ne hck
 have hm6 : m ≤ 6 := by
  obtain ⟨i, hi, e⟩ := mem_fn (maxOf_mem hne)
  have := (hV.elr i hi).2
  omega
 have hp := solve_pair hV h256 n
 have hr := fun j (hj : j < C.length) => solve_range hV h256 n hj
 obtain ⟨t1, t2⟩ := bounds_len hV h256 n
 have hs := solve_eq (n := n) hv hn
 have hz : ∀ i, i < W * H → fn C i = b → volt C (unitV m a 1000000) i = 0 := fun i hi e => by
  rw [volt_unitV ha' (by rw [e]; omega), if_neg (by rw [e]; exact Ne.symm hab)]
 have hub : fn (unitV m a 1000000) (b.toNat - 1) = 0 := by rw [fn_unitV ha', if_neg (by omega)]
 have hlo : ∀ i, i < W * H → fn C i = b → fn (solveN W H R C (unitV m a 1000000) 256 n).1 i = 0 := fun i hi e => by
  rw [hp.low.1.el i (by rw [hV.len]; exact hi) (by omega)]; exact hz i hi e
 have hhi : ∀ i, i < W * H → fn C i = b → fn (solveN W H R C (unitV m a 1000000) 256 n).2.1 i = 0 := fun i hi e => by
  rw [hp.high.1.el i (by rw [hV.len]; exact hi) (by omega)]; exact hz i hi e
 have hlen := hV.len
 obtain ⟨A, hA⟩ : ∃ A, solveN W H R C (unitV m a 1000000) 256 n = A := ⟨_, rfl⟩
 rw [hA] at hr t1 t2 hs hlo hhi ⊢
 have c1 : chTo W H R C b 0 (A.1.take C.length) C.length = - inflow W H R C b A.1 := by
  have e := chTo_inflow (W := W) (H := H) (R := R) (C := C) (k := b) (b := A.1.take C.length) (fun i hi e => by rw [fn_take (by omega)]; exact hlo i hi e)
  rw [← hlen] at e
  rw [e]
  unfold inflow
  congr 1
  refine sumTo_congr (fun i hi => ?_)
  by_cases q : fn C i = b
  ·rw [if_pos q, if_pos q]; exact Net.S_congr i (fun j hj => fn_take (by rw [hlen]; exact hj))
  ·rw [if_neg q, if_neg q]
 have c2 : chTo W H R C b 0 (A.2.1.take C.length) C.length = - inflow W H R C b A.2.1 := by
  have e := chTo_inflow (W := W) (H := H) (R := R) (C := C) (k := b) (b := A.2.1.take C.length) (fun i hi e => by rw [fn_take (by omega)]; exact hhi i hi e)
  rw [← hlen] at e
  rw [e]
  unfold inflow
  congr 1
  refine sumTo_congr (fun i hi => ?_)
  by_cases q : fn C i = b
  ·rw [if_pos q, if_pos q]; exact Net.S_congr i (fun j hj => fn_take (by rw [hlen]; exact hj))
  ·rw [if_neg q, if_neg q]
 have d1 := chTo_bound (W := W) (H := H) (R := R) (C := C) (e := b) (u := 0) (b := A.1.take C.length) (by omega) hW16 (fun j hj => by rw [fn_take (by omega)]; exact (hr j (by omega)).1) C.length (by omega)
 have d2 := chTo_bound (W := W) (H := H) (R := R) (C := C) (e := b) (u := 0) (b := A.2.1.take C.length) (by omega) hW16 (fun j hj => by rw [fn_take (by omega)]; exact (hr j (by omega)).2) C.length (by omega)
 have hch : field_Charge.f W H R C (unitV m a 1000000) n b = some (chTo W H R C b 0 (A.2.1.take C.length) C.length, chTo W H R C b 0 (A.1.take C.length) C.length, 0) := by
  unfold field_Charge.f
  rw [obind hs]
  show (if (0 : Int) ≠ 0 then _ else if hasB C b = false then _ else _) = _
  rw [if_neg (by simp), if_neg (by rw [hb]; simp), hub, Int.toNat_natCast, Int.toNat_natCast]
 rw [c1, c2] at hch
 rw [c1] at d1
 rw [c2] at d2
 have hap : apartErr W H R C n [a, b] = 0 := by rw [apart_two hck (by omega) hab]; exact if_pos ⟨ha, hb⟩
 unfold field_Influence.f
 rw [obind (apart_eq W H R C [a, b] n (by omega) (by simp) (by simp; omega)), hap, if_pos rfl]
 have hmx : slices_Max_int_int.f C = some (m : Int) := by unfold slices_Max_int_int.f; rw [if_neg hne, hm]
 have hwa : wrap64 (a - 1) = a - 1 := IntWalk.wrap64_in _ (by omega)
 rw [obind hmx, if_pos (by omega), Int.toNat_natCast, if_pos (by omega), obind rfl, hwa, if_pos (by omega), if_pos (by rw [List.length_replicate]; omega)]
 have hu : (List.replicate m (0 : Int)).set (a - 1).toNat 1000000 = unitV m a 1000000 := by
  unfold unitV
  rw [show (a - 1).toNat = a.toNat - 1 by omega]
 rw [hu, obind hch]
 show some (wrap64 (- - inflow W H R C b A.1), wrap64 (- - inflow W H R C b A.2.1), (0 : Int)) = _
 rw [IntWalk.wrap64_in _ (by omega), IntWalk.wrap64_in _ (by omega), Int.neg_neg, Int.neg_neg]
theorem influence_both {W H : Nat} {R : Bool} {C : List Int} {n n' m : Nat} {a b : Int} (hm : maxOf C = m) (ha : hasB C a = true) (hb : hasB C b = true) (h256 : C.length ≤ 256)
  (hV : Volted W H R C (unitV m a 1000000)) (hV' : Volted W H R C (unitV m b 1000000)) :
  inflow W H R C b (solveN W H R C (unitV m a 1000000) 256 n).1 ≤ inflow W H R C a (solveN W H R C (unitV m b 1000000) 256 n').2.1 ∧ 0 ≤ inflow W H R C b (solveN W H R C (unitV m a 1000000) 256 n).1 := by
 have ha' := has_max hm ha
 have hb' := has_max hm hb
 have z : ∀ c, 1 ≤ c ∧ c ≤ (m : Int) → ∀ i, i < C.length → 0 < fn C i → 0 ≤ volt C (unitV m c 1000000) i := fun c hc i _ hp => by
  rw [volt_unitV hc hp]; split <;> omega
 have l0 := fun i (hi : i < W * H) => (solve_nonneg hV (z a ha') h256 n hi).1
 have h0 := fun i (hi : i < W * H) => (solve_nonneg hV' (z b hb') h256 n' hi).2
 exact ⟨there_back (by omega) ha' hb' hV (solve_pair hV h256 n).low (solve_pair hV' h256 n').high l0 h0, inflow_nonneg l0⟩

end Go.Proofs.Ytndkkjpgnmahbaa.Print
end

section
namespace Go.Proofs.Field
open Go.RowKit Go.Proofs.YtndkkjpgnmahbaaW.PrintWords Go.Proofs.YtndkkjpgnmahbaaW.PrintLast Go.Proofs.YtndkkjpgnmahbaaW.PrintMore Go.Proofs.Ytndkkjpgnmahbaa.Print
set_option linter.unusedVariables false
def colOf (W : Nat) (dx : Int) (i : Nat) : Int := wrap64 (((i % W : Nat) : Int) + dx)
def linOf (W : Nat) (dy : Int) (i : Nat) : Int := wrap64 (((i / W : Nat) : Int) + dy)
def fitsB (W H : Nat) (dx dy : Int) (i : Nat) : Bool := decide (0 ≤ colOf W dx i ∧ colOf W dx i < W ∧ 0 ≤ linOf W dy i ∧ linOf W dy i < H)
def tgt (W : Nat) (dx dy : Int) (i : Nat) : Nat := (linOf W dy i).toNat * W + (colOf W dx i).toNat
def clearTo (C : List Int) (e : Int) : Nat → List Int
 | 0 => C
 | n + 1 => if fn C n = e then (clearTo C e n).set n 0 else clearTo C e n
def tosTo (W : Nat) (C : List Int) (e dx dy : Int) : Nat → List Int
 | 0 => []
 | n + 1 => if fn C n = e then tosTo W C e dx dy n ++ [((tgt W dx dy n : Nat) : Int)] else tosTo W C e dx dy n
def putTo (l : List Int) (e : Int) (out : List Int) : Nat → List Int
 | 0 => out
 | n + 1 => (putTo l e out n).set (fn l n).toNat e
theorem clearTo_length (C : List Int) (e : Int) : ∀ n, (clearTo C e n).length = C.length
 | 0 => rfl
 | n + 1 => by rw [clearTo]; split <;> simp [clearTo_length C e n]
theorem putTo_length (l : List Int) (e : Int) (out : List Int) : ∀ n, (putTo l e out n).length = out.length
 | 0 => rfl
 | n + 1 => by rw [putTo, List.length_set, putTo_length]
theorem tosTo_length (W : Nat) (C : List Int) (e dx dy : Int) : ∀ n, (tosTo W C e dx dy n).length ≤ n
 | 0 => Nat.le_refl _
 | n + 1 => by
  have := tosTo_length W C e dx dy n
  rw [tosTo]
  split
  ·rw [List.length_append]; simp; omega
  ·omega
theorem tgt_lt {W H : Nat} {dx dy : Int} {i : Nat} (h : fitsB W H dx dy i = true) : tgt W dx dy i < W * H := by
 unfold fitsB at h
 have h := of_decide_eq_true h
 obtain ⟨c, hc⟩ : ∃ c : Nat, colOf W dx i = c := ⟨(colOf W dx i).toNat, by omega⟩
 obtain ⟨l, hl⟩ : ∃ l : Nat, linOf W dy i = l := ⟨(linOf W dy i).toNat, by omega⟩
 unfold tgt
 rw [hc, hl] at h ⊢
 simp only [Int.toNat_natCast]
 have h1 : (l + 1) * W ≤ H * W := Nat.mul_le_mul_right W (by omega)
 rw [Nat.add_mul, Nat.mul_comm H W] at h1
 omega
def AllFit (W H : Nat) (C : List Int) (e dx dy : Int) (n : Nat) : Prop := ∀ i, i < n → fn C i = e → fitsB W H dx dy i = true
theorem tos_range {W H : Nat} {C : List Int} {e dx dy : Int} : ∀ {n : Nat}, AllFit W H C e dx dy n → ∀ t, t ∈ tosTo W C e dx dy n → ∃ k : Nat, t = k ∧ k < W * H
 | 0, _, t, h => by simp [tosTo] at h
 | n + 1, hf, t, h => by
  have ih := tos_range (n := n) (fun i hi he => hf i (by omega) he) t
  rw [tosTo] at h
  split at h
  next q =>
   rcases List.mem_append.1 h with h | h
   ·exact ih h
   ·exact ⟨_, List.mem_singleton.1 h, tgt_lt (hf n (by omega) q)⟩
  next => exact ih h
def unfitB (W H : Nat) (C : List Int) (e dx dy : Int) : Bool := (List.range C.length).any (fun i => decide (fn C i = e) && !fitsB W H dx dy i)
def takenB (C l : List Int) (e : Int) : Bool := l.any (fun t => decide (fn C t.toNat ≠ 0) && decide (fn C t.toNat ≠ e))
def shOut (W : Nat) (C : List Int) (e dx dy : Int) : List Int := putTo (tosTo W C e dx dy C.length) e (clearTo C e C.length) (tosTo W C e dx dy C.length).length
def shiftE (W H : Int) (R : Bool) (C : List Int) (e dx dy : Int) : Int × Int × Bool × List Int × Int :=
 if checkErr W H R C ≠ 0 then (0, 0, false, [], checkErr W H R C) else if hasB C e = false then (0, 0, false, [], 7) else
 if unfitB W.toNat H.toNat C e dx dy = true then (0, 0, false, [], 2) else if takenB C (tosTo W.toNat C e dx dy C.length) e = true then (0, 0, false, [], 9) else
 if checkErr W H R (shOut W.toNat C e dx dy) ≠ 0 then (0, 0, false, [], checkErr W H R (shOut W.toNat C e dx dy)) else (W, H, R, shOut W.toNat C e dx dy, 0)
theorem unfit_at {W H : Nat} {C : List Int} {e dx dy : Int} {i : Nat} (hi : i < C.length) (he : fn C i = e) (h : fitsB W H dx dy i = false) : unfitB W H C e dx dy = true := by
 unfold unfitB
 rw [List.any_eq_true]
 exact ⟨i, List.mem_range.2 hi, by rw [h, he]; simp⟩
theorem unfit_none {W H : Nat} {C : List Int} {e dx dy : Int} (h : AllFit W H C e dx dy C.length) : unfitB W H C e dx dy = false := by
 unfold unfitB
 rw [List.any_eq_false]
 intro i hi
 have hi := List.mem_range.1 hi
 by_cases q : fn C i = e
 ·rw [h i hi q]; simp
 ·simp [q]
theorem taken_at {C l : List Int} {e : Int} {j : Nat} (hj : j < l.length) (h1 : fn C (fn l j).toNat ≠ 0) (h2 : fn C (fn l j).toNat ≠ e) : takenB C l e = true := by
 unfold takenB
 rw [List.any_eq_true]
 exact ⟨fn l j, fn_mem hj, by simp [h1, h2]⟩
theorem taken_none {C l : List Int} {e : Int} (h : ∀ j, j < l.length → fn C (fn l j).toNat = 0 ∨ fn C (fn l j).toNat = e) : takenB C l e = false := by
 unfold takenB
 rw [List.any_eq_false]
 intro t ht
 obtain ⟨j, hj, rfl⟩ := mem_fn ht
 rcases h j hj with q | q
 ·simp [q]
 ·simp [q]
end Go.Proofs.Field
namespace Go.Proofs.Ytndkkjpgnmahbaa.Print
open Go.RowKit Go.Proofs.YtndkkjpgnmahbaaW.PrintWords Go.Proofs.YtndkkjpgnmahbaaW.PrintLast Go.Proofs.YtndkkjpgnmahbaaW.PrintMore Go.Proofs.Ytndkkjpgnmahbaa.H Go.Proofs.Field
set_option linter.unusedVariables false
structure ShM (w W : World) (l : List (Nat × Array Value × TypeId)) (gO N cO : Nat) (out : List Int) (vT : Value) (tl : List Int) : Prop where
 m : Mem w W l
 o : Kd.R (Kd.int .i64) 3 W w.heap.size (fun _ => True) (.slice (some ⟨gO, 0, none⟩) N cO) out
 t : Kd.R (Kd.int .i64) 3 W w.heap.size (fun k => k ≠ gO) vT tl
 t24 : ∀ p, p ∈ l → p.2.2 = 24
namespace ShM
variable {w W W1 : World} {l : List (Nat × Array Value × TypeId)} {gO N cO : Nat} {out : List Int} {vT : Value} {tl : List Int}
theorem ne (h : ShM w W l gO N cO out vT tl) : ∀ p, p ∈ l → p.1 ≠ gO := fun p hp e => by
 have h1 := h.m.blk p hp
 rw [h.t24 p hp] at h1
 exact Kd.R_ne h.o h1 (by decide) (by rw [e]; rfl)
theorem gO_ge (h : ShM w W l gO N cO out vT tl) : w.heap.size ≤ gO := Kd.R_base h.o gO rfl
theorem step (h : ShM w W l gO N cO out vT tl) (hb : Below W.heap.size W W1) : ShM w W1 l gO N cO out vT tl := ⟨h.m.step hb, Kd.R_below h.o hb, Kd.R_below h.t hb, h.t24⟩
theorem put (h : ShM w W l gO N cO out vT tl) (i : Nat) (x : Int) : ShM w (W.setCell ⟨gO, i, none⟩ (.int .i64 x)) l gO N cO (out.set i x) vT tl := by
 refine ⟨⟨below_set h.m.below h.gO_ge, fun p hp => blk_far (p := ⟨gO, i, none⟩) (h.m.blk p hp) (h.ne p hp) _, h.m.ge, h.m.apart⟩, ?_, Kd.R_far (p := ⟨gO, i, none⟩) h.t (fun k hk => hk) _, h.t24⟩
 have h1 := Kd.R_putn (enc := Value.int .i64) (h1 := fun _ => rfl) h.o (i : Int) x
 rw [Int.toNat_natCast] at h1
 exact h1
theorem app {v1 : Value} {tl1 : List Int} (h : ShM w W l gO N cO out vT tl) (hR : Kd.R (Kd.int .i64) 3 W1 w.heap.size (fun k => k ≠ gO) v1 tl1) (hg : W.grownBy W1 vT.ownBlock) : ShM w W1 l gO N cO out v1 tl1 := by
 refine ⟨h.m.grown hg (fun k hk => Kd.R_base h.t k hk) (fun p hp => ?_), Kd.R_grown2 h.o rfl hg (fun k hk e => ?_), hR, h.t24⟩
 ·have h1 := h.m.blk p hp
  rw [h.t24 p hp] at h1
  exact Kd.R_ne h.t h1 (by decide)
 ·have h1 := h.t.1 k hk
  injection e with e
  exact h1 e
theorem cell (h : ShM w W l gO N cO out vT tl) {i : Nat} (hi : i < N) : W.cell? ⟨gO, i, none⟩ = some (.int .i64 (fn out i)) ∧ W.frozen? ⟨gO, i, none⟩ = false := by
 have h1 := Kd.R_celln (enc := Value.int .i64) (h1 := fun _ => rfl) (0 : Int) h.o (i : Int) (by omega) (by omega)
 rw [Int.toNat_natCast] at h1
 refine ⟨h1.1.trans ?_, h1.2⟩
 unfold fn
 simp [rdOf]
theorem fresh (h : ShM w W l gO N cO out vT tl) : ∀ k, W.heap.size ≤ k → k ≠ gO := fun k hk e => by
 subst e
 have := Kd.R_lt h.o k rfl
 omega
end ShM
end Go.Proofs.Ytndkkjpgnmahbaa.Print
end

section
namespace Go.Proofs.Ytndkkjpgnmahbaa.Print
open Go.RowKit Go.Proofs.YtndkkjpgnmahbaaW.PrintWords Go.Proofs.YtndkkjpgnmahbaaW.PrintLast Go.Proofs.YtndkkjpgnmahbaaW.PrintMore
attribute [local go_sem] max2_int min2_int max_two min_two max_three min_three max_four min_four
set_option linter.unusedVariables false
set_option linter.unusedSimpArgs false
def thermionref01_SameInts.l0 : Nat → List Int → List Int → Int → Option (Bool)
 | 0, _, _, _ => none
 | k + 1, x0, x1, x5 => if x5 < (x0.length : Int) then (if 0 ≤ x5 then (if x5 < (x1.length : Int) then (if (rd x0 x5) = (rd x1 x5) then (thermionref01_SameInts.l0 k x0 x1 (wrap64 (x5 + 1))) else (some false)) else (none)) else (none)) else (some true)
def thermionref01_SameInts.f (k : Nat) (l0 : List Int) (l1 : List Int) : Option (Bool) := if (l0.length : Int) = (l1.length : Int) then (thermionref01_SameInts.l0 k l0 l1 0) else (some false)
set_option maxHeartbeats 8000000 in
set_option maxRecDepth 100000 in
theorem thermionref01_SameInts.calls (k : Nat) (A0 : Option Addr) (c0 : Nat) (l0 : List Int) (A1 : Option Addr) (c1 : Nat) (l1 : List Int) (r : Bool) (w : World) (hr0 : Kd.C (Kd.int .i64) w A0 l0.length l0) (hc0 : l0.length ≤ c0) (hr1 : Kd.C (Kd.int .i64) w A1 l1.length l1) (hc1 : l1.length ≤ c1) (h : thermionref01_SameInts.f k l0 l1 = some r) :
  Calls Try.prog 76 #[.slice A0 l0.length c0, .slice A1 l1.length c1] w fun e w' => e = .returned (.bool r) ∧ Drawn0 w w' := by
 have HR0 := Aside0.mk hr0
 have HC0 := Aside0.mk hc0
 clear hr0 hc0
 have HR1 := Aside0.mk hr1
 have HC1 := Aside0.mk hc1
 clear hr1 hc1
 have H : (if (l0.length : Int) = (l1.length : Int) then (thermionref01_SameInts.l0 k l0 l1 0) else (some false)) = some r := h
 clear h
 by_cases c3 : (l0.length : Int) = (l1.length : Int)
 ·rw [if_pos c3] at H
  obtain ⟨c3b0, c3b1⟩ := aEq c3
  have c3b2 : (l0.length == l1.length) = true := by first | simpa using c3 | (simp at c3 ⊢; omega)
  clear c3
  have H' := Aside0.mk H
  clear H
  go_enter Try.func76, Try.ntmps76
  go_wp2
  repeat (go_quiet (fail); try go_wp2)
  go_loopg [5] k (fun kq v5 w' => ∃ (x5_1 : Int), v5 = .int .i64 x5_1 ∧ Aside0 (thermionref01_SameInts.l0 kq l0 l1 x5_1 = some r) ∧ Aside0 (kq ≤ k) ∧ Drawn0 w w')
  case atStart => exact ⟨(0), aR, H', ⟨Nat.le_refl _⟩, by repeat (first | exact Drawn0.refl _ | apply Drawn0.step)⟩
  case round =>
   clear H'
   try clear c1; try clear p2; try clear c3; try clear c3b0; try clear c3b1; try clear c3b2
   obtain ⟨x5_1, rfl, HA, HK1, ⟨m1, rfl⟩⟩ := hrel
   cases gk with
   | zero => exact absurd HA.out (by simp [thermionref01_SameInts.l0])
   | succ k1 =>
    have H := HA.out
    clear HA
    simp only [thermionref01_SameInts.l0] at H
    by_cases c4 : x5_1 < (l0.length : Int)
    ·rw [if_pos c4] at H
     have c4b0 := decide_eq_true c4
     clear c4
     by_cases c5 : 0 ≤ x5_1
     ·rw [if_pos c5] at H
      have c5b0 := decide_eq_true c5
      clear c5
      by_cases c6 : x5_1 < (l1.length : Int)
      ·rw [if_pos c6] at H
       have c6b0 := decide_eq_true c6
       clear c6
       by_cases c7 : (rd l0 x5_1) = (rd l1 x5_1)
       ·rw [if_pos c7] at H
        obtain ⟨c7b0, c7b1⟩ := aEq c7
        clear c7
        have H' := Aside0.mk H
        clear H
        have p233 : 0 ≤ (x5_1 : Int) := aD
        have q233 : x5_1 < (l0.length : Int) := aD
        obtain ⟨ad233, e233, hx233_0⟩ := Kd.at_int HR0.out x5_1 p233 q233
        cases e233
        replace p233 := eq_true p233
        replace q233 := eq_true q233
        have p234 : 0 ≤ (x5_1 : Int) := aD
        have q234 : x5_1 < (l1.length : Int) := aD
        obtain ⟨ad234, e234, hx234_0⟩ := Kd.at_int HR1.out x5_1 p234 q234
        cases e234
        replace p234 := eq_true p234
        replace q234 := eq_true q234
        go_wp2
        repeat (go_quiet (fail); try go_wp2)
        go_roundg k1
        case measure => have := HK1.out; omega
        case rel => exact ⟨(wrap64 (x5_1 + 1)), aR, H', ⟨by have := HK1.out; omega⟩, by repeat (first | exact Drawn0.refl _ | apply Drawn0.step)⟩
       ·rw [if_neg c7] at H
        obtain ⟨c7b0, c7b1⟩ := aNe c7
        obtain rfl := Option.some.inj H
        have p233 : 0 ≤ (x5_1 : Int) := aD
        have q233 : x5_1 < (l0.length : Int) := aD
        obtain ⟨ad233, e233, hx233_0⟩ := Kd.at_int HR0.out x5_1 p233 q233
        cases e233
        replace p233 := eq_true p233
        replace q233 := eq_true q233
        have p234 : 0 ≤ (x5_1 : Int) := aD
        have q234 : x5_1 < (l1.length : Int) := aD
        obtain ⟨ad234, e234, hx234_0⟩ := Kd.at_int HR1.out x5_1 p234 q234
        cases e234
        replace p234 := eq_true p234
        replace q234 := eq_true q234
        go_wp2
        repeat (go_quiet (fail); try go_wp2)
        go_ret
        exact ⟨by first | rfl | (simp; done) | (simp [*]; done), by repeat (first | exact Drawn0.refl _ | apply Drawn0.step)⟩
      ·rw [if_neg c6] at H
       exact absurd H (by simp)
     ·rw [if_neg c5] at H
      exact absurd H (by simp)
    ·rw [if_neg c4] at H
     have c4b0 := decide_eq_false c4
     clear c4
     obtain rfl := Option.some.inj H
     go_wp2
     repeat (go_quiet (fail); try go_wp2)
     go_ret
     exact ⟨by first | rfl | (simp; done) | (simp [*]; done), by repeat (first | exact Drawn0.refl _ | apply Drawn0.step)⟩
 ·rw [if_neg c3] at H
  obtain ⟨c3b0, c3b1⟩ := aNe c3
  have c3b2 : (l0.length == l1.length) = false := by first | simpa using c3 | (simp at c3 ⊢; omega)
  obtain rfl := Option.some.inj H
  go_enter Try.func76, Try.ntmps76
  go_wp2
  repeat (go_quiet (fail); try go_wp2)
  go_ret
  exact ⟨by first | rfl | (simp; done) | (simp [*]; done), by repeat (first | exact Drawn0.refl _ | apply Drawn0.step)⟩
def thermionref01_Same.f (k : Nat) (a0_0 : Int) (a0_1 : Int) (a0_2 : Bool) (l0_3 : List Int) (a1_0 : Int) (a1_1 : Int) (a1_2 : Bool) (l1_3 : List Int) : Option (Bool) := if a0_0 = a1_0 then (if a0_1 = a1_1 then (if (a0_2 == a1_2) = true then ((thermionref01_SameInts.f k l0_3 l1_3).bind fun t237 => (some t237)) else (some false)) else (some false)) else (some false)
set_option maxHeartbeats 8000000 in
set_option maxRecDepth 100000 in
theorem thermionref01_Same.calls (k : Nat) (a0_0 : Int) (a0_1 : Int) (a0_2 : Bool) (A0_3 : Option Addr) (c0_3 : Nat) (l0_3 : List Int) (a1_0 : Int) (a1_1 : Int) (a1_2 : Bool) (A1_3 : Option Addr) (c1_3 : Nat) (l1_3 : List Int) (r : Bool) (w : World) (hr0_3 : Kd.C (Kd.int .i64) w A0_3 l0_3.length l0_3) (hc0_3 : l0_3.length ≤ c0_3) (hr1_3 : Kd.C (Kd.int .i64) w A1_3 l1_3.length l1_3) (hc1_3 : l1_3.length ≤ c1_3) (h : thermionref01_Same.f k a0_0 a0_1 a0_2 l0_3 a1_0 a1_1 a1_2 l1_3 = some r) :
  Calls Try.prog 29 #[.agg #[.int .i64 a0_0, .int .i64 a0_1, .bool a0_2, .slice A0_3 l0_3.length c0_3], .agg #[.int .i64 a1_0, .int .i64 a1_1, .bool a1_2, .slice A1_3 l1_3.length c1_3]] w fun e w' => e = .returned (.bool r) ∧ Below w.heap.size w w' := by
 have hu24 := Try.underlying24
 have HR0_3 := Aside0.mk hr0_3
 have HC0_3 := Aside0.mk hc0_3
 clear hr0_3 hc0_3
 have HR1_3 := Aside0.mk hr1_3
 have HC1_3 := Aside0.mk hc1_3
 clear hr1_3 hc1_3
 have HB := Aside0.mk (Below.refl w.heap.size w)
 have H : (if a0_0 = a1_0 then (if a0_1 = a1_1 then (if (a0_2 == a1_2) = true then ((thermionref01_SameInts.f k l0_3 l1_3).bind fun t237 => (some t237)) else (some false)) else (some false)) else (some false)) = some r := h
 clear h
 by_cases c3 : a0_0 = a1_0
 ·rw [if_pos c3] at H
  obtain ⟨c3b0, c3b1⟩ := aEq c3
  clear c3
  by_cases c4 : a0_1 = a1_1
  ·rw [if_pos c4] at H
   obtain ⟨c4b0, c4b1⟩ := aEq c4
   clear c4
   by_cases c5 : (a0_2 == a1_2) = true
   ·rw [if_pos c5] at H
    have c5b0 : (a0_2 == a1_2) = true := c5
    (try (have c5b1 : decide (a0_2 = a1_2) = true := by simpa using c5))
    (try (have c5b2 : (a0_2 == a1_2) = true := by simpa using c5))
    clear c5
    obtain ⟨t237, A60, H⟩ := Option.bind_eq_some_iff.mp H
    have A6 := Aside0.mk A60
    clear A60
    obtain rfl := Option.some.inj H
    go_enter Try.func29, Try.ntmps29
    go_wp2_with (first | ((with_reducible refine gate_dst (N := 2) rfl ?_); refine aBox 2 #[.int .i64 a0_0, .int .i64 a0_1, .bool a0_2, .slice A0_3 l0_3.length c0_3] 24 ?_; intro gb235 hg w7 hbox hb; have BK235 := Aside0.mk (hbox); have GW235 := aGe hg HB; have GE235 := aGe hg HB; replace HB := aBs HB hb; clear hb hbox hg) | ((with_reducible refine gate_dst (N := 3) rfl ?_); refine aBox 3 #[.int .i64 a1_0, .int .i64 a1_1, .bool a1_2, .slice A1_3 l1_3.length c1_3] 24 ?_; intro gb236 hg w8 hbox hb; have BK236 := Aside0.mk (hbox); have GW236 := aGe hg HB; have GE236 := aGe hg HB; replace HB := aBs HB hb; have NB235_236 := aNl hg BK235; have NB236_235 := aNg hg BK235; replace BK235 := aBb BK235 hb; clear hb hbox hg; have hnb9 := NB235_236.out; have hnc9 := NB236_235.out; obtain ⟨⟨hcz10_0, hcz10_1, hcz10_2, hcz10_3⟩, hfz10_0, hfz10_1, hfz10_2, hfz10_3⟩ := aC4 BK235; obtain ⟨⟨hcz11_0, hcz11_1, hcz11_2, hcz11_3⟩, hfz11_0, hfz11_1, hfz11_2, hfz11_3⟩ := aC4 BK236) | (go_at_call 76; (with_reducible refine (thermionref01_SameInts.calls k _ _ l0_3 _ _ l1_3 t237 _ ?side1 ?side2 ?side3 ?side4 A6.out).mono ?_); (case side1 => exact aC HR0_3 HB); (case side2 => exact HC0_3.out); (case side3 => exact aC HR1_3 HB); (case side4 => exact HC1_3.out); rintro e w' ⟨rfl, ⟨nd, rfl⟩⟩))
    go_ret
    exact ⟨by first | rfl | (simp [errW_none, errW_some] <;> rfl) | (simp [*, errW_none, errW_some] <;> rfl), (aBl HB).out⟩
   ·rw [if_neg c5] at H
    have c5b0 : (a0_2 == a1_2) = false := by simpa using c5
    (try (have c5b1 : decide (a0_2 = a1_2) = false := by simpa using c5))
    (try (have c5b2 : (a0_2 == a1_2) = false := by simpa using c5))
    (try (have c5b3 : ¬ (a0_2 = a1_2) := by simpa using c5))
    clear c5
    obtain rfl := Option.some.inj H
    go_enter Try.func29, Try.ntmps29
    go_wp2_with (first | ((with_reducible refine gate_dst (N := 2) rfl ?_); refine aBox 2 #[.int .i64 a0_0, .int .i64 a0_1, .bool a0_2, .slice A0_3 l0_3.length c0_3] 24 ?_; intro gb235 hg w12 hbox hb; have BK235 := Aside0.mk (hbox); have GW235 := aGe hg HB; have GE235 := aGe hg HB; replace HB := aBs HB hb; clear hb hbox hg) | ((with_reducible refine gate_dst (N := 3) rfl ?_); refine aBox 3 #[.int .i64 a1_0, .int .i64 a1_1, .bool a1_2, .slice A1_3 l1_3.length c1_3] 24 ?_; intro gb236 hg w13 hbox hb; have BK236 := Aside0.mk (hbox); have GW236 := aGe hg HB; have GE236 := aGe hg HB; replace HB := aBs HB hb; have NB235_236 := aNl hg BK235; have NB236_235 := aNg hg BK235; replace BK235 := aBb BK235 hb; clear hb hbox hg; have hnb14 := NB235_236.out; have hnc14 := NB236_235.out; obtain ⟨⟨hcz15_0, hcz15_1, hcz15_2, hcz15_3⟩, hfz15_0, hfz15_1, hfz15_2, hfz15_3⟩ := aC4 BK235; obtain ⟨⟨hcz16_0, hcz16_1, hcz16_2, hcz16_3⟩, hfz16_0, hfz16_1, hfz16_2, hfz16_3⟩ := aC4 BK236))
    go_ret
    exact ⟨by first | rfl | (simp [errW_none, errW_some] <;> rfl) | (simp [*, errW_none, errW_some] <;> rfl), (aBl HB).out⟩
  ·rw [if_neg c4] at H
   obtain ⟨c4b0, c4b1⟩ := aNe c4
   obtain rfl := Option.some.inj H
   go_enter Try.func29, Try.ntmps29
   go_wp2_with (first | ((with_reducible refine gate_dst (N := 2) rfl ?_); refine aBox 2 #[.int .i64 a0_0, .int .i64 a0_1, .bool a0_2, .slice A0_3 l0_3.length c0_3] 24 ?_; intro gb235 hg w17 hbox hb; have BK235 := Aside0.mk (hbox); have GW235 := aGe hg HB; have GE235 := aGe hg HB; replace HB := aBs HB hb; clear hb hbox hg) | ((with_reducible refine gate_dst (N := 3) rfl ?_); refine aBox 3 #[.int .i64 a1_0, .int .i64 a1_1, .bool a1_2, .slice A1_3 l1_3.length c1_3] 24 ?_; intro gb236 hg w18 hbox hb; have BK236 := Aside0.mk (hbox); have GW236 := aGe hg HB; have GE236 := aGe hg HB; replace HB := aBs HB hb; have NB235_236 := aNl hg BK235; have NB236_235 := aNg hg BK235; replace BK235 := aBb BK235 hb; clear hb hbox hg; have hnb19 := NB235_236.out; have hnc19 := NB236_235.out; obtain ⟨⟨hcz20_0, hcz20_1, hcz20_2, hcz20_3⟩, hfz20_0, hfz20_1, hfz20_2, hfz20_3⟩ := aC4 BK235; obtain ⟨⟨hcz21_0, hcz21_1, hcz21_2, hcz21_3⟩, hfz21_0, hfz21_1, hfz21_2, hfz21_3⟩ := aC4 BK236))
   go_ret
   exact ⟨by first | rfl | (simp [errW_none, errW_some] <;> rfl) | (simp [*, errW_none, errW_some] <;> rfl), (aBl HB).out⟩
 ·rw [if_neg c3] at H
  obtain ⟨c3b0, c3b1⟩ := aNe c3
  obtain rfl := Option.some.inj H
  go_enter Try.func29, Try.ntmps29
  go_wp2_with (first | ((with_reducible refine gate_dst (N := 2) rfl ?_); refine aBox 2 #[.int .i64 a0_0, .int .i64 a0_1, .bool a0_2, .slice A0_3 l0_3.length c0_3] 24 ?_; intro gb235 hg w22 hbox hb; have BK235 := Aside0.mk (hbox); have GW235 := aGe hg HB; have GE235 := aGe hg HB; replace HB := aBs HB hb; clear hb hbox hg) | ((with_reducible refine gate_dst (N := 3) rfl ?_); refine aBox 3 #[.int .i64 a1_0, .int .i64 a1_1, .bool a1_2, .slice A1_3 l1_3.length c1_3] 24 ?_; intro gb236 hg w23 hbox hb; have BK236 := Aside0.mk (hbox); have GW236 := aGe hg HB; have GE236 := aGe hg HB; replace HB := aBs HB hb; have NB235_236 := aNl hg BK235; have NB236_235 := aNg hg BK235; replace BK235 := aBb BK235 hb; clear hb hbox hg; have hnb24 := NB235_236.out; have hnc24 := NB236_235.out; obtain ⟨⟨hcz25_0, hcz25_1, hcz25_2, hcz25_3⟩, hfz25_0, hfz25_1, hfz25_2, hfz25_3⟩ := aC4 BK235; obtain ⟨⟨hcz26_0, hcz26_1, hcz26_2, hcz26_3⟩, hfz26_0, hfz26_1, hfz26_2, hfz26_3⟩ := aC4 BK236))
  go_ret
  exact ⟨by first | rfl | (simp [errW_none, errW_some] <;> rfl) | (simp [*, errW_none, errW_some] <;> rfl), (aBl HB).out⟩



end Go.Proofs.Ytndkkjpgnmahbaa.Print
end

section
namespace Go.Proofs.Ytndkkjpgnmahbaa.Print
open Go.RowKit Go.Proofs.YtndkkjpgnmahbaaW.PrintWords Go.Proofs.YtndkkjpgnmahbaaW.PrintLast Go.Proofs.YtndkkjpgnmahbaaW.PrintMore Go.Proofs.Field
set_option linter.unusedVariables false
theorem rd_get (b : List Int) (i : Nat) (h : i < b.length) : rd b (i : Int) = b[i] := by
 unfold rd
 simp [h]
theorem refints_go (a b : List Int) (hl : a.length = b.length) (h1 : a.length ≤ 1000000) : ∀ (d i : Nat), i + d = a.length → Ev (fun k => thermionref01_SameInts.l0 k a b (i : Int)) (decide (a.drop i = b.drop i))
 | 0, i, h => Ev.now (fun k => by
  show thermionref01_SameInts.l0 (k + 1) _ _ _ = _
  rw [thermionref01_SameInts.l0, if_neg (by omega), List.drop_eq_nil_of_le (by omega), List.drop_eq_nil_of_le (by omega)]
  simp)
 | d + 1, i, h => by
  have hi : i < a.length := by omega
  have hj : i < b.length := by omega
  have hw : wrap64 ((i : Int) + 1) = ((i + 1 : Nat) : Int) := by rw [IntWalk.wrap64_in _ (by omega)]; omega
  rw [List.drop_eq_getElem_cons hi, List.drop_eq_getElem_cons hj]
  generalize hx : a.drop (i + 1) = xa
  generalize hy : b.drop (i + 1) = xb
  by_cases q : a[i] = b[i]
  ·have ih := refints_go a b hl h1 d (i + 1) (by omega)
   rw [hx, hy] at ih
   have e : decide (a[i] :: xa = b[i] :: xb) = decide (xa = xb) := by rw [q]; simp
   rw [e]
   refine ih.step 0 (fun k _ => ?_)
   show thermionref01_SameInts.l0 (k + 1) _ _ _ = _
   rw [thermionref01_SameInts.l0, if_pos (by omega), if_pos (by omega), if_pos (by omega), rd_get a i hi, rd_get b i hj, if_pos q, hw]
  ·have e : decide (a[i] :: xa = b[i] :: xb) = false := by simp [q]
   rw [e]
   exact Ev.now (fun k => by
    show thermionref01_SameInts.l0 (k + 1) _ _ _ = _
    rw [thermionref01_SameInts.l0, if_pos (by omega), if_pos (by omega), if_pos (by omega), rd_get a i hi, rd_get b i hj, if_neg q])
theorem refints_eq (a b : List Int) (h1 : a.length ≤ 1000000) : Ev (fun k => thermionref01_SameInts.f k a b) (decide (a = b)) := by
 unfold thermionref01_SameInts.f
 by_cases q : a.length = b.length
 ·have h := refints_go a b q h1 a.length 0 (by omega)
  rw [List.drop_zero, List.drop_zero] at h
  obtain ⟨K, hK⟩ := h
  exact ⟨K, fun k hk => (if_pos (by omega)).trans (hK k hk)⟩
 ·have e : decide (a = b) = false := decide_eq_false (fun h => q (by rw [h]))
  rw [e]
  exact ⟨0, fun k _ => if_neg (by omega)⟩
theorem refsame_eq (W H : Int) (R : Bool) (C : List Int) (W2 H2 : Int) (R2 : Bool) (C2 : List Int) (h1 : C.length ≤ 1000000) : Ev (fun k => thermionref01_Same.f k W H R C W2 H2 R2 C2) (decide (W = W2 ∧ H = H2 ∧ R = R2 ∧ C = C2)) := by
 unfold thermionref01_Same.f
 by_cases a : W = W2
 ·by_cases b : H = H2
  ·by_cases c : R = R2
   ·obtain ⟨K, hK⟩ := refints_eq C C2 h1
    refine ⟨K, fun k hk => ?_⟩
    have h2 : thermionref01_SameInts.f k C C2 = some (decide (C = C2)) := hK k hk
    show (if W = W2 then _ else _) = _
    rw [if_pos a, if_pos b, if_pos (by simp [c]), h2]
    simp [a, b, c]
   ·exact ⟨0, fun k _ => by
     show (if W = W2 then _ else _) = _
     rw [if_pos a, if_pos b, if_neg (by simp [c])]; simp [c]⟩
  ·exact ⟨0, fun k _ => by
    show (if W = W2 then _ else _) = _
    rw [if_pos a, if_neg b]; simp [b]⟩
 ·exact ⟨0, fun k _ => by
   show (if W = W2 then _ else _) = _
   rw [if_neg a]; simp [a]⟩
theorem ourcopy_eq (W H : Int) (R : Bool) (C : List Int) (h : C.length ≤ 1000000) : field_Copy.f W H R C = some (W, H, R, C) := by
 unfold field_Copy.f
 unfold slices_Clone_int_int.f
 rw [if_pos h]
 rfl
end Go.Proofs.Ytndkkjpgnmahbaa.Print
end

section
namespace Go.Proofs.Ytndkkjpgnmahbaa.Print
open Go.RowKit Go.Proofs.YtndkkjpgnmahbaaW.PrintWords Go.Proofs.YtndkkjpgnmahbaaW.PrintLast Go.Proofs.YtndkkjpgnmahbaaW.PrintMore
attribute [local go_sem] max2_int min2_int max_two min_two max_three min_three max_four min_four
set_option linter.unusedVariables false
set_option linter.unusedSimpArgs false
mutual
def thermionref01_askable.l0 : Nat → List Int → Int → Int → Int → Bool → List Int → Option (Int)
 | 0, _, _, _, _, _, _ => none
 | k + 1, x2, x8, x532000, x532001, x532002, x532003 => if x8 < (x2.length : Int) then (if 0 ≤ x8 then ((thermionref01_has.f k x532000 x532001 x532002 x532003 (rd x2 x8)).bind fun t535 => (if t535 = true then (thermionref01_askable.l0 k x2 (wrap64 (x8 + 1)) x532000 x532001 x532002 x532003) else (some 7))) else (none)) else (thermionref01_askable.l1 k x2 0)
def thermionref01_askable.l1 : Nat → List Int → Int → Option (Int)
 | 0, _, _ => none
 | k + 1, x2, x9 => if x9 < (x2.length : Int) then (thermionref01_askable.l2 k x2 x9 0) else (some 0)
def thermionref01_askable.l2 : Nat → List Int → Int → Int → Option (Int)
 | 0, _, _, _ => none
 | k + 1, x2, x9, x10 => if x10 < x9 then (if 0 ≤ x9 then (if x9 < (x2.length : Int) then (if 0 ≤ x10 then (if x10 < (x2.length : Int) then (if (rd x2 x9) = (rd x2 x10) then (some 9) else (thermionref01_askable.l2 k x2 x9 (wrap64 (x10 + 1)))) else (none)) else (none)) else (none)) else (none)) else (thermionref01_askable.l1 k x2 (wrap64 (x9 + 1)))
end
def thermionref01_askable.f (k : Nat) (a0_0 : Int) (a0_1 : Int) (a0_2 : Bool) (l0_3 : List Int) (a1 : Int) (l2 : List Int) : Option (Int) := (thermionref01_Check.f k a0_0 a0_1 a0_2 l0_3).bind fun t532 => (if t532 = 0 then ((thermionref01_beyond.f a1 0 200).bind fun t533 => (if t533 = true then (some 2) else (thermionref01_askable.l0 k l2 0 a0_0 a0_1 a0_2 l0_3))) else (some t532))
def thermionref01_influence.f (k : Nat) (a0_0 : Int) (a0_1 : Int) (a0_2 : Bool) (l0_3 : List Int) (a1 : Int) (a2 : Int) (a3 : Int) : Option (Int × Int) := (thermionref01_greatest.f k a0_0 a0_1 a0_2 l0_3).bind fun t540 => (if 0 ≤ t540 then (if (t540 : Int).toNat ≤ 35184372088832 then ((some (List.replicate (t540 : Int).toNat 0 : List Int)).bind fun y541 => (if 0 ≤ (wrap64 (a2 - 1)) then (if (wrap64 (a2 - 1)) < (y541.length : Int) then ((some (y541.set ((wrap64 (a2 - 1)) : Int).toNat 1000000 : List Int)).bind fun y544 => ((thermionref01_Solve.f a0_0 a0_1 a0_2 l0_3 y544 a1).bind fun bt545 => ((thermionref01_charge.f k a0_0 a0_1 a0_2 l0_3 y544 bt545.1 bt545.2.1 bt545.2.2.1 bt545.2.2.2.1 a3).bind fun bt555 => (some (wrap64 (-bt555.2), wrap64 (-bt555.1)))))) else (none)) else (none))) else (none)) else (none))
def thermionref01_Influence.f (k : Nat) (a0_0 : Int) (a0_1 : Int) (a0_2 : Bool) (l0_3 : List Int) (a1 : Int) (a2 : Int) (a3 : Int) : Option (Int × Int × Int) := (thermionref01_askable.f k a0_0 a0_1 a0_2 l0_3 a1 (([a2, a3] : List Int))).bind fun t563 => (if t563 = 0 then ((thermionref01_influence.f k a0_0 a0_1 a0_2 l0_3 a1 a2 a3).bind fun bt564 => (some (bt564.1, bt564.2, 0))) else (some (0, 0, t563)))
def field_Amplification.f (k : Nat) (a0_0 : Int) (a0_1 : Int) (a0_2 : Bool) (l0_3 : List Int) (a1 : Int) (a2 : Int) (a3 : Int) (a4 : Int) : Option (Int × Int × Int) := (field_apart.f k a0_0 a0_1 a0_2 l0_3 a1 (([a2, a3, a4] : List Int))).bind fun t571 => (if t571 = 0 then ((field_Influence.f k a0_0 a0_1 a0_2 l0_3 a1 a3 a2).bind fun bt572 => ((field_Influence.f k a0_0 a0_1 a0_2 l0_3 a1 a4 a2).bind fun bt576 => (if bt576.1 < 1 then (some (0, 0, 10)) else ((field_down.f (wrap64 (1000 * bt572.1)) bt576.2.1).bind fun t580 => ((field_up.f (wrap64 (1000 * bt572.2.1)) bt576.1).bind fun t581 => (some (t580, t581, 0))))))) else (some (0, 0, t571)))
def field_Amplification.T8 : Bool × List (List Nat × List Nat) := (true, [([], []), ([0], [0]), ([1], [1]), ([], []), ([3], [3]), ([2, 4], [2, 4]), ([], []), ([6], [6]), ([7], [7]), ([], []), ([9], [9]), ([8, 10, 5], [8, 10]), ([5, 11], [5, 11]), ([12, 11, 0, 1, 2, 3, 4, 5, 6, 7, 8, 9, 10, 11, 12], [12]), ([13, 0, 1, 2, 3, 4, 5, 6, 7, 8, 9, 10, 11, 12, 13], [])])
def field_Amplification.B8 : List Nat := [0, 1, 3, 0, 8, 31, 0, 64, 192, 0, 512, 2047, 4095, 8191, 16383]
theorem field_Amplification.tab8 : rtab .any (opsOf Try.f56 8) = field_Amplification.T8 := by kernel_rfl
theorem field_Amplification.bits8 : waitsOk field_Amplification.T8.2 field_Amplification.B8 = true := by kernel_rfl
set_option maxHeartbeats 8000000 in
set_option maxRecDepth 100000 in
theorem field_Amplification.calls (k : Nat) (a0_0 : Int) (a0_1 : Int) (a0_2 : Bool) (A0_3 : Option Addr) (c0_3 : Nat) (l0_3 : List Int) (a1 : Int) (a2 : Int) (a3 : Int) (a4 : Int) (r1 : Int) (r2 : Int) (r3 : Int) (w : World) (hr0_3 : Kd.C (Kd.int .i64) w A0_3 l0_3.length l0_3) (hc0_3 : l0_3.length ≤ c0_3) (h : field_Amplification.f k a0_0 a0_1 a0_2 l0_3 a1 a2 a3 a4 = some (r1, r2, r3)) :
  Calls Try.prog 56 #[.agg #[.int .i64 a0_0, .int .i64 a0_1, .bool a0_2, .slice A0_3 l0_3.length c0_3], .int .i64 a1, .int .i64 a2, .int .i64 a3, .int .i64 a4] w fun e w' => e = .returned (.tuple #[.agg #[.int .i64 r1, .int .i64 r2], .int .i64 r3]) ∧ Below w.heap.size w w' := by
 have hu24 := Try.underlying24
 have hu42 := Try.underlying42
 have HR0_3 := Aside0.mk hr0_3
 have HC0_3 := Aside0.mk hc0_3
 clear hr0_3 hc0_3
 have HB := Aside0.mk (Below.refl w.heap.size w)
 have H : ((field_apart.f k a0_0 a0_1 a0_2 l0_3 a1 (([a2, a3, a4] : List Int))).bind fun t571 => (if t571 = 0 then ((field_Influence.f k a0_0 a0_1 a0_2 l0_3 a1 a3 a2).bind fun bt572 => ((field_Influence.f k a0_0 a0_1 a0_2 l0_3 a1 a4 a2).bind fun bt576 => (if bt576.1 < 1 then (some (0, 0, 10)) else ((field_down.f (wrap64 (1000 * bt572.1)) bt576.2.1).bind fun t580 => ((field_up.f (wrap64 (1000 * bt572.2.1)) bt576.1).bind fun t581 => (some (t580, t581, 0))))))) else (some (0, 0, t571)))) = some (r1, r2, r3) := h
 clear h
 obtain ⟨y568, hy568⟩ : ∃ y_ : List Int, y_ = (([a2, a3, a4] : List Int)) := ⟨_, rfl⟩
 replace H : ((field_apart.f k a0_0 a0_1 a0_2 l0_3 a1 y568).bind fun t571 => (if t571 = 0 then ((field_Influence.f k a0_0 a0_1 a0_2 l0_3 a1 a3 a2).bind fun bt572 => ((field_Influence.f k a0_0 a0_1 a0_2 l0_3 a1 a4 a2).bind fun bt576 => (if bt576.1 < 1 then (some (0, 0, 10)) else ((field_down.f (wrap64 (1000 * bt572.1)) bt576.2.1).bind fun t580 => ((field_up.f (wrap64 (1000 * bt572.2.1)) bt576.1).bind fun t581 => (some (t580, t581, 0))))))) else (some (0, 0, t571)))) = some (r1, r2, r3) := by first | (rw [hy568]; with_reducible exact H) | (have H2_ := (Option.bind_some _ _).symm.trans H; rw [hy568]; with_reducible exact H2_) | (have H2_ := (Option.bind_some _ _).symm.trans H; with_reducible exact H2_) | with_reducible exact H | (rw [hy568]; exact H) | exact H
 have Ny568 := Aside0.mk hy568
 clear hy568
 obtain ⟨t571, A60, H⟩ := Option.bind_eq_some_iff.mp H
 have A6 := Aside0.mk A60
 clear A60
 by_cases c7 : t571 = 0
 ·rw [if_pos c7] at H
  obtain ⟨c7b0, c7b1⟩ := aEq c7
  clear c7
  replace H := Option.bind_eq_some_iff.mp H
  obtain ⟨⟨t572, t573, t574⟩, A80, H⟩ := H
  replace H : ((field_Influence.f k a0_0 a0_1 a0_2 l0_3 a1 a4 a2).bind fun bt576 => (if bt576.1 < 1 then (some (0, 0, 10)) else ((field_down.f (wrap64 (1000 * t572)) bt576.2.1).bind fun t580 => ((field_up.f (wrap64 (1000 * t573)) bt576.1).bind fun t581 => (some (t580, t581, 0)))))) = some (r1, r2, r3) := H
  have A8 := Aside0.mk A80
  clear A80
  replace H := Option.bind_eq_some_iff.mp H
  obtain ⟨⟨t576, t577, t578⟩, A90, H⟩ := H
  replace H : (if t576 < 1 then (some (0, 0, 10)) else ((field_down.f (wrap64 (1000 * t572)) t577).bind fun t580 => ((field_up.f (wrap64 (1000 * t573)) t576).bind fun t581 => (some (t580, t581, 0))))) = some (r1, r2, r3) := H
  have A9 := Aside0.mk A90
  clear A90
  by_cases c10 : t576 < 1
  ·rw [if_pos c10] at H
   have c10b0 := decide_eq_true c10
   clear c10
   simp only [Option.some.injEq, Prod.mk.injEq] at H
   obtain ⟨rfl, rfl, rfl⟩ := H
   go_enter Try.func56, Try.ntmps56
   go_wp2_with (first | ((with_reducible refine gate_dst (N := 5) rfl ?_); refine aBox 5 #[.int .i64 a0_0, .int .i64 a0_1, .bool a0_2, .slice A0_3 l0_3.length c0_3] 24 ?_; intro gb566 hg w11 hbox hb; have BK566 := Aside0.mk (hbox); have GW566 := aGe hg HB; have GE566 := aGe hg HB; replace HB := aBs HB hb; clear hb hbox hg) | ((with_reducible refine gate_dst (N := 10) rfl ?_); refine aBox 10 #[.int .i64 0, .int .i64 0] 42 ?_; intro gb567 hg w12 hbox hb; have BK567 := Aside0.mk (hbox); have GW567 := aGe hg HB; have GE567 := aGe hg HB; replace HB := aBs HB hb; have NB566_567 := aNl hg BK566; have NB567_566 := aNg hg BK566; replace BK566 := aBb BK566 hb; clear hb hbox hg; have hnb13 := NB566_567.out; have hnc13 := NB567_566.out; obtain ⟨⟨hcz14_0, hcz14_1, hcz14_2, hcz14_3⟩, hfz14_0, hfz14_1, hfz14_2, hfz14_3⟩ := aC4 BK566) | ((with_reducible refine gate_dst (N := 22) rfl ?_); refine Kd.R_lit (Kd.int .i64) _ 3 ?hg (N := 22) ?hd (xs := ([a2, a3, a4] : List Int)) (inner := [.int .i64 a2, .int .i64 a3, .int .i64 a4]) (ok := fun _ => True) (okp := fun _ => True) ?hr ?hp (fun _ hk => hk) trivial (Below.refl _ _) (Nat.le_refl _) (by simp) ?_; (case hd => rfl); (case hg => rfl); (case hr => first | (go_simp; done) | (go_simp; rfl)); (case hp => exact (Reps.one (show Kd.M (Kd.int .i64) _ _ _ a2 [.int .i64 a2] from rfl) (Reps.one (show Kd.M (Kd.int .i64) _ _ _ a3 [.int .i64 a3] from rfl) (Reps.one (show Kd.M (Kd.int .i64) _ _ _ a4 [.int .i64 a4] from rfl) (Reps.none _ _))))); intro v569 w15 ho16 hb hg_ hnew_; clear hg_ hnew_; (first | rw [← Ny568.out] at ho16 | (simp only [Int.reduceToNat] at ho16; rw [← Ny568.out] at ho16)); have HO570 := Aside0.mk (Kd.R_lower ho16 (below_size (aBl HB).out)); replace BK566 := aBb BK566 hb; replace BK567 := aBb BK567 hb; replace HB := aBs HB hb; clear hb ho16; obtain ⟨Ao17, co17, eo17⟩ := Kd.R_slice HO570.out; subst eo17) | ((with_reducible refine gate_callee (f := 91) rfl ?_); refine goesL_ (some 23) rfl rfl Try.func91 (by kernel_rfl) rfl #[.agg #[.int .i64 a0_0, .int .i64 a0_1, .bool a0_2, .slice A0_3 l0_3.length c0_3], .int .i64 a1, .slice Ao17 y568.length co17] rfl aA ?_; (with_reducible refine (field_apart.calls k a0_0 a0_1 a0_2 _ _ l0_3 a1 _ _ y568 t571 _ ?side1 ?side2 ?side3 ?side4 A6.out).mono ?_); (case side1 => exact aC HR0_3 HB); (case side2 => exact HC0_3.out); (case side3 => repeat (first | exact (Kd.R_reads' HO570.out).2.2 | (with_reducible refine Kd.C_alloc ?_ _) | (with_reducible refine Kd.C_drewN ?_ _) | (with_reducible refine Kd.C_drew ?_))); (case side4 => exact (Kd.R_reads' HO570.out).2.1); rintro e w18 ⟨rfl, hb⟩; refine ⟨_, rfl, ?_⟩; replace HO570 := aRb HO570 hb; replace BK566 := aBb BK566 hb; replace BK567 := aBb BK567 hb; replace HB := aBs HB hb; (try clear hb); (try clear hb2); (try clear hk); (try clear hi); obtain ⟨⟨hcz19_0, hcz19_1, hcz19_2, hcz19_3⟩, hfz19_0, hfz19_1, hfz19_2, hfz19_3⟩ := aC4 BK566) | ((with_reducible refine gate_callee (f := 52) rfl ?_); refine goesL_ (some 33) rfl rfl Try.func52 (by kernel_rfl) rfl #[.agg #[.int .i64 a0_0, .int .i64 a0_1, .bool a0_2, .slice A0_3 l0_3.length c0_3], .int .i64 a1, .int .i64 a3, .int .i64 a2] rfl aA ?_; (with_reducible refine (field_Influence.calls k a0_0 a0_1 a0_2 _ _ l0_3 a1 a3 a2 t572 t573 t574 _ ?side1 ?side2 A8.out).mono ?_); (case side1 => exact aC HR0_3 HB); (case side2 => exact HC0_3.out); rintro e w20 ⟨rfl, hb⟩; refine ⟨_, rfl, ?_⟩; replace HO570 := aRb HO570 hb; replace BK566 := aBb BK566 hb; replace BK567 := aBb BK567 hb; replace HB := aBs HB hb; (try clear hb); (try clear hb2); (try clear hk); (try clear hi)) | ((with_reducible refine gate_dst (N := 13) rfl ?_); refine aBox 13 #[.int .i64 0, .int .i64 0] 42 ?_; intro gb575 hg w21 hbox hb; replace HO570 := aRb HO570 hb; have BK575 := Aside0.mk (hbox); have GW575 := aGe hg HB; have GE575 := aGe hg HB; replace HB := aBs HB hb; have NB566_575 := aNl hg BK566; have NB575_566 := aNg hg BK566; replace BK566 := aBb BK566 hb; have NB567_575 := aNl hg BK567; have NB575_567 := aNg hg BK567; replace BK567 := aBb BK567 hb; clear hb hbox hg; have hnb22 := NB575_566.out; have hnc22 := NB566_575.out; have hnb23 := NB575_567.out; have hnc23 := NB567_575.out; obtain ⟨⟨hcz24_0, hcz24_1⟩, hfz24_0, hfz24_1⟩ := aC2 BK575; obtain ⟨⟨hcz25_0, hcz25_1, hcz25_2, hcz25_3⟩, hfz25_0, hfz25_1, hfz25_2, hfz25_3⟩ := aC4 BK566) | ((with_reducible refine gate_callee (f := 52) rfl ?_); refine goesL_ (some 41) rfl rfl Try.func52 (by kernel_rfl) rfl #[.agg #[.int .i64 a0_0, .int .i64 a0_1, .bool a0_2, .slice A0_3 l0_3.length c0_3], .int .i64 a1, .int .i64 a4, .int .i64 a2] rfl aA ?_; (with_reducible refine (field_Influence.calls k a0_0 a0_1 a0_2 _ _ l0_3 a1 a4 a2 t576 t577 t578 _ ?side1 ?side2 A9.out).mono ?_); (case side1 => exact Kd.C_below HR0_3.out (aBl HB).out); (case side2 => exact HC0_3.out); rintro e w26 ⟨rfl, hb⟩; refine ⟨_, rfl, ?_⟩; replace HO570 := Aside0.mk (Kd.R_below (by (with_reducible repeat (first | apply Kd.R_alloc | apply Kd.R_drewN | apply Kd.R_drew)); exact (Kd.R_mono (Kd.R_far (p := ⟨gb575, 1, none⟩) (Kd.R_far (p := ⟨gb575, 0, none⟩) (Kd.R_types HO570.out BK575.out (by decide)) (fun _ hk => hk.2) (.int .i64 t572)) (fun _ hk => hk.2) (.int .i64 t573)) (fun _ h_ => h_.1))) hb); replace BK566 := Aside0.mk (blk_below (g := gb566) (o := .cells #[.int .i64 a0_0, .int .i64 a0_1, .bool a0_2, .slice A0_3 l0_3.length c0_3] 24 (0, 0)) (by (with_reducible repeat (first | refine blk_drewN ?_ _ | refine blk_drew ?_ | refine blk_alloc ?_ _)); refine blk_far ?_ NB566_575.out _; (with_reducible repeat (first | refine blk_drewN ?_ _ | refine blk_drew ?_ | refine blk_alloc ?_ _)); refine blk_far ?_ NB566_575.out _; (with_reducible repeat (first | refine blk_drewN ?_ _ | refine blk_drew ?_ | refine blk_alloc ?_ _)); exact BK566.out) hb); replace BK567 := Aside0.mk (blk_below (g := gb567) (o := .cells #[.int .i64 0, .int .i64 0] 42 (0, 0)) (by (with_reducible repeat (first | refine blk_drewN ?_ _ | refine blk_drew ?_ | refine blk_alloc ?_ _)); refine blk_far ?_ NB567_575.out _; (with_reducible repeat (first | refine blk_drewN ?_ _ | refine blk_drew ?_ | refine blk_alloc ?_ _)); refine blk_far ?_ NB567_575.out _; (with_reducible repeat (first | refine blk_drewN ?_ _ | refine blk_drew ?_ | refine blk_alloc ?_ _)); exact BK567.out) hb); replace BK575 := Aside0.mk (blk_below (g := gb575) (o := .cells #[.int .i64 t572, .int .i64 t573] 42 (0, 0)) (by (with_reducible repeat (first | refine blk_drewN ?_ _ | refine blk_drew ?_ | refine blk_alloc ?_ _)); refine blk_put (cs := #[.int .i64 t572, .int .i64 0]) ?_ 1 _ rfl; (with_reducible repeat (first | refine blk_drewN ?_ _ | refine blk_drew ?_ | refine blk_alloc ?_ _)); refine blk_put (cs := #[.int .i64 0, .int .i64 0]) ?_ 0 _ rfl; (with_reducible repeat (first | refine blk_drewN ?_ _ | refine blk_drew ?_ | refine blk_alloc ?_ _)); exact BK575.out) hb); replace HB := aBs HB hb; (try clear hb); (try clear hb2); (try clear hk); (try clear hi)) | ((with_reducible refine gate_dst (N := 15) rfl ?_); refine aBox 15 #[.int .i64 0, .int .i64 0] 42 ?_; intro gb579 hg w27 hbox hb; replace HO570 := aRb HO570 hb; have BK579 := Aside0.mk (hbox); have GW579 := aGe hg HB; have GE579 := aGe hg HB; replace HB := aBs HB hb; have NB566_579 := aNl hg BK566; have NB579_566 := aNg hg BK566; replace BK566 := aBb BK566 hb; have NB567_579 := aNl hg BK567; have NB579_567 := aNg hg BK567; replace BK567 := aBb BK567 hb; have NB575_579 := aNl hg BK575; have NB579_575 := aNg hg BK575; replace BK575 := aBb BK575 hb; clear hb hbox hg; have hnb28 := NB579_566.out; have hnc28 := NB566_579.out; have hnb29 := NB579_567.out; have hnc29 := NB567_579.out; have hnb30 := NB579_575.out; have hnc30 := NB575_579.out; obtain ⟨⟨hcz31_0, hcz31_1⟩, hfz31_0, hfz31_1⟩ := aC2 BK579; obtain ⟨⟨hcz32_0, hcz32_1⟩, hfz32_0, hfz32_1⟩ := aC2 BK567))
   refine bodyPost_ret (results_ct rfl _ _ gb567 42 #[.int .i64 0, .int .i64 0] (0, 0) _ rfl (by (with_reducible repeat (first | refine blk_drewN ?_ _ | refine blk_drew ?_ | refine blk_alloc ?_ _)); refine blk_put (cs := #[.int .i64 0, .int .i64 0]) ?_ 1 _ rfl; (with_reducible repeat (first | refine blk_drewN ?_ _ | refine blk_drew ?_ | refine blk_alloc ?_ _)); refine blk_put (cs := #[.int .i64 0, .int .i64 0]) ?_ 0 _ rfl; (with_reducible repeat (first | refine blk_drewN ?_ _ | refine blk_drew ?_ | refine blk_alloc ?_ _)); refine blk_far ?_ NB567_579.out _; (with_reducible repeat (first | refine blk_drewN ?_ _ | refine blk_drew ?_ | refine blk_alloc ?_ _)); refine blk_far ?_ NB567_579.out _; (with_reducible repeat (first | refine blk_drewN ?_ _ | refine blk_drew ?_ | refine blk_alloc ?_ _)); exact BK567.out) Try.underlying42 rfl (by kernel_rfl)) rfl ?_
   exact ⟨by first | rfl | (simp [errW_none, errW_some] <;> rfl) | (simp [*, errW_none, errW_some] <;> rfl), (aBl HB).out⟩
  ·rw [if_neg c10] at H
   have c10b0 := decide_eq_false c10
   clear c10
   obtain ⟨t580, A330, H⟩ := Option.bind_eq_some_iff.mp H
   have A33 := Aside0.mk A330
   clear A330
   obtain ⟨t581, A340, H⟩ := Option.bind_eq_some_iff.mp H
   have A34 := Aside0.mk A340
   clear A340
   simp only [Option.some.injEq, Prod.mk.injEq] at H
   obtain ⟨rfl, rfl, rfl⟩ := H
   go_enter Try.func56, Try.ntmps56
   try go_wp2_with (first | ((with_reducible refine gate_dst (N := 5) rfl ?_); refine aBox 5 #[.int .i64 a0_0, .int .i64 a0_1, .bool a0_2, .slice A0_3 l0_3.length c0_3] 24 ?_; intro gb566 hg w35 hbox hb; have BK566 := Aside0.mk (hbox); have GW566 := aGe hg HB; have GE566 := aGe hg HB; replace HB := aBs HB hb; clear hb hbox hg) | ((with_reducible refine gate_dst (N := 10) rfl ?_); refine aBox 10 #[.int .i64 0, .int .i64 0] 42 ?_; intro gb567 hg w36 hbox hb; have BK567 := Aside0.mk (hbox); have GW567 := aGe hg HB; have GE567 := aGe hg HB; replace HB := aBs HB hb; have NB566_567 := aNl hg BK566; have NB567_566 := aNg hg BK566; replace BK566 := aBb BK566 hb; clear hb hbox hg; have hnb37 := NB566_567.out; have hnc37 := NB567_566.out; obtain ⟨⟨hcz38_0, hcz38_1, hcz38_2, hcz38_3⟩, hfz38_0, hfz38_1, hfz38_2, hfz38_3⟩ := aC4 BK566) | ((with_reducible refine gate_dst (N := 22) rfl ?_); refine Kd.R_lit (Kd.int .i64) _ 3 ?hg (N := 22) ?hd (xs := ([a2, a3, a4] : List Int)) (inner := [.int .i64 a2, .int .i64 a3, .int .i64 a4]) (ok := fun _ => True) (okp := fun _ => True) ?hr ?hp (fun _ hk => hk) trivial (Below.refl _ _) (Nat.le_refl _) (by simp) ?_; (case hd => rfl); (case hg => rfl); (case hr => first | (go_simp; done) | (go_simp; rfl)); (case hp => exact (Reps.one (show Kd.M (Kd.int .i64) _ _ _ a2 [.int .i64 a2] from rfl) (Reps.one (show Kd.M (Kd.int .i64) _ _ _ a3 [.int .i64 a3] from rfl) (Reps.one (show Kd.M (Kd.int .i64) _ _ _ a4 [.int .i64 a4] from rfl) (Reps.none _ _))))); intro v569 w39 ho40 hb hg_ hnew_; clear hg_ hnew_; (first | rw [← Ny568.out] at ho40 | (simp only [Int.reduceToNat] at ho40; rw [← Ny568.out] at ho40)); have HO570 := Aside0.mk (Kd.R_lower ho40 (below_size (aBl HB).out)); replace BK566 := aBb BK566 hb; replace BK567 := aBb BK567 hb; replace HB := aBs HB hb; clear hb ho40; obtain ⟨Ao41, co41, eo41⟩ := Kd.R_slice HO570.out; subst eo41) | ((with_reducible refine gate_callee (f := 91) rfl ?_); refine goesL_ (some 23) rfl rfl Try.func91 (by kernel_rfl) rfl #[.agg #[.int .i64 a0_0, .int .i64 a0_1, .bool a0_2, .slice A0_3 l0_3.length c0_3], .int .i64 a1, .slice Ao41 y568.length co41] rfl aA ?_; (with_reducible refine (field_apart.calls k a0_0 a0_1 a0_2 _ _ l0_3 a1 _ _ y568 t571 _ ?side1 ?side2 ?side3 ?side4 A6.out).mono ?_); (case side1 => exact aC HR0_3 HB); (case side2 => exact HC0_3.out); (case side3 => repeat (first | exact (Kd.R_reads' HO570.out).2.2 | (with_reducible refine Kd.C_alloc ?_ _) | (with_reducible refine Kd.C_drewN ?_ _) | (with_reducible refine Kd.C_drew ?_))); (case side4 => exact (Kd.R_reads' HO570.out).2.1); rintro e w42 ⟨rfl, hb⟩; refine ⟨_, rfl, ?_⟩; replace HO570 := aRb HO570 hb; replace BK566 := aBb BK566 hb; replace BK567 := aBb BK567 hb; replace HB := aBs HB hb; (try clear hb); (try clear hb2); (try clear hk); (try clear hi); obtain ⟨⟨hcz43_0, hcz43_1, hcz43_2, hcz43_3⟩, hfz43_0, hfz43_1, hfz43_2, hfz43_3⟩ := aC4 BK566) | ((with_reducible refine gate_callee (f := 52) rfl ?_); refine goesL_ (some 33) rfl rfl Try.func52 (by kernel_rfl) rfl #[.agg #[.int .i64 a0_0, .int .i64 a0_1, .bool a0_2, .slice A0_3 l0_3.length c0_3], .int .i64 a1, .int .i64 a3, .int .i64 a2] rfl aA ?_; (with_reducible refine (field_Influence.calls k a0_0 a0_1 a0_2 _ _ l0_3 a1 a3 a2 t572 t573 t574 _ ?side1 ?side2 A8.out).mono ?_); (case side1 => exact aC HR0_3 HB); (case side2 => exact HC0_3.out); rintro e w44 ⟨rfl, hb⟩; refine ⟨_, rfl, ?_⟩; replace HO570 := aRb HO570 hb; replace BK566 := aBb BK566 hb; replace BK567 := aBb BK567 hb; replace HB := aBs HB hb; (try clear hb); (try clear hb2); (try clear hk); (try clear hi)) | ((with_reducible refine gate_dst (N := 13) rfl ?_); refine aBox 13 #[.int .i64 0, .int .i64 0] 42 ?_; intro gb575 hg w45 hbox hb; replace HO570 := aRb HO570 hb; have BK575 := Aside0.mk (hbox); have GW575 := aGe hg HB; have GE575 := aGe hg HB; replace HB := aBs HB hb; have NB566_575 := aNl hg BK566; have NB575_566 := aNg hg BK566; replace BK566 := aBb BK566 hb; have NB567_575 := aNl hg BK567; have NB575_567 := aNg hg BK567; replace BK567 := aBb BK567 hb; clear hb hbox hg; have hnb46 := NB575_566.out; have hnc46 := NB566_575.out; have hnb47 := NB575_567.out; have hnc47 := NB567_575.out; obtain ⟨⟨hcz48_0, hcz48_1⟩, hfz48_0, hfz48_1⟩ := aC2 BK575; obtain ⟨⟨hcz49_0, hcz49_1, hcz49_2, hcz49_3⟩, hfz49_0, hfz49_1, hfz49_2, hfz49_3⟩ := aC4 BK566) | ((with_reducible refine gate_callee (f := 52) rfl ?_); refine goesL_ (some 41) rfl rfl Try.func52 (by kernel_rfl) rfl #[.agg #[.int .i64 a0_0, .int .i64 a0_1, .bool a0_2, .slice A0_3 l0_3.length c0_3], .int .i64 a1, .int .i64 a4, .int .i64 a2] rfl aA ?_; (with_reducible refine (field_Influence.calls k a0_0 a0_1 a0_2 _ _ l0_3 a1 a4 a2 t576 t577 t578 _ ?side1 ?side2 A9.out).mono ?_); (case side1 => exact Kd.C_below HR0_3.out (aBl HB).out); (case side2 => exact HC0_3.out); rintro e w50 ⟨rfl, hb⟩; refine ⟨_, rfl, ?_⟩; replace HO570 := Aside0.mk (Kd.R_below (by (with_reducible repeat (first | apply Kd.R_alloc | apply Kd.R_drewN | apply Kd.R_drew)); exact (Kd.R_mono (Kd.R_far (p := ⟨gb575, 1, none⟩) (Kd.R_far (p := ⟨gb575, 0, none⟩) (Kd.R_types HO570.out BK575.out (by decide)) (fun _ hk => hk.2) (.int .i64 t572)) (fun _ hk => hk.2) (.int .i64 t573)) (fun _ h_ => h_.1))) hb); replace BK566 := Aside0.mk (blk_below (g := gb566) (o := .cells #[.int .i64 a0_0, .int .i64 a0_1, .bool a0_2, .slice A0_3 l0_3.length c0_3] 24 (0, 0)) (by (with_reducible repeat (first | refine blk_drewN ?_ _ | refine blk_drew ?_ | refine blk_alloc ?_ _)); refine blk_far ?_ NB566_575.out _; (with_reducible repeat (first | refine blk_drewN ?_ _ | refine blk_drew ?_ | refine blk_alloc ?_ _)); refine blk_far ?_ NB566_575.out _; (with_reducible repeat (first | refine blk_drewN ?_ _ | refine blk_drew ?_ | refine blk_alloc ?_ _)); exact BK566.out) hb); replace BK567 := Aside0.mk (blk_below (g := gb567) (o := .cells #[.int .i64 0, .int .i64 0] 42 (0, 0)) (by (with_reducible repeat (first | refine blk_drewN ?_ _ | refine blk_drew ?_ | refine blk_alloc ?_ _)); refine blk_far ?_ NB567_575.out _; (with_reducible repeat (first | refine blk_drewN ?_ _ | refine blk_drew ?_ | refine blk_alloc ?_ _)); refine blk_far ?_ NB567_575.out _; (with_reducible repeat (first | refine blk_drewN ?_ _ | refine blk_drew ?_ | refine blk_alloc ?_ _)); exact BK567.out) hb); replace BK575 := Aside0.mk (blk_below (g := gb575) (o := .cells #[.int .i64 t572, .int .i64 t573] 42 (0, 0)) (by (with_reducible repeat (first | refine blk_drewN ?_ _ | refine blk_drew ?_ | refine blk_alloc ?_ _)); refine blk_put (cs := #[.int .i64 t572, .int .i64 0]) ?_ 1 _ rfl; (with_reducible repeat (first | refine blk_drewN ?_ _ | refine blk_drew ?_ | refine blk_alloc ?_ _)); refine blk_put (cs := #[.int .i64 0, .int .i64 0]) ?_ 0 _ rfl; (with_reducible repeat (first | refine blk_drewN ?_ _ | refine blk_drew ?_ | refine blk_alloc ?_ _)); exact BK575.out) hb); replace HB := aBs HB hb; (try clear hb); (try clear hb2); (try clear hk); (try clear hi)) | ((with_reducible refine gate_dst (N := 15) rfl ?_); refine aBox 15 #[.int .i64 0, .int .i64 0] 42 ?_; intro gb579 hg w51 hbox hb; replace HO570 := aRb HO570 hb; have BK579 := Aside0.mk (hbox); have GW579 := aGe hg HB; have GE579 := aGe hg HB; replace HB := aBs HB hb; have NB566_579 := aNl hg BK566; have NB579_566 := aNg hg BK566; replace BK566 := aBb BK566 hb; have NB567_579 := aNl hg BK567; have NB579_567 := aNg hg BK567; replace BK567 := aBb BK567 hb; have NB575_579 := aNl hg BK575; have NB579_575 := aNg hg BK575; replace BK575 := aBb BK575 hb; clear hb hbox hg; have hnb52 := NB579_566.out; have hnc52 := NB566_579.out; have hnb53 := NB579_567.out; have hnc53 := NB567_579.out; have hnb54 := NB579_575.out; have hnc54 := NB575_579.out; obtain ⟨⟨hcz55_0, hcz55_1⟩, hfz55_0, hfz55_1⟩ := aC2 BK579))
   have n0_ : Aside0 (Kd.R (Kd.int .i64) 3 ((w51.setCell ⟨gb579, 0, none⟩ (.int .i64 t576)).setCell ⟨gb579, 1, none⟩ (.int .i64 t577)) w.heap.size (fun _ => True) (.slice Ao41 y568.length co41) y568) := ⟨by (with_reducible repeat (first | apply Kd.R_alloc | apply Kd.R_drewN | apply Kd.R_drew)); exact Kd.R_mono (Kd.R_far (p := ⟨gb579, 1, none⟩) (Kd.R_far (p := ⟨gb579, 0, none⟩) (Kd.R_types HO570.out BK579.out (by decide)) (fun _ hk => hk.2) (.int .i64 t576)) (fun _ hk => hk.2) (.int .i64 t577)) (fun _ hk => trivial)⟩
   have n1_ : Aside0 (((w51.setCell ⟨gb579, 0, none⟩ (.int .i64 t576)).setCell ⟨gb579, 1, none⟩ (.int .i64 t577)).heap[gb566]? = some (.cells #[.int .i64 a0_0, .int .i64 a0_1, .bool a0_2, .slice A0_3 l0_3.length c0_3] 24 (0, 0))) := ⟨by (with_reducible repeat (first | refine blk_drewN ?_ _ | refine blk_drew ?_ | refine blk_alloc ?_ _)); refine blk_far ?_ NB566_579.out _; (with_reducible repeat (first | refine blk_drewN ?_ _ | refine blk_drew ?_ | refine blk_alloc ?_ _)); refine blk_far ?_ NB566_579.out _; (with_reducible repeat (first | refine blk_drewN ?_ _ | refine blk_drew ?_ | refine blk_alloc ?_ _)); exact BK566.out⟩
   have n2_ : Aside0 (((w51.setCell ⟨gb579, 0, none⟩ (.int .i64 t576)).setCell ⟨gb579, 1, none⟩ (.int .i64 t577)).heap[gb567]? = some (.cells #[.int .i64 0, .int .i64 0] 42 (0, 0))) := ⟨by (with_reducible repeat (first | refine blk_drewN ?_ _ | refine blk_drew ?_ | refine blk_alloc ?_ _)); refine blk_far ?_ NB567_579.out _; (with_reducible repeat (first | refine blk_drewN ?_ _ | refine blk_drew ?_ | refine blk_alloc ?_ _)); refine blk_far ?_ NB567_579.out _; (with_reducible repeat (first | refine blk_drewN ?_ _ | refine blk_drew ?_ | refine blk_alloc ?_ _)); exact BK567.out⟩
   have n3_ : Aside0 (((w51.setCell ⟨gb579, 0, none⟩ (.int .i64 t576)).setCell ⟨gb579, 1, none⟩ (.int .i64 t577)).heap[gb575]? = some (.cells #[.int .i64 t572, .int .i64 t573] 42 (0, 0))) := ⟨by (with_reducible repeat (first | refine blk_drewN ?_ _ | refine blk_drew ?_ | refine blk_alloc ?_ _)); refine blk_far ?_ NB575_579.out _; (with_reducible repeat (first | refine blk_drewN ?_ _ | refine blk_drew ?_ | refine blk_alloc ?_ _)); refine blk_far ?_ NB575_579.out _; (with_reducible repeat (first | refine blk_drewN ?_ _ | refine blk_drew ?_ | refine blk_alloc ?_ _)); exact BK575.out⟩
   have n4_ : Aside0 (((w51.setCell ⟨gb579, 0, none⟩ (.int .i64 t576)).setCell ⟨gb579, 1, none⟩ (.int .i64 t577)).heap[gb579]? = some (.cells #[.int .i64 t576, .int .i64 t577] 42 (0, 0))) := ⟨by (with_reducible repeat (first | refine blk_drewN ?_ _ | refine blk_drew ?_ | refine blk_alloc ?_ _)); refine blk_put (cs := #[.int .i64 t576, .int .i64 0]) ?_ 1 _ rfl; (with_reducible repeat (first | refine blk_drewN ?_ _ | refine blk_drew ?_ | refine blk_alloc ?_ _)); refine blk_put (cs := #[.int .i64 0, .int .i64 0]) ?_ 0 _ rfl; (with_reducible repeat (first | refine blk_drewN ?_ _ | refine blk_drew ?_ | refine blk_alloc ?_ _)); exact BK579.out⟩
   have n5_ : Aside0 (Below w.heap.size w ((w51.setCell ⟨gb579, 0, none⟩ (.int .i64 t576)).setCell ⟨gb579, 1, none⟩ (.int .i64 t577))) := aBl HB
   (try clear HO570)
   (try clear BK566)
   (try clear BK567)
   (try clear BK575)
   (try clear BK579)
   (try clear HB)
   generalize ((w51.setCell ⟨gb579, 0, none⟩ (.int .i64 t576)).setCell ⟨gb579, 1, none⟩ (.int .i64 t577)) = w56 at n0_ n1_ n2_ n3_ n4_ n5_ ⊢
   have HO570 := n0_
   have BK566 := n1_
   have BK567 := n2_
   have BK575 := n3_
   have BK579 := n4_
   have HB := n5_
   clear n0_ n1_ n2_ n3_ n4_ n5_
   have n0_ := Aside0.mk (Kd.R_drew HO570.out)
   have n1_ := Aside0.mk (blk_drew BK566.out)
   have n2_ := Aside0.mk (blk_drew BK567.out)
   have n3_ := Aside0.mk (blk_drew BK575.out)
   have n4_ := Aside0.mk (blk_drew BK579.out)
   have n5_ := Aside0.mk (below_drew1 HB.out)
   clear HO570 BK566 BK567 BK575 BK579 HB
   have HO570 := n0_
   have BK566 := n1_
   have BK567 := n2_
   have BK575 := n3_
   have BK579 := n4_
   have HB := n5_
   clear n0_ n1_ n2_ n3_ n4_ n5_
   refine start_ (n := 15) (S := fun w' => w'.cell? ⟨gb575, 0, none⟩ = some (.int .i64 t572) ∧ w'.cell? ⟨gb575, 1, none⟩ = some (.int .i64 t573) ∧ w'.cell? ⟨gb579, 0, none⟩ = some (.int .i64 t576) ∧ w'.cell? ⟨gb579, 1, none⟩ = some (.int .i64 t577)) (ds := []) #[false, false, false, false, false, false, false, false, false, false, false, false, false, false, false] (by kernel_rfl) rfl rfl ⟨(blk_cell BK575.out 0).trans rfl, (blk_cell BK575.out 1).trans rfl, (blk_cell BK579.out 0).trans rfl, (blk_cell BK579.out 1).trans rfl⟩ (fun hHeld => ?_); refine with_tabW field_Amplification.tab8 field_Amplification.bits8 (fun HT_ HW_ => ?_)
   generalize w56.drew = w57 at HO570 BK566 BK567 BK575 BK579 HB hHeld ⊢
   refine pu_ 0 48 (bS 15 1) HT_ ?_
   refine pu_ 3 51 (bS 15 9) HT_ ?_
   refine pu_ 6 54 (bS 15 73) HT_ ?_
   refine pu_ 9 57 (bS 15 585) HT_ ?_
   refine ta_ 1 49 (bS 15 587) HT_ HW_ hHeld ?_
   refine pu_ 2 50 (bS 15 591) HT_ ?_
   refine ta_ 4 52 (bS 15 607) HT_ HW_ hHeld ?_
   refine ta_ 7 55 (bS 15 735) HT_ HW_ hHeld ?_
   refine pu_ 8 56 (bS 15 991) HT_ ?_
   refine ta_ 10 58 (bS 15 2015) HT_ HW_ hHeld ?_
   refine one_ (i := 5) (N := some 53) (bS 15 2047) rfl rfl (one_of HT_.out (by kernel_rfl)) (by decide) (fun K hK => ?_)
   refine goes_ Try.func69 (by kernel_rfl) rfl #[.int .i64 (wrap64 (1000 * t572)), .int .i64 t577] (by rfl) rfl rfl aA ?_
   with_reducible refine (field_down.calls (wrap64 (1000 * t572)) t577 t580 _ A33.out).mono ?_
   rintro e w' ⟨rfl, ⟨nd, rfl⟩⟩
   refine ⟨_, rfl, ?_⟩
   refine hK.out _ _ ⟨(blk_cell BK575.out 0).trans rfl, (blk_cell BK575.out 1).trans rfl, (blk_cell BK579.out 0).trans rfl, (blk_cell BK579.out 1).trans rfl⟩ (fun hHeld => ?_)
   clear hK K
   refine norm_ (a' := ?_) ?_ ?_
   rotate_left
   ·show Act.put _ (some 53) _ = _
    simp only [Act.put, sT, sZ, sS, i64_w, i32_w]
    rfl
   refine one_ (i := 11) (N := some 59) (bS 15 4095) rfl rfl (one_of HT_.out (by kernel_rfl)) (by decide) (fun K hK => ?_)
   refine goes_ Try.func71 (by kernel_rfl) rfl #[.int .i64 (wrap64 (1000 * t573)), .int .i64 t576] (by rfl) rfl rfl aA ?_
   with_reducible refine (field_up.calls (wrap64 (1000 * t573)) t576 t581 _ A34.out).mono ?_
   rintro e w' ⟨rfl, ⟨nd, rfl⟩⟩
   refine ⟨_, rfl, ?_⟩
   refine hK.out _ _ ⟨(blk_cell BK575.out 0).trans rfl, (blk_cell BK575.out 1).trans rfl, (blk_cell BK579.out 0).trans rfl, (blk_cell BK579.out 1).trans rfl⟩ (fun hHeld => ?_)
   clear hK K
   refine norm_ (a' := ?_) ?_ ?_
   rotate_left
   ·show Act.put _ (some 59) _ = _
    simp only [Act.put, sT, sZ, sS, i64_w, i32_w]
    rfl
   refine pu_ 12 60 (bS 15 8191) HT_ ?_
   refine one_ (i := 13) (N := none) (bS 15 16383) rfl rfl (one_of HT_.out (by kernel_rfl)) (by decide) (fun K hK => ?_)
   have hs58 : w57.cell? ⟨gb567, 0, none⟩ = some (.int .i64 0) := (blk_cell BK567.out 0).trans rfl
   have hfs58 := blk_frozen BK567.out 0
   have hns58_0 := NB566_567.out
   have hns58_2 := NB575_567.out
   have hns58_3 := NB579_567.out
   have hms58_0 := NB567_566.out
   have hms58_2 := NB567_575.out
   have hms58_3 := NB567_579.out
   have hs59 : w57.cell? ⟨gb567, 1, none⟩ = some (.int .i64 0) := (blk_cell BK567.out 1).trans rfl
   have hfs59 := blk_frozen BK567.out 1
   have hns59_0 := NB566_567.out
   have hns59_2 := NB575_567.out
   have hns59_3 := NB579_567.out
   have hms59_0 := NB567_566.out
   have hms59_2 := NB567_575.out
   have hms59_3 := NB567_579.out
   refine skip_ (w1 := ?_) (by rfl) rfl ?_ ?_
   rotate_left
   ·go_simp
    rfl
   refine hK.out _ _ ⟨((cell_far (p := ⟨gb567, _, none⟩) NB575_567.out _).trans (((cell_far (p := ⟨gb567, _, none⟩) NB575_567.out _).trans (hHeld.1)))), ((cell_far (p := ⟨gb567, _, none⟩) NB575_567.out _).trans (((cell_far (p := ⟨gb567, _, none⟩) NB575_567.out _).trans (hHeld.2.1)))), ((cell_far (p := ⟨gb567, _, none⟩) NB579_567.out _).trans (((cell_far (p := ⟨gb567, _, none⟩) NB579_567.out _).trans (hHeld.2.2.1)))), ((cell_far (p := ⟨gb567, _, none⟩) NB579_567.out _).trans (((cell_far (p := ⟨gb567, _, none⟩) NB579_567.out _).trans (hHeld.2.2.2))))⟩ (fun hHeld => ?_)
   clear hK K
   refine pu_ 14 11 (bS 15 32767) HT_ ?_
   refine done_ (done_of HT_.out (by kernel_rfl)) ?_
   try go_wp2
   refine bodyPost_ret (results_ct rfl _ _ gb567 42 #[.int .i64 t580, .int .i64 t581] (0, 0) _ rfl (by (with_reducible repeat (first | refine blk_drewN ?_ _ | refine blk_drew ?_ | refine blk_alloc ?_ _)); refine blk_put (cs := #[.int .i64 t580, .int .i64 0]) ?_ 1 _ rfl; (with_reducible repeat (first | refine blk_drewN ?_ _ | refine blk_drew ?_ | refine blk_alloc ?_ _)); refine blk_put (cs := #[.int .i64 0, .int .i64 0]) ?_ 0 _ rfl; (with_reducible repeat (first | refine blk_drewN ?_ _ | refine blk_drew ?_ | refine blk_alloc ?_ _)); exact BK567.out) Try.underlying42 rfl (by kernel_rfl)) rfl ?_
   exact ⟨by first | rfl | (simp [errW_none, errW_some] <;> rfl) | (simp [*, errW_none, errW_some] <;> rfl), (aBl HB).out⟩
 ·rw [if_neg c7] at H
  obtain ⟨c7b0, c7b1⟩ := aNe c7
  simp only [Option.some.injEq, Prod.mk.injEq] at H
  obtain ⟨rfl, rfl, rfl⟩ := H
  go_enter Try.func56, Try.ntmps56
  go_wp2_with (first | ((with_reducible refine gate_dst (N := 5) rfl ?_); refine aBox 5 #[.int .i64 a0_0, .int .i64 a0_1, .bool a0_2, .slice A0_3 l0_3.length c0_3] 24 ?_; intro gb566 hg w60 hbox hb; have BK566 := Aside0.mk (hbox); have GW566 := aGe hg HB; have GE566 := aGe hg HB; replace HB := aBs HB hb; clear hb hbox hg) | ((with_reducible refine gate_dst (N := 10) rfl ?_); refine aBox 10 #[.int .i64 0, .int .i64 0] 42 ?_; intro gb567 hg w61 hbox hb; have BK567 := Aside0.mk (hbox); have GW567 := aGe hg HB; have GE567 := aGe hg HB; replace HB := aBs HB hb; have NB566_567 := aNl hg BK566; have NB567_566 := aNg hg BK566; replace BK566 := aBb BK566 hb; clear hb hbox hg; have hnb62 := NB566_567.out; have hnc62 := NB567_566.out; obtain ⟨⟨hcz63_0, hcz63_1, hcz63_2, hcz63_3⟩, hfz63_0, hfz63_1, hfz63_2, hfz63_3⟩ := aC4 BK566) | ((with_reducible refine gate_dst (N := 22) rfl ?_); refine Kd.R_lit (Kd.int .i64) _ 3 ?hg (N := 22) ?hd (xs := ([a2, a3, a4] : List Int)) (inner := [.int .i64 a2, .int .i64 a3, .int .i64 a4]) (ok := fun _ => True) (okp := fun _ => True) ?hr ?hp (fun _ hk => hk) trivial (Below.refl _ _) (Nat.le_refl _) (by simp) ?_; (case hd => rfl); (case hg => rfl); (case hr => first | (go_simp; done) | (go_simp; rfl)); (case hp => exact (Reps.one (show Kd.M (Kd.int .i64) _ _ _ a2 [.int .i64 a2] from rfl) (Reps.one (show Kd.M (Kd.int .i64) _ _ _ a3 [.int .i64 a3] from rfl) (Reps.one (show Kd.M (Kd.int .i64) _ _ _ a4 [.int .i64 a4] from rfl) (Reps.none _ _))))); intro v569 w64 ho65 hb hg_ hnew_; clear hg_ hnew_; (first | rw [← Ny568.out] at ho65 | (simp only [Int.reduceToNat] at ho65; rw [← Ny568.out] at ho65)); have HO570 := Aside0.mk (Kd.R_lower ho65 (below_size (aBl HB).out)); replace BK566 := aBb BK566 hb; replace BK567 := aBb BK567 hb; replace HB := aBs HB hb; clear hb ho65; obtain ⟨Ao66, co66, eo66⟩ := Kd.R_slice HO570.out; subst eo66) | ((with_reducible refine gate_callee (f := 91) rfl ?_); refine goesL_ (some 23) rfl rfl Try.func91 (by kernel_rfl) rfl #[.agg #[.int .i64 a0_0, .int .i64 a0_1, .bool a0_2, .slice A0_3 l0_3.length c0_3], .int .i64 a1, .slice Ao66 y568.length co66] rfl aA ?_; (with_reducible refine (field_apart.calls k a0_0 a0_1 a0_2 _ _ l0_3 a1 _ _ y568 t571 _ ?side1 ?side2 ?side3 ?side4 A6.out).mono ?_); (case side1 => exact aC HR0_3 HB); (case side2 => exact HC0_3.out); (case side3 => repeat (first | exact (Kd.R_reads' HO570.out).2.2 | (with_reducible refine Kd.C_alloc ?_ _) | (with_reducible refine Kd.C_drewN ?_ _) | (with_reducible refine Kd.C_drew ?_))); (case side4 => exact (Kd.R_reads' HO570.out).2.1); rintro e w67 ⟨rfl, hb⟩; refine ⟨_, rfl, ?_⟩; replace HO570 := aRb HO570 hb; replace BK566 := aBb BK566 hb; replace BK567 := aBb BK567 hb; replace HB := aBs HB hb; (try clear hb); (try clear hb2); (try clear hk); (try clear hi); obtain ⟨⟨hcz68_0, hcz68_1⟩, hfz68_0, hfz68_1⟩ := aC2 BK567))
  refine bodyPost_ret (results_ct rfl _ _ gb567 42 #[.int .i64 0, .int .i64 0] (0, 0) _ rfl (by (with_reducible repeat (first | refine blk_drewN ?_ _ | refine blk_drew ?_ | refine blk_alloc ?_ _)); refine blk_put (cs := #[.int .i64 0, .int .i64 0]) ?_ 1 _ rfl; (with_reducible repeat (first | refine blk_drewN ?_ _ | refine blk_drew ?_ | refine blk_alloc ?_ _)); refine blk_put (cs := #[.int .i64 0, .int .i64 0]) ?_ 0 _ rfl; (with_reducible repeat (first | refine blk_drewN ?_ _ | refine blk_drew ?_ | refine blk_alloc ?_ _)); exact BK567.out) Try.underlying42 rfl (by kernel_rfl)) rfl ?_
  exact ⟨by first | rfl | (simp [errW_none, errW_some] <;> rfl) | (simp [*, errW_none, errW_some] <;> rfl), (aBl HB).out⟩
end Go.Proofs.Ytndkkjpgnmahbaa.Print
end

section
namespace Go.Proofs.Ytndkkjpgnmahbaa.Print
open Go.RowKit Go.Proofs.YtndkkjpgnmahbaaW.PrintWords Go.Proofs.YtndkkjpgnmahbaaW.PrintLast Go.Proofs.YtndkkjpgnmahbaaW.PrintMore Go.Proofs.Ytndkkjpgnmahbaa.H
attribute [local go_sem] max2_int min2_int max_two min_two max_three min_three max_four min_four
set_option linter.unusedVariables false
set_option linter.unusedSimpArgs false
def thermionref01_Amplification.f (k : Nat) (a0_0 : Int) (a0_1 : Int) (a0_2 : Bool) (l0_3 : List Int) (a1 : Int) (a2 : Int) (a3 : Int) (a4 : Int) : Option (Int × Int × Int) := (thermionref01_askable.f k a0_0 a0_1 a0_2 l0_3 a1 (([a2, a3, a4] : List Int))).bind fun t587 => (if t587 = 0 then ((thermionref01_influence.f k a0_0 a0_1 a0_2 l0_3 a1 a3 a2).bind fun bt588 => ((thermionref01_influence.f k a0_0 a0_1 a0_2 l0_3 a1 a4 a2).bind fun bt590 => (if bt590.1 < 1 then (some (0, 0, 10)) else ((thermionref01_Down.f (wrap64 (1000 * bt588.1)) bt590.2).bind fun t594 => ((thermionref01_Up.f (wrap64 (1000 * bt588.2)) bt590.1).bind fun t595 => (some (t594, t595, 0))))))) else (some (0, 0, t587)))
def ampR.T4 : Bool × List (List Nat × List Nat) := (true, [([], []), ([], []), ([], []), ([], []), ([0, 1, 2, 3], [0, 1, 2, 3]), ([], []), ([], []), ([], []), ([], []), ([5, 6, 7, 8, 4], [5, 6, 7, 8]), ([], []), ([], []), ([10, 4, 9, 0, 1, 2, 3, 4, 10, 11], [4, 10]), ([11, 9, 12, 0, 1, 2, 3, 4, 5, 6, 7, 8, 9, 10, 11, 12], [9, 11])])
def ampR.B4 : List Nat := [0, 0, 0, 0, 15, 0, 0, 0, 0, 511, 0, 0, 4095, 8191]
theorem ampR.tab4 : rtab .any (opsOf Try.f57 4) = ampR.T4 := by kernel_rfl
theorem ampR.bits4 : waitsOk ampR.T4.2 ampR.B4 = true := by kernel_rfl
def ampR.T7 : Bool × List (List Nat × List Nat) := (true, [([], []), ([0], [0]), ([1], [1]), ([], []), ([3], [3]), ([2, 4], [2, 4]), ([], []), ([6], [6]), ([7], [7]), ([], []), ([9], [9]), ([8, 10, 5], [8, 10]), ([5, 11], [5, 11]), ([12, 11, 0, 1, 2, 3, 4, 5, 6, 7, 8, 9, 10, 11, 12], [12]), ([13, 0, 1, 2, 3, 4, 5, 6, 7, 8, 9, 10, 11, 12, 13], [])])
def ampR.B7 : List Nat := [0, 1, 3, 0, 8, 31, 0, 64, 192, 0, 512, 2047, 4095, 8191, 16383]
theorem ampR.tab7 : rtab .any (opsOf Try.f57 7) = ampR.T7 := by kernel_rfl
theorem ampR.bits7 : waitsOk ampR.T7.2 ampR.B7 = true := by kernel_rfl
end Go.Proofs.Ytndkkjpgnmahbaa.Print
end

section
namespace Go.Proofs.Ytndkkjpgnmahbaa.Print
open Go.RowKit Go.Proofs.YtndkkjpgnmahbaaW.PrintWords Go.Proofs.YtndkkjpgnmahbaaW.PrintLast Go.Proofs.YtndkkjpgnmahbaaW.PrintMore Go.Proofs.Field
set_option linter.unusedVariables false
theorem ask_l2 (l : List Int) (hl : l.length ≤ 1000) {i : Nat} (hi : i < l.length) {r : Int} (h : Ev (fun k => thermionref01_askable.l1 k l ((i + 1 : Nat) : Int)) r) :
  ∀ (d j : Nat), j + d = i → Ev (fun k => thermionref01_askable.l2 k l (i : Int) (j : Int)) (if ((l.take i).drop j).contains (fn l i) = true then 9 else r)
 | 0, j, e => by
  rw [List.drop_eq_nil_of_le (by rw [List.length_take]; omega), if_neg (by simp)]
  have hw : wrap64 ((i : Int) + 1) = ((i + 1 : Nat) : Int) := by rw [IntWalk.wrap64_in _ (by omega)]; omega
  refine h.step 0 (fun k _ => ?_)
  rw [thermionref01_askable.l2, if_neg (by omega), hw]
 | d + 1, j, e => by
  have hw : wrap64 ((j : Int) + 1) = ((j + 1 : Nat) : Int) := by rw [IntWalk.wrap64_in _ (by omega)]; omega
  have hc : (l.take i).drop j = fn l j :: (l.take i).drop (j + 1) := by
   rw [List.drop_eq_getElem_cons (by rw [List.length_take]; omega), List.getElem_take]
   congr 1
   unfold fn
   rw [List.getD_eq_getElem?_getD, List.getElem?_eq_getElem (by omega)]
   rfl
  rw [hc, List.contains_cons]
  by_cases q : fn l i = fn l j
  ·rw [if_pos (by simp [q])]
   exact Ev.now (fun k => by rw [thermionref01_askable.l2, if_pos (by omega), if_pos (by omega), if_pos (by omega), if_pos (by omega), if_pos (by omega), rd_fn l i (by omega), rd_fn l j (by omega), if_pos q])
  ·have e2 : (fn l i == fn l j) = false := by simpa using q
   rw [e2, Bool.false_or]
   refine (ask_l2 l hl hi h d (j + 1) (by omega)).step 0 (fun k _ => ?_)
   rw [thermionref01_askable.l2, if_pos (by omega), if_pos (by omega), if_pos (by omega), if_pos (by omega), if_pos (by omega), rd_fn l i (by omega), rd_fn l j (by omega), if_neg q, hw]
theorem ask_l1 (l : List Int) (hl : l.length ≤ 1000) : ∀ (d i : Nat), i + d = l.length → Ev (fun k => thermionref01_askable.l1 k l (i : Int)) (if dupFrom l i d = true then 9 else 0)
 | 0, i, e => by
  rw [dupFrom, if_neg (by simp)]
  exact Ev.now (fun k => by rw [thermionref01_askable.l1, if_neg (by omega)])
 | d + 1, i, e => by
  have h := ask_l2 l hl (i := i) (by omega) (ask_l1 l hl d (i + 1) (by omega)) i 0 (by omega)
  rw [List.drop_zero] at h
  have e2 : (if dupFrom l i (d + 1) = true then (9 : Int) else 0) = if (l.take i).contains (fn l i) = true then 9 else if dupFrom l (i + 1) d = true then 9 else 0 := by
   rw [dupFrom]
   cases (l.take i).contains (fn l i) <;> simp
  rw [e2]
  refine h.step 0 (fun k _ => ?_)
  rw [thermionref01_askable.l1, if_pos (by omega)]
  rfl
theorem ask_l0 (W H : Int) (R : Bool) (C l : List Int) (hC : C.length ≤ 1000) (hl : l.length ≤ 1000) : ∀ (d i : Nat), i + d = l.length →
  Ev (fun k => thermionref01_askable.l0 k l (i : Int) W H R C) (if (l.drop i).all (hasB C) = false then 7 else if dupFrom l 0 l.length = true then 9 else 0)
 | 0, i, e => by
  rw [List.drop_eq_nil_of_le (by omega), if_neg (by simp)]
  refine (ask_l1 l hl l.length 0 (by omega)).step 0 (fun k _ => ?_)
  rw [thermionref01_askable.l0, if_neg (by omega)]
  rfl
 | d + 1, i, e => by
  have hw : wrap64 ((i : Int) + 1) = ((i + 1 : Nat) : Int) := by rw [IntWalk.wrap64_in _ (by omega)]; omega
  have hil : i < l.length := by omega
  have e1 : fn l i = l[i] := by unfold fn; rw [List.getD_eq_getElem?_getD, List.getElem?_eq_getElem hil]; rfl
  have hh := refhas_go W H R C (fn l i) (by omega) C.length 0 (by omega)
  rw [List.drop_zero] at hh
  have hh2 : Ev (fun k => thermionref01_has.f k W H R C (fn l i)) (hasB C (fn l i)) := hh
  rw [List.drop_eq_getElem_cons hil, List.all_cons, ← e1]
  cases q : hasB C (fn l i) with
  | true =>
   rw [q] at hh2
   rw [Bool.true_and]
   refine Ev.step (g := fun k => (thermionref01_has.f k W H R C (fn l i)).bind (fun t => if t = true then thermionref01_askable.l0 k l ((i + 1 : Nat) : Int) W H R C else some 7)) (hh2.bind ?_) 0 (fun k _ => ?_)
   ·simp only [if_true]
    exact ask_l0 W H R C l hC hl d (i + 1) (by omega)
   ·rw [thermionref01_askable.l0, if_pos (by omega), if_pos (by omega), rd_fn l i hil, hw]
  | false =>
   rw [q] at hh2
   rw [Bool.false_and, if_pos rfl]
   refine Ev.step (g := fun k => (thermionref01_has.f k W H R C (fn l i)).bind (fun t => if t = true then thermionref01_askable.l0 k l ((i + 1 : Nat) : Int) W H R C else some 7)) (hh2.bind ?_) 0 (fun k _ => ?_)
   ·exact ⟨0, fun k _ => if_neg (by simp)⟩
   ·rw [thermionref01_askable.l0, if_pos (by omega), if_pos (by omega), rd_fn l i hil, hw]
theorem ask_eq (W H : Int) (R : Bool) (C l : List Int) (n : Int) (hC : C.length ≤ 1000) (hl : l.length ≤ 1000) : Ev (fun k => thermionref01_askable.f k W H R C n l) (apartErr W H R C n l) := by
 unfold thermionref01_askable.f apartErr
 refine (refcheck_eq W H R C).bind ?_
 by_cases q : checkErr W H R C = 0
 ·rw [if_neg (show ¬ checkErr W H R C ≠ 0 from fun f => f q)]
  simp only [q, if_true, beyond_eq, Option.bind_some]
  by_cases r : n < 0 ∨ 200 < n
  ·rw [if_pos r]
   exact ⟨0, fun k _ => if_pos (by simpa using r)⟩
  ·rw [if_neg r]
   have h0 := ask_l0 W H R C l hC hl l.length 0 (by omega)
   rw [List.drop_zero] at h0
   obtain ⟨K, hK⟩ := h0
   exact ⟨K, fun k hk => (if_neg (by simpa using r)).trans (hK k hk)⟩
 ·rw [if_pos (show checkErr W H R C ≠ 0 from q)]
  exact ⟨0, fun k _ => if_neg q⟩
theorem refinf_eq {W H : Nat} {R : Bool} {C : List Int} {n : Nat} {a b : Int} (hck : checkErr W H R C = 0) (hn : n ≤ 200) (hab : a ≠ b) (ha : hasB C a = true) (hb : hasB C b = true) :
  ∃ x1 x2, (∀ k, C.length + 12 ≤ k → field_Influence.f k W H R C n a b = some (x1, x2, 0)) ∧ Ev (fun k => thermionref01_influence.f k W H R C n a b) (x1, x2) ∧ x1 ≤ x2 ∧ 0 ≤ x1 := by
 obtain ⟨m, hm⟩ : ∃ m : Nat, maxOf C = m := by
  have := (has_max (m := (maxOf C).toNat) (a := a) (by
   have h1 := le_maxOf (hasB_mem.1 ha).2
   have h2 := (hasB_mem.1 ha).1
   omega) ha)
  exact ⟨(maxOf C).toNat, by omega⟩
 have ha' := has_max hm ha
 have hb' := has_max hm hb
 have hv := unit_right hck hm ha'
 obtain ⟨hV, h256, _⟩ := influence_eq (n := n) hck hn hab hm ha hb (k := C.length + 12) (Nat.le_refl _)
 have hI : ∀ k, C.length + 12 ≤ k → field_Influence.f k W H R C n a b = some (inflow W H R C b (solveN W H R C (unitV m a 1000000) 256 n).1, inflow W H R C b (solveN W H R C (unitV m a 1000000) 256 n).2.1, 0) := fun k hk => by
  obtain ⟨_, _, h⟩ := influence_eq (n := n) hck hn hab hm ha hb hk
  exact h
 have hle : inflow W H R C b (solveN W H R C (unitV m a 1000000) 256 n).1 ≤ inflow W H R C b (solveN W H R C (unitV m a 1000000) 256 n).2.1 :=
  inflow_le (fun i hi => pair_between hV (solve_pair hV h256 n) (by rw [hV.len]; exact hi))
 have h0 := (influence_both (n := n) (n' := n) hm ha hb h256 hV (by
  obtain ⟨hV', _, _⟩ := influence_eq (n := n) hck hn (Ne.symm hab) hm hb ha (k := C.length + 12) (Nat.le_refl _)
  exact hV')).2
 refine ⟨_, _, hI, ?_, hle, h0⟩
 have hm6 : m ≤ 6 := by
  obtain ⟨i, hi, e⟩ := mem_fn (maxOf_mem (check_ne hck))
  have := (hV.elr i hi).2
  omega
 have hs := solve_eq (n := n) hv hn
 obtain ⟨W1, H1, _, _⟩ := check_parts hck
 obtain ⟨t1, t2⟩ := bounds_len hV h256 n
 obtain ⟨j, hj, hje⟩ := mem_fn (hasB_mem.1 hb).2
 have he6 := hV.elr j hj
 have hev := hV.vlen j hj
 rw [hje] at he6 hev
 obtain ⟨u, hu⟩ : ∃ u, fn (unitV m a 1000000) (b.toNat - 1) = u := ⟨_, rfl⟩
 have hub := hV.vr (b.toNat - 1) (by omega)
 rw [hu] at hub
 obtain ⟨W', H', eW, eH, hW16, hH16, _, _, _⟩ := volted_of hv
 obtain rfl : W = W' := by omega
 obtain rfl : H = H' := by omega
 have hch := charge_l0 (W := W) (H := H) (R := R) (C := C) (v := unitV m a 1000000) (lo := (solveN W H R C (unitV m a 1000000) 256 n).1.take C.length) (hi := (solveN W H R C (unitV m a 1000000) 256 n).2.1.take C.length) (e := b) (u := u) ⟨by omega, hW16⟩ ⟨by omega, hH16⟩ hV.len t1 t2 ⟨by omega, hev, he6.2⟩ hu hub (fun k hk => by
  have hk' : k < C.length := by rw [hV.len]; exact hk
  rw [fn_take hk', fn_take hk']
  exact solve_range hV h256 n hk') ((solveN W H R C (unitV m a 1000000) 256 n).2.2.1 : Int) (solveN W H R C (unitV m a 1000000) 256 n).2.2.2 C.length 0 (by omega)
 have hne := check_ne hck
 have hwa : wrap64 (a - 1) = a - 1 := IntWalk.wrap64_in _ (by omega)
 have huV : (List.replicate m (0 : Int)).set (a - 1).toNat 1000000 = unitV m a 1000000 := by
  unfold unitV
  rw [show (a - 1).toNat = a.toNat - 1 by omega]
 have hours := hI (C.length + 12) (Nat.le_refl _)
 have hap : apartErr W H R C n [a, b] = 0 := by rw [apart_two hck (by omega) hab]; exact if_pos ⟨ha, hb⟩
 have hmx : slices_Max_int_int.f C = some (m : Int) := by unfold slices_Max_int_int.f; rw [if_neg hne, hm]
 have hcf : field_Charge.f W H R C (unitV m a 1000000) n b = some (chTo W H R C b u ((solveN W H R C (unitV m a 1000000) 256 n).2.1.take C.length) C.length, chTo W H R C b u ((solveN W H R C (unitV m a 1000000) 256 n).1.take C.length) C.length, 0) := by
  unfold field_Charge.f
  rw [obind hs]
  show (if (0 : Int) ≠ 0 then _ else if hasB C b = false then _ else _) = _
  rw [if_neg (by simp), if_neg (by rw [hb]; simp), hu, Int.toNat_natCast, Int.toNat_natCast]
 unfold field_Influence.f at hours
 rw [obind (apart_eq W H R C [a, b] n (by omega) (by simp) (by simp; omega)), hap, if_pos rfl, obind hmx, if_pos (by omega), Int.toNat_natCast, if_pos (by omega), obind rfl, hwa, if_pos (by omega), if_pos (by rw [List.length_replicate]; omega), huV, obind hcf] at hours
 simp only [Option.some.injEq, Prod.mk.injEq] at hours
 obtain ⟨e1, e2, _⟩ := hours
 unfold thermionref01_influence.f
 have hg := refgreatest_go (W : Int) (H : Int) R C (by omega) C.length 0 0 (by omega)
 rw [List.drop_zero] at hg
 have hmax : C.foldl max 0 = (m : Int) := by
  rw [← hm]
  obtain ⟨g1, g2, g3⟩ := foldl_max_ge C 0
  have h1 := g2 _ (maxOf_mem hne)
  rcases g3 with g3 | g3
  ·have := le_maxOf (hasB_mem.1 ha).2
   have h2 := (hasB_mem.1 ha).1
   omega
  ·have := le_maxOf g3
   omega
 rw [hmax] at hg
 refine Ev.bind (f := fun k => thermionref01_greatest.f k (W : Int) (H : Int) R C) hg ?_
 have hg2 := Ev.bind (f := fun k => thermionref01_charge.f k (W : Int) (H : Int) R C (unitV m a 1000000) ((solveN W H R C (unitV m a 1000000) 256 n).1.take C.length) ((solveN W H R C (unitV m a 1000000) 256 n).2.1.take C.length) ((solveN W H R C (unitV m a 1000000) 256 n).2.2.1 : Int) (solveN W H R C (unitV m a 1000000) 256 n).2.2.2 b)
  (g := fun _ t => some (wrap64 (-t.2), wrap64 (-t.1))) hch ⟨0, fun k _ => rfl⟩
 obtain ⟨K, hK⟩ := hg2
 refine ⟨K, fun k hk => ?_⟩
 have hk2 := hK k hk
 show (if (0 : Int) ≤ (m : Int) then _ else none) = _
 rw [if_pos (by omega), Int.toNat_natCast, if_pos (by omega), obind rfl, hwa, if_pos (by omega), if_pos (by rw [List.length_replicate]; omega), obind rfl, huV]
 rw [show thermionref01_Solve.f (W : Int) (H : Int) R C (unitV m a 1000000) n = _ from hs]
 rw [← e1, ← e2]
 exact hk2
theorem apart_zero {W H : Int} {R : Bool} {C l : List Int} {n : Int} (h : apartErr W H R C n l = 0) : checkErr W H R C = 0 ∧ 0 ≤ n ∧ n ≤ 200 ∧ l.all (hasB C) = true ∧ dupFrom l 0 l.length = false := by
 unfold apartErr at h
 by_cases q : checkErr W H R C ≠ 0
 ·rw [if_pos q] at h; exact absurd h q
 ·rw [if_neg q] at h
  by_cases r : n < 0 ∨ 200 < n
  ·rw [if_pos r] at h; simp at h
  ·rw [if_neg r] at h
   cases s : l.all (hasB C) with
   | false => rw [if_pos s] at h; simp at h
   | true =>
    rw [if_neg (by simp [s])] at h
    cases t : dupFrom l 0 l.length with
    | true => rw [if_pos t] at h; simp at h
    | false => exact ⟨Classical.byContradiction q, by omega, by omega, rfl, rfl⟩
theorem nat_of {W H : Int} {R : Bool} {C : List Int} (h : checkErr W H R C = 0) : ∃ W' H' : Nat, W = W' ∧ H = H' ∧ C.length ≤ 256 := by
 obtain ⟨a, b, c, d, e, _⟩ := check_parts h
 obtain ⟨W', rfl⟩ : ∃ W' : Nat, W = W' := ⟨W.toNat, by omega⟩
 obtain ⟨H', rfl⟩ : ∃ H' : Nat, H = H' := ⟨H.toNat, by omega⟩
 have hl : C.length = W' * H' := by rw [← Int.natCast_mul] at e; omega
 have h256 : C.length ≤ 256 := by have := Nat.mul_le_mul (show W' ≤ 16 by omega) (show H' ≤ 16 by omega); omega
 exact ⟨W', H', rfl, rfl, h256⟩
theorem amp_both (W H : Int) (R : Bool) (C : List Int) (n k0 g a : Int) (hC : C.length ≤ 1000) :
  ∃ x1 x2 x3, Ev (fun k => field_Amplification.f k W H R C n k0 g a) (x1, x2, x3) ∧ Ev (fun k => thermionref01_Amplification.f k W H R C n k0 g a) (x1, x2, x3) := by
 by_cases q : apartErr W H R C n [k0, g, a] = 0
 ·obtain ⟨h1, h2, h3, h4, h5⟩ := apart_zero q
  obtain ⟨W', H', rfl, rfl, h256⟩ := nat_of h1
  obtain ⟨N, rfl⟩ : ∃ N : Nat, n = N := ⟨n.toNat, by omega⟩
  simp only [List.all_cons, List.all_nil, Bool.and_true, Bool.and_eq_true] at h4
  have hgk : g ≠ k0 := by
   intro e
   subst e
   simp [dupFrom, fn] at h5
  have hak : a ≠ k0 := by
   intro e
   subst e
   simp [dupFrom, fn] at h5
  obtain ⟨x1, x2, e1, e2, _, _⟩ := refinf_eq (n := N) h1 (by omega) hgk h4.2.1 h4.1
  obtain ⟨y1, y2, f1, f2, f3, f4⟩ := refinf_eq (n := N) h1 (by omega) hak h4.2.2 h4.1
  by_cases r : y1 < 1
  ·refine ⟨0, 0, 10, ⟨C.length + 20, fun k hk => ?_⟩, ?_⟩
   ·unfold field_Amplification.f
    dsimp only
    rw [obind (apart_eq W' H' R C [k0, g, a] N (by omega) (by simp) (by simp; omega)), if_pos q, obind (e1 k (by omega)), obind (f1 k (by omega))]
    exact if_pos r
   ·unfold thermionref01_Amplification.f
    refine (ask_eq W' H' R C [k0, g, a] N hC (by simp)).bind ?_
    simp only [q, if_true]
    refine e2.bind ?_
    refine f2.bind ?_
    exact ⟨0, fun k _ => if_pos r⟩
  ·obtain ⟨z1, hz1⟩ : ∃ z, field_down.f (wrap64 (1000 * x1)) y2 = some z := by
    unfold field_down.f
    rw [if_neg (by omega)]
    split
    ·exact ⟨_, rfl⟩
    ·exact ⟨_, rfl⟩
   obtain ⟨z2, hz2⟩ : ∃ z, field_up.f (wrap64 (1000 * x2)) y1 = some z := by
    unfold field_up.f field_down.f
    rw [if_neg (by omega)]
    split
    ·exact ⟨_, rfl⟩
    ·exact ⟨_, rfl⟩
   have hz1' : thermionref01_Down.f (wrap64 (1000 * x1)) y2 = some z1 := hz1
   have hz2' : thermionref01_Up.f (wrap64 (1000 * x2)) y1 = some z2 := hz2
   refine ⟨z1, z2, 0, ⟨C.length + 20, fun k hk => ?_⟩, ?_⟩
   ·unfold field_Amplification.f
    dsimp only
    rw [obind (apart_eq W' H' R C [k0, g, a] N (by omega) (by simp) (by simp; omega)), if_pos q, obind (e1 k (by omega)), obind (f1 k (by omega))]
    show (if y1 < 1 then _ else _) = _
    rw [if_neg r, obind hz1, obind hz2]
   ·unfold thermionref01_Amplification.f
    refine (ask_eq W' H' R C [k0, g, a] N hC (by simp)).bind ?_
    simp only [q, if_true]
    refine e2.bind ?_
    refine f2.bind ?_
    refine ⟨0, fun k _ => ?_⟩
    show (if y1 < 1 then _ else _) = _
    rw [if_neg r, obind hz1', obind hz2']
 ·refine ⟨0, 0, apartErr W H R C n [k0, g, a], ⟨C.length + 20, fun k hk => ?_⟩, ?_⟩
  ·unfold field_Amplification.f
   dsimp only
   rw [obind (apart_eq W H R C [k0, g, a] n (by omega) (by simp) (by simp; omega)), if_neg q]
  ·unfold thermionref01_Amplification.f
   refine (ask_eq W H R C [k0, g, a] n hC (by simp)).bind ?_
   exact ⟨0, fun k _ => if_neg q⟩
end Go.Proofs.Ytndkkjpgnmahbaa.Print
end

section
namespace Go.Proofs.Ytndkkjpgnmahbaa.Print
open Go.RowKit Go.Proofs.YtndkkjpgnmahbaaW.PrintWords Go.Proofs.YtndkkjpgnmahbaaW.PrintLast Go.Proofs.YtndkkjpgnmahbaaW.PrintMore Go.Proofs.Ytndkkjpgnmahbaa.H Go.Proofs.Field
set_option linter.unusedVariables false
set_option linter.unusedSimpArgs false
theorem R_same {W W1 : World} {base g n c : Nat} {ok : Nat → Prop} {l : List Int} (h : Kd.R (Kd.int .i64) 3 W base ok (.slice (some ⟨g, 0, none⟩) n c) l) (he : W1.heap[g]? = W.heap[g]?) : Kd.R (Kd.int .i64) 3 W1 base ok (.slice (some ⟨g, 0, none⟩) n c) l := by
 refine Kd.R_mono (Kd.R_step (Kd.R_tight rfl h) (fun k hk hlt => ?_)) (fun k hk => h.1 k hk.symm)
 have : k = g := by injection hk
 rw [this]
 exact he
theorem ShM.memo {w W : World} {l : List (Nat × Array Value × TypeId)} {gO N cO : Nat} {out : List Int} {vT : Value} {tl : List Int} (h : ShM w W l gO N cO out vT tl) (hp : 0 < out.length) : ∃ cur, Mem w W ((gO, cur, 3) :: l) := by
 obtain ⟨g, c, cur, e, -, hb, hg, -, -⟩ := R_mem h.o hp
 injection e with e1 e2 e3
 injection e1 with e1
 injection e1 with e1
 subst e1
 refine ⟨cur, h.m.below, fun p hp => ?_, fun p hp => ?_, .cons (fun p hp => (h.ne p hp).symm) h.m.apart⟩
 ·rcases List.mem_cons.1 hp with rfl | hp
  ·exact hb
  ·exact h.m.blk p hp
 ·rcases List.mem_cons.1 hp with rfl | hp
  ·exact hg
  ·exact h.m.ge p hp
theorem check_at (W H : Int) (R : Bool) (A : Option Addr) (c n : Nat) (C : List Int) (r : Int) (w : World) (hn : C.length = n) (hr : Kd.C (Kd.int .i64) w A C.length C) (hc : n ≤ c) (h : checkErr W H R C = r) :
  Calls Try.prog 39 #[.agg (planV W H R A n c)] w fun e w' => e = .returned (.int .i64 r) ∧ Below w.heap.size w w' := by
 subst hn
 subst h
 exact field_Check.calls W H R A c C _ w hr hc rfl
set_option maxHeartbeats 16000000 in
set_option maxRecDepth 100000 in
theorem field_Shift.calls (W H : Int) (R : Bool) (A : Option Addr) (c : Nat) (C : List Int) (e dx dy r1 r2 : Int) (r3 : Bool) (r4 : List Int) (r5 : Int) (w : World) (hr : Kd.C (Kd.int .i64) w A C.length C) (hc : C.length ≤ c) (hl : C.length ≤ 1000) (h : shiftE W H R C e dx dy = (r1, r2, r3, r4, r5)) :
  Calls Try.prog 58 #[.agg (planV W H R A C.length c), .int .i64 e, .int .i64 dx, .int .i64 dy] w fun ex w' => ∃ v : Value, ex = .returned (.tuple #[.agg #[.int .i64 r1, .int .i64 r2, .bool r3, v], .int .i64 r5]) ∧ Kd.R (Kd.int .i64) 3 w' w.heap.size (fun _ => True) v r4 ∧ Below w.heap.size w w' := by
 unfold shiftE at h
 have HM := Aside0.mk (Mem.start w)
 have HR := Aside0.mk hr
 have HC := Aside0.mk hc
 have HL := Aside0.mk hl
 have HH := Aside0.mk h
 have hu24 := Try.underlying24
 have hu22 := Try.underlying22
 clear hr hc hl h
 go_enter Try.func58, Try.ntmps58
 go_upto_region 2 with (first
  | ((with_reducible refine gate_dst (N := 4) rfl ?_); refine ev_box HM.out rfl 24 (.tmp 0) rfl (cs := #[.int .i64 W, .int .i64 H, .bool R, .slice A C.length c]) rfl ?_; intro g4 w1 hm1 hq1; have HM1 := Aside0.mk hm1; clear hm1 hq1 HM)
  | ((with_reducible refine gate_dst (N := 8) rfl ?_); refine ev_new HM1.out rfl 24 rfl info24 ?_; intro g8 w2 hm1 hq1; have HM2 := Aside0.mk hm1; clear hm1 hq1 HM1)
  | ((with_reducible refine gate_dst (N := 20) rfl ?_); refine ev_load (HM2.out.second) rfl 24 (.tmp 4) rfl rfl _ Try.underlying24 rfl size24 rfl ?_)
  | (go_at_call 39; refine (field_Check.calls W H R A c C (checkErr W H R C) _ (Kd.C_below HR.out HM2.out.below) HC.out rfl).mono ?_; rintro e3 w3 ⟨rfl, hb⟩; have HM3 := Aside0.mk (HM2.out.step hb); clear hb HM2 ))
 have h := HH.out
 clear HH
 by_cases g0 : checkErr W H R C = 0
 rotate_left
 ·rw [if_pos g0] at h
  simp only [Prod.mk.injEq] at h
  obtain ⟨rfl, rfl, rfl, rfl, rfl⟩ := h
  have g1 : (checkErr W H R C != 0) = true := bne_iff_ne.mpr g0
  clear g0
  go_wp2_with (first
   | ((with_reducible refine gate_store (t := 24) (p := 8) rfl ?_); refine ev_store HM3.out rfl 24 (.tmp 8) (.tmp 24) rfl rfl (cs := #[.int .i64 0, .int .i64 0, .bool false, .slice none 0 0]) rfl size24 rfl rfl (by simp [Value.oneCell']) ?_; intro w4 hm1 hq1; have HM4 := Aside0.mk hm1; clear hm1 hq1 HM3))
  (try simp only [Exit.inBlock, Exit.then])
  exact bodyPost_ret (results_ct rfl _ _ g8 24 #[.int .i64 0, .int .i64 0, .bool false, .slice none 0 0] (0, 0) _ rfl HM4.out.head Try.underlying24 rfl (by kernel_rfl)) rfl ⟨_, rfl, Kd.R_nil _ _ _ _ _, HM4.out.below⟩
 rw [if_neg (show ¬ checkErr W H R C ≠ 0 from fun f => f g0)] at h
 have hg := nat_of g0
 obtain ⟨p1, p2, p3, p4, p5, -, -, -⟩ := check_parts g0
 have hne := check_ne g0
 rw [g0]
 have g1 : ((0 : Int) != 0) = false := rfl
 obtain ⟨W, H, rfl, rfl, h256⟩ := hg
 have hlen : C.length = W * H := by rw [← Int.natCast_mul] at p5; omega
 have hpos : 0 < C.length := List.length_pos_iff.2 hne
 obtain ⟨ad, rfl⟩ : ∃ ad, A = some ad := by
  obtain ⟨ad, e1, -⟩ := Kd.at_int HR.out 0 (by omega) (by omega)
  exact ⟨ad, e1⟩
 simp only [Int.toNat_natCast] at h
 have HN : Aside0 (C.length = W * H ∧ C.length ≤ 256 ∧ 0 < C.length ∧ 1 ≤ W ∧ W ≤ 16 ∧ 1 ≤ H ∧ H ≤ 16) := ⟨hlen, h256, hpos, by omega, by omega, by omega, by omega⟩
 have HB := Aside0.mk (has_ev W H R C e (by omega) (k := C.length + 1) (Nat.le_refl _))
 have HH := Aside0.mk h
 clear h p1 p2 p3 p4 p5 hne hlen h256 hpos g0
 cases hB : hasB C e with
 | false =>
  have h := HH.out
  rw [if_pos hB] at h
  simp only [Prod.mk.injEq] at h
  obtain ⟨rfl, rfl, rfl, rfl, rfl⟩ := h
  have HB2 : Aside0 (field_has.f (C.length + 1) W H R C e = some false) := ⟨by rw [← hB]; exact HB.out⟩
  clear HH hB HB
  go_wp2_with (first
   | ((with_reducible refine gate_dst (N := 26) rfl ?_); refine ev_load (HM3.out.second) rfl 24 (.tmp 4) rfl rfl _ Try.underlying24 rfl size24 rfl ?_)
   | (go_at_call 77; refine (field_has.calls (C.length + 1) W H R (some ad) c C e false _ (Kd.C_below HR.out HM3.out.below) HC.out HB2.out).mono ?_; rintro e4 w4 ⟨rfl, hb⟩; have HM4 := Aside0.mk (HM3.out.step hb); clear hb HM3 HB2)
   | ((with_reducible refine gate_store (t := 24) (p := 8) rfl ?_); refine ev_store HM4.out rfl 24 (.tmp 8) (.tmp 30) rfl rfl (cs := #[.int .i64 0, .int .i64 0, .bool false, .slice none 0 0]) rfl size24 rfl rfl (by simp [Value.oneCell']) ?_; intro w5 hm1 hq1; have HM5 := Aside0.mk hm1; clear hm1 hq1 HM4))
  (try simp only [Exit.inBlock, Exit.then])
  exact bodyPost_ret (results_ct rfl _ _ g8 24 #[.int .i64 0, .int .i64 0, .bool false, .slice none 0 0] (0, 0) _ rfl HM5.out.head Try.underlying24 rfl (by kernel_rfl)) rfl ⟨_, rfl, Kd.R_nil _ _ _ _ _, HM5.out.below⟩
 | true =>
  have h := HH.out
  rw [if_neg (by rw [hB]; simp)] at h
  have HH2 := Aside0.mk h
  have HB2 : Aside0 (field_has.f (C.length + 1) W H R C e = some true) := ⟨by rw [← hB]; exact HB.out⟩
  clear HH hB HB h
  have hCW : ∀ (V : World), Below w.heap.size w V → ∀ i, i < C.length → V.cell? (ad.add i) = some (.int .i64 (fn C i)) := fun V hV i hi => by
   obtain ⟨ad2, e2, hx⟩ := Kd.at_int HR.out (i : Int) (by omega) (by omega)
   injection e2 with e2
   subst e2
   rw [Int.toNat_natCast, rd_fn C i hi] at hx
   exact (hV.cell (World.block_lt_of_cell? w _ hx)).trans hx
  have HCW := Aside0.mk hCW
  clear hCW
  go_wp2_with (first
   | ((with_reducible refine gate_dst (N := 26) rfl ?_); refine ev_load (HM3.out.second) rfl 24 (.tmp 4) rfl rfl _ Try.underlying24 rfl size24 rfl ?_)
   | (go_at_call 77; refine (field_has.calls (C.length + 1) W H R (some ad) c C e true _ (Kd.C_below HR.out HM3.out.below) HC.out HB2.out).mono ?_; rintro e4 w4 ⟨rfl, hb⟩; have HM4 := Aside0.mk (HM3.out.step hb); clear hb HM3 HB2)
   | ((with_reducible refine gate_dst (N := 31) rfl ?_); refine ev_load (HM4.out.second) rfl 24 (.tmp 4) rfl rfl _ Try.underlying24 rfl size24 rfl ?_)
   | (go_at_call 46; refine (field_Copy.calls W H R (some ad) c C W H R C _ (Kd.C_below HR.out HM4.out.below) HC.out (ourcopy_eq W H R C (by have := HN.out; omega))).mono ?_; rintro e5 w5 ⟨vo, rfl, hR, hb⟩; obtain ⟨gO, cO, eO, hgO, -, -⟩ := Kd.R_form hR (by have := HN.out; omega); subst eO; have HRO := Aside0.mk (Kd.R_lower hR HM4.out.below.size); have HM5 := Aside0.mk (HM4.out.step hb); clear hb hR hgO HM4 )
   | ((with_reducible refine gate_dst (N := 11) rfl ?_); refine ev_new (Mem.start w5) rfl 24 rfl info24 ?_; intro g11 w6 hm1 hq1; have HX := Aside0.mk hm1; clear hm1 hq1)
   | ((with_reducible refine gate_store (t := 24) (p := 11) rfl ?_); refine ev_store HX.out rfl 24 (.tmp 11) (.tmp 32) rfl rfl (cs := #[.int .i64 (W : Int), .int .i64 (H : Int), .bool R, .slice (some ⟨gO, 0, none⟩) C.length cO]) rfl size24 rfl rfl (by simp [Value.oneCell']) ?_; intro w7 hm1 hq1; have HS : Aside0 (ShM w w7 [(g11, #[.int .i64 (W : Int), .int .i64 (H : Int), .bool R, .slice (some ⟨gO, 0, none⟩) C.length cO], 24), (g8, #[.int .i64 0, .int .i64 0, .bool false, .slice none 0 0], 24), (g4, #[.int .i64 (W : Int), .int .i64 (H : Int), .bool R, .slice (some ad) C.length c], 24)] gO C.length cO (clearTo C e 0) (.slice none 0 0) (tosTo W C e dx dy 0)) := ⟨⟨mem_join HM5.out hm1, Kd.R_below HRO.out hm1.below, Kd.R_nil _ _ _ _ _, by simp⟩⟩; clear hm1 hq1 HX HRO HM5; have c4 := (plan_cells (HS.out.m.blk (g4, #[.int .i64 (W : Int), .int .i64 (H : Int), .bool R, .slice (some ad) C.length c], 24) (by simp))).2.2.2))
  go_loopg [12, 36] C.length (fun k v12 v36 w' => ∃ (i : Nat) (vT : Value), vT = v12 ∧ v36 = .int .i64 (i : Int) ∧ Aside0 (i + k = C.length) ∧ Aside0 (AllFit W H C e dx dy i) ∧ Aside0 (ShM w w' [(g11, #[.int .i64 (W : Int), .int .i64 (H : Int), .bool R, .slice (some ⟨gO, 0, none⟩) C.length cO], 24), (g8, #[.int .i64 0, .int .i64 0, .bool false, .slice none 0 0], 24), (g4, #[.int .i64 (W : Int), .int .i64 (H : Int), .bool R, .slice (some ad) C.length c], 24)] gO C.length cO (clearTo C e i) vT (tosTo W C e dx dy i)))
  case atStart => exact ⟨0, _, rfl, by go_num, ⟨by omega⟩, ⟨fun i hi => absurd hi (by omega)⟩, HS⟩
  case round =>
   clear HS c4
   obtain ⟨i, vT, rfl, rfl, HK, HAF, HS⟩ := hrel
   obtain ⟨c4_0, c4_1, c4_2, c4_3⟩ := plan_cells (HS.out.m.blk (g4, #[.int .i64 (W : Int), .int .i64 (H : Int), .bool R, .slice (some ad) C.length c], 24) (by simp))
   have c11_3 := (plan_cells (HS.out.m.blk (g11, #[.int .i64 (W : Int), .int .i64 (H : Int), .bool R, .slice (some ⟨gO, 0, none⟩) C.length cO], 24) (by simp))).2.2.2
   by_cases hi : i < C.length
   ·have HI := Aside0.mk hi
    have b1 : decide ((i : Int) < (C.length : Int)) = true := by simp; omega
    have b2 : decide (i < C.length) = true := by simp; omega
    have b3 : (0 : Int) ≤ (i : Int) := by omega
    have b4 : (i : Int) < (C.length : Int) := by omega
    have b5 : wrap64 ((i : Int) + 1) = ((i + 1 : Nat) : Int) := by rw [IntWalk.wrap64_in _ (by have := HN.out; omega)]; omega
    have cC := HCW.out _ HS.out.m.below i hi
    clear hi
    by_cases he : fn C i = e
    ·have HCL : Aside0 (clearTo C e (i + 1) = (clearTo C e i).set i 0) := ⟨by rw [clearTo, if_pos he]⟩
     have HTO : Aside0 (tosTo W C e dx dy (i + 1) = tosTo W C e dx dy i ++ [((tgt W dx dy i : Nat) : Int)]) := ⟨by rw [tosTo, if_pos he]⟩
     have HE := Aside0.mk he
     have d1 : (fn C i != e) = false := bne_eq_false_iff_eq.mpr he
     obtain ⟨cX, fX⟩ := HS.out.cell HI.out
     rw [he] at cC
     have d2 : (e != e) = false := bne_eq_false_iff_eq.mpr rfl
     clear he
     go_upto_region 13 with fail
     have HS2 := Aside0.mk (HS.out.put i 0)
     rw [← HCL.out] at HS2
     clear HS cX fX c4_0 c4_1 c4_2 c4_3 c11_3 cC d1 d2 HCL
     generalize wr.setCell _ _ = wz at HS2 ⊢
     have HS := HS2
     clear HS2
     obtain ⟨c4_0, c4_1, c4_2, c4_3⟩ := plan_cells (HS.out.m.blk (g4, #[.int .i64 (W : Int), .int .i64 (H : Int), .bool R, .slice (some ad) C.length c], 24) (by simp))
     have c11_3 := (plan_cells (HS.out.m.blk (g11, #[.int .i64 (W : Int), .int .i64 (H : Int), .bool R, .slice (some ⟨gO, 0, none⟩) C.length cO], 24) (by simp))).2.2.2
     obtain ⟨x, hx⟩ : ∃ x, i % W = x := ⟨_, rfl⟩
     obtain ⟨y, hy⟩ : ∃ y, i / W = y := ⟨_, rfl⟩
     obtain ⟨cc, hcc⟩ : ∃ z, colOf W dx i = z := ⟨_, rfl⟩
     obtain ⟨ll, hll⟩ : ∃ z, linOf W dy i = z := ⟨_, rfl⟩
     have m1 : Int.tmod (i : Int) (W : Int) = (x : Int) := by rw [Int.tmod_eq_emod_of_nonneg (by omega), ← Int.natCast_emod, hx]
     have m2 : Int.tdiv (i : Int) (W : Int) = (y : Int) := by rw [Int.tdiv_eq_ediv_of_nonneg (by omega), ← Int.natCast_ediv, hy]
     have m3 : (i : Int) % (W : Int) = (x : Int) := by rw [← Int.natCast_emod, hx]
     have m4 : (i : Int) / (W : Int) = (y : Int) := by rw [← Int.natCast_ediv, hy]
     have m5 : ((W : Int) == 0) = false := beq_eq_false_iff_ne.mpr (by have := HN.out; omega)
     have m6 : decide ((W : Int) = 0) = false := decide_eq_false (by have := HN.out; omega)
     have m7 : (W : Int) ≠ 0 := by have := HN.out; omega
     have m8 : W ≠ 0 := by have := HN.out; omega
     have n1 : IntKind.i64.wrap ((x : Int) + dx) = cc := by rw [← hcc, ← hx]; exact i64_w _
     have n2 : IntKind.i64.wrap ((y : Int) + dy) = ll := by rw [← hll, ← hy]; exact i64_w _
     have n1' : wrap64 ((x : Int) + dx) = cc := by rw [← hcc, ← hx]; rfl
     have n2' : wrap64 ((y : Int) + dy) = ll := by rw [← hll, ← hy]; rfl
     have n3 : IntKind.i64.wrap (x : Int) = (x : Int) := IntWalk.i64_in _ (by have := Nat.mod_le i W; have := HI.out; have := HN.out; omega)
     have n4 : IntKind.i64.wrap (y : Int) = (y : Int) := IntWalk.i64_in _ (by have := Nat.div_le_self i W; have := HI.out; have := HN.out; omega)
     have HXY := Aside0.mk (And.intro hcc hll)
     clear hx hy hcc hll
     go_quiet (fail)
     clear m1 m2 m3 m4 m5 m6 m7 m8 n1 n2 n1' n2' n3 n4
     by_cases hf : 0 ≤ cc ∧ cc < W ∧ 0 ≤ ll ∧ ll < H
     case' pos =>
      have hfit : fitsB W H dx dy i = true := by unfold fitsB; rw [HXY.out.1, HXY.out.2]; exact decide_eq_true hf
      have HFIT : Aside0 (AllFit W H C e dx dy (i + 1)) := ⟨fun j hj hej => by
       by_cases q : j = i
       ·subst q; exact hfit
       ·exact HAF.out j (by omega) hej⟩
      obtain ⟨cn, hcn⟩ : ∃ n : Nat, cc = n := ⟨cc.toNat, by omega⟩
      obtain ⟨ln, hln⟩ : ∃ n : Nat, ll = n := ⟨ll.toNat, by omega⟩
      subst hcn hln
      have f1 : decide ((cn : Int) < 0) = false := decide_eq_false (by omega)
      have f2 : decide ((cn : Int) ≥ (W : Int)) = false := decide_eq_false (by omega)
      have f3 : decide ((ln : Int) < 0) = false := decide_eq_false (by omega)
      have f4 : decide ((ln : Int) ≥ (H : Int)) = false := decide_eq_false (by omega)
      have f5 : decide (W ≤ cn) = false := decide_eq_false (by omega)
      have f6 : decide (H ≤ ln) = false := decide_eq_false (by omega)
      have hT : tgt W dx dy i = ln * W + cn := by unfold tgt; rw [HXY.out.1, HXY.out.2]; rfl
      have hTl := tgt_lt hfit
      obtain ⟨m, hm⟩ : ∃ m, ln * W = m := ⟨_, rfl⟩
      obtain ⟨t, ht⟩ : ∃ t, m + cn = t := ⟨_, rfl⟩
      have u1 : IntKind.i64.wrap ((ln : Int) * (W : Int)) = (m : Int) := by rw [← Int.natCast_mul, hm]; exact IntWalk.i64_in _ (by rw [hT] at hTl; have := HN.out; omega)
      have u2 : IntKind.i64.wrap ((m : Int) + (cn : Int)) = (t : Int) := by rw [← Int.natCast_add, ht]; exact IntWalk.i64_in _ (by rw [hT] at hTl; have := HN.out; omega)
      have HT2 : Aside0 (tosTo W C e dx dy (i + 1) = tosTo W C e dx dy i ++ [(t : Int)]) := ⟨by rw [HTO.out, hT, hm, ht]⟩
      have HTL : Aside0 ((tosTo W C e dx dy i).length ≤ 256) := ⟨by have := tosTo_length W C e dx dy i; have := HI.out; have := HN.out; omega⟩
      clear hf hfit hT hTl hm ht HTO
      go_wp2_with (first
       | ((with_reducible refine gate_builtin (b := .append) (xs := #[.tmp 79, .tmp 86]) rfl ?_); at_builtin; refine Kd.R_append (Kd.int .i64) w.heap.size rfl (.tmp 79) (.tmp 86) 22 3 (.int .i64 0) 8 rfl Try.underlying22 info3 rfl (by decide) (by omega) vT (tosTo W C e dx dy i) (t : Int) [.int .i64 (t : Int)] (fun k => k ≠ gO) (fun _ => False) rfl rfl rfl (fun _ hk => hk.elim) (HS.out.step (pw_below_drewN (Below.refl _ _) _)).fresh (HS.out.step (pw_below_drewN (Below.refl _ _) _)).t (Below.refl _ _) (HS.out.step (pw_below_drewN (Below.refl _ _) _)).m.below.size (by have := HTL.out; omega) ?_; intro v1 wy ho hb hg hat; have HS2 := Aside0.mk ((HS.out.step (pw_below_drewN (Below.refl _ _) _)).app ho hg); rw [← HT2.out] at HS2; clear HS ho hb hg hat; have HS := HS2; clear HS2))
      go_roundg (C.length - (i + 1))
      case measure => have := HK.out; have := HI.out; omega
      case rel => exact ⟨i + 1, _, rfl, by first | exact congrArg _ b5 | go_num, ⟨by have := HK.out; have := HI.out; omega⟩, HFIT, HS⟩
     case' neg =>
      have hfit : fitsB W H dx dy i = false := by unfold fitsB; rw [HXY.out.1, HXY.out.2]; exact decide_eq_false hf
      have hu := unfit_at HI.out HE.out hfit
      have h := HH2.out
      rw [if_pos hu] at h
      simp only [Prod.mk.injEq] at h
      obtain ⟨rfl, rfl, rfl, rfl, rfl⟩ := h
      have hcs : decide (cc < 0) = true ∨ (decide (cc < 0) = false ∧ decide (cc ≥ (W : Int)) = true) ∨ (decide (cc < 0) = false ∧ decide (cc ≥ (W : Int)) = false ∧ decide (ll < 0) = true) ∨ (decide (cc < 0) = false ∧ decide (cc ≥ (W : Int)) = false ∧ decide (ll < 0) = false ∧ decide (ll ≥ (H : Int)) = true) := by
       by_cases q1 : cc < 0
       ·exact .inl (decide_eq_true q1)
       by_cases q2 : cc ≥ (W : Int)
       ·exact .inr (.inl ⟨decide_eq_false q1, decide_eq_true q2⟩)
       by_cases q3 : ll < 0
       ·exact .inr (.inr (.inl ⟨decide_eq_false q1, decide_eq_false q2, decide_eq_true q3⟩))
       exact .inr (.inr (.inr ⟨decide_eq_false q1, decide_eq_false q2, decide_eq_false q3, decide_eq_true (by omega)⟩))
      clear HH2 hu hfit hf HTO HAF HE
      rcases hcs with f1 | ⟨f1, f2⟩ | ⟨f1, f2, f3⟩ | ⟨f1, f2, f3, f4⟩
      all_goals
       go_wp2_with (first
        | ((with_reducible refine gate_store (t := 24) (p := 8) rfl ?_); refine ev_store ((HS.out.m.drewN _).swap) rfl 24 (.tmp 8) (.tmp 78) rfl rfl (cs := #[.int .i64 0, .int .i64 0, .bool false, .slice none 0 0]) rfl size24 rfl rfl (by simp [Value.oneCell']) ?_; intro wy hm1 hq1; have HM9 := Aside0.mk hm1; clear hm1 hq1 HS))
       (try simp only [Exit.inBlock, Exit.then])
       exact bodyPost_ret (results_ct rfl _ _ g8 24 #[.int .i64 0, .int .i64 0, .bool false, .slice none 0 0] (0, 0) _ rfl HM9.out.head Try.underlying24 rfl (by kernel_rfl)) rfl ⟨_, rfl, Kd.R_nil _ _ _ _ _, HM9.out.below⟩
    ·have HS2 : Aside0 (ShM w wr [(g11, #[.int .i64 (W : Int), .int .i64 (H : Int), .bool R, .slice (some ⟨gO, 0, none⟩) C.length cO], 24), (g8, #[.int .i64 0, .int .i64 0, .bool false, .slice none 0 0], 24), (g4, #[.int .i64 (W : Int), .int .i64 (H : Int), .bool R, .slice (some ad) C.length c], 24)] gO C.length cO (clearTo C e (i + 1)) vT (tosTo W C e dx dy (i + 1))) := ⟨by
      rw [clearTo, if_neg he, tosTo, if_neg he]; exact HS.out⟩
     have HAF2 : Aside0 (AllFit W H C e dx dy (i + 1)) := ⟨fun j hj hej => by
      by_cases q : j = i
      ·subst q; exact absurd hej he
      ·exact HAF.out j (by omega) hej⟩
     have d1 : (fn C i != e) = true := bne_iff_ne.mpr he
     clear he HS HAF
     go_wp2_with fail
     go_roundg (C.length - (i + 1))
     case measure => have := HK.out; have := HI.out; omega
     case rel => exact ⟨i + 1, _, rfl, by first | exact congrArg _ b5 | go_num, ⟨by have := HK.out; have := HI.out; omega⟩, HAF2, HS2⟩
   ·obtain rfl : i = C.length := by have := HK.out; omega
    have b1 : decide ((C.length : Int) < (C.length : Int)) = false := by simp
    have b2 : decide (C.length < C.length) = false := by simp
    have h := HH2.out
    rw [if_neg (by rw [unfit_none HAF.out]; simp)] at h
    unfold shOut at h
    have htr := fun t ht => tos_range HAF.out t ht
    have htl : (tosTo W C e dx dy C.length).length ≤ 256 := Nat.le_trans (tosTo_length _ _ _ _ _ _) HN.out.2.1
    have hcl : (clearTo C e C.length).length = C.length := clearTo_length _ _ _
    generalize clearTo C e C.length = Cl at h hcl HS
    generalize tosTo W C e dx dy C.length = tl at h htr htl HS
    obtain ⟨At, ct, ev⟩ := Kd.R_slice HS.out.t
    subst ev
    have HH3 := Aside0.mk h
    have HTR := Aside0.mk htr
    have HTL := Aside0.mk htl
    have HCL := Aside0.mk hcl
    clear h htr htl hcl HH2 HAF hi HK
    go_wp2_with fail
    go_loopg [91] tl.length (fun k v91 w' => ∃ (j : Nat), v91 = .int .i64 (j : Int) ∧ Aside0 (j + k = tl.length) ∧ Aside0 (∀ q, q < j → fn C (fn tl q).toNat = 0 ∨ fn C (fn tl q).toNat = e) ∧ Aside0 (ShM w w' [(g11, #[.int .i64 (W : Int), .int .i64 (H : Int), .bool R, .slice (some ⟨gO, 0, none⟩) C.length cO], 24), (g8, #[.int .i64 0, .int .i64 0, .bool false, .slice none 0 0], 24), (g4, #[.int .i64 (W : Int), .int .i64 (H : Int), .bool R, .slice (some ad) C.length c], 24)] gO C.length cO (putTo tl e Cl j) (.slice At tl.length ct) tl))
    case atStart => exact ⟨0, by go_num, ⟨by omega⟩, ⟨fun q hq => absurd hq (by omega)⟩, HS⟩
    case round =>
     clear HS b1 b2 c4_0 c4_1 c4_2 c4_3 c11_3
     obtain ⟨j, rfl, HK, HNT, HS⟩ := hrel
     obtain ⟨c4_0, c4_1, c4_2, c4_3⟩ := plan_cells (HS.out.m.blk (g4, #[.int .i64 (W : Int), .int .i64 (H : Int), .bool R, .slice (some ad) C.length c], 24) (by simp))
     have c11_3 := (plan_cells (HS.out.m.blk (g11, #[.int .i64 (W : Int), .int .i64 (H : Int), .bool R, .slice (some ⟨gO, 0, none⟩) C.length cO], 24) (by simp))).2.2.2
     by_cases hj : j < tl.length
     ·have HJ := Aside0.mk hj
      have b1 : decide ((j : Int) < (tl.length : Int)) = true := by simp; omega
      have b2 : decide (j < tl.length) = true := by simp; omega
      have b3 : (0 : Int) ≤ (j : Int) := by omega
      have b4 : (j : Int) < (tl.length : Int) := by omega
      have b5 : wrap64 ((j : Int) + 1) = ((j + 1 : Nat) : Int) := by rw [IntWalk.wrap64_in _ (by have := HTL.out; omega)]; omega
      obtain ⟨t, ht, htw⟩ := HTR.out _ (fn_mem hj)
      obtain ⟨gt, hAt⟩ : ∃ gt, At = some ⟨gt, 0, none⟩ := by
       obtain ⟨gt, c', ev, -, -, -⟩ := Kd.R_form HS.out.t (by omega)
       injection ev with ev1 ev2 ev3
       exact ⟨gt, ev1⟩
      subst hAt
      have cT : wr.cell? ⟨gt, j, none⟩ = some (.int .i64 (t : Int)) := by
       have h1 := (Kd.R_celln (enc := Value.int .i64) (h1 := fun _ => rfl) (0 : Int) HS.out.t (j : Int) (by omega) (by omega)).1
       rw [Int.toNat_natCast] at h1
       rw [h1, ← ht]
       unfold fn
       simp [rdOf]
      have htc : t < C.length := by have := HN.out; omega
      have hft : (fn tl j).toNat = t := by rw [ht]; rfl
      have cC := HCW.out _ HS.out.m.below t htc
      obtain ⟨cX, fX⟩ := HS.out.cell htc
      have HPT : Aside0 (putTo tl e Cl (j + 1) = (putTo tl e Cl j).set t e) := ⟨by rw [putTo, hft]⟩
      have HFT := Aside0.mk hft
      have t1 : (0 : Int) ≤ (t : Int) := by omega
      have t2 : (t : Int) < (C.length : Int) := by omega
      have t3 : decide ((t : Int) < (C.length : Int)) = true := by simp; omega
      have t4 : decide (t < C.length) = true := by simp; omega
      generalize hx : fn C t = x at cC
      have HX := Aside0.mk hx
      clear hj ht htw htc hft hx
      by_cases hk : x ≠ 0 ∧ x ≠ e
      ·have h := HH3.out
       rw [if_pos (taken_at HJ.out (by rw [HFT.out, HX.out]; exact hk.1) (by rw [HFT.out, HX.out]; exact hk.2))] at h
       simp only [Prod.mk.injEq] at h
       obtain ⟨rfl, rfl, rfl, rfl, rfl⟩ := h
       have n1 : (x != 0) = true := bne_iff_ne.mpr hk.1
       have n2 : (x != e) = true := bne_iff_ne.mpr hk.2
       clear hk HH3 HTR HNT HPT cX fX
       go_wp2_with (first
        | ((with_reducible refine gate_store (t := 24) (p := 8) rfl ?_); refine ev_store (HS.out.m.swap) rfl 24 (.tmp 8) (.tmp 110) rfl rfl (cs := #[.int .i64 0, .int .i64 0, .bool false, .slice none 0 0]) rfl size24 rfl rfl (by simp [Value.oneCell']) ?_; intro wy hm1 hq1; have HM9 := Aside0.mk hm1; clear hm1 hq1 HS))
       (try simp only [Exit.inBlock, Exit.then])
       exact bodyPost_ret (results_ct rfl _ _ g8 24 #[.int .i64 0, .int .i64 0, .bool false, .slice none 0 0] (0, 0) _ rfl HM9.out.head Try.underlying24 rfl (by kernel_rfl)) rfl ⟨_, rfl, Kd.R_nil _ _ _ _ _, HM9.out.below⟩
      ·have HNT2 : Aside0 (∀ q, q < j + 1 → fn C (fn tl q).toNat = 0 ∨ fn C (fn tl q).toNat = e) := ⟨fun q hq => by
        by_cases z : q = j
        ·subst z
         rw [HFT.out, HX.out]
         by_cases z1 : x = 0
         ·exact .inl z1
         ·exact .inr (Classical.byContradiction fun z2 => hk ⟨z1, z2⟩)
        ·exact HNT.out q (by omega)⟩
       have n12 : (x != 0) = false ∨ ((x != 0) = true ∧ (x != e) = false) := by
        by_cases z1 : x = 0
        ·exact .inl (bne_eq_false_iff_eq.mpr z1)
        ·exact .inr ⟨bne_iff_ne.mpr z1, bne_eq_false_iff_eq.mpr (Classical.byContradiction fun z2 => hk ⟨z1, z2⟩)⟩
       have HS2 := Aside0.mk (HS.out.put t e)
       rw [← HPT.out] at HS2
       clear hk HNT HPT HTR
       rcases n12 with n1 | ⟨n1, n2⟩
       all_goals
        go_wp2_with fail
        go_roundg (tl.length - (j + 1))
        case measure => have := HK.out; have := HJ.out; omega
        case rel => exact ⟨j + 1, by first | exact congrArg _ b5 | go_num, ⟨by have := HK.out; have := HJ.out; omega⟩, HNT2, HS2⟩
     ·obtain rfl : j = tl.length := by have := HK.out; omega
      have b1 : decide ((tl.length : Int) < (tl.length : Int)) = false := by simp
      have b2 : decide (tl.length < tl.length) = false := by simp
      have h := HH3.out
      rw [if_neg (by rw [taken_none HNT.out]; simp)] at h
      have hol : (putTo tl e Cl tl.length).length = C.length := by rw [putTo_length]; exact HCL.out
      generalize putTo tl e Cl tl.length = out at h hol HS
      have HH4 := Aside0.mk h
      have HOL := Aside0.mk hol
      have HRO := Aside0.mk (Kd.R_reads' HS.out.o)
      clear h hol HH3 HNT HTR hj c4_0 c4_1 c4_2 c4_3 c11_3
      obtain ⟨ce, hce⟩ : ∃ z, checkErr W H R out = z := ⟨_, rfl⟩
      have HCE := Aside0.mk hce
      clear hce
      go_upto_region 26 with (first
       | ((with_reducible refine gate_dst (N := 117) rfl ?_); refine ev_load HS.out.m.head rfl 24 (.tmp 11) rfl rfl _ Try.underlying24 rfl size24 rfl ?_)
       | (go_at_call 39; refine (check_at W H R (some ⟨gO, 0, none⟩) cO C.length out ce _ HOL.out HRO.out.2.2 HRO.out.2.1 HCE.out).mono ?_; rintro e1 wv ⟨rfl, hb⟩; have HS2 := Aside0.mk (HS.out.step hb); clear hb HS; have HS := HS2; clear HS2))
      have h := HH4.out
      rw [HCE.out] at h
      clear HH4
      by_cases g0 : ce = 0
      ·rw [if_neg (show ¬ ce ≠ 0 from fun f => f g0)] at h
       simp only [Prod.mk.injEq] at h
       obtain ⟨rfl, rfl, rfl, rfl, rfl⟩ := h
       subst g0
       have g2 : ((0 : Int) != 0) = false := rfl
       obtain ⟨cur, hme⟩ := HS.out.memo (by rw [HOL.out]; exact HN.out.2.2.1)
       have HM8 := Aside0.mk hme
       clear hme
       go_wp2_with (first
        | ((with_reducible refine gate_dst (N := 123) rfl ?_); refine ev_load HS.out.m.head rfl 24 (.tmp 11) rfl rfl _ Try.underlying24 rfl size24 rfl ?_)
        | ((with_reducible refine gate_store (t := 24) (p := 8) rfl ?_); refine ev_store HM8.out.third3 rfl 24 (.tmp 8) (.tmp 123) rfl rfl (cs := #[.int .i64 (W : Int), .int .i64 (H : Int), .bool R, .slice (some ⟨gO, 0, none⟩) C.length cO]) rfl size24 rfl rfl (by simp [Value.oneCell']) ?_; intro wy hm1 hq1; have HM9 := Aside0.mk hm1; have HRF := Aside0.mk (R_same HS.out.o (hm1.second.trans HM8.out.head.symm)); clear hm1 hq1 HS HM8))
       (try simp only [Exit.inBlock, Exit.then])
       exact bodyPost_ret (results_ct rfl _ _ g8 24 #[.int .i64 (W : Int), .int .i64 (H : Int), .bool R, .slice (some ⟨gO, 0, none⟩) C.length cO] (0, 0) _ rfl HM9.out.head Try.underlying24 rfl (by kernel_rfl)) rfl ⟨_, rfl, HRF.out, HM9.out.below⟩
      ·rw [if_pos g0] at h
       simp only [Prod.mk.injEq] at h
       obtain ⟨rfl, rfl, rfl, rfl, rfl⟩ := h
       have g2 : (ce != 0) = true := bne_iff_ne.mpr g0
       clear g0
       go_wp2_with (first
        | ((with_reducible refine gate_store (t := 24) (p := 8) rfl ?_); refine ev_store (HS.out.m.swap) rfl 24 (.tmp 8) (.tmp 121) rfl rfl (cs := #[.int .i64 0, .int .i64 0, .bool false, .slice none 0 0]) rfl size24 rfl rfl (by simp [Value.oneCell']) ?_; intro wy hm1 hq1; have HM9 := Aside0.mk hm1; clear hm1 hq1 HS))
       (try simp only [Exit.inBlock, Exit.then])
       exact bodyPost_ret (results_ct rfl _ _ g8 24 #[.int .i64 0, .int .i64 0, .bool false, .slice none 0 0] (0, 0) _ rfl HM9.out.head Try.underlying24 rfl (by kernel_rfl)) rfl ⟨_, rfl, Kd.R_nil _ _ _ _ _, HM9.out.below⟩
end Go.Proofs.Ytndkkjpgnmahbaa.Print
end

section
namespace Go.Proofs.Ytndkkjpgnmahbaa.Print
open Go.RowKit Go.Proofs.YtndkkjpgnmahbaaW.PrintWords Go.Proofs.YtndkkjpgnmahbaaW.PrintLast Go.Proofs.YtndkkjpgnmahbaaW.PrintMore Go.Proofs.Field
set_option linter.unusedVariables false
set_option linter.unusedSimpArgs false
open Classical in
noncomputable def ampE (W H : Int) (R : Bool) (C : List Int) (n k g a : Int) : Int × Int × Int := if h : ∃ r, Ev (fun f => field_Amplification.f f W H R C n k g a) r then Classical.choose h else (0, 0, 0)
theorem ampE_ev (W H : Int) (R : Bool) (C : List Int) (n k g a : Int) (hC : C.length ≤ 1000) : Ev (fun f => field_Amplification.f f W H R C n k g a) (ampE W H R C n k g a) := by
 obtain ⟨x1, x2, x3, h, _⟩ := amp_both W H R C n k g a hC
 have hE : ∃ r, Ev (fun f => field_Amplification.f f W H R C n k g a) r := ⟨_, h⟩
 unfold ampE
 rw [dif_pos hE]
 exact Classical.choose_spec hE
def ways : List (Int × Int) := [(1, 0), (-1, 0), (0, 1), (0, -1)]
noncomputable def playStep (W H : Int) (R : Bool) (C : List Int) (n k g a : Int) (r : Int × Int × Int) (acc : Int) (d : Int × Int) : Int :=
 if (shiftE W H R C g d.1 d.2).2.2.2.2 ≠ 0 then acc else
 if (ampE (shiftE W H R C g d.1 d.2).1 (shiftE W H R C g d.1 d.2).2.1 (shiftE W H R C g d.1 d.2).2.2.1 (shiftE W H R C g d.1 d.2).2.2.2.1 n k g a).2.2 = 0 then
  mx (mx acc (wrap64 ((ampE (shiftE W H R C g d.1 d.2).1 (shiftE W H R C g d.1 d.2).2.1 (shiftE W H R C g d.1 d.2).2.2.1 (shiftE W H R C g d.1 d.2).2.2.2.1 n k g a).2.1 - r.1)))
   (wrap64 (r.2.1 - (ampE (shiftE W H R C g d.1 d.2).1 (shiftE W H R C g d.1 d.2).2.1 (shiftE W H R C g d.1 d.2).2.2.1 (shiftE W H R C g d.1 d.2).2.2.2.1 n k g a).1)) else acc
noncomputable def playE (W H : Int) (R : Bool) (C : List Int) (n k g a : Int) : Int × Int :=
 if (ampE W H R C n k g a).2.2 ≠ 0 then (0, (ampE W H R C n k g a).2.2) else (ways.foldl (playStep W H R C n k g a (ampE W H R C n k g a)) 0, 0)
theorem step_skip {W H : Int} {R : Bool} {C : List Int} {n k g a : Int} {r : Int × Int × Int} {acc : Int} {d : Int × Int} {q1 q2 : Int} {q3 : Bool} {q4 : List Int} {q5 : Int} (h : shiftE W H R C g d.1 d.2 = (q1, q2, q3, q4, q5)) (hq : q5 ≠ 0) : playStep W H R C n k g a r acc d = acc := by
 unfold playStep
 rw [h, if_pos hq]
theorem step_take {W H : Int} {R : Bool} {C : List Int} {n k g a : Int} {r : Int × Int × Int} {acc : Int} {d : Int × Int} {q1 q2 : Int} {q3 : Bool} {q4 : List Int} {s1 s2 s3 : Int} (h : shiftE W H R C g d.1 d.2 = (q1, q2, q3, q4, 0)) (hs : ampE q1 q2 q3 q4 n k g a = (s1, s2, s3)) :
  playStep W H R C n k g a r acc d = if s3 = 0 then mx (mx acc (wrap64 (s2 - r.1))) (wrap64 (r.2.1 - s1)) else acc := by
 unfold playStep
 rw [h, if_neg (by simp), hs]
theorem shiftE_len {W H : Int} {R : Bool} {C : List Int} {e dx dy q1 q2 : Int} {q3 : Bool} {q4 : List Int} {q5 : Int} (h : shiftE W H R C e dx dy = (q1, q2, q3, q4, q5)) : q4.length ≤ C.length := by
 unfold shiftE at h
 repeat' split at h
 all_goals
  simp only [Prod.mk.injEq] at h
  rw [← h.2.2.2.1]
  try simp
 rw [shOut, putTo_length, clearTo_length]
 exact Nat.le_refl _
theorem info42_ : (Try.prog.info? 42).map (fun i => (i.zero, i.size, i.bytes)) = some (some (.agg #[(.int .i64 0), (.int .i64 0)]), 2, 16) := by kernel_rfl
theorem size42_ : (Try.prog.info? 42).map (·.size) = some 2 := by kernel_rfl
theorem info108_ : (Try.prog.info? 108).map (fun i => (i.zero, i.size, i.bytes)) = some (some (.agg #[(.int .i64 0), (.int .i64 0)]), 2, 16) := by kernel_rfl
theorem size108_ : (Try.prog.info? 108).map (·.size) = some 2 := by kernel_rfl
theorem way_at (i : Nat) (hi : i < 4) (w : World) : (Instr.index 109 (.agg #[.int .i64 1, .int .i64 0, .int .i64 (-1), .int .i64 0, .int .i64 0, .int .i64 1, .int .i64 0, .int .i64 (-1)]) (.int .i64 (i : Int))).run Try.prog w = .ok (.agg #[.int .i64 (ways.getD i (0, 0)).1, .int .i64 (ways.getD i (0, 0)).2]) w := by
 have hu := Try.underlying109
 have hu8 := Try.underlying108
 have hagg : (isAgg 108).run Try.prog w = .ok true w := by
  unfold isAgg
  rw [Sem.run_bind, run_underlying hu8 w]
  rfl
 cases hq : Try.prog.info? 108 with
 | none =>
  have h := size108_
  rw [hq] at h
  simp at h
 | some ie =>
  have hs : ie.size = 2 := by
   have h := size108_
   rw [hq] at h
   simpa using h
  rcases (show i = 0 ∨ i = 1 ∨ i = 2 ∨ i = 3 by omega) with rfl | rfl | rfl | rfl <;> simp [Instr.index, asIntOf, Sem.run_bind, run_underlying hu w, sizeOf, typeInfo, hq, hs, part, hagg, ways]
end Go.Proofs.Ytndkkjpgnmahbaa.Print
end

section
namespace Go.Proofs.Ytndkkjpgnmahbaa.Print
open Go.RowKit Go.Proofs.YtndkkjpgnmahbaaW.PrintWords Go.Proofs.YtndkkjpgnmahbaaW.PrintLast Go.Proofs.YtndkkjpgnmahbaaW.PrintMore Go.Proofs.Ytndkkjpgnmahbaa.H Go.Proofs.Field
attribute [local go_sem] max2_int min2_int max_two min_two max_three min_three max_four min_four
set_option linter.unusedVariables false
set_option linter.unusedSimpArgs false
set_option maxHeartbeats 16000000 in
set_option maxRecDepth 100000 in
theorem field_Play.calls (W H : Int) (R : Bool) (A : Option Addr) (c : Nat) (C : List Int) (n k0 g0 a0 r1 r2 : Int) (w : World) (hr : Kd.C (Kd.int .i64) w A C.length C) (hc : C.length ≤ c) (hl : C.length ≤ 1000) (h : playE W H R C n k0 g0 a0 = (r1, r2)) :
  Calls Try.prog 61 #[.agg (planV W H R A C.length c), .int .i64 n, .int .i64 k0, .int .i64 g0, .int .i64 a0] w fun e w' => e = .returned (.tuple #[.int .i64 r1, .int .i64 r2]) ∧ Below w.heap.size w w' := by
 unfold playE at h
 have HAE : Aside0 (∀ q1 q2 q3 (q4 : List Int), q4.length ≤ C.length → Ev (fun f => field_Amplification.f f q1 q2 q3 q4 n k0 g0 a0) (ampE q1 q2 q3 q4 n k0 g0 a0)) := ⟨fun q1 q2 q3 q4 hq => ampE_ev q1 q2 q3 q4 n k0 g0 a0 (by omega)⟩
 obtain ⟨K, hK⟩ := HAE.out W H R C (Nat.le_refl _)
 have hK1 := hK K (Nat.le_refl _)
 generalize hx : ampE W H R C n k0 g0 a0 = x at h hK1
 obtain ⟨x1, x2, x3⟩ := x
 have HX := Aside0.mk hK1
 have HM := Aside0.mk (Mem.start w)
 have HR := Aside0.mk hr
 have HC := Aside0.mk hc
 have HL := Aside0.mk hl
 have HH := Aside0.mk h
 have hu24 := Try.underlying24
 have hu42 := Try.underlying42
 have hu108 := Try.underlying108
 have hu109 := Try.underlying109
 clear hr hc hl h hK hK1 hx
 go_enter Try.func61, Try.ntmps61
 go_upto_region 2 with (first
  | ((with_reducible refine gate_dst (N := 5) rfl ?_); refine ev_box HM.out rfl 24 (.tmp 0) rfl (cs := #[.int .i64 W, .int .i64 H, .bool R, .slice A C.length c]) rfl ?_; intro g5 w1 hm1 hq1; have HM1 := Aside0.mk hm1; clear hm1 hq1 HM)
  | ((with_reducible refine gate_dst (N := 22) rfl ?_); refine ev_load (HM1.out.head) rfl 24 (.tmp 5) rfl rfl _ Try.underlying24 rfl size24 rfl ?_)
  | (go_at_call 56; (with_reducible refine (field_Amplification.calls K W H R A c C n k0 g0 a0 x1 x2 x3 _ (Kd.C_below HR.out HM1.out.below) HC.out HX.out).mono ?_); rintro e2 w2 ⟨rfl, hb⟩; have HM2 := Aside0.mk (HM1.out.step hb); clear hb HM1 )
  | ((with_reducible refine gate_dst (N := 12) rfl ?_); refine ev_new HM2.out rfl 42 rfl info42_ ?_; intro g12 w3 hm1 hq1; have HM3 := Aside0.mk hm1; clear hm1 hq1 HM2)
  | ((with_reducible refine gate_store (t := 42) (p := 12) rfl ?_); refine ev_store HM3.out rfl 42 (.tmp 12) (.tmp 28) rfl rfl (cs := #[.int .i64 x1, .int .i64 x2]) rfl size42_ rfl rfl (by simp [Value.oneCell']) ?_; intro w4 hm1 hq1; have HM4 := Aside0.mk hm1; clear hm1 hq1 HM3))
 have h := HH.out
 clear HH
 by_cases g1 : x3 = 0
 rotate_left
 ·rw [if_pos g1] at h
  simp only [Prod.mk.injEq] at h
  obtain ⟨rfl, rfl⟩ := h
  have g2 : (x3 != 0) = true := bne_iff_ne.mpr g1
  go_wp2
  go_ret2
  exact ⟨rfl, HM4.out.below⟩
 ·rw [if_neg (show ¬ x3 ≠ 0 from fun f => f g1)] at h
  simp only [Prod.mk.injEq] at h
  obtain ⟨e1, rfl⟩ := h
  subst g1
  have HE := Aside0.mk e1
  have g2 : ((0 : Int) != 0) = false := rfl
  clear e1
  go_wp2_with fail
  go_loopg [14, 38] 4 (fun k v14 v38 w' => ∃ (i : Nat) (acc : Int), v14 = .int .i64 acc ∧ v38 = .int .i64 (i : Int) ∧ Aside0 (i + k = 4) ∧ Aside0 (acc = (ways.take i).foldl (playStep W H R C n k0 g0 a0 (x1, x2, 0)) 0) ∧ Aside0 (Mem w w' [(g12, #[.int .i64 x1, .int .i64 x2], 42), (g5, #[.int .i64 W, .int .i64 H, .bool R, .slice A C.length c], 24)]))
  case atStart => exact ⟨0, 0, rfl, by go_num, ⟨by omega⟩, ⟨rfl⟩, HM4⟩
  case round =>
   clear HM4
   obtain ⟨i, acc, rfl, rfl, HK, HAC, HM⟩ := hrel
   by_cases hi : i < 4
   ·have HI := Aside0.mk hi
    have b1 : decide ((i : Int) < 4) = true := by simp; omega
    have b2 : decide (i < 4) = true := by simp; omega
    have b3 : (0 : Int) ≤ (i : Int) := by omega
    have b4 : (i : Int) < 4 := by omega
    have b5 : wrap64 ((i : Int) + 1) = ((i + 1 : Nat) : Int) := by rw [IntWalk.wrap64_in _ (by omega)]; omega
    have hway := fun V => way_at i hi V
    have HAC2 : Aside0 ((ways.take (i + 1)).foldl (playStep W H R C n k0 g0 a0 (x1, x2, 0)) 0 = playStep W H R C n k0 g0 a0 (x1, x2, 0) acc (ways.getD i (0, 0))) := ⟨by
     have h4 : i < ways.length := hi
     rw [List.take_succ_eq_append_getElem h4, List.foldl_append, ← HAC.out, List.getD_eq_getElem?_getD, List.getElem?_eq_getElem h4]
     rfl⟩
    generalize ways.getD i (0, 0) = d at hway HAC2
    obtain ⟨dx, dy⟩ := d
    dsimp only at hway
    generalize hq : shiftE W H R C g0 dx dy = q
    obtain ⟨q1, q2, q3, q4, q5⟩ := q
    have HQ := Aside0.mk hq
    have HQL := Aside0.mk (shiftE_len hq)
    obtain ⟨Ks, hKs⟩ := HAE.out q1 q2 q3 q4 HQL.out
    have hKs1 := hKs Ks (Nat.le_refl _)
    generalize hs : ampE q1 q2 q3 q4 n k0 g0 a0 = s at hKs1
    obtain ⟨s1, s2, s3⟩ := s
    have HSA := Aside0.mk hKs1
    have HSE := Aside0.mk hs
    clear hq hKs hKs1 hs hi HAC
    go_upto_region 8 with (first
     | ((with_reducible refine gate_dst (N := 16) rfl ?_); refine ev_new HM.out rfl 108 rfl info108_ ?_; intro g16 w21 hm1 hq1; have HM21 := Aside0.mk hm1; clear hm1 hq1 HM)
     | ((with_reducible refine gate_store (t := 108) (p := 16) rfl ?_); refine ev_store HM21.out rfl 108 (.tmp 16) (.tmp 40) rfl rfl (cs := #[.int .i64 dx, .int .i64 dy]) rfl size108_ rfl rfl (by simp [Value.oneCell']) ?_; intro w22 hm1 hq1; have HM22 := Aside0.mk hm1; clear hm1 hq1 HM21; obtain ⟨c16_0, c16_1⟩ := pair_cells HM22.out.head rfl rfl))
    clear hway
    go_upto_region 9 with (first
     | ((with_reducible refine gate_dst (N := 42) rfl ?_); refine ev_load (HM22.out.third) rfl 24 (.tmp 5) rfl rfl _ Try.underlying24 rfl size24 rfl ?_)
     | (go_at_call 58; (with_reducible refine (field_Shift.calls W H R A c C g0 dx dy q1 q2 q3 q4 q5 _ (Kd.C_below HR.out HM22.out.below) HC.out HL.out HQ.out).mono ?_); rintro e23 w23 ⟨vq, rfl, hR, hb⟩; obtain ⟨Aq, cq, eq⟩ := Kd.R_slice hR; subst eq; have hr1 := Kd.R_reads' hR; have HRQ := Aside0.mk (And.intro hr1.2.2 hr1.2.1); have HM23 := Aside0.mk (HM22.out.step hb); clear hb hR hr1 HM22 )
     | ((with_reducible refine gate_dst (N := 17) rfl ?_); refine ev_new (Mem.start w23) rfl 24 rfl info24 ?_; intro g17 w24 hm1 hq1; have HX := Aside0.mk hm1; clear hm1 hq1)
     | ((with_reducible refine gate_store (t := 24) (p := 17) rfl ?_); refine ev_store HX.out rfl 24 (.tmp 17) (.tmp 49) rfl rfl (cs := #[.int .i64 q1, .int .i64 q2, .bool q3, .slice Aq q4.length cq]) rfl size24 rfl rfl (by simp [Value.oneCell']) ?_; intro w25 hm1 hq1; have HM25 := Aside0.mk (mem_join HM23.out hm1); have HRQ2 := Aside0.mk (And.intro (Kd.C_below HRQ.out.1 hm1.below) HRQ.out.2); clear hm1 hq1 HX HRQ HM23))
    by_cases g3 : q5 = 0
    rotate_left
    ·have g4 : (q5 != 0) = true := bne_iff_ne.mpr g3
     have HAC3 : Aside0 (acc = (ways.take (i + 1)).foldl (playStep W H R C n k0 g0 a0 (x1, x2, 0)) 0) := ⟨by rw [HAC2.out, step_skip (d := (dx, dy)) HQ.out g3]⟩
     clear g3 c16_0 c16_1
     go_wp2_with fail
     go_roundg (4 - (i + 1))
     case measure => have := HK.out; have := HI.out; omega
     case rel => exact ⟨i + 1, acc, rfl, by first | exact congrArg _ b5 | go_num, ⟨by have := HK.out; have := HI.out; omega⟩, HAC3, ⟨HM25.out.drop.drop⟩⟩
    ·subst g3
     have g4 : ((0 : Int) != 0) = false := rfl
     have HST := Aside0.mk (step_take (d := (dx, dy)) (acc := acc) (r := (x1, x2, 0)) HQ.out HSE.out)
     clear c16_0 c16_1
     go_upto_region 11 with (first
      | ((with_reducible refine gate_dst (N := 54) rfl ?_); refine ev_load (HM25.out.head) rfl 24 (.tmp 17) rfl rfl _ Try.underlying24 rfl size24 rfl ?_)
      | (go_at_call 56; (with_reducible refine (field_Amplification.calls Ks q1 q2 q3 Aq cq q4 n k0 g0 a0 s1 s2 s3 _ HRQ2.out.1 HRQ2.out.2 HSA.out).mono ?_); rintro e26 w26 ⟨rfl, hb⟩; have HM26 := Aside0.mk (HM25.out.step hb); clear hb HM25 HRQ2)
      | ((with_reducible refine gate_dst (N := 19) rfl ?_); refine ev_new HM26.out rfl 42 rfl info42_ ?_; intro g19 w27 hm1 hq1; have HM27 := Aside0.mk hm1; clear hm1 hq1 HM26)
      | ((with_reducible refine gate_store (t := 42) (p := 19) rfl ?_); refine ev_store HM27.out rfl 42 (.tmp 19) (.tmp 60) rfl rfl (cs := #[.int .i64 s1, .int .i64 s2]) rfl size42_ rfl rfl (by simp [Value.oneCell']) ?_; intro w28 hm1 hq1; have HM28 := Aside0.mk hm1; clear hm1 hq1 HM27))
     by_cases g5 : s3 = 0
     ·subst g5
      have g6 : ((0 : Int) == 0) = true := rfl
      have HAC3 : Aside0 (mx (mx acc (wrap64 (s2 - x1))) (wrap64 (x2 - s1)) = (ways.take (i + 1)).foldl (playStep W H R C n k0 g0 a0 (x1, x2, 0)) 0) := ⟨by rw [HAC2.out, HST.out, if_pos rfl]⟩
      obtain ⟨c19_0, c19_1⟩ := pair_cells HM28.out.head rfl rfl
      obtain ⟨c12_0, c12_1⟩ := pair_cells HM28.out.blk4 rfl rfl
      obtain ⟨y1, hy1⟩ : ∃ y, IntKind.i64.wrap (s2 - x1) = y := ⟨_, rfl⟩
      obtain ⟨y2, hy2⟩ : ∃ y, IntKind.i64.wrap (x2 - s1) = y := ⟨_, rfl⟩
      obtain ⟨z1, hz1⟩ : ∃ z, (if acc < y1 then y1 else acc) = z := ⟨_, rfl⟩
      obtain ⟨z2, hz2⟩ : ∃ z, (if z1 < y2 then y2 else z1) = z := ⟨_, rfl⟩
      have HAC4 : Aside0 (z2 = (ways.take (i + 1)).foldl (playStep W H R C n k0 g0 a0 (x1, x2, 0)) 0) := ⟨by
       rw [← HAC3.out, ← hz2, ← hz1, ← hy1, ← hy2, i64_w, i64_w]
       rfl⟩
      clear HAC3 HST HAC2
      go_wp2_with fail
      go_roundg (4 - (i + 1))
      case measure => have := HK.out; have := HI.out; omega
      case rel => exact ⟨i + 1, z2, rfl, by first | exact congrArg _ b5 | go_num, ⟨by have := HK.out; have := HI.out; omega⟩, HAC4, ⟨HM28.out.drop.drop.drop⟩⟩
     ·have g6 : (s3 == 0) = false := beq_eq_false_iff_ne.mpr g5
      have HAC3 : Aside0 (acc = (ways.take (i + 1)).foldl (playStep W H R C n k0 g0 a0 (x1, x2, 0)) 0) := ⟨by rw [HAC2.out, HST.out, if_neg g5]⟩
      clear g5
      go_wp2_with fail
      go_roundg (4 - (i + 1))
      case measure => have := HK.out; have := HI.out; omega
      case rel => exact ⟨i + 1, acc, rfl, by first | exact congrArg _ b5 | go_num, ⟨by have := HK.out; have := HI.out; omega⟩, HAC3, ⟨HM28.out.drop.drop.drop⟩⟩
   ·obtain rfl : i = 4 := by have := HK.out; omega
    have b1 : decide (((4 : Nat) : Int) < 4) = false := by simp
    obtain rfl : acc = r1 := by rw [HAC.out, ← HE.out]; rfl
    go_wp2
    go_ret2
    exact ⟨rfl, HM.out.below⟩
end Go.Proofs.Ytndkkjpgnmahbaa.Print
end

section
namespace Go.Proofs.Ytndkkjpgnmahbaa.Print
open Go.Proofs.Field
set_option linter.unusedVariables false
theorem list_ext {a b : List Int} (hl : a.length = b.length) (h : ∀ j, j < a.length → fn a j = fn b j) : a = b := by
 apply List.ext_getElem hl
 intro i h1 h2
 have := h i h1
 unfold fn at this
 rw [List.getD_eq_getElem?_getD, List.getD_eq_getElem?_getD, List.getElem?_eq_getElem h1, List.getElem?_eq_getElem h2] at this
 exact this
end Go.Proofs.Ytndkkjpgnmahbaa.Print
end

section
namespace Go.Proofs.Field
open Go.RowKit Go.Proofs.YtndkkjpgnmahbaaW.PrintWords Go.Proofs.YtndkkjpgnmahbaaW.PrintLast Go.Proofs.YtndkkjpgnmahbaaW.PrintMore Go.Proofs.Ytndkkjpgnmahbaa.Print
set_option linter.unusedVariables false
set_option linter.unusedSimpArgs false
theorem fn_clear (C : List Int) (e : Int) (j : Nat) : ∀ n, n ≤ C.length → fn (clearTo C e n) j = if j < n ∧ fn C j = e then 0 else fn C j
 | 0, _ => by rw [clearTo, if_neg (by omega)]
 | n + 1, h => by
  have ih := fn_clear C e j n (by omega)
  rw [clearTo]
  by_cases q : fn C n = e
  ·rw [if_pos q, fn_set (by rw [clearTo_length]; omega), ih]
   by_cases p : j = n
   ·subst p; rw [if_pos rfl, if_pos ⟨by omega, q⟩]
   ·rw [if_neg p]
    by_cases r : j < n ∧ fn C j = e
    ·rw [if_pos r, if_pos ⟨by omega, r.2⟩]
    ·rw [if_neg r, if_neg (fun x => r ⟨by omega, x.2⟩)]
  ·rw [if_neg q, ih]
   by_cases r : j < n ∧ fn C j = e
   ·rw [if_pos r, if_pos ⟨by omega, r.2⟩]
   ·rw [if_neg r, if_neg (fun x => r ⟨by
     by_cases p : j = n
     ·subst p; exact absurd x.2 q
     ·omega, x.2⟩)]
open Classical in
theorem fn_put (l : List Int) (e : Int) (out : List Int) (j : Nat) : ∀ n, n ≤ l.length → (∀ q, q < n → (fn l q).toNat < out.length) → fn (putTo l e out n) j = if ∃ q, q < n ∧ (fn l q).toNat = j then e else fn out j
 | 0, _, _ => by rw [putTo, if_neg (by rintro ⟨q, h, _⟩; omega)]
 | n + 1, h, hr => by
  have ih := fn_put l e out j n (by omega) (fun q hq => hr q (by omega))
  rw [putTo, fn_set (by rw [putTo_length]; exact hr n (by omega)), ih]
  by_cases p : j = (fn l n).toNat
  ·rw [if_pos p, if_pos ⟨n, by omega, p.symm⟩]
  ·rw [if_neg p]
   by_cases r : ∃ q, q < n ∧ (fn l q).toNat = j
   ·obtain ⟨q, h1, h2⟩ := r
    rw [if_pos ⟨q, h1, h2⟩, if_pos ⟨q, by omega, h2⟩]
   ·rw [if_neg r, if_neg]
    rintro ⟨q, h1, h2⟩
    by_cases s : q = n
    ·subst s; exact p h2.symm
    ·exact r ⟨q, by omega, h2⟩
theorem mem_tos {W : Nat} {C : List Int} {e dx dy : Int} (t : Int) : ∀ n, t ∈ tosTo W C e dx dy n ↔ ∃ i, i < n ∧ fn C i = e ∧ t = ((tgt W dx dy i : Nat) : Int)
 | 0 => by simp [tosTo]
 | n + 1 => by
  rw [tosTo]
  by_cases q : fn C n = e
  ·rw [if_pos q, List.mem_append, mem_tos t n, List.mem_singleton]
   constructor
   ·rintro (⟨i, h1, h2, h3⟩ | h)
    ·exact ⟨i, by omega, h2, h3⟩
    ·exact ⟨n, by omega, q, h⟩
   ·rintro ⟨i, h1, h2, h3⟩
    by_cases s : i = n
    ·subst s; exact .inr h3
    ·exact .inl ⟨i, by omega, h2, h3⟩
  ·rw [if_neg q, mem_tos t n]
   constructor
   ·rintro ⟨i, h1, h2, h3⟩; exact ⟨i, by omega, h2, h3⟩
   ·rintro ⟨i, h1, h2, h3⟩
    by_cases s : i = n
    ·subst s; exact absurd h2 q
    ·exact ⟨i, by omega, h2, h3⟩
theorem shOut_length (W : Nat) (C : List Int) (e dx dy : Int) : (shOut W C e dx dy).length = C.length := by rw [shOut, putTo_length, clearTo_length]
open Classical in
theorem fn_shOut {W H : Nat} {C : List Int} {e dx dy : Int} (hl : C.length = W * H) (hf : AllFit W H C e dx dy C.length) {j : Nat} (hj : j < C.length) :
  fn (shOut W C e dx dy) j = if ∃ i, i < C.length ∧ fn C i = e ∧ tgt W dx dy i = j then e else if fn C j = e then 0 else fn C j := by
 have hr : ∀ q, q < (tosTo W C e dx dy C.length).length → (fn (tosTo W C e dx dy C.length) q).toNat < (clearTo C e C.length).length := fun q hq => by
  obtain ⟨k, h1, h2⟩ := tos_range hf _ (fn_mem hq)
  rw [h1, clearTo_length, hl]
  exact h2
 rw [shOut, fn_put _ _ _ j _ (Nat.le_refl _) hr, fn_clear C e j _ (Nat.le_refl _)]
 by_cases q : ∃ i, i < C.length ∧ fn C i = e ∧ tgt W dx dy i = j
 ·rw [if_pos q, if_pos]
  obtain ⟨i, h1, h2, h3⟩ := q
  obtain ⟨p, hp, e1⟩ := mem_fn ((mem_tos ((tgt W dx dy i : Nat) : Int) C.length).2 ⟨i, h1, h2, rfl⟩)
  exact ⟨p, hp, by rw [e1, Int.toNat_natCast]; exact h3⟩
 ·rw [if_neg q, if_neg]
  ·by_cases r : fn C j = e
   ·rw [if_pos ⟨hj, r⟩, if_pos r]
   ·rw [if_neg (fun x => r x.2), if_neg r]
  ·rintro ⟨p, hp, e1⟩
   obtain ⟨i, h1, h2, h3⟩ := (mem_tos _ C.length).1 (fn_mem hp)
   rw [h3, Int.toNat_natCast] at e1
   exact q ⟨i, h1, h2, e1⟩
theorem tgt_back {W H : Nat} {dx dy : Int} {i : Nat} (hW : 1 ≤ W) (hW2 : W ≤ 16) (hH : H ≤ 16) (hx : -2 ≤ dx ∧ dx ≤ 2) (hy : -2 ≤ dy ∧ dy ≤ 2) (hi : i < W * H) (h : fitsB W H dx dy i = true) :
  fitsB W H (-dx) (-dy) (tgt W dx dy i) = true ∧ tgt W (-dx) (-dy) (tgt W dx dy i) = i := by
 have hiW : i % W < W := Nat.mod_lt _ (by omega)
 have hiH : i / W < H := Nat.div_lt_of_lt_mul hi
 have hdm := Nat.div_add_mod i W
 unfold fitsB at h
 have h := of_decide_eq_true h
 obtain ⟨x, ex⟩ : ∃ x, i % W = x := ⟨_, rfl⟩
 obtain ⟨y, ey⟩ : ∃ y, i / W = y := ⟨_, rfl⟩
 rw [ex, ey] at hdm
 rw [ex] at hiW
 rw [ey] at hiH
 have e1 : colOf W dx i = (x : Int) + dx := by unfold colOf; rw [ex, IntWalk.wrap64_in _ (by omega)]
 have e2 : linOf W dy i = (y : Int) + dy := by unfold linOf; rw [ey, IntWalk.wrap64_in _ (by omega)]
 rw [e1, e2] at h
 obtain ⟨c, hc⟩ : ∃ c : Nat, (x : Int) + dx = c := ⟨((x : Int) + dx).toNat, by omega⟩
 obtain ⟨l, hl⟩ : ∃ l : Nat, (y : Int) + dy = l := ⟨((y : Int) + dy).toNat, by omega⟩
 have et : tgt W dx dy i = l * W + c := by unfold tgt; rw [e1, e2, hc, hl]; rfl
 rw [hc, hl] at h
 have hcW : c < W := by omega
 have m1 : (l * W + c) % W = c := by rw [Nat.mul_comm, Nat.mul_add_mod, Nat.mod_eq_of_lt hcW]
 have m2 : (l * W + c) / W = l := by rw [Nat.mul_comm, Nat.mul_add_div (by omega), Nat.div_eq_of_lt hcW, Nat.add_zero]
 have f1 : colOf W (-dx) (tgt W dx dy i) = (x : Int) := by
  unfold colOf
  rw [et, m1, show (c : Int) + -dx = (x : Int) by omega, IntWalk.wrap64_in _ (by omega)]
 have f2 : linOf W (-dy) (tgt W dx dy i) = (y : Int) := by
  unfold linOf
  rw [et, m2, show (l : Int) + -dy = (y : Int) by omega, IntWalk.wrap64_in _ (by omega)]
 constructor
 ·unfold fitsB
  rw [f1, f2]
  exact decide_eq_true (by omega)
 ·show (linOf W (-dy) (tgt W dx dy i)).toNat * W + (colOf W (-dx) (tgt W dx dy i)).toNat = i
  rw [f1, f2, Int.toNat_natCast, Int.toNat_natCast, Nat.mul_comm]
  exact hdm
theorem allFit_of {W H : Nat} {C : List Int} {e dx dy : Int} (h : unfitB W H C e dx dy = false) : AllFit W H C e dx dy C.length := fun i hi he => by
 cases q : fitsB W H dx dy i with
 | true => rfl
 | false => rw [unfit_at hi he q] at h; cases h
theorem shift_ok {W H : Int} {R : Bool} {C : List Int} {e dx dy q1 q2 : Int} {q3 : Bool} {q4 : List Int} (h : shiftE W H R C e dx dy = (q1, q2, q3, q4, 0)) :
  ∃ W' H' : Nat, W = W' ∧ H = H' ∧ q1 = W ∧ q2 = H ∧ q3 = R ∧ q4 = shOut W' C e dx dy ∧ checkErr W H R C = 0 ∧ checkErr W H R q4 = 0 ∧ hasB C e = true ∧ AllFit W' H' C e dx dy C.length ∧ takenB C (tosTo W' C e dx dy C.length) e = false := by
 unfold shiftE at h
 by_cases g0 : checkErr W H R C = 0
 ·rw [if_neg (show ¬ checkErr W H R C ≠ 0 from fun f => f g0)] at h
  obtain ⟨W', H', rfl, rfl, _⟩ := nat_of g0
  simp only [Int.toNat_natCast] at h
  cases g1 : hasB C e with
  | false => rw [if_pos g1] at h; simp only [Prod.mk.injEq] at h; omega
  | true =>
   rw [if_neg (by rw [g1]; simp)] at h
   cases g2 : unfitB W' H' C e dx dy with
   | true => rw [if_pos g2] at h; simp only [Prod.mk.injEq] at h; omega
   | false =>
    rw [if_neg (by rw [g2]; simp)] at h
    cases g3 : takenB C (tosTo W' C e dx dy C.length) e with
    | true => rw [if_pos g3] at h; simp only [Prod.mk.injEq] at h; omega
    | false =>
     rw [if_neg (by rw [g3]; simp)] at h
     by_cases g4 : checkErr W' H' R (shOut W' C e dx dy) = 0
     ·rw [if_neg (show ¬ checkErr (W' : Int) H' R (shOut W' C e dx dy) ≠ 0 from fun f => f g4)] at h
      simp only [Prod.mk.injEq] at h
      obtain ⟨rfl, rfl, rfl, rfl, _⟩ := h
      exact ⟨W', H', rfl, rfl, rfl, rfl, rfl, rfl, g0, g4, by first | exact g1 | rfl, allFit_of g2, by first | exact g3 | rfl⟩
     ·rw [if_pos g4] at h
      simp only [Prod.mk.injEq] at h
      exact absurd h.2.2.2.2 g4
 ·rw [if_pos g0] at h
  simp only [Prod.mk.injEq] at h
  exact absurd h.2.2.2.2 g0
theorem shift_back {W H : Int} {R : Bool} {C : List Int} {e dx dy q1 q2 : Int} {q3 : Bool} {q4 : List Int} (hx : -2 ≤ dx ∧ dx ≤ 2) (hy : -2 ≤ dy ∧ dy ≤ 2) (h : shiftE W H R C e dx dy = (q1, q2, q3, q4, 0)) :
  shiftE q1 q2 q3 q4 e (-dx) (-dy) = (W, H, R, C, 0) := by
 obtain ⟨W', H', rfl, rfl, rfl, rfl, rfl, rfl, h0, h1, hB, hf, ht⟩ := shift_ok h
 obtain ⟨p1, p2, p3, p4, p5, hel, _, _⟩ := check_parts h0
 have hl : C.length = W' * H' := by rw [← Int.natCast_mul] at p5; omega
 have he : 0 < e ∧ e ∈ C := hasB_mem.1 hB
 have hlen := shOut_length W' C e dx dy
 have hat := fun j (hj : j < C.length) => fn_shOut (j := j) hl hf hj
 have hback := fun i (hi : i < C.length) (hie : fn C i = e) => tgt_back (i := i) (dx := dx) (dy := dy) (H := H') (by omega) (by omega) (by omega) hx hy (by omega) (hf i hi hie)
 have htl := fun i (hi : i < C.length) (hie : fn C i = e) => tgt_lt (hf i hi hie)
 have hel' : ∀ j, j < C.length → fn (shOut W' C e dx dy) j = e → ∃ i, i < C.length ∧ fn C i = e ∧ tgt W' dx dy i = j := fun j hj hje => by
  rw [hat j hj] at hje
  by_cases q : ∃ i, i < C.length ∧ fn C i = e ∧ tgt W' dx dy i = j
  ·exact q
  ·rw [if_neg q] at hje
   by_cases r : fn C j = e
   ·rw [if_pos r] at hje; omega
   ·rw [if_neg r] at hje; exact absurd hje r
 have hfit' : AllFit W' H' (shOut W' C e dx dy) e (-dx) (-dy) (shOut W' C e dx dy).length := fun j hj hje => by
  rw [hlen] at hj
  obtain ⟨i, h2, h3, rfl⟩ := hel' j hj hje
  exact (hback i h2 h3).1
 have hB' : hasB (shOut W' C e dx dy) e = true := by
  obtain ⟨i, hi, hie⟩ := mem_fn he.2
  refine hasB_mem.2 ⟨he.1, ?_⟩
  have h2 := htl i hi hie
  have h3 : fn (shOut W' C e dx dy) (tgt W' dx dy i) = e := by rw [hat _ (by omega), if_pos ⟨i, hi, hie, rfl⟩]
  have h4 := fn_mem (C := shOut W' C e dx dy) (i := tgt W' dx dy i) (by rw [hlen]; omega)
  rw [h3] at h4
  exact h4
 have ht' : takenB (shOut W' C e dx dy) (tosTo W' (shOut W' C e dx dy) e (-dx) (-dy) (shOut W' C e dx dy).length) e = false := by
  apply taken_none
  intro p hp
  obtain ⟨j, hj, hje, ej⟩ := (mem_tos _ _).1 (fn_mem hp)
  rw [hlen] at hj
  obtain ⟨i, h2, h3, rfl⟩ := hel' j hj hje
  rw [(hback i h2 h3).2] at ej
  rw [ej, Int.toNat_natCast, hat i h2]
  by_cases z : ∃ i', i' < C.length ∧ fn C i' = e ∧ tgt W' dx dy i' = i
  ·rw [if_pos z]; exact .inr rfl
  ·rw [if_neg z, if_pos h3]; exact .inl rfl
 have hfree : ∀ i, i < C.length → fn C i = e → fn C (tgt W' dx dy i) = 0 ∨ fn C (tgt W' dx dy i) = e := fun i hi hie => by
  unfold takenB at ht
  rw [List.any_eq_false] at ht
  have h2 := ht _ ((mem_tos ((tgt W' dx dy i : Nat) : Int) C.length).2 ⟨i, hi, hie, rfl⟩)
  rw [Int.toNat_natCast] at h2
  by_cases z : fn C (tgt W' dx dy i) = 0
  ·exact .inl z
  ·by_cases z2 : fn C (tgt W' dx dy i) = e
   ·exact .inr z2
   ·exact absurd (by simp [z, z2]) h2
 have hout : shOut W' (shOut W' C e dx dy) e (-dx) (-dy) = C := by
  apply list_ext
  ·rw [shOut_length, hlen]
  ·intro j hj
   rw [shOut_length, hlen] at hj
   rw [fn_shOut (by rw [hlen]; exact hl) hfit' (by rw [hlen]; exact hj)]
   by_cases q : fn C j = e
   ·rw [if_pos, q]
    exact ⟨tgt W' dx dy j, by rw [hlen, hl]; exact htl j hj q, by rw [hat _ (by rw [hl]; exact htl j hj q), if_pos ⟨j, hj, q, rfl⟩], (hback j hj q).2⟩
   ·rw [if_neg]
    ·rw [hat j hj]
     by_cases r : ∃ i, i < C.length ∧ fn C i = e ∧ tgt W' dx dy i = j
     ·rw [if_pos r, if_pos rfl]
      obtain ⟨i, h2, h3, rfl⟩ := r
      rcases hfree i h2 h3 with z | z
      ·exact z.symm
      ·exact absurd z q
     ·rw [if_neg r, if_neg q, if_neg q]
    ·rintro ⟨k, h2, h3, h4⟩
     rw [hlen] at h2
     obtain ⟨i, h5, h6, rfl⟩ := hel' k h2 h3
     rw [(hback i h5 h6).2] at h4
     subst h4
     exact q h6
 unfold shiftE
 rw [if_neg (show ¬ checkErr (W' : Int) H' q3 (shOut W' C e dx dy) ≠ 0 from fun f => f h1), if_neg (by rw [hB']; simp)]
 simp only [Int.toNat_natCast]
 rw [if_neg (by rw [unfit_none hfit']; simp), if_neg (by rw [ht']; simp), hout, if_neg (show ¬ checkErr (W' : Int) H' q3 C ≠ 0 from fun f => f h0)]
theorem infl_small {W H : Nat} {R : Bool} {C : List Int} {n : Nat} {a b x1 x2 : Int} (hck : checkErr W H R C = 0) (hn : n ≤ 200) (hab : a ≠ b) (ha : hasB C a = true) (hb : hasB C b = true) (h : field_Influence.f (C.length + 12) W H R C n a b = some (x1, x2, 0)) : x2 ≤ 65536000000 := by
 obtain ⟨m, hm⟩ : ∃ m : Nat, maxOf C = m := by
  have h1 := le_maxOf (hasB_mem.1 ha).2
  have h2 := (hasB_mem.1 ha).1
  exact ⟨(maxOf C).toNat, by omega⟩
 have ha' := has_max hm ha
 have hb' := has_max hm hb
 obtain ⟨hV, h256, hI⟩ := influence_eq (n := n) hck hn hab hm ha hb (k := C.length + 12) (Nat.le_refl _)
 rw [h] at hI
 simp only [Option.some.injEq, Prod.mk.injEq] at hI
 obtain ⟨_, e2, _⟩ := hI
 have hlen := hV.len
 obtain ⟨W', H', eW, eH, hW16, hH16, _, _, _⟩ := volted_of (unit_right hck hm ha')
 obtain rfl : W = W' := by omega
 have hp := solve_pair hV h256 n
 have hr := fun j (hj : j < C.length) => solve_range hV h256 n hj
 have hhi : ∀ i, i < W * H → fn C i = b → fn (solveN W H R C (unitV m a 1000000) 256 n).2.1 i = 0 := fun i hi e => by
  rw [hp.high.1.el i (by rw [hV.len]; exact hi) (by omega), volt_unitV ha' (by omega), if_neg (by rw [e]; exact Ne.symm hab)]
 have c2 := chTo_inflow (W := W) (H := H) (R := R) (C := C) (k := b) (b := (solveN W H R C (unitV m a 1000000) 256 n).2.1) hhi
 have d2 := chTo_bound (W := W) (H := H) (R := R) (C := C) (e := b) (u := 0) (b := (solveN W H R C (unitV m a 1000000) 256 n).2.1) (by omega) hW16 (fun j hj => (hr j (by omega)).2) (W * H) (Nat.le_refl _)
 rw [c2, ← e2] at d2
 rw [hlen] at h256
 omega
theorem down_wide {n d : Int} (hd : 0 < d) (hn : 0 ≤ n ∧ n ≤ 1000000000000000) : field_down.f n d = some (n / d) ∧ 0 ≤ n / d ∧ n / d ≤ n := by
 have h1 := down_plain n d hd
 have h2 := Int.ediv_nonneg hn.1 (show 0 ≤ d by omega)
 have h3 := Int.ediv_le_self d hn.1
 have h4 : 0 ≤ Int.tmod n d := Int.tmod_nonneg d hn.1
 rw [if_neg (by omega)] at h1
 unfold field_down.f
 rw [if_neg (by omega), if_neg (by omega), h1, IntWalk.wrap64_in _ (by omega)]
 exact ⟨rfl, h2, h3⟩
theorem up_wide {n d : Int} (hd : 0 < d) (hn : 0 ≤ n ∧ n ≤ 1000000000000000) : field_up.f n d = some (-(-n / d)) ∧ n / d ≤ -(-n / d) ∧ -(-n / d) ≤ n := by
 have h1 := down_plain (-n) d hd
 have e1 := Int.mul_ediv_add_emod n d
 have e2 := Int.emod_nonneg n (show d ≠ 0 by omega)
 have e3 := Int.emod_lt_of_pos n hd
 have f1 := Int.mul_ediv_add_emod (-n) d
 have f2 := Int.emod_nonneg (-n) (show d ≠ 0 by omega)
 have f3 := Int.emod_lt_of_pos (-n) hd
 have key : ∀ a b : Int, d * a + b = 0 → -d < b → b < 2 * d → a ≤ 0 := by
  intro a b h hb1 hb2
  by_cases q : 0 < a
  ·have := Int.mul_le_mul_of_nonneg_left (show 1 ≤ a by omega) (show 0 ≤ d by omega)
   omega
  ·omega
 have h2 : n / d ≤ -(-n / d) := by
  have := key (n / d + -n / d) (n % d + -n % d) (by rw [Int.mul_add]; omega) (by omega) (by omega)
  omega
 have h0 := Int.ediv_nonneg hn.1 (show 0 ≤ d by omega)
 have h3 : -(-n / d) ≤ n := by
  by_cases q : -n / d < -n
  ·have := Int.mul_le_mul_of_nonneg_left (show -n / d ≤ -n - 1 by omega) (show 0 ≤ d by omega)
   have h5 := Int.mul_le_mul_of_nonneg_right (show 1 ≤ d by omega) hn.1
   rw [Int.mul_sub, Int.mul_neg] at this
   omega
  ·omega
 refine ⟨?_, h2, h3⟩
 unfold field_up.f field_down.f
 rw [IntWalk.wrap64_in (-n) (by omega), if_neg (by omega)]
 have h4 : -d < Int.tmod (-n) d := by
  rw [Int.neg_tmod]
  have := Int.tmod_lt_of_pos n hd
  omega
 have hb : -1000000000000001 ≤ Int.tdiv (-n) d ∧ Int.tdiv (-n) d ≤ 1000000000000001 := by
  split at h1 <;> omega
 by_cases z : Int.tmod (-n) d < 0
 ·rw [if_pos z] at h1
  rw [if_pos z, Option.bind_some, IntWalk.wrap64_in (Int.tdiv (-n) d) (by omega), h1, IntWalk.wrap64_in (-n / d) (by omega), IntWalk.wrap64_in _ (by omega)]
 ·rw [if_neg z] at h1
  rw [if_neg z, Option.bind_some, h1, IntWalk.wrap64_in (-n / d) (by omega), IntWalk.wrap64_in _ (by omega)]
theorem amp_range {W H : Int} {R : Bool} {C : List Int} {n k0 g a lo hi : Int} (hC : C.length ≤ 1000) (h : ampE W H R C n k0 g a = (lo, hi, 0)) : 0 ≤ lo ∧ lo ≤ hi ∧ hi ≤ 1000000000000000 := by
 have hE := ampE_ev W H R C n k0 g a hC
 rw [h] at hE
 obtain ⟨K, hK⟩ := hE
 have h1 := hK (K + (C.length + 20)) (by omega)
 unfold field_Amplification.f at h1
 dsimp only at h1
 rw [obind (apart_eq W H R C [k0, g, a] n (by omega) (by simp) (by simp; omega))] at h1
 by_cases q : apartErr W H R C n [k0, g, a] = 0
 ·rw [if_pos q] at h1
  obtain ⟨c1, c2, c3, c4, c5⟩ := apart_zero q
  obtain ⟨W', H', rfl, rfl, h256⟩ := nat_of c1
  obtain ⟨N, rfl⟩ : ∃ N : Nat, n = N := ⟨n.toNat, by omega⟩
  simp only [List.all_cons, List.all_nil, Bool.and_true, Bool.and_eq_true] at c4
  have hgk : g ≠ k0 := by
   intro e
   subst e
   simp [dupFrom, fn] at c5
  have hak : a ≠ k0 := by
   intro e
   subst e
   simp [dupFrom, fn] at c5
  obtain ⟨x1, x2, e1, _, e3, e4⟩ := refinf_eq (n := N) c1 (by omega) hgk c4.2.1 c4.1
  obtain ⟨y1, y2, f1, _, f3, f4⟩ := refinf_eq (n := N) c1 (by omega) hak c4.2.2 c4.1
  have e5 := infl_small c1 (by omega) hgk c4.2.1 c4.1 (e1 _ (Nat.le_refl _))
  rw [obind (e1 _ (by omega)), obind (f1 _ (by omega))] at h1
  dsimp only at h1
  by_cases r : y1 < 1
  ·rw [if_pos r] at h1
   simp only [Option.some.injEq, Prod.mk.injEq] at h1
   omega
  ·rw [if_neg r, IntWalk.wrap64_in (1000 * x1) (by omega), IntWalk.wrap64_in (1000 * x2) (by omega)] at h1
   obtain ⟨d1, d2, d3⟩ := down_wide (n := 1000 * x1) (d := y2) (by omega) (by omega)
   obtain ⟨u1, u2, u3⟩ := up_wide (n := 1000 * x2) (d := y1) (by omega) (by omega)
   rw [obind d1, obind u1] at h1
   simp only [Option.some.injEq, Prod.mk.injEq] at h1
   have m1 : 1000 * x1 / y2 ≤ 1000 * x2 / y1 := by
    have a1 := Int.ediv_le_ediv (show 0 < y2 by omega) (show 1000 * x1 ≤ 1000 * x2 by omega)
    have a2 : 1000 * x2 / y2 ≤ 1000 * x2 / y1 := by
     rw [Int.le_ediv_iff_mul_le (by omega)]
     have b1 := Int.mul_ediv_add_emod (1000 * x2) y2
     have b2 := Int.emod_nonneg (1000 * x2) (show y2 ≠ 0 by omega)
     have b3 := Int.ediv_nonneg (show 0 ≤ 1000 * x2 by omega) (show 0 ≤ y2 by omega)
     have b4 := Int.mul_le_mul_of_nonneg_left f3 b3
     rw [Int.mul_comm y2] at b1
     omega
    omega
   omega
 ·rw [if_neg q] at h1
  simp only [Option.some.injEq, Prod.mk.injEq] at h1
  exact absurd h1.2.2 q
theorem mx_ge (x y : Int) : x ≤ mx x y ∧ y ≤ mx x y := by unfold mx; split <;> omega
theorem playStep_ge (W H : Int) (R : Bool) (C : List Int) (n k0 g a : Int) (r : Int × Int × Int) (acc : Int) (d : Int × Int) : acc ≤ playStep W H R C n k0 g a r acc d := by
 unfold playStep
 split
 ·exact Int.le_refl _
 ·split
  ·exact Int.le_trans (mx_ge _ _).1 (mx_ge _ _).1
  ·exact Int.le_refl _
theorem plays_ge (W H : Int) (R : Bool) (C : List Int) (n k0 g a : Int) (r : Int × Int × Int) : ∀ (l : List (Int × Int)) (acc : Int), acc ≤ l.foldl (playStep W H R C n k0 g a r) acc
 | [], acc => Int.le_refl _
 | d :: l, acc => Int.le_trans (playStep_ge W H R C n k0 g a r acc d) (plays_ge W H R C n k0 g a r l _)
theorem plays_step (W H : Int) (R : Bool) (C : List Int) (n k0 g a : Int) (r : Int × Int × Int) : ∀ (l : List (Int × Int)) (acc : Int) (d : Int × Int), d ∈ l → ∃ acc', acc ≤ acc' ∧ playStep W H R C n k0 g a r acc' d ≤ l.foldl (playStep W H R C n k0 g a r) acc
 | [], acc, d, h => absurd h (by simp)
 | d' :: l, acc, d, h => by
  rcases List.mem_cons.1 h with rfl | h
  ·exact ⟨acc, Int.le_refl _, plays_ge W H R C n k0 g a r l _⟩
  ·obtain ⟨acc', h1, h2⟩ := plays_step W H R C n k0 g a r l (playStep W H R C n k0 g a r acc d') d h
   exact ⟨acc', Int.le_trans (playStep_ge W H R C n k0 g a r acc d') h1, h2⟩
theorem play_nonneg {W H : Int} {R : Bool} {C : List Int} {n k0 g a p : Int} {e : Int} (h : playE W H R C n k0 g a = (p, e)) : e = (ampE W H R C n k0 g a).2.2 ∧ 0 ≤ p := by
 unfold playE at h
 by_cases q : (ampE W H R C n k0 g a).2.2 = 0
 ·rw [if_neg (show ¬ (ampE W H R C n k0 g a).2.2 ≠ 0 from fun f => f q)] at h
  simp only [Prod.mk.injEq] at h
  refine ⟨by rw [q, ← h.2], ?_⟩
  rw [← h.1]
  exact plays_ge _ _ _ _ _ _ _ _ _ _ _
 ·rw [if_pos q] at h
  simp only [Prod.mk.injEq] at h
  exact ⟨h.2.symm, by omega⟩
theorem play_zero {W H : Int} {R : Bool} {C : List Int} {n k0 g a lo hi : Int} {d : Int × Int} {q1 q2 : Int} {q3 : Bool} {q4 : List Int} {s1 s2 : Int} (hC : C.length ≤ 1000) (h : playE W H R C n k0 g a = (0, 0)) (hA : ampE W H R C n k0 g a = (lo, hi, 0)) (hd : d ∈ Go.Proofs.Ytndkkjpgnmahbaa.Print.ways)
  (hq : shiftE W H R C g d.1 d.2 = (q1, q2, q3, q4, 0)) (hs : ampE q1 q2 q3 q4 n k0 g a = (s1, s2, 0)) : s1 = lo ∧ s2 = hi ∧ lo = hi := by
 unfold playE at h
 rw [hA, if_neg (by simp)] at h
 simp only [Prod.mk.injEq] at h
 obtain ⟨r1, r2, r3⟩ := amp_range hC hA
 obtain ⟨t1, t2, t3⟩ := amp_range (Nat.le_trans (shiftE_len hq) hC) hs
 obtain ⟨acc, h1, h2⟩ := plays_step W H R C n k0 g a (lo, hi, 0) Go.Proofs.Ytndkkjpgnmahbaa.Print.ways 0 d hd
 rw [h.1, step_take hq hs, if_pos rfl] at h2
 have m1 := (mx_ge (mx acc (wrap64 (s2 - lo))) (wrap64 (hi - s1)))
 have m2 := (mx_ge acc (wrap64 (s2 - lo)))
 dsimp only at h2
 rw [IntWalk.wrap64_in (s2 - lo) (by omega), IntWalk.wrap64_in (hi - s1) (by omega)] at h2 m1
 rw [IntWalk.wrap64_in (s2 - lo) (by omega)] at m2
 omega
end Go.Proofs.Field
end

section
namespace Go.Proofs.Ytndkkjpgnmahbaa.Print
open Go.RowKit Go.Proofs.YtndkkjpgnmahbaaW.PrintWords Go.Proofs.YtndkkjpgnmahbaaW.PrintLast Go.Proofs.YtndkkjpgnmahbaaW.PrintMore Go.Proofs.Ytndkkjpgnmahbaa.H
set_option linter.unusedVariables false
structure InflF (K : Nat) (W H : Int) (R : Bool) (C : List Int) (n a k g x1 x2 x3 u1 u2 u3 : Int) : Prop where
 i1 : field_Influence.f K W H R C n a k = some (x1, x2, x3)
 i2 : thermionref01_Influence.f K W H R C n a k = some (x1, x2, x3)
 a1 : field_Amplification.f K W H R C n k g a = some (u1, u2, u3)
 a2 : thermionref01_Amplification.f K W H R C n k g a = some (u1, u2, u3)
theorem plan_total (s a1 a2 : Int) (h1 : 1 ≤ a1 ∧ a1 ≤ 16) (h2 : 1 ≤ a2 ∧ a2 ≤ 16) : ∃ (W H : Int) (R : Bool) (C : List Int) (s1 : Int), thermionkit_PlanOf.f s a1 a2 = some (W, H, R, C, s1) ∧ 0 < C.length ∧ C.length ≤ 256 := by
 obtain ⟨W, H, R, C, s1, h, b1, _, b3, _, hl, h256, _, _⟩ := dealt_plan s a1 a2 h1 h2
 exact ⟨W, H, R, C, s1, h, by rw [hl]; exact Nat.mul_pos b1 b3, h256⟩
section
variable {P : Program} {ops : Array Oper} {o : Oper} {a : Act} {Q : Exit → Act → World → Prop} {K : Act → World → Prop} {w W : World} {l : List (Nat × Array Value × TypeId)}
end
end Go.Proofs.Ytndkkjpgnmahbaa.Print
end

section
namespace Go.Proofs.Ytndkkjpgnmahbaa.Print
open Go.RowKit Go.Proofs.YtndkkjpgnmahbaaW.PrintWords Go.Proofs.YtndkkjpgnmahbaaW.PrintLast Go.Proofs.YtndkkjpgnmahbaaW.PrintMore
attribute [local go_sem] max2_int min2_int max_two min_two max_three min_three max_four min_four
set_option linter.unusedVariables false
set_option linter.unusedSimpArgs false
def thermionkit_Tube.l0 : Nat → Int → Int → Int → Int → Int → Int → Bool → List Int → Option (Int × Int × Bool × List Int × Int)
 | 0, _, _, _, _, _, _, _, _ => none
 | k + 1, x8, x9, x10, x1000, x501000, x501001, x501002, x501003 => if x10 < (wrap64 (x501000 * x501001)) then (if x501000 = 0 then (none) else (if (Int.tmod x10 x501000) = 0 then (if x501003.length < 17592186044416 then (thermionkit_Tube.l0 k x8 x9 (wrap64 (x10 + 1)) x1000 x501000 x501001 x501002 (x501003 ++ [1])) else (none)) else (if (Int.tmod x10 x501000) = (wrap64 (x501000 - 1)) then (if x501003.length < 17592186044416 then (thermionkit_Tube.l0 k x8 x9 (wrap64 (x10 + 1)) x1000 x501000 x501001 x501002 (x501003 ++ [3])) else (none)) else (if (Int.tmod x10 x501000) = x8 then (if (wrap64 (Int.tdiv x10 x501000)) = x9 then (if x501001 > 1 then (if x501003.length < 17592186044416 then (thermionkit_Tube.l0 k x8 x9 (wrap64 (x10 + 1)) x1000 x501000 x501001 x501002 (x501003 ++ [2])) else (none)) else (if x501003.length < 17592186044416 then (thermionkit_Tube.l0 k x8 x9 (wrap64 (x10 + 1)) x1000 x501000 x501001 x501002 (x501003 ++ [0])) else (none))) else ((thermionkit_Dice_One.f x1000 3).bind fun bt517 => (if bt517.1 = true then (if x501001 > 1 then (if x501003.length < 17592186044416 then (thermionkit_Tube.l0 k x8 x9 (wrap64 (x10 + 1)) bt517.2 x501000 x501001 x501002 (x501003 ++ [2])) else (none)) else (if x501003.length < 17592186044416 then (thermionkit_Tube.l0 k x8 x9 (wrap64 (x10 + 1)) bt517.2 x501000 x501001 x501002 (x501003 ++ [0])) else (none))) else (if x501003.length < 17592186044416 then (thermionkit_Tube.l0 k x8 x9 (wrap64 (x10 + 1)) bt517.2 x501000 x501001 x501002 (x501003 ++ [0])) else (none))))) else (if x501003.length < 17592186044416 then (thermionkit_Tube.l0 k x8 x9 (wrap64 (x10 + 1)) x1000 x501000 x501001 x501002 (x501003 ++ [0])) else (none)))))) else (some (x501000, x501001, x501002, x501003, x1000))
def thermionkit_Tube.f (k : Nat) (s0_0 : Int) (a1 : Int) (a2 : Int) : Option (Int × Int × Bool × List Int × Int) := (thermionkit_Dice_Between.f s0_0 4 (mx 4 a1)).bind fun bt494 => ((thermionkit_Dice_Between.f bt494.2 1 a2).bind fun bt496 => ((thermionkit_Dice_One.f bt496.2 2).bind fun bt498 => ((thermionkit_Dice_Between.f bt498.2 1 (wrap64 (bt494.1 - 2))).bind fun bt501 => ((thermionkit_Dice_Upto.f bt501.2 bt496.1).bind fun bt503 => (thermionkit_Tube.l0 k bt501.1 bt503.1 0 bt503.2 bt494.1 bt496.1 bt498.1 ([] : List Int))))))
set_option maxHeartbeats 8000000 in
set_option maxRecDepth 100000 in
theorem thermionkit_Tube.calls (k : Nat) (g : Nat) (s0_0 : Int) (a1 : Int) (a2 : Int) (r1 : Int) (r2 : Int) (r3 : Bool) (r4 : List Int) (r5 : Int) (w0 w : World) (hI : IsS79 w0 w g s0_0) (hB : Below w0.heap.size w0 w) (h : thermionkit_Tube.f k s0_0 a1 a2 = some (r1, r2, r3, r4, r5)) :
  Calls Try.prog 54 #[.pointer (some ⟨g, 0, none⟩), .int .i64 a1, .int .i64 a2] w fun e w' => ∃ v3_ : Value, e = .returned (.agg #[.int .i64 r1, .int .i64 r2, .bool r3, v3_]) ∧ Kd.R (Kd.int .i64) 3 w' w.heap.size (fun _ => True) v3_ r4 ∧ IsS79 w0 w' g r5 ∧ Below w0.heap.size w0 w' ∧ KeepBut w w' g none := by
 have hu24 := Try.underlying24
 have HI0 := Aside0.mk hI
 have HK := Aside0.mk (KeepBut.refl w g none)
 have HL := Aside0.mk hB.size
 clear hI
 have HW0 := Aside0.mk hB.size
 have HB := Aside0.mk hB
 clear hB
 have H : ((thermionkit_Dice_Between.f s0_0 4 (mx 4 a1)).bind fun bt494 => ((thermionkit_Dice_Between.f bt494.2 1 a2).bind fun bt496 => ((thermionkit_Dice_One.f bt496.2 2).bind fun bt498 => ((thermionkit_Dice_Between.f bt498.2 1 (wrap64 (bt494.1 - 2))).bind fun bt501 => ((thermionkit_Dice_Upto.f bt501.2 bt496.1).bind fun bt503 => (thermionkit_Tube.l0 k bt501.1 bt503.1 0 bt503.2 bt494.1 bt496.1 bt498.1 ([] : List Int))))))) = some (r1, r2, r3, r4, r5) := h
 clear h
 obtain ⟨ji4, hji4⟩ : ∃ j_ : Int, (mx 4 a1) = j_ := ⟨_, rfl⟩
 replace H : ((thermionkit_Dice_Between.f s0_0 4 (ji4)).bind fun bt494 => ((thermionkit_Dice_Between.f bt494.2 1 a2).bind fun bt496 => ((thermionkit_Dice_One.f bt496.2 2).bind fun bt498 => ((thermionkit_Dice_Between.f bt498.2 1 (wrap64 (bt494.1 - 2))).bind fun bt501 => ((thermionkit_Dice_Upto.f bt501.2 bt496.1).bind fun bt503 => (thermionkit_Tube.l0 k bt501.1 bt503.1 0 bt503.2 bt494.1 bt496.1 bt498.1 ([] : List Int))))))) = some (r1, r2, r3, r4, r5) := by first | (rw [hji4] at H; exact H) | (simp only [hji4] at H ⊢; exact H)
 (try (have hji4l : 4 ≤ ji4 := by (rw [← hji4]; unfold mx; (repeat' split) <;> omega)))
 (try (have hji4m : 0 ≤ ji4 := by omega))
 have hji4_ : (if 4 < a1 then a1 else 4) = ji4 := hji4
 replace H := Option.bind_eq_some_iff.mp H
 obtain ⟨⟨t494, t495⟩, A50, H⟩ := H
 replace H : ((thermionkit_Dice_Between.f t495 1 a2).bind fun bt496 => ((thermionkit_Dice_One.f bt496.2 2).bind fun bt498 => ((thermionkit_Dice_Between.f bt498.2 1 (wrap64 (t494 - 2))).bind fun bt501 => ((thermionkit_Dice_Upto.f bt501.2 bt496.1).bind fun bt503 => (thermionkit_Tube.l0 k bt501.1 bt503.1 0 bt503.2 t494 bt496.1 bt498.1 ([] : List Int)))))) = some (r1, r2, r3, r4, r5) := H
 have A5 := Aside0.mk A50
 clear A50
 replace H := Option.bind_eq_some_iff.mp H
 obtain ⟨⟨t496, t497⟩, A60, H⟩ := H
 replace H : ((thermionkit_Dice_One.f t497 2).bind fun bt498 => ((thermionkit_Dice_Between.f bt498.2 1 (wrap64 (t494 - 2))).bind fun bt501 => ((thermionkit_Dice_Upto.f bt501.2 t496).bind fun bt503 => (thermionkit_Tube.l0 k bt501.1 bt503.1 0 bt503.2 t494 t496 bt498.1 ([] : List Int))))) = some (r1, r2, r3, r4, r5) := H
 have A6 := Aside0.mk A60
 clear A60
 replace H := Option.bind_eq_some_iff.mp H
 obtain ⟨⟨t498, t499⟩, A70, H⟩ := H
 replace H : ((thermionkit_Dice_Between.f t499 1 (wrap64 (t494 - 2))).bind fun bt501 => ((thermionkit_Dice_Upto.f bt501.2 t496).bind fun bt503 => (thermionkit_Tube.l0 k bt501.1 bt503.1 0 bt503.2 t494 t496 t498 ([] : List Int)))) = some (r1, r2, r3, r4, r5) := H
 have A7 := Aside0.mk A70
 clear A70
 replace H := Option.bind_eq_some_iff.mp H
 obtain ⟨⟨t501, t502⟩, A80, H⟩ := H
 replace H : ((thermionkit_Dice_Upto.f t502 t496).bind fun bt503 => (thermionkit_Tube.l0 k t501 bt503.1 0 bt503.2 t494 t496 t498 ([] : List Int))) = some (r1, r2, r3, r4, r5) := H
 have A8 := Aside0.mk A80
 clear A80
 replace H := Option.bind_eq_some_iff.mp H
 obtain ⟨⟨t503, t504⟩, A90, H⟩ := H
 replace H : (thermionkit_Tube.l0 k t501 t503 0 t504 t494 t496 t498 ([] : List Int)) = some (r1, r2, r3, r4, r5) := H
 have A9 := Aside0.mk A90
 clear A90
 have H' := Aside0.mk H
 clear H
 go_enter Try.func54, Try.ntmps54
 go_wp2_with (first | ((with_reducible refine gate_dst (N := 6) rfl ?_); refine aBox 6 #[.int .i64 0, .int .i64 0, .bool false, .slice none 0 0] 24 ?_; intro gb493 hg w10 hbox hb; replace HB := aBs HB hb; have BK493 := Aside0.mk (hbox); have GW493 := Aside0.mk ((by rw [hg]; exact (keep_size (w := w) (g := g) (row := none) (by repeat (first | (with_reducible first | exact HK.out | apply KeepBut.set_ | apply keep_drewN | apply keep_drew | apply keep_alloc) | exact HK.out))) : w.heap.size ≤ gb493)); have GE493 := Aside0.mk ((Nat.le_trans HW0.out (by rw [hg]; exact (keep_size (w := w) (g := g) (row := none) (by repeat (first | (with_reducible first | exact HK.out | apply KeepBut.set_ | apply keep_drewN | apply keep_drew | apply keep_alloc) | exact HK.out))) : w.heap.size ≤ gb493) : w0.heap.size ≤ gb493)); replace HK := Aside0.mk (KeepBut.trans (by repeat (first | (with_reducible first | exact HK.out | apply KeepBut.set_ | apply keep_drewN | apply keep_drew | apply keep_alloc) | exact HK.out)) (KeepBut.of_below hb g none) (.inl rfl)); have NB0_493 := Aside0.mk ((by rw [hg]; exact Nat.ne_of_lt (IsS79.lt (show IsS79 w0 _ g s0_0 from by repeat (first | (with_reducible first | exact HI0.out | apply IsS79.alloc | apply IsS79.drewN | apply IsS79.drew | apply IsS79.set_0) | exact HI0.out))) : g ≠ gb493)); have NB493_0 := Aside0.mk ((by rw [hg]; exact Nat.ne_of_gt (IsS79.lt (show IsS79 w0 _ g s0_0 from by repeat (first | (with_reducible first | exact HI0.out | apply IsS79.alloc | apply IsS79.drewN | apply IsS79.drew | apply IsS79.set_0) | exact HI0.out))) : gb493 ≠ g)); replace HI0 := Aside0.mk (IsS79.below (by repeat (first | (with_reducible first | exact HI0.out | apply IsS79.alloc | apply IsS79.drewN | apply IsS79.drew | apply IsS79.set_0) | exact HI0.out)) hb); clear hb hbox hg) | (go_at_call 32; (with_reducible refine (thermionkit_Dice_Between.calls g s0_0 4 ji4 t494 t495 w0 _ ?side1 ?side2 A5.out).mono ?_); (case side1 => repeat (first | (with_reducible first | exact HI0.out | apply IsS79.alloc | apply IsS79.drewN | apply IsS79.drew | apply IsS79.set_0 | refine IsS79.far ?_ NB0_493.out _) | exact HI0.out)); (case side2 => repeat (first | (with_reducible first | exact HB.out | apply below_alloc | apply pw_below_drewN | apply below_drew1 | refine below_set ?_ (IsS79.ge HI0.out) | refine below_set ?_ GE493.out) | exact HB.out)); rintro e w11 ⟨rfl, hi, hb, hk⟩; replace BK493 := Aside0.mk (KeepBut.blk hk (g' := gb493) (o := .cells #[.int .i64 0, .int .i64 0, .bool false, .slice none 0 0] 24 (0, 0)) (aBk BK493).out NB493_0.out (by simp)); replace HK := Aside0.mk (KeepBut.trans (by repeat (first | (with_reducible first | exact HK.out | apply KeepBut.set_ | apply keep_drewN | apply keep_drew | apply keep_alloc | refine keep_far ?_ GW493.out _) | exact HK.out)) hk (.inl rfl)); replace HB := Aside0.mk (hb); replace HI0 := Aside0.mk (hi); (try clear hb); (try clear hb2); (try clear hk); (try clear hi)) | (go_at_call 32; (with_reducible refine (thermionkit_Dice_Between.calls g t495 1 a2 t496 t497 w0 _ ?side1 ?side2 A6.out).mono ?_); (case side1 => repeat (first | (with_reducible first | exact HI0.out | apply IsS79.alloc | apply IsS79.drewN | apply IsS79.drew | apply IsS79.set_0 | refine IsS79.far ?_ NB0_493.out _) | exact HI0.out)); (case side2 => repeat (first | (with_reducible first | exact HB.out | apply below_alloc | apply pw_below_drewN | apply below_drew1 | refine below_set ?_ (IsS79.ge HI0.out) | refine below_set ?_ GE493.out) | exact HB.out)); rintro e w12 ⟨rfl, hi, hb, hk⟩; replace BK493 := Aside0.mk (KeepBut.blk hk (g' := gb493) (o := .cells #[.int .i64 0, .int .i64 0, .bool false, .slice none 0 0] 24 (0, 0)) (aBk BK493).out NB493_0.out (by simp)); replace HK := Aside0.mk (KeepBut.trans (by repeat (first | (with_reducible first | exact HK.out | apply KeepBut.set_ | apply keep_drewN | apply keep_drew | apply keep_alloc | refine keep_far ?_ GW493.out _) | exact HK.out)) hk (.inl rfl)); replace HB := Aside0.mk (hb); replace HI0 := Aside0.mk (hi); (try clear hb); (try clear hb2); (try clear hk); (try clear hi)) | (go_at_call 66; (with_reducible refine (thermionkit_Dice_One.calls g t497 2 t498 t499 w0 _ ?side1 ?side2 A7.out).mono ?_); (case side1 => repeat (first | (with_reducible first | exact HI0.out | apply IsS79.alloc | apply IsS79.drewN | apply IsS79.drew | apply IsS79.set_0 | refine IsS79.far ?_ NB0_493.out _) | exact HI0.out)); (case side2 => repeat (first | (with_reducible first | exact HB.out | apply below_alloc | apply pw_below_drewN | apply below_drew1 | refine below_set ?_ (IsS79.ge HI0.out) | refine below_set ?_ GE493.out) | exact HB.out)); rintro e w13 ⟨rfl, hi, hb, hk⟩; replace BK493 := Aside0.mk (KeepBut.blk hk (g' := gb493) (o := .cells #[.int .i64 0, .int .i64 0, .bool false, .slice none 0 0] 24 (0, 0)) (aBk BK493).out NB493_0.out (by simp)); replace HK := Aside0.mk (KeepBut.trans (by repeat (first | (with_reducible first | exact HK.out | apply KeepBut.set_ | apply keep_drewN | apply keep_drew | apply keep_alloc | refine keep_far ?_ GW493.out _) | exact HK.out)) hk (.inl rfl)); replace HB := Aside0.mk (hb); replace HI0 := Aside0.mk (hi); (try clear hb); (try clear hb2); (try clear hk); (try clear hi)) | ((with_reducible refine gate_dst (N := 7) rfl ?_); refine aBox 7 #[.int .i64 0, .int .i64 0, .bool false, .slice none 0 0] 24 ?_; intro gb500 hg w14 hbox hb; replace HB := aBs HB hb; have BK500 := Aside0.mk (hbox); have GW500 := Aside0.mk ((by rw [hg]; exact (keep_size (w := w) (g := g) (row := none) (by repeat (first | (with_reducible first | exact HK.out | apply KeepBut.set_ | apply keep_drewN | apply keep_drew | apply keep_alloc | refine keep_far ?_ GW493.out _) | exact HK.out))) : w.heap.size ≤ gb500)); have GE500 := Aside0.mk ((Nat.le_trans HW0.out (by rw [hg]; exact (keep_size (w := w) (g := g) (row := none) (by repeat (first | (with_reducible first | exact HK.out | apply KeepBut.set_ | apply keep_drewN | apply keep_drew | apply keep_alloc | refine keep_far ?_ GW493.out _) | exact HK.out))) : w.heap.size ≤ gb500) : w0.heap.size ≤ gb500)); replace HK := Aside0.mk (KeepBut.trans (by repeat (first | (with_reducible first | exact HK.out | apply KeepBut.set_ | apply keep_drewN | apply keep_drew | apply keep_alloc | refine keep_far ?_ GW493.out _) | exact HK.out)) (KeepBut.of_below hb g none) (.inl rfl)); have NB493_500 := aNl hg BK493; have NB500_493 := aNg hg BK493; replace BK493 := aBb BK493 hb; have NB0_500 := Aside0.mk ((by rw [hg]; exact Nat.ne_of_lt (IsS79.lt (show IsS79 w0 _ g t499 from by repeat (first | (with_reducible first | exact HI0.out | apply IsS79.alloc | apply IsS79.drewN | apply IsS79.drew | apply IsS79.set_0 | refine IsS79.far ?_ NB0_493.out _) | exact HI0.out))) : g ≠ gb500)); have NB500_0 := Aside0.mk ((by rw [hg]; exact Nat.ne_of_gt (IsS79.lt (show IsS79 w0 _ g t499 from by repeat (first | (with_reducible first | exact HI0.out | apply IsS79.alloc | apply IsS79.drewN | apply IsS79.drew | apply IsS79.set_0 | refine IsS79.far ?_ NB0_493.out _) | exact HI0.out))) : gb500 ≠ g)); replace HI0 := Aside0.mk (IsS79.below (by repeat (first | (with_reducible first | exact HI0.out | apply IsS79.alloc | apply IsS79.drewN | apply IsS79.drew | apply IsS79.set_0 | refine IsS79.far ?_ NB0_493.out _) | exact HI0.out)) hb); clear hb hbox hg; have hnb15 := NB500_493.out; have hnc15 := NB493_500.out; have hnb16 := NB500_0.out; have hnc16 := NB0_500.out; obtain ⟨⟨hcz17_0, hcz17_1, hcz17_2, hcz17_3⟩, hfz17_0, hfz17_1, hfz17_2, hfz17_3⟩ := aC4 BK500) | (go_at_call 32; (with_reducible refine (thermionkit_Dice_Between.calls g t499 1 (wrap64 (t494 - 2)) t501 t502 w0 _ ?side1 ?side2 A8.out).mono ?_); (case side1 => repeat (first | (with_reducible first | exact HI0.out | apply IsS79.alloc | apply IsS79.drewN | apply IsS79.drew | apply IsS79.set_0 | refine IsS79.far ?_ NB0_493.out _ | refine IsS79.far ?_ NB0_500.out _) | exact HI0.out)); (case side2 => repeat (first | (with_reducible first | exact HB.out | apply below_alloc | apply pw_below_drewN | apply below_drew1 | refine below_set ?_ (IsS79.ge HI0.out) | refine below_set ?_ GE493.out | refine below_set ?_ GE500.out) | exact HB.out)); rintro e w18 ⟨rfl, hi, hb, hk⟩; replace BK493 := Aside0.mk (KeepBut.blk hk (g' := gb493) (o := .cells #[.int .i64 0, .int .i64 0, .bool false, .slice none 0 0] 24 (0, 0)) (by (with_reducible repeat (first | refine blk_drewN ?_ _ | refine blk_drew ?_ | refine blk_alloc ?_ _)); refine blk_far ?_ NB493_500.out _; (with_reducible repeat (first | refine blk_drewN ?_ _ | refine blk_drew ?_ | refine blk_alloc ?_ _)); refine blk_far ?_ NB493_500.out _; (with_reducible repeat (first | refine blk_drewN ?_ _ | refine blk_drew ?_ | refine blk_alloc ?_ _)); refine blk_far ?_ NB493_500.out _; (with_reducible repeat (first | refine blk_drewN ?_ _ | refine blk_drew ?_ | refine blk_alloc ?_ _)); refine blk_far ?_ NB493_500.out _; (with_reducible repeat (first | refine blk_drewN ?_ _ | refine blk_drew ?_ | refine blk_alloc ?_ _)); exact BK493.out) NB493_0.out (by simp)); replace BK500 := Aside0.mk (KeepBut.blk hk (g' := gb500) (o := .cells #[.int .i64 t494, .int .i64 t496, .bool t498, .slice none 0 0] 24 (0, 0)) (by (with_reducible repeat (first | refine blk_drewN ?_ _ | refine blk_drew ?_ | refine blk_alloc ?_ _)); refine blk_put (cs := #[.int .i64 t494, .int .i64 t496, .bool t498, .slice none 0 0]) ?_ 3 _ rfl; (with_reducible repeat (first | refine blk_drewN ?_ _ | refine blk_drew ?_ | refine blk_alloc ?_ _)); refine blk_put (cs := #[.int .i64 t494, .int .i64 t496, .bool false, .slice none 0 0]) ?_ 2 _ rfl; (with_reducible repeat (first | refine blk_drewN ?_ _ | refine blk_drew ?_ | refine blk_alloc ?_ _)); refine blk_put (cs := #[.int .i64 t494, .int .i64 0, .bool false, .slice none 0 0]) ?_ 1 _ rfl; (with_reducible repeat (first | refine blk_drewN ?_ _ | refine blk_drew ?_ | refine blk_alloc ?_ _)); refine blk_put (cs := #[.int .i64 0, .int .i64 0, .bool false, .slice none 0 0]) ?_ 0 _ rfl; (with_reducible repeat (first | refine blk_drewN ?_ _ | refine blk_drew ?_ | refine blk_alloc ?_ _)); exact BK500.out) NB500_0.out (by simp)); replace HK := Aside0.mk (KeepBut.trans (by repeat (first | (with_reducible first | exact HK.out | apply KeepBut.set_ | apply keep_drewN | apply keep_drew | apply keep_alloc | refine keep_far ?_ GW493.out _ | refine keep_far ?_ GW500.out _) | exact HK.out)) hk (.inl rfl)); replace HB := Aside0.mk (hb); replace HI0 := Aside0.mk (hi); (try clear hb); (try clear hb2); (try clear hk); (try clear hi); obtain ⟨⟨hcz19_0, hcz19_1, hcz19_2, hcz19_3⟩, hfz19_0, hfz19_1, hfz19_2, hfz19_3⟩ := aC4 BK500) | (go_at_call 49; (with_reducible refine (thermionkit_Dice_Upto.calls g t502 t496 t503 t504 w0 _ ?side1 ?side2 A9.out).mono ?_); (case side1 => repeat (first | (with_reducible first | exact HI0.out | apply IsS79.alloc | apply IsS79.drewN | apply IsS79.drew | apply IsS79.set_0 | refine IsS79.far ?_ NB0_493.out _ | refine IsS79.far ?_ NB0_500.out _) | exact HI0.out)); (case side2 => repeat (first | (with_reducible first | exact HB.out | apply below_alloc | apply pw_below_drewN | apply below_drew1 | refine below_set ?_ (IsS79.ge HI0.out) | refine below_set ?_ GE493.out | refine below_set ?_ GE500.out) | exact HB.out)); rintro e w20 ⟨rfl, hi, hb, hk⟩; replace BK493 := Aside0.mk (KeepBut.blk hk (g' := gb493) (o := .cells #[.int .i64 0, .int .i64 0, .bool false, .slice none 0 0] 24 (0, 0)) (aBk BK493).out NB493_0.out (by simp)); replace BK500 := Aside0.mk (KeepBut.blk hk (g' := gb500) (o := .cells #[.int .i64 t494, .int .i64 t496, .bool t498, .slice none 0 0] 24 (0, 0)) (aBk BK500).out NB500_0.out (by simp)); replace HK := Aside0.mk (KeepBut.trans (by repeat (first | (with_reducible first | exact HK.out | apply KeepBut.set_ | apply keep_drewN | apply keep_drew | apply keep_alloc | refine keep_far ?_ GW493.out _ | refine keep_far ?_ GW500.out _) | exact HK.out)) hk (.inl rfl)); replace HB := Aside0.mk (hb); replace HI0 := Aside0.mk (hi); (try clear hb); (try clear hb2); (try clear hk); (try clear hi)))
 go_loopg [10] k (fun kq v10 w' => ∃ (x10_1 : Int) (x1000_1 : Int) (x501003_1 : List Int) (u501003 : Value), v10 = .int .i64 x10_1 ∧ Aside0 (thermionkit_Tube.l0 kq t501 t503 x10_1 x1000_1 t494 t496 t498 x501003_1 = some (r1, r2, r3, r4, r5)) ∧ Aside0 (kq ≤ k) ∧ Aside0 (Kd.R (Kd.int .i64) 3 w' w.heap.size (fun _ => True) u501003 x501003_1) ∧ Aside0 (w'.heap[gb493]? = some (.cells #[.int .i64 0, .int .i64 0, .bool false, (.slice none 0 0)] 24 (0, 0))) ∧ Aside0 (w'.heap[gb500]? = some (.cells #[.int .i64 t494, .int .i64 t496, .bool t498, u501003] 24 (0, 0))) ∧ Aside0 (IsS79 w0 w' g x1000_1) ∧ Aside0 (KeepBut w w' g none) ∧ Aside0 (Below w0.heap.size w0 w'))
 case atStart => exact ⟨(0), (t504), (([] : List Int)), (.slice none 0 0), aR, H', ⟨Nat.le_refl _⟩, ⟨by first | exact Kd.R_nil _ _ _ _ _ | exact Kd.N_nil _ _ _ _ _ | exact Kd.V_nil _ _ _ _ _ | exact Kd.Q_nil _ _ _ _ _ | exact Kd.S_nil _ _ _ _ _⟩, aBk BK493, aBk BK500, ⟨by repeat (first | (with_reducible first | exact HI0.out | apply IsS79.alloc | apply IsS79.drewN | apply IsS79.drew | apply IsS79.set_0 | refine IsS79.far ?_ NB0_493.out _ | refine IsS79.far ?_ NB0_500.out _) | exact HI0.out)⟩, ⟨by repeat (first | (with_reducible first | exact HK.out | apply KeepBut.set_ | apply keep_drewN | apply keep_drew | apply keep_alloc | refine keep_far ?_ GW493.out _ | refine keep_far ?_ GW500.out _) | exact HK.out)⟩, aBl HB⟩
 case round =>
  clear H'
  try clear c1; try clear p2; try clear c5; try clear p6; try clear c15; try clear c16; try clear hcz17_0; try clear hcz17_1; try clear hcz17_2; try clear hcz17_3; try clear hcz19_0; try clear hcz19_1; try clear hcz19_2; try clear hcz19_3; try clear hfz17_0; try clear hfz17_1; try clear hfz17_2; try clear hfz17_3; try clear hfz19_0; try clear hfz19_1; try clear hfz19_2; try clear hfz19_3
  obtain ⟨x10_1, x1000_1, x501003_1, u501003, rfl, HA, HK1, HO_501003, BK493, BK500, HI0, HK, HB⟩ := hrel
  cases gk with
  | zero => exact absurd HA.out (by simp [thermionkit_Tube.l0])
  | succ k1 =>
   have H := HA.out
   clear HA
   simp only [thermionkit_Tube.l0] at H
   by_cases c21 : x10_1 < (wrap64 (t494 * t496))
   ·rw [if_pos c21] at H
    have c21b0 := decide_eq_true c21
    clear c21
    by_cases c22 : t494 = 0
    ·rw [if_pos c22] at H
     exact absurd H (by simp)
    ·rw [if_neg c22] at H
     obtain ⟨c22b0, c22b1⟩ := aNe c22
     by_cases c23 : (Int.tmod x10_1 t494) = 0
     ·rw [if_pos c23] at H
      obtain ⟨c23b0, c23b1⟩ := aEq c23
      clear c23
      by_cases c24 : x501003_1.length < 17592186044416
      ·rw [if_pos c24] at H
       have LMc24 := Aside0.mk c24
       clear c24
       obtain ⟨y505, hy505⟩ : ∃ y_ : List Int, y_ = (x501003_1 ++ [1]) := ⟨_, rfl⟩
       replace H : (thermionkit_Tube.l0 k1 t501 t503 (wrap64 (x10_1 + 1)) x1000_1 t494 t496 t498 y505) = some (r1, r2, r3, r4, r5) := by first | (rw [hy505]; with_reducible exact H) | (have H2_ := (Option.bind_some _ _).symm.trans H; rw [hy505]; with_reducible exact H2_) | (have H2_ := (Option.bind_some _ _).symm.trans H; with_reducible exact H2_) | with_reducible exact H | (rw [hy505]; exact H) | exact H
       have Ny505 := Aside0.mk hy505
       clear hy505
       have H' := Aside0.mk H
       clear H
       have hnb25 := NB500_493.out
       have hnc25 := NB493_500.out
       have hnb26 := NB500_0.out
       have hnc26 := NB0_500.out
       obtain ⟨⟨hcz27_0, hcz27_1, hcz27_2, hcz27_3⟩, hfz27_0, hfz27_1, hfz27_2, hfz27_3⟩ := aC4 BK500
       go_wp2_with fail
       repeat (go_quiet (fail); try go_wp2_with (first | ((with_reducible refine gate_builtin (b := .append) (xs := #[.tmp 78, .tmp 80]) rfl ?_); at_builtin; refine Kd.R_append (Kd.int .i64) w.heap.size rfl (.tmp 78) (.tmp 80) 22 3 (.int .i64 0) 8 rfl Try.underlying22 info3 rfl (by decide) (by omega) u501003 x501003_1 1 [.int .i64 1] (fun _ => True) (fun _ => False) rfl rfl ?aP (fun _ hk => hk.elim) ?aF ?aO (Below.refl _ _) ?aS ?aL ?_; (case aP => exact rfl); (case aF => exact (fun _ _ => trivial)); (case aO => exact (aRk HO_501003).out); (case aS => exact (keep_size (w := w) (g := g) (row := none) (by repeat (first | (with_reducible first | exact HK.out | apply KeepBut.set_ | apply keep_drewN | apply keep_drew | apply keep_alloc | refine keep_far ?_ GW493.out _ | refine keep_far ?_ GW500.out _) | exact HK.out)))); (case aL => have := LMc24.out; omega); intro v506 w28 ho hb hg hat; rw [← Ny505.out] at ho; replace BK493 := (aBg BK493 hg (Kd.R_ne HO_501003.out BK493.out (by decide))); replace BK500 := (aBg BK500 hg (Kd.R_ne HO_501003.out BK500.out (by decide))); replace HI0 := Aside0.mk (IsS79.grown (by repeat (first | (with_reducible first | exact HI0.out | apply IsS79.alloc | apply IsS79.drewN | apply IsS79.drew | apply IsS79.set_0 | refine IsS79.far ?_ NB0_493.out _ | refine IsS79.far ?_ NB0_500.out _) | exact HI0.out)) hg (IsS79.own_ne HI0.out HO_501003.out (by decide))); replace HB := Aside0.mk (below_weaken (aBl HB).out HL.out hb); replace HK := Aside0.mk (KeepBut.trans (by repeat (first | (with_reducible first | exact HK.out | apply KeepBut.set_ | apply keep_drewN | apply keep_drew | apply keep_alloc | refine keep_far ?_ GW493.out _ | refine keep_far ?_ GW500.out _) | exact HK.out)) (KeepBut.of_grown hg g) (Kd.R_base2 HO_501003.out)); have HO507 := Aside0.mk (ho); clear HO_501003; clear ho hb hg hat; obtain ⟨Ao29, co29, eo29⟩ := Kd.R_slice HO507.out; subst eo29; obtain ⟨⟨hcz30_0, hcz30_1, hcz30_2, hcz30_3⟩, hfz30_0, hfz30_1, hfz30_2, hfz30_3⟩ := aC4 BK500)))
       go_roundg k1
       case measure => have := HK1.out; omega
       case rel => exact ⟨(wrap64 (x10_1 + 1)), (x1000_1), (y505), (.slice Ao29 y505.length co29), aR, H', ⟨by have := HK1.out; omega⟩, ⟨by (with_reducible repeat (first | apply Kd.R_alloc | apply Kd.R_drewN | apply Kd.R_drew)); exact Kd.R_mono (Kd.R_far (p := ⟨gb500, 3, none⟩) (Kd.R_types HO507.out BK500.out (by decide)) (fun _ hk => hk.2) (.slice Ao29 y505.length co29)) (fun _ hk => trivial)⟩, ⟨by (with_reducible repeat (first | refine blk_drewN ?_ _ | refine blk_drew ?_ | refine blk_alloc ?_ _)); refine blk_far ?_ NB493_500.out _; (with_reducible repeat (first | refine blk_drewN ?_ _ | refine blk_drew ?_ | refine blk_alloc ?_ _)); exact BK493.out⟩, ⟨by (with_reducible repeat (first | refine blk_drewN ?_ _ | refine blk_drew ?_ | refine blk_alloc ?_ _)); refine blk_put (cs := #[.int .i64 t494, .int .i64 t496, .bool t498, u501003]) ?_ 3 _ rfl; (with_reducible repeat (first | refine blk_drewN ?_ _ | refine blk_drew ?_ | refine blk_alloc ?_ _)); exact BK500.out⟩, ⟨by repeat (first | (with_reducible first | exact HI0.out | apply IsS79.alloc | apply IsS79.drewN | apply IsS79.drew | apply IsS79.set_0 | refine IsS79.far ?_ NB0_493.out _ | refine IsS79.far ?_ NB0_500.out _) | exact HI0.out)⟩, ⟨by repeat (first | (with_reducible first | exact HK.out | apply KeepBut.set_ | apply keep_drewN | apply keep_drew | apply keep_alloc | refine keep_far ?_ GW493.out _ | refine keep_far ?_ GW500.out _) | exact HK.out)⟩, aBl HB⟩
      ·rw [if_neg c24] at H
       exact absurd H (by simp)
     ·rw [if_neg c23] at H
      obtain ⟨c23b0, c23b1⟩ := aNe c23
      by_cases c31 : (Int.tmod x10_1 t494) = (wrap64 (t494 - 1))
      ·rw [if_pos c31] at H
       obtain ⟨c31b0, c31b1⟩ := aEq c31
       clear c31
       by_cases c32 : x501003_1.length < 17592186044416
       ·rw [if_pos c32] at H
        have LMc32 := Aside0.mk c32
        clear c32
        obtain ⟨y508, hy508⟩ : ∃ y_ : List Int, y_ = (x501003_1 ++ [3]) := ⟨_, rfl⟩
        replace H : (thermionkit_Tube.l0 k1 t501 t503 (wrap64 (x10_1 + 1)) x1000_1 t494 t496 t498 y508) = some (r1, r2, r3, r4, r5) := by first | (rw [hy508]; with_reducible exact H) | (have H2_ := (Option.bind_some _ _).symm.trans H; rw [hy508]; with_reducible exact H2_) | (have H2_ := (Option.bind_some _ _).symm.trans H; with_reducible exact H2_) | with_reducible exact H | (rw [hy508]; exact H) | exact H
        have Ny508 := Aside0.mk hy508
        clear hy508
        have H' := Aside0.mk H
        clear H
        have hnb33 := NB500_493.out
        have hnc33 := NB493_500.out
        have hnb34 := NB500_0.out
        have hnc34 := NB0_500.out
        obtain ⟨⟨hcz35_0, hcz35_1, hcz35_2, hcz35_3⟩, hfz35_0, hfz35_1, hfz35_2, hfz35_3⟩ := aC4 BK500
        go_wp2_with fail
        repeat (go_quiet (fail); try go_wp2_with (first | ((with_reducible refine gate_builtin (b := .append) (xs := #[.tmp 78, .tmp 80]) rfl ?_); at_builtin; refine Kd.R_append (Kd.int .i64) w.heap.size rfl (.tmp 78) (.tmp 80) 22 3 (.int .i64 0) 8 rfl Try.underlying22 info3 rfl (by decide) (by omega) u501003 x501003_1 3 [.int .i64 3] (fun _ => True) (fun _ => False) rfl rfl ?aP (fun _ hk => hk.elim) ?aF ?aO (Below.refl _ _) ?aS ?aL ?_; (case aP => exact rfl); (case aF => exact (fun _ _ => trivial)); (case aO => exact (aRk HO_501003).out); (case aS => exact (keep_size (w := w) (g := g) (row := none) (by repeat (first | (with_reducible first | exact HK.out | apply KeepBut.set_ | apply keep_drewN | apply keep_drew | apply keep_alloc | refine keep_far ?_ GW493.out _ | refine keep_far ?_ GW500.out _) | exact HK.out)))); (case aL => have := LMc32.out; omega); intro v509 w36 ho hb hg hat; rw [← Ny508.out] at ho; replace BK493 := (aBg BK493 hg (Kd.R_ne HO_501003.out BK493.out (by decide))); replace BK500 := (aBg BK500 hg (Kd.R_ne HO_501003.out BK500.out (by decide))); replace HI0 := Aside0.mk (IsS79.grown (by repeat (first | (with_reducible first | exact HI0.out | apply IsS79.alloc | apply IsS79.drewN | apply IsS79.drew | apply IsS79.set_0 | refine IsS79.far ?_ NB0_493.out _ | refine IsS79.far ?_ NB0_500.out _) | exact HI0.out)) hg (IsS79.own_ne HI0.out HO_501003.out (by decide))); replace HB := Aside0.mk (below_weaken (aBl HB).out HL.out hb); replace HK := Aside0.mk (KeepBut.trans (by repeat (first | (with_reducible first | exact HK.out | apply KeepBut.set_ | apply keep_drewN | apply keep_drew | apply keep_alloc | refine keep_far ?_ GW493.out _ | refine keep_far ?_ GW500.out _) | exact HK.out)) (KeepBut.of_grown hg g) (Kd.R_base2 HO_501003.out)); have HO510 := Aside0.mk (ho); clear HO_501003; clear ho hb hg hat; obtain ⟨Ao37, co37, eo37⟩ := Kd.R_slice HO510.out; subst eo37; obtain ⟨⟨hcz38_0, hcz38_1, hcz38_2, hcz38_3⟩, hfz38_0, hfz38_1, hfz38_2, hfz38_3⟩ := aC4 BK500)))
        go_roundg k1
        case measure => have := HK1.out; omega
        case rel => exact ⟨(wrap64 (x10_1 + 1)), (x1000_1), (y508), (.slice Ao37 y508.length co37), aR, H', ⟨by have := HK1.out; omega⟩, ⟨by (with_reducible repeat (first | apply Kd.R_alloc | apply Kd.R_drewN | apply Kd.R_drew)); exact Kd.R_mono (Kd.R_far (p := ⟨gb500, 3, none⟩) (Kd.R_types HO510.out BK500.out (by decide)) (fun _ hk => hk.2) (.slice Ao37 y508.length co37)) (fun _ hk => trivial)⟩, ⟨by (with_reducible repeat (first | refine blk_drewN ?_ _ | refine blk_drew ?_ | refine blk_alloc ?_ _)); refine blk_far ?_ NB493_500.out _; (with_reducible repeat (first | refine blk_drewN ?_ _ | refine blk_drew ?_ | refine blk_alloc ?_ _)); exact BK493.out⟩, ⟨by (with_reducible repeat (first | refine blk_drewN ?_ _ | refine blk_drew ?_ | refine blk_alloc ?_ _)); refine blk_put (cs := #[.int .i64 t494, .int .i64 t496, .bool t498, u501003]) ?_ 3 _ rfl; (with_reducible repeat (first | refine blk_drewN ?_ _ | refine blk_drew ?_ | refine blk_alloc ?_ _)); exact BK500.out⟩, ⟨by repeat (first | (with_reducible first | exact HI0.out | apply IsS79.alloc | apply IsS79.drewN | apply IsS79.drew | apply IsS79.set_0 | refine IsS79.far ?_ NB0_493.out _ | refine IsS79.far ?_ NB0_500.out _) | exact HI0.out)⟩, ⟨by repeat (first | (with_reducible first | exact HK.out | apply KeepBut.set_ | apply keep_drewN | apply keep_drew | apply keep_alloc | refine keep_far ?_ GW493.out _ | refine keep_far ?_ GW500.out _) | exact HK.out)⟩, aBl HB⟩
       ·rw [if_neg c32] at H
        exact absurd H (by simp)
      ·rw [if_neg c31] at H
       obtain ⟨c31b0, c31b1⟩ := aNe c31
       by_cases c39 : (Int.tmod x10_1 t494) = t501
       ·rw [if_pos c39] at H
        obtain ⟨c39b0, c39b1⟩ := aEq c39
        clear c39
        by_cases c40 : (wrap64 (Int.tdiv x10_1 t494)) = t503
        ·rw [if_pos c40] at H
         obtain ⟨c40b0, c40b1⟩ := aEq c40
         clear c40
         by_cases c41 : t496 > 1
         ·rw [if_pos c41] at H
          have c41b0 := decide_eq_true c41
          clear c41
          by_cases c42 : x501003_1.length < 17592186044416
          ·rw [if_pos c42] at H
           have LMc42 := Aside0.mk c42
           clear c42
           obtain ⟨y511, hy511⟩ : ∃ y_ : List Int, y_ = (x501003_1 ++ [2]) := ⟨_, rfl⟩
           replace H : (thermionkit_Tube.l0 k1 t501 t503 (wrap64 (x10_1 + 1)) x1000_1 t494 t496 t498 y511) = some (r1, r2, r3, r4, r5) := by first | (rw [hy511]; with_reducible exact H) | (have H2_ := (Option.bind_some _ _).symm.trans H; rw [hy511]; with_reducible exact H2_) | (have H2_ := (Option.bind_some _ _).symm.trans H; with_reducible exact H2_) | with_reducible exact H | (rw [hy511]; exact H) | exact H
           have Ny511 := Aside0.mk hy511
           clear hy511
           have H' := Aside0.mk H
           clear H
           have hnb43 := NB500_493.out
           have hnc43 := NB493_500.out
           have hnb44 := NB500_0.out
           have hnc44 := NB0_500.out
           obtain ⟨⟨hcz45_0, hcz45_1, hcz45_2, hcz45_3⟩, hfz45_0, hfz45_1, hfz45_2, hfz45_3⟩ := aC4 BK500
           go_wp2_with fail
           repeat (go_quiet (fail); try go_wp2_with (first | ((with_reducible refine gate_builtin (b := .append) (xs := #[.tmp 78, .tmp 80]) rfl ?_); at_builtin; refine Kd.R_append (Kd.int .i64) w.heap.size rfl (.tmp 78) (.tmp 80) 22 3 (.int .i64 0) 8 rfl Try.underlying22 info3 rfl (by decide) (by omega) u501003 x501003_1 2 [.int .i64 2] (fun _ => True) (fun _ => False) rfl rfl ?aP (fun _ hk => hk.elim) ?aF ?aO (Below.refl _ _) ?aS ?aL ?_; (case aP => exact rfl); (case aF => exact (fun _ _ => trivial)); (case aO => exact (aRk HO_501003).out); (case aS => exact (keep_size (w := w) (g := g) (row := none) (by repeat (first | (with_reducible first | exact HK.out | apply KeepBut.set_ | apply keep_drewN | apply keep_drew | apply keep_alloc | refine keep_far ?_ GW493.out _ | refine keep_far ?_ GW500.out _) | exact HK.out)))); (case aL => have := LMc42.out; omega); intro v512 w46 ho hb hg hat; rw [← Ny511.out] at ho; replace BK493 := (aBg BK493 hg (Kd.R_ne HO_501003.out BK493.out (by decide))); replace BK500 := (aBg BK500 hg (Kd.R_ne HO_501003.out BK500.out (by decide))); replace HI0 := Aside0.mk (IsS79.grown (by repeat (first | (with_reducible first | exact HI0.out | apply IsS79.alloc | apply IsS79.drewN | apply IsS79.drew | apply IsS79.set_0 | refine IsS79.far ?_ NB0_493.out _ | refine IsS79.far ?_ NB0_500.out _) | exact HI0.out)) hg (IsS79.own_ne HI0.out HO_501003.out (by decide))); replace HB := Aside0.mk (below_weaken (aBl HB).out HL.out hb); replace HK := Aside0.mk (KeepBut.trans (by repeat (first | (with_reducible first | exact HK.out | apply KeepBut.set_ | apply keep_drewN | apply keep_drew | apply keep_alloc | refine keep_far ?_ GW493.out _ | refine keep_far ?_ GW500.out _) | exact HK.out)) (KeepBut.of_grown hg g) (Kd.R_base2 HO_501003.out)); have HO513 := Aside0.mk (ho); clear HO_501003; clear ho hb hg hat; obtain ⟨Ao47, co47, eo47⟩ := Kd.R_slice HO513.out; subst eo47; obtain ⟨⟨hcz48_0, hcz48_1, hcz48_2, hcz48_3⟩, hfz48_0, hfz48_1, hfz48_2, hfz48_3⟩ := aC4 BK500)))
           go_roundg k1
           case measure => have := HK1.out; omega
           case rel => exact ⟨(wrap64 (x10_1 + 1)), (x1000_1), (y511), (.slice Ao47 y511.length co47), aR, H', ⟨by have := HK1.out; omega⟩, ⟨by (with_reducible repeat (first | apply Kd.R_alloc | apply Kd.R_drewN | apply Kd.R_drew)); exact Kd.R_mono (Kd.R_far (p := ⟨gb500, 3, none⟩) (Kd.R_types HO513.out BK500.out (by decide)) (fun _ hk => hk.2) (.slice Ao47 y511.length co47)) (fun _ hk => trivial)⟩, ⟨by (with_reducible repeat (first | refine blk_drewN ?_ _ | refine blk_drew ?_ | refine blk_alloc ?_ _)); refine blk_far ?_ NB493_500.out _; (with_reducible repeat (first | refine blk_drewN ?_ _ | refine blk_drew ?_ | refine blk_alloc ?_ _)); exact BK493.out⟩, ⟨by (with_reducible repeat (first | refine blk_drewN ?_ _ | refine blk_drew ?_ | refine blk_alloc ?_ _)); refine blk_put (cs := #[.int .i64 t494, .int .i64 t496, .bool t498, u501003]) ?_ 3 _ rfl; (with_reducible repeat (first | refine blk_drewN ?_ _ | refine blk_drew ?_ | refine blk_alloc ?_ _)); exact BK500.out⟩, ⟨by repeat (first | (with_reducible first | exact HI0.out | apply IsS79.alloc | apply IsS79.drewN | apply IsS79.drew | apply IsS79.set_0 | refine IsS79.far ?_ NB0_493.out _ | refine IsS79.far ?_ NB0_500.out _) | exact HI0.out)⟩, ⟨by repeat (first | (with_reducible first | exact HK.out | apply KeepBut.set_ | apply keep_drewN | apply keep_drew | apply keep_alloc | refine keep_far ?_ GW493.out _ | refine keep_far ?_ GW500.out _) | exact HK.out)⟩, aBl HB⟩
          ·rw [if_neg c42] at H
           exact absurd H (by simp)
         ·rw [if_neg c41] at H
          have c41b0 := decide_eq_false c41
          clear c41
          by_cases c49 : x501003_1.length < 17592186044416
          ·rw [if_pos c49] at H
           have LMc49 := Aside0.mk c49
           clear c49
           obtain ⟨y514, hy514⟩ : ∃ y_ : List Int, y_ = (x501003_1 ++ [0]) := ⟨_, rfl⟩
           replace H : (thermionkit_Tube.l0 k1 t501 t503 (wrap64 (x10_1 + 1)) x1000_1 t494 t496 t498 y514) = some (r1, r2, r3, r4, r5) := by first | (rw [hy514]; with_reducible exact H) | (have H2_ := (Option.bind_some _ _).symm.trans H; rw [hy514]; with_reducible exact H2_) | (have H2_ := (Option.bind_some _ _).symm.trans H; with_reducible exact H2_) | with_reducible exact H | (rw [hy514]; exact H) | exact H
           have Ny514 := Aside0.mk hy514
           clear hy514
           have H' := Aside0.mk H
           clear H
           have hnb50 := NB500_493.out
           have hnc50 := NB493_500.out
           have hnb51 := NB500_0.out
           have hnc51 := NB0_500.out
           obtain ⟨⟨hcz52_0, hcz52_1, hcz52_2, hcz52_3⟩, hfz52_0, hfz52_1, hfz52_2, hfz52_3⟩ := aC4 BK500
           go_wp2_with fail
           repeat (go_quiet (fail); try go_wp2_with (first | ((with_reducible refine gate_builtin (b := .append) (xs := #[.tmp 78, .tmp 80]) rfl ?_); at_builtin; refine Kd.R_append (Kd.int .i64) w.heap.size rfl (.tmp 78) (.tmp 80) 22 3 (.int .i64 0) 8 rfl Try.underlying22 info3 rfl (by decide) (by omega) u501003 x501003_1 0 [.int .i64 0] (fun _ => True) (fun _ => False) rfl rfl ?aP (fun _ hk => hk.elim) ?aF ?aO (Below.refl _ _) ?aS ?aL ?_; (case aP => exact rfl); (case aF => exact (fun _ _ => trivial)); (case aO => exact (aRk HO_501003).out); (case aS => exact (keep_size (w := w) (g := g) (row := none) (by repeat (first | (with_reducible first | exact HK.out | apply KeepBut.set_ | apply keep_drewN | apply keep_drew | apply keep_alloc | refine keep_far ?_ GW493.out _ | refine keep_far ?_ GW500.out _) | exact HK.out)))); (case aL => have := LMc49.out; omega); intro v515 w53 ho hb hg hat; rw [← Ny514.out] at ho; replace BK493 := (aBg BK493 hg (Kd.R_ne HO_501003.out BK493.out (by decide))); replace BK500 := (aBg BK500 hg (Kd.R_ne HO_501003.out BK500.out (by decide))); replace HI0 := Aside0.mk (IsS79.grown (by repeat (first | (with_reducible first | exact HI0.out | apply IsS79.alloc | apply IsS79.drewN | apply IsS79.drew | apply IsS79.set_0 | refine IsS79.far ?_ NB0_493.out _ | refine IsS79.far ?_ NB0_500.out _) | exact HI0.out)) hg (IsS79.own_ne HI0.out HO_501003.out (by decide))); replace HB := Aside0.mk (below_weaken (aBl HB).out HL.out hb); replace HK := Aside0.mk (KeepBut.trans (by repeat (first | (with_reducible first | exact HK.out | apply KeepBut.set_ | apply keep_drewN | apply keep_drew | apply keep_alloc | refine keep_far ?_ GW493.out _ | refine keep_far ?_ GW500.out _) | exact HK.out)) (KeepBut.of_grown hg g) (Kd.R_base2 HO_501003.out)); have HO516 := Aside0.mk (ho); clear HO_501003; clear ho hb hg hat; obtain ⟨Ao54, co54, eo54⟩ := Kd.R_slice HO516.out; subst eo54; obtain ⟨⟨hcz55_0, hcz55_1, hcz55_2, hcz55_3⟩, hfz55_0, hfz55_1, hfz55_2, hfz55_3⟩ := aC4 BK500)))
           go_roundg k1
           case measure => have := HK1.out; omega
           case rel => exact ⟨(wrap64 (x10_1 + 1)), (x1000_1), (y514), (.slice Ao54 y514.length co54), aR, H', ⟨by have := HK1.out; omega⟩, ⟨by (with_reducible repeat (first | apply Kd.R_alloc | apply Kd.R_drewN | apply Kd.R_drew)); exact Kd.R_mono (Kd.R_far (p := ⟨gb500, 3, none⟩) (Kd.R_types HO516.out BK500.out (by decide)) (fun _ hk => hk.2) (.slice Ao54 y514.length co54)) (fun _ hk => trivial)⟩, ⟨by (with_reducible repeat (first | refine blk_drewN ?_ _ | refine blk_drew ?_ | refine blk_alloc ?_ _)); refine blk_far ?_ NB493_500.out _; (with_reducible repeat (first | refine blk_drewN ?_ _ | refine blk_drew ?_ | refine blk_alloc ?_ _)); exact BK493.out⟩, ⟨by (with_reducible repeat (first | refine blk_drewN ?_ _ | refine blk_drew ?_ | refine blk_alloc ?_ _)); refine blk_put (cs := #[.int .i64 t494, .int .i64 t496, .bool t498, u501003]) ?_ 3 _ rfl; (with_reducible repeat (first | refine blk_drewN ?_ _ | refine blk_drew ?_ | refine blk_alloc ?_ _)); exact BK500.out⟩, ⟨by repeat (first | (with_reducible first | exact HI0.out | apply IsS79.alloc | apply IsS79.drewN | apply IsS79.drew | apply IsS79.set_0 | refine IsS79.far ?_ NB0_493.out _ | refine IsS79.far ?_ NB0_500.out _) | exact HI0.out)⟩, ⟨by repeat (first | (with_reducible first | exact HK.out | apply KeepBut.set_ | apply keep_drewN | apply keep_drew | apply keep_alloc | refine keep_far ?_ GW493.out _ | refine keep_far ?_ GW500.out _) | exact HK.out)⟩, aBl HB⟩
          ·rw [if_neg c49] at H
           exact absurd H (by simp)
        ·rw [if_neg c40] at H
         obtain ⟨c40b0, c40b1⟩ := aNe c40
         replace H := Option.bind_eq_some_iff.mp H
         obtain ⟨⟨t517, t518⟩, A560, H⟩ := H
         replace H : (if t517 = true then (if t496 > 1 then (if x501003_1.length < 17592186044416 then (thermionkit_Tube.l0 k1 t501 t503 (wrap64 (x10_1 + 1)) t518 t494 t496 t498 (x501003_1 ++ [2])) else (none)) else (if x501003_1.length < 17592186044416 then (thermionkit_Tube.l0 k1 t501 t503 (wrap64 (x10_1 + 1)) t518 t494 t496 t498 (x501003_1 ++ [0])) else (none))) else (if x501003_1.length < 17592186044416 then (thermionkit_Tube.l0 k1 t501 t503 (wrap64 (x10_1 + 1)) t518 t494 t496 t498 (x501003_1 ++ [0])) else (none))) = some (r1, r2, r3, r4, r5) := H
         have A56 := Aside0.mk A560
         clear A560
         by_cases c57 : t517 = true
         ·subst c57
          have H1 : (if t496 > 1 then (if x501003_1.length < 17592186044416 then (thermionkit_Tube.l0 k1 t501 t503 (wrap64 (x10_1 + 1)) t518 t494 t496 t498 (x501003_1 ++ [2])) else (none)) else (if x501003_1.length < 17592186044416 then (thermionkit_Tube.l0 k1 t501 t503 (wrap64 (x10_1 + 1)) t518 t494 t496 t498 (x501003_1 ++ [0])) else (none))) = some (r1, r2, r3, r4, r5) := by rw [if_pos rfl] at H; exact H
          clear H
          have H := H1
          clear H1
          by_cases c58 : t496 > 1
          ·rw [if_pos c58] at H
           have c58b0 := decide_eq_true c58
           clear c58
           by_cases c59 : x501003_1.length < 17592186044416
           ·rw [if_pos c59] at H
            have LMc59 := Aside0.mk c59
            clear c59
            obtain ⟨y519, hy519⟩ : ∃ y_ : List Int, y_ = (x501003_1 ++ [2]) := ⟨_, rfl⟩
            replace H : (thermionkit_Tube.l0 k1 t501 t503 (wrap64 (x10_1 + 1)) t518 t494 t496 t498 y519) = some (r1, r2, r3, r4, r5) := by first | (rw [hy519]; with_reducible exact H) | (have H2_ := (Option.bind_some _ _).symm.trans H; rw [hy519]; with_reducible exact H2_) | (have H2_ := (Option.bind_some _ _).symm.trans H; with_reducible exact H2_) | with_reducible exact H | (rw [hy519]; exact H) | exact H
            have Ny519 := Aside0.mk hy519
            clear hy519
            have H' := Aside0.mk H
            clear H
            have hnb60 := NB500_493.out
            have hnc60 := NB493_500.out
            have hnb61 := NB500_0.out
            have hnc61 := NB0_500.out
            obtain ⟨⟨hcz62_0, hcz62_1, hcz62_2, hcz62_3⟩, hfz62_0, hfz62_1, hfz62_2, hfz62_3⟩ := aC4 BK500
            go_wp2_with fail
            repeat (go_quiet (fail); try go_wp2_with (first | (go_at_call 66; (with_reducible refine (thermionkit_Dice_One.calls g x1000_1 3 true t518 w0 _ ?side1 ?side2 A56.out).mono ?_); (case side1 => repeat (first | (with_reducible first | exact HI0.out | apply IsS79.alloc | apply IsS79.drewN | apply IsS79.drew | apply IsS79.set_0 | refine IsS79.far ?_ NB0_493.out _ | refine IsS79.far ?_ NB0_500.out _) | exact HI0.out)); (case side2 => repeat (first | (with_reducible first | exact HB.out | apply below_alloc | apply pw_below_drewN | apply below_drew1 | refine below_set ?_ (IsS79.ge HI0.out) | refine below_set ?_ GE493.out | refine below_set ?_ GE500.out) | exact HB.out)); rintro e w63 ⟨rfl, hi, hb, hk⟩; replace HO_501003 := Aside0.mk (Kd.R_mono (Kd.R_keep (IsS79.apart (show IsS79 w0 _ g x1000_1 from by repeat (first | (with_reducible first | exact HI0.out | apply IsS79.alloc | apply IsS79.drewN | apply IsS79.drew | apply IsS79.set_0 | refine IsS79.far ?_ NB0_493.out _ | refine IsS79.far ?_ NB0_500.out _) | exact HI0.out)) (aRk HO_501003).out (by decide)) hk (fun _ h => h.2)) (fun _ h => h.1)); replace BK493 := Aside0.mk (KeepBut.blk hk (g' := gb493) (o := .cells #[.int .i64 0, .int .i64 0, .bool false, .slice none 0 0] 24 (0, 0)) (aBk BK493).out NB493_0.out (by simp)); replace BK500 := Aside0.mk (KeepBut.blk hk (g' := gb500) (o := .cells #[.int .i64 t494, .int .i64 t496, .bool t498, u501003] 24 (0, 0)) (aBk BK500).out NB500_0.out (by simp)); replace HK := Aside0.mk (KeepBut.trans (by repeat (first | (with_reducible first | exact HK.out | apply KeepBut.set_ | apply keep_drewN | apply keep_drew | apply keep_alloc | refine keep_far ?_ GW493.out _ | refine keep_far ?_ GW500.out _) | exact HK.out)) hk (.inl rfl)); replace HB := Aside0.mk (hb); replace HI0 := Aside0.mk (hi); (try clear hb); (try clear hb2); (try clear hk); (try clear hi); obtain ⟨⟨hcz64_0, hcz64_1, hcz64_2, hcz64_3⟩, hfz64_0, hfz64_1, hfz64_2, hfz64_3⟩ := aC4 BK500) | ((with_reducible refine gate_builtin (b := .append) (xs := #[.tmp 78, .tmp 80]) rfl ?_); at_builtin; refine Kd.R_append (Kd.int .i64) w.heap.size rfl (.tmp 78) (.tmp 80) 22 3 (.int .i64 0) 8 rfl Try.underlying22 info3 rfl (by decide) (by omega) u501003 x501003_1 2 [.int .i64 2] (fun _ => True) (fun _ => False) rfl rfl ?aP (fun _ hk => hk.elim) ?aF ?aO (Below.refl _ _) ?aS ?aL ?_; (case aP => exact rfl); (case aF => exact (fun _ _ => trivial)); (case aO => exact (aRk HO_501003).out); (case aS => exact (keep_size (w := w) (g := g) (row := none) (by repeat (first | (with_reducible first | exact HK.out | apply KeepBut.set_ | apply keep_drewN | apply keep_drew | apply keep_alloc | refine keep_far ?_ GW493.out _ | refine keep_far ?_ GW500.out _) | exact HK.out)))); (case aL => have := LMc59.out; omega); intro v520 w65 ho hb hg hat; rw [← Ny519.out] at ho; replace BK493 := (aBg BK493 hg (Kd.R_ne HO_501003.out BK493.out (by decide))); replace BK500 := (aBg BK500 hg (Kd.R_ne HO_501003.out BK500.out (by decide))); replace HI0 := Aside0.mk (IsS79.grown (by repeat (first | (with_reducible first | exact HI0.out | apply IsS79.alloc | apply IsS79.drewN | apply IsS79.drew | apply IsS79.set_0 | refine IsS79.far ?_ NB0_493.out _ | refine IsS79.far ?_ NB0_500.out _) | exact HI0.out)) hg (IsS79.own_ne HI0.out HO_501003.out (by decide))); replace HB := Aside0.mk (below_weaken (aBl HB).out HL.out hb); replace HK := Aside0.mk (KeepBut.trans (by repeat (first | (with_reducible first | exact HK.out | apply KeepBut.set_ | apply keep_drewN | apply keep_drew | apply keep_alloc | refine keep_far ?_ GW493.out _ | refine keep_far ?_ GW500.out _) | exact HK.out)) (KeepBut.of_grown hg g) (Kd.R_base2 HO_501003.out)); have HO521 := Aside0.mk (ho); clear HO_501003; clear ho hb hg hat; obtain ⟨Ao66, co66, eo66⟩ := Kd.R_slice HO521.out; subst eo66; obtain ⟨⟨hcz67_0, hcz67_1, hcz67_2, hcz67_3⟩, hfz67_0, hfz67_1, hfz67_2, hfz67_3⟩ := aC4 BK500)))
            go_roundg k1
            case measure => have := HK1.out; omega
            case rel => exact ⟨(wrap64 (x10_1 + 1)), (t518), (y519), (.slice Ao66 y519.length co66), aR, H', ⟨by have := HK1.out; omega⟩, ⟨by (with_reducible repeat (first | apply Kd.R_alloc | apply Kd.R_drewN | apply Kd.R_drew)); exact Kd.R_mono (Kd.R_far (p := ⟨gb500, 3, none⟩) (Kd.R_types HO521.out BK500.out (by decide)) (fun _ hk => hk.2) (.slice Ao66 y519.length co66)) (fun _ hk => trivial)⟩, ⟨by (with_reducible repeat (first | refine blk_drewN ?_ _ | refine blk_drew ?_ | refine blk_alloc ?_ _)); refine blk_far ?_ NB493_500.out _; (with_reducible repeat (first | refine blk_drewN ?_ _ | refine blk_drew ?_ | refine blk_alloc ?_ _)); exact BK493.out⟩, ⟨by (with_reducible repeat (first | refine blk_drewN ?_ _ | refine blk_drew ?_ | refine blk_alloc ?_ _)); refine blk_put (cs := #[.int .i64 t494, .int .i64 t496, .bool t498, u501003]) ?_ 3 _ rfl; (with_reducible repeat (first | refine blk_drewN ?_ _ | refine blk_drew ?_ | refine blk_alloc ?_ _)); exact BK500.out⟩, ⟨by repeat (first | (with_reducible first | exact HI0.out | apply IsS79.alloc | apply IsS79.drewN | apply IsS79.drew | apply IsS79.set_0 | refine IsS79.far ?_ NB0_493.out _ | refine IsS79.far ?_ NB0_500.out _) | exact HI0.out)⟩, ⟨by repeat (first | (with_reducible first | exact HK.out | apply KeepBut.set_ | apply keep_drewN | apply keep_drew | apply keep_alloc | refine keep_far ?_ GW493.out _ | refine keep_far ?_ GW500.out _) | exact HK.out)⟩, aBl HB⟩
           ·rw [if_neg c59] at H
            exact absurd H (by simp)
          ·rw [if_neg c58] at H
           have c58b0 := decide_eq_false c58
           clear c58
           by_cases c68 : x501003_1.length < 17592186044416
           ·rw [if_pos c68] at H
            have LMc68 := Aside0.mk c68
            clear c68
            obtain ⟨y522, hy522⟩ : ∃ y_ : List Int, y_ = (x501003_1 ++ [0]) := ⟨_, rfl⟩
            replace H : (thermionkit_Tube.l0 k1 t501 t503 (wrap64 (x10_1 + 1)) t518 t494 t496 t498 y522) = some (r1, r2, r3, r4, r5) := by first | (rw [hy522]; with_reducible exact H) | (have H2_ := (Option.bind_some _ _).symm.trans H; rw [hy522]; with_reducible exact H2_) | (have H2_ := (Option.bind_some _ _).symm.trans H; with_reducible exact H2_) | with_reducible exact H | (rw [hy522]; exact H) | exact H
            have Ny522 := Aside0.mk hy522
            clear hy522
            have H' := Aside0.mk H
            clear H
            have hnb69 := NB500_493.out
            have hnc69 := NB493_500.out
            have hnb70 := NB500_0.out
            have hnc70 := NB0_500.out
            obtain ⟨⟨hcz71_0, hcz71_1, hcz71_2, hcz71_3⟩, hfz71_0, hfz71_1, hfz71_2, hfz71_3⟩ := aC4 BK500
            go_wp2_with fail
            repeat (go_quiet (fail); try go_wp2_with (first | (go_at_call 66; (with_reducible refine (thermionkit_Dice_One.calls g x1000_1 3 true t518 w0 _ ?side1 ?side2 A56.out).mono ?_); (case side1 => repeat (first | (with_reducible first | exact HI0.out | apply IsS79.alloc | apply IsS79.drewN | apply IsS79.drew | apply IsS79.set_0 | refine IsS79.far ?_ NB0_493.out _ | refine IsS79.far ?_ NB0_500.out _) | exact HI0.out)); (case side2 => repeat (first | (with_reducible first | exact HB.out | apply below_alloc | apply pw_below_drewN | apply below_drew1 | refine below_set ?_ (IsS79.ge HI0.out) | refine below_set ?_ GE493.out | refine below_set ?_ GE500.out) | exact HB.out)); rintro e w72 ⟨rfl, hi, hb, hk⟩; replace HO_501003 := Aside0.mk (Kd.R_mono (Kd.R_keep (IsS79.apart (show IsS79 w0 _ g x1000_1 from by repeat (first | (with_reducible first | exact HI0.out | apply IsS79.alloc | apply IsS79.drewN | apply IsS79.drew | apply IsS79.set_0 | refine IsS79.far ?_ NB0_493.out _ | refine IsS79.far ?_ NB0_500.out _) | exact HI0.out)) (aRk HO_501003).out (by decide)) hk (fun _ h => h.2)) (fun _ h => h.1)); replace BK493 := Aside0.mk (KeepBut.blk hk (g' := gb493) (o := .cells #[.int .i64 0, .int .i64 0, .bool false, .slice none 0 0] 24 (0, 0)) (aBk BK493).out NB493_0.out (by simp)); replace BK500 := Aside0.mk (KeepBut.blk hk (g' := gb500) (o := .cells #[.int .i64 t494, .int .i64 t496, .bool t498, u501003] 24 (0, 0)) (aBk BK500).out NB500_0.out (by simp)); replace HK := Aside0.mk (KeepBut.trans (by repeat (first | (with_reducible first | exact HK.out | apply KeepBut.set_ | apply keep_drewN | apply keep_drew | apply keep_alloc | refine keep_far ?_ GW493.out _ | refine keep_far ?_ GW500.out _) | exact HK.out)) hk (.inl rfl)); replace HB := Aside0.mk (hb); replace HI0 := Aside0.mk (hi); (try clear hb); (try clear hb2); (try clear hk); (try clear hi); obtain ⟨⟨hcz73_0, hcz73_1, hcz73_2, hcz73_3⟩, hfz73_0, hfz73_1, hfz73_2, hfz73_3⟩ := aC4 BK500) | ((with_reducible refine gate_builtin (b := .append) (xs := #[.tmp 78, .tmp 80]) rfl ?_); at_builtin; refine Kd.R_append (Kd.int .i64) w.heap.size rfl (.tmp 78) (.tmp 80) 22 3 (.int .i64 0) 8 rfl Try.underlying22 info3 rfl (by decide) (by omega) u501003 x501003_1 0 [.int .i64 0] (fun _ => True) (fun _ => False) rfl rfl ?aP (fun _ hk => hk.elim) ?aF ?aO (Below.refl _ _) ?aS ?aL ?_; (case aP => exact rfl); (case aF => exact (fun _ _ => trivial)); (case aO => exact (aRk HO_501003).out); (case aS => exact (keep_size (w := w) (g := g) (row := none) (by repeat (first | (with_reducible first | exact HK.out | apply KeepBut.set_ | apply keep_drewN | apply keep_drew | apply keep_alloc | refine keep_far ?_ GW493.out _ | refine keep_far ?_ GW500.out _) | exact HK.out)))); (case aL => have := LMc68.out; omega); intro v523 w74 ho hb hg hat; rw [← Ny522.out] at ho; replace BK493 := (aBg BK493 hg (Kd.R_ne HO_501003.out BK493.out (by decide))); replace BK500 := (aBg BK500 hg (Kd.R_ne HO_501003.out BK500.out (by decide))); replace HI0 := Aside0.mk (IsS79.grown (by repeat (first | (with_reducible first | exact HI0.out | apply IsS79.alloc | apply IsS79.drewN | apply IsS79.drew | apply IsS79.set_0 | refine IsS79.far ?_ NB0_493.out _ | refine IsS79.far ?_ NB0_500.out _) | exact HI0.out)) hg (IsS79.own_ne HI0.out HO_501003.out (by decide))); replace HB := Aside0.mk (below_weaken (aBl HB).out HL.out hb); replace HK := Aside0.mk (KeepBut.trans (by repeat (first | (with_reducible first | exact HK.out | apply KeepBut.set_ | apply keep_drewN | apply keep_drew | apply keep_alloc | refine keep_far ?_ GW493.out _ | refine keep_far ?_ GW500.out _) | exact HK.out)) (KeepBut.of_grown hg g) (Kd.R_base2 HO_501003.out)); have HO524 := Aside0.mk (ho); clear HO_501003; clear ho hb hg hat; obtain ⟨Ao75, co75, eo75⟩ := Kd.R_slice HO524.out; subst eo75; obtain ⟨⟨hcz76_0, hcz76_1, hcz76_2, hcz76_3⟩, hfz76_0, hfz76_1, hfz76_2, hfz76_3⟩ := aC4 BK500)))
            go_roundg k1
            case measure => have := HK1.out; omega
            case rel => exact ⟨(wrap64 (x10_1 + 1)), (t518), (y522), (.slice Ao75 y522.length co75), aR, H', ⟨by have := HK1.out; omega⟩, ⟨by (with_reducible repeat (first | apply Kd.R_alloc | apply Kd.R_drewN | apply Kd.R_drew)); exact Kd.R_mono (Kd.R_far (p := ⟨gb500, 3, none⟩) (Kd.R_types HO524.out BK500.out (by decide)) (fun _ hk => hk.2) (.slice Ao75 y522.length co75)) (fun _ hk => trivial)⟩, ⟨by (with_reducible repeat (first | refine blk_drewN ?_ _ | refine blk_drew ?_ | refine blk_alloc ?_ _)); refine blk_far ?_ NB493_500.out _; (with_reducible repeat (first | refine blk_drewN ?_ _ | refine blk_drew ?_ | refine blk_alloc ?_ _)); exact BK493.out⟩, ⟨by (with_reducible repeat (first | refine blk_drewN ?_ _ | refine blk_drew ?_ | refine blk_alloc ?_ _)); refine blk_put (cs := #[.int .i64 t494, .int .i64 t496, .bool t498, u501003]) ?_ 3 _ rfl; (with_reducible repeat (first | refine blk_drewN ?_ _ | refine blk_drew ?_ | refine blk_alloc ?_ _)); exact BK500.out⟩, ⟨by repeat (first | (with_reducible first | exact HI0.out | apply IsS79.alloc | apply IsS79.drewN | apply IsS79.drew | apply IsS79.set_0 | refine IsS79.far ?_ NB0_493.out _ | refine IsS79.far ?_ NB0_500.out _) | exact HI0.out)⟩, ⟨by repeat (first | (with_reducible first | exact HK.out | apply KeepBut.set_ | apply keep_drewN | apply keep_drew | apply keep_alloc | refine keep_far ?_ GW493.out _ | refine keep_far ?_ GW500.out _) | exact HK.out)⟩, aBl HB⟩
           ·rw [if_neg c68] at H
            exact absurd H (by simp)
         ·replace c57 := Bool.eq_false_iff.mpr c57
          subst c57
          have H1 : (if x501003_1.length < 17592186044416 then (thermionkit_Tube.l0 k1 t501 t503 (wrap64 (x10_1 + 1)) t518 t494 t496 t498 (x501003_1 ++ [0])) else (none)) = some (r1, r2, r3, r4, r5) := by rw [if_neg (show ¬ (false = true) by decide)] at H; exact H
          clear H
          have H := H1
          clear H1
          by_cases c77 : x501003_1.length < 17592186044416
          ·rw [if_pos c77] at H
           have LMc77 := Aside0.mk c77
           clear c77
           obtain ⟨y525, hy525⟩ : ∃ y_ : List Int, y_ = (x501003_1 ++ [0]) := ⟨_, rfl⟩
           replace H : (thermionkit_Tube.l0 k1 t501 t503 (wrap64 (x10_1 + 1)) t518 t494 t496 t498 y525) = some (r1, r2, r3, r4, r5) := by first | (rw [hy525]; with_reducible exact H) | (have H2_ := (Option.bind_some _ _).symm.trans H; rw [hy525]; with_reducible exact H2_) | (have H2_ := (Option.bind_some _ _).symm.trans H; with_reducible exact H2_) | with_reducible exact H | (rw [hy525]; exact H) | exact H
           have Ny525 := Aside0.mk hy525
           clear hy525
           have H' := Aside0.mk H
           clear H
           have hnb78 := NB500_493.out
           have hnc78 := NB493_500.out
           have hnb79 := NB500_0.out
           have hnc79 := NB0_500.out
           obtain ⟨⟨hcz80_0, hcz80_1, hcz80_2, hcz80_3⟩, hfz80_0, hfz80_1, hfz80_2, hfz80_3⟩ := aC4 BK500
           go_wp2_with fail
           repeat (go_quiet (fail); try go_wp2_with (first | (go_at_call 66; (with_reducible refine (thermionkit_Dice_One.calls g x1000_1 3 false t518 w0 _ ?side1 ?side2 A56.out).mono ?_); (case side1 => repeat (first | (with_reducible first | exact HI0.out | apply IsS79.alloc | apply IsS79.drewN | apply IsS79.drew | apply IsS79.set_0 | refine IsS79.far ?_ NB0_493.out _ | refine IsS79.far ?_ NB0_500.out _) | exact HI0.out)); (case side2 => repeat (first | (with_reducible first | exact HB.out | apply below_alloc | apply pw_below_drewN | apply below_drew1 | refine below_set ?_ (IsS79.ge HI0.out) | refine below_set ?_ GE493.out | refine below_set ?_ GE500.out) | exact HB.out)); rintro e w81 ⟨rfl, hi, hb, hk⟩; replace HO_501003 := Aside0.mk (Kd.R_mono (Kd.R_keep (IsS79.apart (show IsS79 w0 _ g x1000_1 from by repeat (first | (with_reducible first | exact HI0.out | apply IsS79.alloc | apply IsS79.drewN | apply IsS79.drew | apply IsS79.set_0 | refine IsS79.far ?_ NB0_493.out _ | refine IsS79.far ?_ NB0_500.out _) | exact HI0.out)) (aRk HO_501003).out (by decide)) hk (fun _ h => h.2)) (fun _ h => h.1)); replace BK493 := Aside0.mk (KeepBut.blk hk (g' := gb493) (o := .cells #[.int .i64 0, .int .i64 0, .bool false, .slice none 0 0] 24 (0, 0)) (aBk BK493).out NB493_0.out (by simp)); replace BK500 := Aside0.mk (KeepBut.blk hk (g' := gb500) (o := .cells #[.int .i64 t494, .int .i64 t496, .bool t498, u501003] 24 (0, 0)) (aBk BK500).out NB500_0.out (by simp)); replace HK := Aside0.mk (KeepBut.trans (by repeat (first | (with_reducible first | exact HK.out | apply KeepBut.set_ | apply keep_drewN | apply keep_drew | apply keep_alloc | refine keep_far ?_ GW493.out _ | refine keep_far ?_ GW500.out _) | exact HK.out)) hk (.inl rfl)); replace HB := Aside0.mk (hb); replace HI0 := Aside0.mk (hi); (try clear hb); (try clear hb2); (try clear hk); (try clear hi); obtain ⟨⟨hcz82_0, hcz82_1, hcz82_2, hcz82_3⟩, hfz82_0, hfz82_1, hfz82_2, hfz82_3⟩ := aC4 BK500) | ((with_reducible refine gate_builtin (b := .append) (xs := #[.tmp 78, .tmp 80]) rfl ?_); at_builtin; refine Kd.R_append (Kd.int .i64) w.heap.size rfl (.tmp 78) (.tmp 80) 22 3 (.int .i64 0) 8 rfl Try.underlying22 info3 rfl (by decide) (by omega) u501003 x501003_1 0 [.int .i64 0] (fun _ => True) (fun _ => False) rfl rfl ?aP (fun _ hk => hk.elim) ?aF ?aO (Below.refl _ _) ?aS ?aL ?_; (case aP => exact rfl); (case aF => exact (fun _ _ => trivial)); (case aO => exact (aRk HO_501003).out); (case aS => exact (keep_size (w := w) (g := g) (row := none) (by repeat (first | (with_reducible first | exact HK.out | apply KeepBut.set_ | apply keep_drewN | apply keep_drew | apply keep_alloc | refine keep_far ?_ GW493.out _ | refine keep_far ?_ GW500.out _) | exact HK.out)))); (case aL => have := LMc77.out; omega); intro v526 w83 ho hb hg hat; rw [← Ny525.out] at ho; replace BK493 := (aBg BK493 hg (Kd.R_ne HO_501003.out BK493.out (by decide))); replace BK500 := (aBg BK500 hg (Kd.R_ne HO_501003.out BK500.out (by decide))); replace HI0 := Aside0.mk (IsS79.grown (by repeat (first | (with_reducible first | exact HI0.out | apply IsS79.alloc | apply IsS79.drewN | apply IsS79.drew | apply IsS79.set_0 | refine IsS79.far ?_ NB0_493.out _ | refine IsS79.far ?_ NB0_500.out _) | exact HI0.out)) hg (IsS79.own_ne HI0.out HO_501003.out (by decide))); replace HB := Aside0.mk (below_weaken (aBl HB).out HL.out hb); replace HK := Aside0.mk (KeepBut.trans (by repeat (first | (with_reducible first | exact HK.out | apply KeepBut.set_ | apply keep_drewN | apply keep_drew | apply keep_alloc | refine keep_far ?_ GW493.out _ | refine keep_far ?_ GW500.out _) | exact HK.out)) (KeepBut.of_grown hg g) (Kd.R_base2 HO_501003.out)); have HO527 := Aside0.mk (ho); clear HO_501003; clear ho hb hg hat; obtain ⟨Ao84, co84, eo84⟩ := Kd.R_slice HO527.out; subst eo84; obtain ⟨⟨hcz85_0, hcz85_1, hcz85_2, hcz85_3⟩, hfz85_0, hfz85_1, hfz85_2, hfz85_3⟩ := aC4 BK500)))
           go_roundg k1
           case measure => have := HK1.out; omega
           case rel => exact ⟨(wrap64 (x10_1 + 1)), (t518), (y525), (.slice Ao84 y525.length co84), aR, H', ⟨by have := HK1.out; omega⟩, ⟨by (with_reducible repeat (first | apply Kd.R_alloc | apply Kd.R_drewN | apply Kd.R_drew)); exact Kd.R_mono (Kd.R_far (p := ⟨gb500, 3, none⟩) (Kd.R_types HO527.out BK500.out (by decide)) (fun _ hk => hk.2) (.slice Ao84 y525.length co84)) (fun _ hk => trivial)⟩, ⟨by (with_reducible repeat (first | refine blk_drewN ?_ _ | refine blk_drew ?_ | refine blk_alloc ?_ _)); refine blk_far ?_ NB493_500.out _; (with_reducible repeat (first | refine blk_drewN ?_ _ | refine blk_drew ?_ | refine blk_alloc ?_ _)); exact BK493.out⟩, ⟨by (with_reducible repeat (first | refine blk_drewN ?_ _ | refine blk_drew ?_ | refine blk_alloc ?_ _)); refine blk_put (cs := #[.int .i64 t494, .int .i64 t496, .bool t498, u501003]) ?_ 3 _ rfl; (with_reducible repeat (first | refine blk_drewN ?_ _ | refine blk_drew ?_ | refine blk_alloc ?_ _)); exact BK500.out⟩, ⟨by repeat (first | (with_reducible first | exact HI0.out | apply IsS79.alloc | apply IsS79.drewN | apply IsS79.drew | apply IsS79.set_0 | refine IsS79.far ?_ NB0_493.out _ | refine IsS79.far ?_ NB0_500.out _) | exact HI0.out)⟩, ⟨by repeat (first | (with_reducible first | exact HK.out | apply KeepBut.set_ | apply keep_drewN | apply keep_drew | apply keep_alloc | refine keep_far ?_ GW493.out _ | refine keep_far ?_ GW500.out _) | exact HK.out)⟩, aBl HB⟩
          ·rw [if_neg c77] at H
           exact absurd H (by simp)
       ·rw [if_neg c39] at H
        obtain ⟨c39b0, c39b1⟩ := aNe c39
        by_cases c86 : x501003_1.length < 17592186044416
        ·rw [if_pos c86] at H
         have LMc86 := Aside0.mk c86
         clear c86
         obtain ⟨y528, hy528⟩ : ∃ y_ : List Int, y_ = (x501003_1 ++ [0]) := ⟨_, rfl⟩
         replace H : (thermionkit_Tube.l0 k1 t501 t503 (wrap64 (x10_1 + 1)) x1000_1 t494 t496 t498 y528) = some (r1, r2, r3, r4, r5) := by first | (rw [hy528]; with_reducible exact H) | (have H2_ := (Option.bind_some _ _).symm.trans H; rw [hy528]; with_reducible exact H2_) | (have H2_ := (Option.bind_some _ _).symm.trans H; with_reducible exact H2_) | with_reducible exact H | (rw [hy528]; exact H) | exact H
         have Ny528 := Aside0.mk hy528
         clear hy528
         have H' := Aside0.mk H
         clear H
         have hnb87 := NB500_493.out
         have hnc87 := NB493_500.out
         have hnb88 := NB500_0.out
         have hnc88 := NB0_500.out
         obtain ⟨⟨hcz89_0, hcz89_1, hcz89_2, hcz89_3⟩, hfz89_0, hfz89_1, hfz89_2, hfz89_3⟩ := aC4 BK500
         go_wp2_with fail
         repeat (go_quiet (fail); try go_wp2_with (first | ((with_reducible refine gate_builtin (b := .append) (xs := #[.tmp 78, .tmp 80]) rfl ?_); at_builtin; refine Kd.R_append (Kd.int .i64) w.heap.size rfl (.tmp 78) (.tmp 80) 22 3 (.int .i64 0) 8 rfl Try.underlying22 info3 rfl (by decide) (by omega) u501003 x501003_1 0 [.int .i64 0] (fun _ => True) (fun _ => False) rfl rfl ?aP (fun _ hk => hk.elim) ?aF ?aO (Below.refl _ _) ?aS ?aL ?_; (case aP => exact rfl); (case aF => exact (fun _ _ => trivial)); (case aO => exact (aRk HO_501003).out); (case aS => exact (keep_size (w := w) (g := g) (row := none) (by repeat (first | (with_reducible first | exact HK.out | apply KeepBut.set_ | apply keep_drewN | apply keep_drew | apply keep_alloc | refine keep_far ?_ GW493.out _ | refine keep_far ?_ GW500.out _) | exact HK.out)))); (case aL => have := LMc86.out; omega); intro v529 w90 ho hb hg hat; rw [← Ny528.out] at ho; replace BK493 := (aBg BK493 hg (Kd.R_ne HO_501003.out BK493.out (by decide))); replace BK500 := (aBg BK500 hg (Kd.R_ne HO_501003.out BK500.out (by decide))); replace HI0 := Aside0.mk (IsS79.grown (by repeat (first | (with_reducible first | exact HI0.out | apply IsS79.alloc | apply IsS79.drewN | apply IsS79.drew | apply IsS79.set_0 | refine IsS79.far ?_ NB0_493.out _ | refine IsS79.far ?_ NB0_500.out _) | exact HI0.out)) hg (IsS79.own_ne HI0.out HO_501003.out (by decide))); replace HB := Aside0.mk (below_weaken (aBl HB).out HL.out hb); replace HK := Aside0.mk (KeepBut.trans (by repeat (first | (with_reducible first | exact HK.out | apply KeepBut.set_ | apply keep_drewN | apply keep_drew | apply keep_alloc | refine keep_far ?_ GW493.out _ | refine keep_far ?_ GW500.out _) | exact HK.out)) (KeepBut.of_grown hg g) (Kd.R_base2 HO_501003.out)); have HO530 := Aside0.mk (ho); clear HO_501003; clear ho hb hg hat; obtain ⟨Ao91, co91, eo91⟩ := Kd.R_slice HO530.out; subst eo91; obtain ⟨⟨hcz92_0, hcz92_1, hcz92_2, hcz92_3⟩, hfz92_0, hfz92_1, hfz92_2, hfz92_3⟩ := aC4 BK500)))
         go_roundg k1
         case measure => have := HK1.out; omega
         case rel => exact ⟨(wrap64 (x10_1 + 1)), (x1000_1), (y528), (.slice Ao91 y528.length co91), aR, H', ⟨by have := HK1.out; omega⟩, ⟨by (with_reducible repeat (first | apply Kd.R_alloc | apply Kd.R_drewN | apply Kd.R_drew)); exact Kd.R_mono (Kd.R_far (p := ⟨gb500, 3, none⟩) (Kd.R_types HO530.out BK500.out (by decide)) (fun _ hk => hk.2) (.slice Ao91 y528.length co91)) (fun _ hk => trivial)⟩, ⟨by (with_reducible repeat (first | refine blk_drewN ?_ _ | refine blk_drew ?_ | refine blk_alloc ?_ _)); refine blk_far ?_ NB493_500.out _; (with_reducible repeat (first | refine blk_drewN ?_ _ | refine blk_drew ?_ | refine blk_alloc ?_ _)); exact BK493.out⟩, ⟨by (with_reducible repeat (first | refine blk_drewN ?_ _ | refine blk_drew ?_ | refine blk_alloc ?_ _)); refine blk_put (cs := #[.int .i64 t494, .int .i64 t496, .bool t498, u501003]) ?_ 3 _ rfl; (with_reducible repeat (first | refine blk_drewN ?_ _ | refine blk_drew ?_ | refine blk_alloc ?_ _)); exact BK500.out⟩, ⟨by repeat (first | (with_reducible first | exact HI0.out | apply IsS79.alloc | apply IsS79.drewN | apply IsS79.drew | apply IsS79.set_0 | refine IsS79.far ?_ NB0_493.out _ | refine IsS79.far ?_ NB0_500.out _) | exact HI0.out)⟩, ⟨by repeat (first | (with_reducible first | exact HK.out | apply KeepBut.set_ | apply keep_drewN | apply keep_drew | apply keep_alloc | refine keep_far ?_ GW493.out _ | refine keep_far ?_ GW500.out _) | exact HK.out)⟩, aBl HB⟩
        ·rw [if_neg c86] at H
         exact absurd H (by simp)
   ·rw [if_neg c21] at H
    have c21b0 := decide_eq_false c21
    clear c21
    simp only [Option.some.injEq, Prod.mk.injEq] at H
    obtain ⟨rfl, rfl, rfl, rfl, rfl⟩ := H
    have hnb93 := NB500_493.out
    have hnc93 := NB493_500.out
    have hnb94 := NB500_0.out
    have hnc94 := NB0_500.out
    obtain ⟨⟨hcz95_0, hcz95_1, hcz95_2, hcz95_3⟩, hfz95_0, hfz95_1, hfz95_2, hfz95_3⟩ := aC4 BK500
    have hnb96 := NB493_0.out
    have hnc96 := NB0_493.out
    obtain ⟨⟨hcz97_0, hcz97_1, hcz97_2, hcz97_3⟩, hfz97_0, hfz97_1, hfz97_2, hfz97_3⟩ := aC4 BK493
    obtain ⟨Ao98, co98, eo98⟩ := Kd.R_slice HO_501003.out
    subst eo98
    go_wp2
    repeat (go_quiet (fail); try go_wp2)
    refine bodyPost_ret (results_cell_row rfl _ _ gb493 24 #[.int .i64 t494, .int .i64 t496, .bool t498, .slice Ao98 x501003_1.length co98] (0, 0) _ rfl (by (with_reducible repeat (first | refine blk_drewN ?_ _ | refine blk_drew ?_ | refine blk_alloc ?_ _)); refine blk_put (cs := #[.int .i64 t494, .int .i64 t496, .bool t498, .slice none 0 0]) ?_ 3 _ rfl; (with_reducible repeat (first | refine blk_drewN ?_ _ | refine blk_drew ?_ | refine blk_alloc ?_ _)); refine blk_put (cs := #[.int .i64 t494, .int .i64 t496, .bool false, .slice none 0 0]) ?_ 2 _ rfl; (with_reducible repeat (first | refine blk_drewN ?_ _ | refine blk_drew ?_ | refine blk_alloc ?_ _)); refine blk_put (cs := #[.int .i64 t494, .int .i64 0, .bool false, .slice none 0 0]) ?_ 1 _ rfl; (with_reducible repeat (first | refine blk_drewN ?_ _ | refine blk_drew ?_ | refine blk_alloc ?_ _)); refine blk_put (cs := #[.int .i64 0, .int .i64 0, .bool false, .slice none 0 0]) ?_ 0 _ rfl; (with_reducible repeat (first | refine blk_drewN ?_ _ | refine blk_drew ?_ | refine blk_alloc ?_ _)); exact BK493.out) Try.underlying24 rfl (by kernel_rfl)) rfl ?_
    exact ⟨_, by first | rfl | (simp [errW_none, errW_some] <;> rfl) | (simp only [← hji4]; first | rfl | (simp [errW_none, errW_some] <;> rfl)) | (simp [*, errW_none, errW_some] <;> rfl), by (with_reducible repeat (first | apply Kd.R_alloc | apply Kd.R_drewN | apply Kd.R_drew)); exact Kd.R_mono (Kd.R_far (p := ⟨gb493, 3, none⟩) (Kd.R_far (p := ⟨gb493, 2, none⟩) (Kd.R_far (p := ⟨gb493, 1, none⟩) (Kd.R_far (p := ⟨gb493, 0, none⟩) (Kd.R_types HO_501003.out BK493.out (by decide)) (fun _ hk => hk.2) (.int .i64 t494)) (fun _ hk => hk.2) (.int .i64 t496)) (fun _ hk => hk.2) (.bool t498)) (fun _ hk => hk.2) (.slice Ao98 x501003_1.length co98)) (fun _ hk => trivial), by repeat (first | (with_reducible first | exact HI0.out | apply IsS79.alloc | apply IsS79.drewN | apply IsS79.drew | apply IsS79.set_0 | refine IsS79.far ?_ NB0_493.out _ | refine IsS79.far ?_ NB0_500.out _) | exact HI0.out), by repeat (first | (with_reducible first | exact HB.out | apply below_alloc | apply pw_below_drewN | apply below_drew1 | refine below_set ?_ (IsS79.ge HI0.out) | refine below_set ?_ GE493.out | refine below_set ?_ GE500.out) | exact HB.out), by repeat (first | (with_reducible first | exact HK.out | apply KeepBut.set_ | apply keep_drewN | apply keep_drew | apply keep_alloc | refine keep_far ?_ GW493.out _ | refine keep_far ?_ GW500.out _) | exact HK.out)⟩
end Go.Proofs.Ytndkkjpgnmahbaa.Print
end

section
namespace Go.Proofs.Ytndkkjpgnmahbaa.Print
open Go.RowKit Go.Proofs.YtndkkjpgnmahbaaW.PrintWords Go.Proofs.YtndkkjpgnmahbaaW.PrintLast Go.Proofs.YtndkkjpgnmahbaaW.PrintMore
set_option linter.unusedVariables false
theorem tube_go {W H : Nat} (hW : 1 ≤ W ∧ W ≤ 64) (hH : H ≤ 64) (R : Bool) (x8 x9 : Int) : ∀ (d i : Nat) (s : Int) (C : List Int), i + d = W * H → C.length = i → ∃ C' s', thermionkit_Tube.l0 (d + 1) x8 x9 (i : Int) s W H R C = some ((W : Int), (H : Int), R, C', s') ∧ C'.length = W * H
 | 0, i, s, C, h, hl => by
  have hWH : W * H ≤ 64 * 64 := Nat.mul_le_mul hW.2 hH
  have hw : wrap64 ((W : Int) * H) = ((W * H : Nat) : Int) := by rw [← Int.natCast_mul, IntWalk.wrap64_in _ (by omega)]
  exact ⟨C, s, by rw [thermionkit_Tube.l0, hw, if_neg (by omega)], by omega⟩
 | d + 1, i, s, C, h, hl => by
  have hWH : W * H ≤ 64 * 64 := Nat.mul_le_mul hW.2 hH
  have hw : wrap64 ((W : Int) * H) = ((W * H : Nat) : Int) := by rw [← Int.natCast_mul, IntWalk.wrap64_in _ (by omega)]
  have hi : wrap64 ((i : Int) + 1) = ((i + 1 : Nat) : Int) := by rw [IntWalk.wrap64_in _ (by omega)]; omega
  have ih : ∀ (s : Int) (x : Int), ∃ C' s', thermionkit_Tube.l0 (d + 1) x8 x9 ((i + 1 : Nat) : Int) s W H R (C ++ [x]) = some ((W : Int), (H : Int), R, C', s') ∧ C'.length = W * H := fun s x => tube_go hW hH R x8 x9 d (i + 1) s (C ++ [x]) (by omega) (by rw [List.length_append]; simp; omega)
  have hc : C.length < 17592186044416 := by omega
  obtain ⟨t, ht⟩ := one_eq s 3 (by omega) (by omega)
  rw [thermionkit_Tube.l0, hw, if_pos (by omega), if_neg (by omega), hi, ht]
  simp only [if_pos hc, Option.bind_some]
  split
  ·exact ih _ _
  ·split
   ·exact ih _ _
   ·split
    ·split
     ·split
      ·exact ih _ _
      ·exact ih _ _
     ·split
      ·split
       ·exact ih _ _
       ·exact ih _ _
      ·exact ih _ _
    ·exact ih _ _
theorem tube_total (s a1 a2 : Int) (h1 : 4 ≤ a1 ∧ a1 ≤ 16) (h2 : 1 ≤ a2 ∧ a2 ≤ 16) : ∃ (W H : Int) (R : Bool) (C : List Int) (s1 : Int) (K : Nat), thermionkit_Tube.f K s a1 a2 = some (W, H, R, C, s1) ∧ C.length ≤ 256 ∧ 0 < C.length := by
 have hm : mx 4 a1 = a1 := by unfold mx; split <;> omega
 obtain ⟨W, e1, b1, b2⟩ := between_eq s 4 a1 h1.1 (by omega) (by omega)
 obtain ⟨H, e2, b3, b4⟩ := between_eq (nextWord s) 1 a2 h2.1 (by omega) (by omega)
 obtain ⟨R, e3⟩ := one_eq (nextWord (nextWord s)) 2 (by omega) (by omega)
 have hw : wrap64 (W - 2) = W - 2 := IntWalk.wrap64_in _ (by omega)
 obtain ⟨x8, e4, _, _⟩ := between_eq (nextWord (nextWord (nextWord s))) 1 (W - 2) (by omega) (by omega) (by omega)
 obtain ⟨x9, e5, _, _⟩ := upto_eq (nextWord (nextWord (nextWord (nextWord s)))) H (by omega) (by omega)
 obtain ⟨W', rfl⟩ : ∃ n : Nat, W = n := ⟨W.toNat, by omega⟩
 obtain ⟨H', rfl⟩ : ∃ n : Nat, H = n := ⟨H.toNat, by omega⟩
 obtain ⟨C, s1, h, hl⟩ := tube_go (W := W') (H := H') ⟨by omega, by omega⟩ (by omega) R x8 x9 (W' * H') 0 (nextWord (nextWord (nextWord (nextWord (nextWord s))))) [] (by omega) rfl
 refine ⟨W', H', R, C, s1, W' * H' + 1, ?_, ?_, ?_⟩
 ·unfold thermionkit_Tube.f
  rw [hm, obind e1, obind e2, obind e3, hw, obind e4, obind e5]
  exact h
 ·rw [hl]
  exact Nat.mul_le_mul (show W' ≤ 16 by omega) (show H' ≤ 16 by omega)
 ·rw [hl]
  exact Nat.mul_pos (by omega) (by omega)
end Go.Proofs.Ytndkkjpgnmahbaa.Print
end

section
namespace Go.Proofs.Ytndkkjpgnmahbaa.Print
open Go.RowKit Go.Proofs.YtndkkjpgnmahbaaW.PrintWords Go.Proofs.YtndkkjpgnmahbaaW.PrintLast Go.Proofs.YtndkkjpgnmahbaaW.PrintMore Go.Proofs.Ytndkkjpgnmahbaa.H Go.Proofs.Field
set_option linter.unusedVariables false
theorem cells7 {a b c d e f g : Prop} (h1 : a ∧ b ∧ c ∧ d) (h2 : e ∧ f ∧ g) : a ∧ b ∧ c ∧ d ∧ e ∧ f ∧ g := ⟨h1.1, h1.2.1, h1.2.2.1, h1.2.2.2, h2⟩
section
variable {P : Program} {ops : Array Oper} {o : Oper} {a : Act} {Q : Exit → Act → World → Prop} {K : Act → World → Prop} {w W : World} {l : List (Nat × Array Value × TypeId)}
theorem new_stepB {N : Option Tmp} (hm : Mem w W l) (hw : Region.wanted o (yielded ops a.tmps) = true) (hN : o.dst = N) (t : TypeId) (ho : o.op = .alloc t) {cs : Array Value} {s b : Nat} (hi : (P.info? t).map (fun i => (i.zero, i.size, i.bytes)) = some (some (.agg cs), s, b))
  (h : ∀ g W1, Mem w W1 ((g, cs, t) :: l) → Below W.heap.size W W1 → K (a.put N (.pointer (some ⟨g, 0, none⟩))) W1) : if Region.wanted o (yielded ops a.tmps) = true then Oper.wp P o a W K Q else K (a.put N undef) W := by
 subst hN
 obtain ⟨i, hi1, hi2, _, _⟩ := info_parts hi
 refine event_step (w1 := W.alloc (.cells cs t (0, 0))) hw ?_ (h _ _ (hm.new rfl (blk_new W _) (below_alloc (Below.refl _ _) _)) (below_alloc (Below.refl _ _) _))
 unfold execOp
 simp [ho, Instr.alloc, zeroValue, typeInfo, hi1, hi2, newVar, newRow, newObj, Value.cells, Sem.run_bind, Result.andThen]
 rfl
theorem R_row {v : Value} {base : Nat} {ok : Nat → Prop} {xs : List Int} {g : Nat} {old cs : Array Value} {t : TypeId} (h : Kd.R (Kd.int .i64) 3 W base ok v xs) (hg : W.heap[g]? = some (.cells old t (0, 0))) (ht : 3 ≠ t) : Kd.R (Kd.int .i64) 3 (W.setRow g cs) base ok v xs := by
 have hne := Kd.R_ne h hg ht
 exact Kd.R_mono (Kd.R_step (Kd.R_tight rfl h) (fun k hk hlt => setRow_other W g k cs (fun e => hne (by rw [← e]; exact hk)))) (fun k hk => h.1 k hk.symm)
theorem store_stepB {N : Option Tmp} {g : Nat} {old cs : Array Value} {t : TypeId} {v : Value} {base : Nat} {ok : Nat → Prop} {xs : List Int} (hm : Mem w W ((g, old, t) :: l)) (hw : Region.wanted o (yielded ops a.tmps) = true) (hN : o.dst = N) (ty : TypeId) (x y : Operand) (ho : o.op = .store ty x y)
  (hx : a.eval x = .pointer (some ⟨g, 0, none⟩)) (hy : a.eval y = .agg cs) {k : Nat} (hi : (P.info? ty).map (·.size) = some k) (hold : old.size = k) (hs : cs.size = k) (h1 : cs.all (·.oneCell') = true)
  (hr : Kd.R (Kd.int .i64) 3 W base ok v xs) (hg : 3 ≠ t)
  (h : ∀ W1, Mem w W1 ((g, cs, t) :: l) → Kd.R (Kd.int .i64) 3 W1 base ok v xs → K (a.put N undef) W1) : if Region.wanted o (yielded ops a.tmps) = true then Oper.wp P o a W K Q else K (a.put N undef) W := by
 subst hN
 rw [if_pos hw]
 exact wp_store_row ty x y ho g cs hx hy t old hm.head (by rw [hi, hs]) (by rw [hold, hs]) h1 (h _ (hm.row cs) (R_row hr hm.head hg))
end
end Go.Proofs.Ytndkkjpgnmahbaa.Print
end
