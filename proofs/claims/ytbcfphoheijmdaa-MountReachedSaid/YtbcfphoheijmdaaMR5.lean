/- Part 5 of the texts of a claim about Ytbcfphoheijmdaa, put together by a program of this work: what the Go functions do, and that their calls do so. -/
import Derived.Test.YtbcfphoheijmdaaMR3
import Derived.Test.YtbcfphoheijmdaaMR4
import Derived.KernelRfl
section
/- What the Go function thermionlaw04_awake does, as a Lean function, and that its call does so. Printed by a program of this work out of the translation. -/
namespace Go.Proofs.Ytbcfphoheijmdaa.Print
open Go.RowKit Go.Proofs.YtbcfphoheijmdaaW.PrintWords Go.Proofs.YtbcfphoheijmdaaW.PrintLast Go.Proofs.YtbcfphoheijmdaaW.PrintMore
attribute [local go_sem] max2_int min2_int max_two min_two max_three min_three max_four min_four
set_option linter.unusedVariables false
set_option linter.unusedSimpArgs false

/-! ### thermionlaw04_awake: function 21 -/
def thermionlaw04_awake.f (k : Nat)  : Option (Bool) := (thermionlaw04_chain.f).bind fun bt144 => ((mount_Tight.f bt144.1 bt144.2).bind fun bt148 => ((thermionlaw04_kit.f).bind fun bt152 => ((mount_Orders.f bt152.1 bt152.2).bind fun bt156 => (if bt148.2 = 0 then (if (bt148.1.length : Int) = 3 then (if 0 < (bt148.1.length : Int) then ((thermionlaw04_of.f 10 12).bind fun bt159 => ((thermionlaw04_of.f 17 18).bind fun bt161 => ((thermionkit_SameRanges.f k (rd_L6 bt148.1 0) (([(⟨0, 0⟩ : S32), (⟨bt159.1, bt159.2⟩ : S32), (⟨bt161.1, bt161.2⟩ : S32)] : List (S32)))).bind fun t166 => (if t166 = true then (if bt156.1 = 2 then (some (bt156.2 == 0)) else (some false)) else (some false))))) else (none)) else (some false)) else (some false)))))
theorem thermionlaw04_awake.mono : ∀ k, LeO (thermionlaw04_awake.f k ) (thermionlaw04_awake.f (k + 1) ) := by
 intro  k
 unfold thermionlaw04_awake.f
 repeat' first
   | (with_reducible exact thermionkit_SameRanges.mono _ _ _)
   | (with_reducible exact LeO.refl _)
   | (with_reducible exact LeO.none _)
   | (with_reducible refine LeO.ite ?_ ?_)
   | (with_reducible refine LeO.bind ?_ (fun _ => ?_))
   | exact thermionkit_SameRanges.mono _ _ _
   | exact LeO.none _
   | refine LeO.ite ?_ ?_
   | refine LeO.bind ?_ (fun _ => ?_)
def thermionlaw04_awake.T3 : Bool × List (List Nat × List Nat) := (true, [([], []), ([0], [0]), ([1], [1]), ([2], [2]), ([3, 2], [2, 3]), ([4, 2], [2, 4]), ([2, 5], [2, 5]), ([6, 2], [6]), ([7], [7]), ([8, 7], [7, 8]), ([9, 7], [7, 9]), ([7], [7]), ([7, 7], [7]), ([12, 7], [7]), ([11, 12, 13, 7], [7, 11, 12, 13]), ([10, 14, 13, 7], [7, 10, 14]), ([7, 15], [7, 15]), ([16, 15], [16]), ([17], [17]), ([18, 17], [17, 18]), ([17, 19], [17, 19]), ([20, 17], [20]), ([21], [21]), ([22, 21], [21, 22]), ([21, 23], [21, 23]), ([24, 21, 0, 1, 2, 3, 4, 5, 6, 7, 8, 9, 10, 11, 12, 13, 14, 15, 16, 17, 18, 19, 20, 21, 22, 23, 24], [24])])
def thermionlaw04_awake.B3 : List Nat := [0, 1, 3, 7, 15, 31, 63, 127, 255, 511, 1023, 255, 255, 4351, 14591, 32767, 65535, 131071, 262143, 524287, 1048575, 2097151, 4194303, 8388607, 16777215, 33554431]
theorem thermionlaw04_awake.tab3 : rtab .any (opsOf Try.f21 3) = thermionlaw04_awake.T3 := by kernel_rfl
theorem thermionlaw04_awake.bits3 : waitsOk thermionlaw04_awake.T3.2 thermionlaw04_awake.B3 = true := by kernel_rfl
set_option maxHeartbeats 8000000 in
set_option maxRecDepth 100000 in
theorem thermionlaw04_awake.calls (k : Nat)  (r : Bool) (w : World) (h : thermionlaw04_awake.f k  = some r) :
  Calls Try.prog 21 #[] w fun e w' => e = .returned (.bool r) ∧ Below w.heap.size w w' := by
 have hu32 := Try.underlying32
 have HB := Aside0.mk (Below.refl w.heap.size w)
 have H : ((thermionlaw04_chain.f).bind fun bt144 => ((mount_Tight.f bt144.1 bt144.2).bind fun bt148 => ((thermionlaw04_kit.f).bind fun bt152 => ((mount_Orders.f bt152.1 bt152.2).bind fun bt156 => (if bt148.2 = 0 then (if (bt148.1.length : Int) = 3 then (if 0 < (bt148.1.length : Int) then ((thermionlaw04_of.f 10 12).bind fun bt159 => ((thermionlaw04_of.f 17 18).bind fun bt161 => ((thermionkit_SameRanges.f k (rd_L6 bt148.1 0) (([(⟨0, 0⟩ : S32), (⟨bt159.1, bt159.2⟩ : S32), (⟨bt161.1, bt161.2⟩ : S32)] : List (S32)))).bind fun t166 => (if t166 = true then (if bt156.1 = 2 then (some (bt156.2 == 0)) else (some false)) else (some false))))) else (none)) else (some false)) else (some false)))))) = some r := h
 clear h
 replace H := Option.bind_eq_some_iff.mp H
 obtain ⟨⟨t144, t145⟩, A10, H⟩ := H
 replace H : ((mount_Tight.f t144 t145).bind fun bt148 => ((thermionlaw04_kit.f).bind fun bt152 => ((mount_Orders.f bt152.1 bt152.2).bind fun bt156 => (if bt148.2 = 0 then (if (bt148.1.length : Int) = 3 then (if 0 < (bt148.1.length : Int) then ((thermionlaw04_of.f 10 12).bind fun bt159 => ((thermionlaw04_of.f 17 18).bind fun bt161 => ((thermionkit_SameRanges.f k (rd_L6 bt148.1 0) (([(⟨0, 0⟩ : S32), (⟨bt159.1, bt159.2⟩ : S32), (⟨bt161.1, bt161.2⟩ : S32)] : List (S32)))).bind fun t166 => (if t166 = true then (if bt156.1 = 2 then (some (bt156.2 == 0)) else (some false)) else (some false))))) else (none)) else (some false)) else (some false))))) = some r := H
 have A1 := Aside0.mk A10
 clear A10
 replace H := Option.bind_eq_some_iff.mp H
 obtain ⟨⟨t148, t151⟩, A20, H⟩ := H
 replace H : ((thermionlaw04_kit.f).bind fun bt152 => ((mount_Orders.f bt152.1 bt152.2).bind fun bt156 => (if t151 = 0 then (if (t148.length : Int) = 3 then (if 0 < (t148.length : Int) then ((thermionlaw04_of.f 10 12).bind fun bt159 => ((thermionlaw04_of.f 17 18).bind fun bt161 => ((thermionkit_SameRanges.f k (rd_L6 t148 0) (([(⟨0, 0⟩ : S32), (⟨bt159.1, bt159.2⟩ : S32), (⟨bt161.1, bt161.2⟩ : S32)] : List (S32)))).bind fun t166 => (if t166 = true then (if bt156.1 = 2 then (some (bt156.2 == 0)) else (some false)) else (some false))))) else (none)) else (some false)) else (some false)))) = some r := H
 have A2 := Aside0.mk A20
 clear A20
 replace H := Option.bind_eq_some_iff.mp H
 obtain ⟨⟨t152, t155⟩, A30, H⟩ := H
 replace H : ((mount_Orders.f t152 t155).bind fun bt156 => (if t151 = 0 then (if (t148.length : Int) = 3 then (if 0 < (t148.length : Int) then ((thermionlaw04_of.f 10 12).bind fun bt159 => ((thermionlaw04_of.f 17 18).bind fun bt161 => ((thermionkit_SameRanges.f k (rd_L6 t148 0) (([(⟨0, 0⟩ : S32), (⟨bt159.1, bt159.2⟩ : S32), (⟨bt161.1, bt161.2⟩ : S32)] : List (S32)))).bind fun t166 => (if t166 = true then (if bt156.1 = 2 then (some (bt156.2 == 0)) else (some false)) else (some false))))) else (none)) else (some false)) else (some false))) = some r := H
 have A3 := Aside0.mk A30
 clear A30
 replace H := Option.bind_eq_some_iff.mp H
 obtain ⟨⟨t156, t157⟩, A40, H⟩ := H
 replace H : (if t151 = 0 then (if (t148.length : Int) = 3 then (if 0 < (t148.length : Int) then ((thermionlaw04_of.f 10 12).bind fun bt159 => ((thermionlaw04_of.f 17 18).bind fun bt161 => ((thermionkit_SameRanges.f k (rd_L6 t148 0) (([(⟨0, 0⟩ : S32), (⟨bt159.1, bt159.2⟩ : S32), (⟨bt161.1, bt161.2⟩ : S32)] : List (S32)))).bind fun t166 => (if t166 = true then (if t156 = 2 then (some (t157 == 0)) else (some false)) else (some false))))) else (none)) else (some false)) else (some false)) = some r := H
 have A4 := Aside0.mk A40
 clear A40
 by_cases c5 : t151 = 0
 ·rw [if_pos c5] at H
  have c5b0 : (t151 == 0) = true := beq_iff_eq.mpr c5
  have c5b1 : (t151 != 0) = false := bne_eq_false_iff_eq.mpr c5
  clear c5
  by_cases c6 : (t148.length : Int) = 3
  ·rw [if_pos c6] at H
   have c6b0 : ((t148.length : Int) == 3) = true := beq_iff_eq.mpr c6
   have c6b1 : ((t148.length : Int) != 3) = false := bne_eq_false_iff_eq.mpr c6
   clear c6
   by_cases c7 : 0 < (t148.length : Int)
   ·rw [if_pos c7] at H
    have c7b0 : decide (0 < (t148.length : Int)) = true := decide_eq_true c7
    have c7b1 : decide (0 < t148.length) = true := decide_eq_true (by omega)
    clear c7
    replace H := Option.bind_eq_some_iff.mp H
    obtain ⟨⟨t159, t160⟩, A80, H⟩ := H
    replace H : ((thermionlaw04_of.f 17 18).bind fun bt161 => ((thermionkit_SameRanges.f k (rd_L6 t148 0) (([(⟨0, 0⟩ : S32), (⟨t159, t160⟩ : S32), (⟨bt161.1, bt161.2⟩ : S32)] : List (S32)))).bind fun t166 => (if t166 = true then (if t156 = 2 then (some (t157 == 0)) else (some false)) else (some false)))) = some r := H
    have A8 := Aside0.mk A80
    clear A80
    replace H := Option.bind_eq_some_iff.mp H
    obtain ⟨⟨t161, t162⟩, A90, H⟩ := H
    replace H : ((thermionkit_SameRanges.f k (rd_L6 t148 0) (([(⟨0, 0⟩ : S32), (⟨t159, t160⟩ : S32), (⟨t161, t162⟩ : S32)] : List (S32)))).bind fun t166 => (if t166 = true then (if t156 = 2 then (some (t157 == 0)) else (some false)) else (some false))) = some r := H
    have A9 := Aside0.mk A90
    clear A90
    obtain ⟨y163, hy163⟩ : ∃ y_ : List (S32), y_ = (([(⟨0, 0⟩ : S32), (⟨t159, t160⟩ : S32), (⟨t161, t162⟩ : S32)] : List (S32))) := ⟨_, rfl⟩
    replace H : ((thermionkit_SameRanges.f k (rd_L6 t148 0) y163).bind fun t166 => (if t166 = true then (if t156 = 2 then (some (t157 == 0)) else (some false)) else (some false))) = some r := by first | (rw [hy163]; with_reducible exact H) | (have H2_ := (Option.bind_some _ _).symm.trans H; rw [hy163]; with_reducible exact H2_) | (have H2_ := (Option.bind_some _ _).symm.trans H; with_reducible exact H2_) | with_reducible exact H | (rw [hy163]; exact H) | exact H
    have Ny163 := Aside0.mk hy163
    clear hy163
    replace H := Option.bind_eq_some_iff.mp H
    obtain ⟨t166, A100, H⟩ := H
    replace H : (if t166 = true then (if t156 = 2 then (some (t157 == 0)) else (some false)) else (some false)) = some r := H
    have A10 := Aside0.mk A100
    clear A100
    by_cases c11 : t166 = true
    ·subst c11
     have H1 : (if t156 = 2 then (some (t157 == 0)) else (some false)) = some r := by rw [if_pos rfl] at H; exact H
     clear H
     have H := H1
     clear H1
     by_cases c12 : t156 = 2
     ·rw [if_pos c12] at H
      have c12b0 : (t156 == 2) = true := beq_iff_eq.mpr c12
      have c12b1 : (t156 != 2) = false := bne_eq_false_iff_eq.mpr c12
      clear c12
      obtain rfl := Option.some.inj H
      go_enter Try.func21, Try.ntmps21
      try go_wp2_with (first | ((with_reducible refine gate_callee (f := 87) rfl ?_); refine goesL_ (some 6) rfl rfl Try.func87 (by kernel_rfl) rfl #[] rfl (by (try simp only [List.map_toArray, List.map_cons, List.map_nil]); first | done | rfl | (simp only [List.length_drop, List.length_take]; rfl)) ?_; (with_reducible refine (thermionlaw04_chain.calls  t144 t145 _ A1.out).mono ?_); rintro e w13 ⟨v146, rfl, ho0, hb⟩; refine ⟨_, rfl, ?_⟩; have n0_ := Aside0.mk (Kd.R_lower ho0 (below_size (by repeat (first | (with_reducible first | exact HB.out | apply below_alloc | apply pw_below_drewN | apply below_drew1) | exact HB.out)))); have n1_ := Aside0.mk (below_step (by repeat (first | (with_reducible first | exact HB.out | apply below_alloc | apply pw_below_drewN | apply below_drew1) | exact HB.out)) hb); clear HB; have HO147 := n0_; have HB := n1_; clear n0_ n1_; (try clear hb); (try clear hb2); (try clear hk); (try clear hi); (try clear ho0); obtain ⟨Ao14, co14, eo14⟩ := Kd.R_slice HO147.out; subst eo14) | ((with_reducible refine gate_callee (f := 24) rfl ?_); refine goesL_ (some 7) rfl rfl Try.func24 (by kernel_rfl) rfl #[.agg #[.int .i64 t144, .slice Ao14 t145.length co14]] rfl (by (try simp only [List.map_toArray, List.map_cons, List.map_nil]); first | done | rfl | (simp only [List.length_drop, List.length_take]; rfl)) ?_; (with_reducible refine (mount_Tight.calls t144 _ _ t145 t148 t151 _ ?side1 ?side2 A2.out).mono ?_); (case side1 => repeat (first | exact (Kd.R_reads' HO147.out).2.2 | (with_reducible refine Kd.C_alloc ?_ _) | (with_reducible refine Kd.C_drewN ?_ _) | (with_reducible refine Kd.C_drew ?_))); (case side2 => exact (Kd.R_reads' HO147.out).2.1); rintro e w15 ⟨v149, rfl, ho0, hb⟩; refine ⟨_, rfl, ?_⟩; have n0_ := Aside0.mk (Kd.R_below (by (with_reducible repeat (first | apply Kd.R_alloc | apply Kd.R_drewN | apply Kd.R_drew)); exact HO147.out) hb); have n1_ := Aside0.mk (Kd.N_lower (Kd.N_mono (ok' := fun k_ => some k_ ≠ (.slice Ao14 t145.length co14 : Value).ownBlock) (Kd.S_N (Kd.S_bound ho0)) (fun k_ hk_ => (Kd.fresh' (Kd.R_lt (by (with_reducible repeat (first | apply Kd.R_alloc | apply Kd.R_drewN | apply Kd.R_drew)); exact HO147.out)) k_ hk_.2.1))) (below_size (by repeat (first | (with_reducible first | exact HB.out | apply below_alloc | apply pw_below_drewN | apply below_drew1) | exact HB.out)))); have n2_ := Aside0.mk (below_step (by repeat (first | (with_reducible first | exact HB.out | apply below_alloc | apply pw_below_drewN | apply below_drew1) | exact HB.out)) hb); clear HO147; clear HB; have HO147 := n0_; have HO150 := n1_; have HB := n2_; clear n0_ n1_ n2_; (try clear hb); (try clear hb2); (try clear hk); (try clear hi); (try clear ho0)) | ((with_reducible refine gate_callee (f := 59) rfl ?_); refine goesL_ (some 11) rfl rfl Try.func59 (by kernel_rfl) rfl #[] rfl (by (try simp only [List.map_toArray, List.map_cons, List.map_nil]); first | done | rfl | (simp only [List.length_drop, List.length_take]; rfl)) ?_; (with_reducible refine (thermionlaw04_kit.calls  t152 t155 _ A3.out).mono ?_); rintro e w16 ⟨v153, rfl, ho0, hb⟩; refine ⟨_, rfl, ?_⟩; have n0_ := Aside0.mk (Kd.R_below (by (with_reducible repeat (first | apply Kd.R_alloc | apply Kd.R_drewN | apply Kd.R_drew)); exact HO147.out) hb); have n1_ := Aside0.mk (Kd.N_elder' (by (with_reducible repeat (first | apply Kd.N_alloc | apply Kd.N_drewN | apply Kd.N_drew)); exact HO150.out) (Kd.N_base ho0) hb); have n2_ := Aside0.mk (Kd.N_lower (Kd.N_mono (ok' := fun k_ => some k_ ≠ (.slice Ao14 t145.length co14 : Value).ownBlock ∧ some k_ ≠ (v149 : Value).ownBlock) ho0 (fun k_ hk_ => ⟨(Kd.fresh' (Kd.R_lt (by (with_reducible repeat (first | apply Kd.R_alloc | apply Kd.R_drewN | apply Kd.R_drew)); exact HO147.out)) k_ hk_), (Kd.fresh' (Kd.N_lt (by (with_reducible repeat (first | apply Kd.N_alloc | apply Kd.N_drewN | apply Kd.N_drew)); exact HO150.out)) k_ hk_)⟩)) (below_size (by repeat (first | (with_reducible first | exact HB.out | apply below_alloc | apply pw_below_drewN | apply below_drew1) | exact HB.out)))); have n3_ := Aside0.mk (below_step (by repeat (first | (with_reducible first | exact HB.out | apply below_alloc | apply pw_below_drewN | apply below_drew1) | exact HB.out)) hb); clear HO147; clear HO150; clear HB; have HO147 := n0_; have HO150 := n1_; have HO154 := n2_; have HB := n3_; clear n0_ n1_ n2_ n3_; (try clear hb); (try clear hb2); (try clear hk); (try clear hi); (try clear ho0); obtain ⟨Ao17, co17, eo17⟩ := Kd.N_slice HO154.out; subst eo17) | ((with_reducible refine gate_callee (f := 30) rfl ?_); refine goesL_ (some 12) rfl rfl Try.func30 (by kernel_rfl) rfl #[.agg #[.slice Ao17 t152.length co17, .int .i64 t155]] rfl (by (try simp only [List.map_toArray, List.map_cons, List.map_nil]); first | done | rfl | (simp only [List.length_drop, List.length_take]; rfl)) ?_; (with_reducible refine (mount_Orders.calls _ _ t152 t155 t156 t157 _ ?side1 ?side2 A4.out).mono ?_); (case side1 => repeat (first | exact (Kd.N_reads' HO154.out).2.2 | (with_reducible refine Kd.C_alloc ?_ _) | (with_reducible refine Kd.C_drewN ?_ _) | (with_reducible refine Kd.C_drew ?_))); (case side2 => exact (Kd.N_reads' HO154.out).2.1); rintro e w18 ⟨rfl, hb⟩; refine ⟨_, rfl, ?_⟩; have n0_ := Aside0.mk (Kd.R_below (by (with_reducible repeat (first | apply Kd.R_alloc | apply Kd.R_drewN | apply Kd.R_drew)); exact HO147.out) hb); have n1_ := Aside0.mk (Kd.N_below (by (with_reducible repeat (first | apply Kd.N_alloc | apply Kd.N_drewN | apply Kd.N_drew)); exact HO150.out) hb); have n2_ := Aside0.mk (Kd.N_below (by (with_reducible repeat (first | apply Kd.N_alloc | apply Kd.N_drewN | apply Kd.N_drew)); exact HO154.out) hb); have n3_ := Aside0.mk (below_step (by repeat (first | (with_reducible first | exact HB.out | apply below_alloc | apply pw_below_drewN | apply below_drew1) | exact HB.out)) hb); clear HO147; clear HO150; clear HO154; clear HB; have HO147 := n0_; have HO150 := n1_; have HO154 := n2_; have HB := n3_; clear n0_ n1_ n2_ n3_; (try clear hb); (try clear hb2); (try clear hk); (try clear hi)))
      have n0_ := Aside0.mk (Kd.R_drew HO147.out)
      have n1_ := Aside0.mk (Kd.N_drew HO150.out)
      have n2_ := Aside0.mk (Kd.N_drew HO154.out)
      have n3_ := Aside0.mk (below_drew1 HB.out)
      clear HO147
      clear HO150
      clear HO154
      clear HB
      have HO147 := n0_
      have HO150 := n1_
      have HO154 := n2_
      have HB := n3_
      clear n0_ n1_ n2_ n3_
      obtain ⟨Ao20, co20, eo20⟩ := Kd.N_slice HO150.out
      (first | subst eo20 | (injection eo20 with f1_ f2_ f3_; have f4_ := f1_.symm; have f5_ := f3_.symm; clear f1_ f2_ f3_; subst f4_; subst f5_))
      have p158 : 0 ≤ (0 : Int) := (by omega)
      have q158 : 0 < (t148.length : Int) := of_decide_eq_true (by first | (with_reducible assumption) | assumption)
      obtain ⟨ad158, A158_0, c158_0, e158, hx158_0, hl158_0, hi158_0⟩ := at_L6 (Kd.N_reads' HO150.out).2.2 0 p158 q158
      cases e158
      obtain ⟨ce158, hce158, hMe158, hcc158⟩ := Kd.N_get HO150.out [] 0 p158 (by first | exact q158 | exact of_decide_eq_true (by first | (with_reducible assumption) | assumption) | (have e_ := (Kd.N_reads' HO150.out).1; omega))
      obtain ⟨ua158_0, uc158_0, rfl, ul158_0, ge158_0⟩ := Kd.FK_slice_open hMe158
      have hv158_0 := hcc158 0 _ rfl
      rw [Nat.add_zero, show ((Kd.slice 32 k32)).sz = 1 from rfl, Nat.mul_one] at hv158_0
      replace hv158_0 := Option.some.inj (hv158_0.symm.trans hx158_0)
      injection hv158_0 with hva_ hvn_ hvc_
      rw [hva_] at ge158_0
      rw [hvc_] at ul158_0
      have HL158_0 := Aside0.mk (show Kd.V k32 32 _ w.heap.size _ _ (rd_L6 t148 0) from Kd.V_mk ul158_0 ge158_0)
      clear hva_ hvn_ hvc_ ge158_0 ul158_0
      clear hcc158 hce158
      have qi158 : (0 < t148.length) = True := eq_true (by omega)
      (try rw [show ((0 : Int)).toNat = 0 from rfl] at hx158_0)
      (try rw [Addr.add_zero'] at hx158_0)
      have HR158_0 := Aside0.mk hi158_0
      have HC158_0 := Aside0.mk hl158_0
      clear hi158_0 hl158_0
      replace p158 := eq_true p158
      replace q158 := eq_true q158
      refine start_ (n := 26) (S := fun w' => w'.cell? ad158 = some (.slice A158_0 (rd_L6 t148 0).length c158_0)) (ds := []) #[false, false, false, false, false, false, false, false, false, false, false, false, false, false, false, false, false, false, false, false, false, false, false, false, false, false] (by kernel_rfl) rfl rfl (hx158_0) (fun hHeld => ?_); refine with_tabW thermionlaw04_awake.tab3 thermionlaw04_awake.bits3 (fun HT_ HW_ => ?_)
      generalize w18.drew = w19 at HO147 HO150 HO154 HB HL158_0 HR158_0 hx158_0 hHeld ⊢
      refine pure_ (i := 0) (N := some 15) (v := ?_) (a' := ?_) #[true, false, false, false, false, false, false, false, false, false, false, false, false, false, false, false, false, false, false, false, false, false, false, false, false, false] rfl rfl (any_of HT_.out (by kernel_rfl)) (fun _ _ _ h => h) (Or.inl ⟨by rfl, ?_⟩) ?_ ?_
      rotate_left
      ·intro w'
       go_simp
       with_reducible rfl
      rotate_left
      ·simp only [Act.put, List.setIfInBounds_toArray, List.set_cons_zero, List.set_cons_succ, i64_w, i32_w]
       rfl
      refine pure_ (i := 1) (N := some 16) (v := ?_) (a' := ?_) #[true, true, false, false, false, false, false, false, false, false, false, false, false, false, false, false, false, false, false, false, false, false, false, false, false, false] rfl rfl (any_of HT_.out (by kernel_rfl)) (fun _ _ _ h => h) (Or.inl ⟨by rfl, ?_⟩) ?_ ?_
      rotate_left
      ·intro w'
       go_simp
       with_reducible rfl
      rotate_left
      ·simp only [Act.put, List.setIfInBounds_toArray, List.set_cons_zero, List.set_cons_succ, i64_w, i32_w]
       rfl
      refine pure_ (i := 2) (N := some 17) (v := ?_) (a' := ?_) #[true, true, true, false, false, false, false, false, false, false, false, false, false, false, false, false, false, false, false, false, false, false, false, false, false, false] rfl rfl (any_of HT_.out (by kernel_rfl)) (fun _ _ _ h => h) (Or.inl ⟨by rfl, ?_⟩) ?_ ?_
      rotate_left
      ·intro w'
       go_simp
       with_reducible rfl
      rotate_left
      ·simp only [Act.put, List.setIfInBounds_toArray, List.set_cons_zero, List.set_cons_succ, i64_w, i32_w]
       rfl
      refine pure_ (i := 3) (N := some 18) (v := ?_) (a' := ?_) #[true, true, true, true, false, false, false, false, false, false, false, false, false, false, false, false, false, false, false, false, false, false, false, false, false, false] rfl rfl (any_of HT_.out (by kernel_rfl)) (fun _ _ _ h => h) (Or.inl ⟨by rfl, ?_⟩) ?_ ?_
      rotate_left
      ·intro w'
       go_simp
       with_reducible rfl
      rotate_left
      ·simp only [Act.put, List.setIfInBounds_toArray, List.set_cons_zero, List.set_cons_succ, i64_w, i32_w]
       rfl
      refine pure_ (i := 4) (N := some 19) (v := ?_) (a' := ?_) #[true, true, true, true, true, false, false, false, false, false, false, false, false, false, false, false, false, false, false, false, false, false, false, false, false, false] rfl rfl (any_of HT_.out (by kernel_rfl)) (fun _ _ _ h => h) (Or.inl ⟨by rfl, ?_⟩) ?_ ?_
      rotate_left
      ·intro w'
       go_simp
       with_reducible rfl
      rotate_left
      ·simp only [Act.put, List.setIfInBounds_toArray, List.set_cons_zero, List.set_cons_succ, i64_w, i32_w]
       rfl
      refine pure_ (i := 5) (N := some 20) (v := ?_) (a' := ?_) #[true, true, true, true, true, true, false, false, false, false, false, false, false, false, false, false, false, false, false, false, false, false, false, false, false, false] rfl rfl (any_of HT_.out (by kernel_rfl)) (fun _ _ _ h => h) (Or.inl ⟨by rfl, ?_⟩) ?_ ?_
      rotate_left
      ·intro w'
       go_simp
       with_reducible rfl
      rotate_left
      ·simp only [Act.put, List.setIfInBounds_toArray, List.set_cons_zero, List.set_cons_succ, i64_w, i32_w]
       rfl
      refine pure_ (i := 6) (N := some 21) (v := ?_) (a' := ?_) #[true, true, true, true, true, true, true, false, false, false, false, false, false, false, false, false, false, false, false, false, false, false, false, false, false, false] rfl rfl (any_of HT_.out (by kernel_rfl)) (fun _ _ _ h => h) (Or.inl ⟨by rfl, ?_⟩) ?_ ?_
      rotate_left
      ·intro w'
       go_simp
       with_reducible rfl
      rotate_left
      ·simp only [Act.put, List.setIfInBounds_toArray, List.set_cons_zero, List.set_cons_succ, i64_w, i32_w]
       rfl
      refine pure_ (i := 7) (N := some 22) (v := ?_) (a' := ?_) #[true, true, true, true, true, true, true, true, false, false, false, false, false, false, false, false, false, false, false, false, false, false, false, false, false, false] rfl rfl (any_of HT_.out (by kernel_rfl)) (fun _ _ _ h => h) (Or.inl ⟨by rfl, ?_⟩) ?_ ?_
      rotate_left
      ·intro w'
       go_simp
       with_reducible rfl
      rotate_left
      ·simp only [Act.put, List.setIfInBounds_toArray, List.set_cons_zero, List.set_cons_succ, i64_w, i32_w]
       rfl
      refine pure_ (i := 8) (N := some 23) (v := ?_) (a' := ?_) #[true, true, true, true, true, true, true, true, true, false, false, false, false, false, false, false, false, false, false, false, false, false, false, false, false, false] rfl rfl (any_of HT_.out (by kernel_rfl)) (fun _ _ _ h => h) (Or.inl ⟨by rfl, ?_⟩) ?_ ?_
      rotate_left
      ·intro w'
       go_simp
       with_reducible rfl
      rotate_left
      ·simp only [Act.put, List.setIfInBounds_toArray, List.set_cons_zero, List.set_cons_succ, i64_w, i32_w]
       rfl
      refine pure_ (i := 9) (N := some 24) (v := ?_) (a' := ?_) #[true, true, true, true, true, true, true, true, true, true, false, false, false, false, false, false, false, false, false, false, false, false, false, false, false, false] rfl rfl (any_of HT_.out (by kernel_rfl)) (fun _ _ _ h => h) (Or.inl ⟨by rfl, ?_⟩) ?_ ?_
      rotate_left
      ·intro w'
       go_simp
       with_reducible rfl
      rotate_left
      ·simp only [Act.put, List.setIfInBounds_toArray, List.set_cons_zero, List.set_cons_succ, i64_w, i32_w]
       rfl
      refine pure_ (i := 11) (N := some 26) (v := ?_) (a' := ?_) #[true, true, true, true, true, true, true, true, true, true, false, true, false, false, false, false, false, false, false, false, false, false, false, false, false, false] rfl rfl (any_of HT_.out (by kernel_rfl)) (fun _ _ _ h => h) (Or.inl ⟨by rfl, ?_⟩) ?_ ?_
      rotate_left
      ·intro w'
       go_simp
       with_reducible rfl
      rotate_left
      ·simp only [Act.put, List.setIfInBounds_toArray, List.set_cons_zero, List.set_cons_succ, i64_w, i32_w]
       rfl
      refine take_ (i := 10) (N := some 25) (v := ?_) (a' := ?_) #[true, true, true, true, true, true, true, true, true, true, true, true, false, false, false, false, false, false, false, false, false, false, false, false, false, false] rfl rfl (take_ofW HT_.out HW_.out (by kernel_rfl)) (fun _ _ _ h => h) (Or.inl ⟨by rfl, ?_⟩) hHeld ?_ ?_
      rotate_left
      ·intro w' s0
       go_simp
       with_reducible rfl
      rotate_left
      ·simp only [Act.put, List.setIfInBounds_toArray, List.set_cons_zero, List.set_cons_succ, i64_w, i32_w]
       rfl
      refine one_ (i := 12) (N := some 27) #[true, true, true, true, true, true, true, true, true, true, true, true, true, false, false, false, false, false, false, false, false, false, false, false, false, false] rfl rfl (one_of HT_.out (by kernel_rfl)) (by decide) (fun K hK => ?_)
      refine goes_ Try.func52 (by kernel_rfl) rfl #[.int .i64 10, .int .i64 12] (by rfl) rfl rfl (by (try simp only [List.map_toArray, List.map_cons, List.map_nil]); first | done | rfl | (simp only [List.length_drop, List.length_take]; rfl)) ?_
      with_reducible refine (thermionlaw04_of.calls 10 12 t159 t160 _ A8.out).mono ?_
      rintro e w21 ⟨rfl, hb⟩
      have HS0_ := (hb.cell (World.block_lt_of_cell? _ _ (hHeld))).trans (hHeld)
      refine ⟨_, rfl, ?_⟩
      have n0_ := Aside0.mk (Kd.R_below (by (with_reducible repeat (first | apply Kd.R_alloc | apply Kd.R_drewN | apply Kd.R_drew)); exact HO147.out) hb)
      have n1_ := Aside0.mk (Kd.N_below (by (with_reducible repeat (first | apply Kd.N_alloc | apply Kd.N_drewN | apply Kd.N_drew)); exact HO150.out) hb)
      have n2_ := Aside0.mk (Kd.N_below (by (with_reducible repeat (first | apply Kd.N_alloc | apply Kd.N_drewN | apply Kd.N_drew)); exact HO154.out) hb)
      have n3_ := Aside0.mk (Kd.V_below (by (with_reducible repeat (first | apply Kd.V_alloc | apply Kd.V_drewN | apply Kd.V_drew)); exact HL158_0.out) hb)
      have n4_ := Aside0.mk (Kd.C_below (by repeat (first | (with_reducible exact HR158_0.out) | (with_reducible refine Kd.C_alloc ?_ _) | (with_reducible refine Kd.C_drewN ?_ _) | (with_reducible refine Kd.C_drew ?_) | exact HR158_0.out)) hb)
      have n5_ := Aside0.mk (below_step (by repeat (first | (with_reducible first | exact HB.out | apply below_alloc | apply pw_below_drewN | apply below_drew1) | exact HB.out)) hb)
      clear HO147
      clear HO150
      clear HO154
      clear HL158_0
      clear HR158_0
      clear HB
      have HO147 := n0_
      have HO150 := n1_
      have HO154 := n2_
      have HL158_0 := n3_
      have HR158_0 := n4_
      have HB := n5_
      clear n0_ n1_ n2_ n3_ n4_ n5_
      (try clear hb)
      (try clear hb2)
      (try clear hk)
      (try clear hi)
      refine hK.out _ _ (HS0_) (fun hHeld => ?_)
      clear hK K
      refine norm_ (a' := ?_) ?_ ?_
      rotate_left
      ·show Act.put _ (some 27) _ = _
       simp only [Act.put, List.setIfInBounds_toArray, List.set_cons_zero, List.set_cons_succ, i64_w, i32_w]
       rfl
      refine one_ (i := 13) (N := some 28) #[true, true, true, true, true, true, true, true, true, true, true, true, true, true, false, false, false, false, false, false, false, false, false, false, false, false] rfl rfl (one_of HT_.out (by kernel_rfl)) (by decide) (fun K hK => ?_)
      refine goes_ Try.func52 (by kernel_rfl) rfl #[.int .i64 17, .int .i64 18] (by rfl) rfl rfl (by (try simp only [List.map_toArray, List.map_cons, List.map_nil]); first | done | rfl | (simp only [List.length_drop, List.length_take]; rfl)) ?_
      with_reducible refine (thermionlaw04_of.calls 17 18 t161 t162 _ A9.out).mono ?_
      rintro e w22 ⟨rfl, hb⟩
      have HS0_ := (hb.cell (World.block_lt_of_cell? _ _ (hHeld))).trans (hHeld)
      refine ⟨_, rfl, ?_⟩
      have n0_ := Aside0.mk (Kd.R_below (by (with_reducible repeat (first | apply Kd.R_alloc | apply Kd.R_drewN | apply Kd.R_drew)); exact HO147.out) hb)
      have n1_ := Aside0.mk (Kd.N_below (by (with_reducible repeat (first | apply Kd.N_alloc | apply Kd.N_drewN | apply Kd.N_drew)); exact HO150.out) hb)
      have n2_ := Aside0.mk (Kd.N_below (by (with_reducible repeat (first | apply Kd.N_alloc | apply Kd.N_drewN | apply Kd.N_drew)); exact HO154.out) hb)
      have n3_ := Aside0.mk (Kd.V_below (by (with_reducible repeat (first | apply Kd.V_alloc | apply Kd.V_drewN | apply Kd.V_drew)); exact HL158_0.out) hb)
      have n4_ := Aside0.mk (Kd.C_below (by repeat (first | (with_reducible exact HR158_0.out) | (with_reducible refine Kd.C_alloc ?_ _) | (with_reducible refine Kd.C_drewN ?_ _) | (with_reducible refine Kd.C_drew ?_) | exact HR158_0.out)) hb)
      have n5_ := Aside0.mk (below_step (by repeat (first | (with_reducible first | exact HB.out | apply below_alloc | apply pw_below_drewN | apply below_drew1) | exact HB.out)) hb)
      clear HO147
      clear HO150
      clear HO154
      clear HL158_0
      clear HR158_0
      clear HB
      have HO147 := n0_
      have HO150 := n1_
      have HO154 := n2_
      have HL158_0 := n3_
      have HR158_0 := n4_
      have HB := n5_
      clear n0_ n1_ n2_ n3_ n4_ n5_
      (try clear hb)
      (try clear hb2)
      (try clear hk)
      (try clear hi)
      refine hK.out _ _ (HS0_) (fun hHeld => ?_)
      clear hK K
      refine norm_ (a' := ?_) ?_ ?_
      rotate_left
      ·show Act.put _ (some 28) _ = _
       simp only [Act.put, List.setIfInBounds_toArray, List.set_cons_zero, List.set_cons_succ, i64_w, i32_w]
       rfl
      refine one_ (i := 14) (N := some 29) #[true, true, true, true, true, true, true, true, true, true, true, true, true, true, true, false, false, false, false, false, false, false, false, false, false, false] rfl rfl (one_of HT_.out (by kernel_rfl)) (by decide) (fun K hK => ?_)
      refine Kd.R_lit_step k32 _ 32 ?hg (N := 29) ?hd (xs := ([(⟨0, 0⟩ : S32), (⟨t159, t160⟩ : S32), (⟨t161, t162⟩ : S32)] : List (S32))) (inner := [.int .i64 0, .int .i64 0, .int .i64 t159, .int .i64 t160, .int .i64 t161, .int .i64 t162]) (ok := fun _ => True) (okp := fun _ => True) ?hr ?hp (fun _ hk => hk) trivial (Below.refl _ _) (Nat.le_refl _) (by simp) ?_; (case hd => rfl); (case hg => rfl); (case hr => first | (go_simp; done) | (go_simp; rfl)); (case hp => exact (Reps.c2 (show Kd.M k32 _ _ _ (⟨0, 0⟩ : S32) [.int .i64 0, .int .i64 0] from (k32_mkM _ _ _ (⟨0, 0⟩ : S32) )) (Reps.c2 (show Kd.M k32 _ _ _ (⟨t159, t160⟩ : S32) [.int .i64 t159, .int .i64 t160] from (k32_mkM _ _ _ (⟨t159, t160⟩ : S32) )) (Reps.c2 (show Kd.M k32 _ _ _ (⟨t161, t162⟩ : S32) [.int .i64 t161, .int .i64 t162] from (k32_mkM _ _ _ (⟨t161, t162⟩ : S32) )) (Reps.none _ _)))))
      intro v164 w23 ho24 hb hg_ hnew_
      have HS0_ := (hb.cell (World.block_lt_of_cell? _ _ (hHeld))).trans (hHeld)
      clear hg_ hnew_
      (first | rw [← Ny163.out] at ho24 | (simp only [Int.reduceToNat] at ho24; rw [← Ny163.out] at ho24))
      have n0_ := Aside0.mk (Kd.R_below (by (with_reducible repeat (first | apply Kd.R_alloc | apply Kd.R_drewN | apply Kd.R_drew)); exact HO147.out) hb)
      have n1_ := Aside0.mk (Kd.N_elder' (by (with_reducible repeat (first | apply Kd.N_alloc | apply Kd.N_drewN | apply Kd.N_drew)); exact HO150.out) (Kd.R_base ho24) hb)
      have n2_ := Aside0.mk (Kd.N_elder' (by (with_reducible repeat (first | apply Kd.N_alloc | apply Kd.N_drewN | apply Kd.N_drew)); exact HO154.out) (Kd.R_base ho24) hb)
      have n3_ := Aside0.mk (Kd.V_elder' (by (with_reducible repeat (first | apply Kd.V_alloc | apply Kd.V_drewN | apply Kd.V_drew)); exact HL158_0.out) (Kd.R_base ho24) hb)
      have n4_ := Aside0.mk (Kd.R_lower ho24 (below_size (by repeat (first | (with_reducible first | exact HB.out | apply below_alloc | apply pw_below_drewN | apply below_drew1) | exact HB.out))))
      have n5_ := Aside0.mk (Kd.C_below (by repeat (first | (with_reducible exact HR158_0.out) | (with_reducible refine Kd.C_alloc ?_ _) | (with_reducible refine Kd.C_drewN ?_ _) | (with_reducible refine Kd.C_drew ?_) | exact HR158_0.out)) hb)
      have n6_ := Aside0.mk (below_step (by repeat (first | (with_reducible first | exact HB.out | apply below_alloc | apply pw_below_drewN | apply below_drew1) | exact HB.out)) hb)
      clear HO147
      clear HO150
      clear HO154
      clear HL158_0
      clear HR158_0
      clear HB
      have HO147 := n0_
      have HO150 := n1_
      have HO154 := n2_
      have HL158_0 := n3_
      have HO165 := n4_
      have HR158_0 := n5_
      have HB := n6_
      clear n0_ n1_ n2_ n3_ n4_ n5_ n6_
      clear hb ho24
      obtain ⟨Ao25, co25, eo25⟩ := Kd.R_slice HO165.out
      (first | subst eo25 | (injection eo25 with f1_ f2_ f3_; have f4_ := f1_.symm; have f5_ := f3_.symm; clear f1_ f2_ f3_; subst f4_; subst f5_))
      refine hK.out _ _ (HS0_) (fun hHeld => ?_)
      clear hK K
      refine norm_ (a' := ?_) ?_ ?_
      rotate_left
      ·show Act.put _ (some 29) _ = _
       simp only [Act.put, List.setIfInBounds_toArray, List.set_cons_zero, List.set_cons_succ, i64_w, i32_w]
       rfl
      refine one_ (i := 15) (N := some 30) #[true, true, true, true, true, true, true, true, true, true, true, true, true, true, true, true, false, false, false, false, false, false, false, false, false, false] rfl rfl (one_of HT_.out (by kernel_rfl)) (by decide) (fun K hK => ?_)
      refine goes_ Try.func88 (by kernel_rfl) rfl #[.slice A158_0 (rd_L6 t148 0).length c158_0, .slice Ao25 y163.length co25] (by rfl) rfl rfl (by (try simp only [List.map_toArray, List.map_cons, List.map_nil]); first | done | rfl | (simp only [List.length_drop, List.length_take]; rfl)) ?_
      with_reducible refine (thermionkit_SameRanges.calls k _ _ (rd_L6 t148 0) _ _ y163 true _ ?side1 ?side2 ?side3 ?side4 A10.out).mono ?_
      (case side1 => repeat (first | exact (by repeat (first | (with_reducible exact HR158_0.out) | (with_reducible refine Kd.C_alloc ?_ _) | (with_reducible refine Kd.C_drewN ?_ _) | (with_reducible refine Kd.C_drew ?_) | exact HR158_0.out)) | (with_reducible refine Kd.C_alloc ?_ _) | (with_reducible refine Kd.C_drewN ?_ _) | (with_reducible refine Kd.C_drew ?_)))
      (case side2 => exact HC158_0.out)
      (case side3 => repeat (first | exact (Kd.R_reads' HO165.out).2.2 | (with_reducible refine Kd.C_alloc ?_ _) | (with_reducible refine Kd.C_drewN ?_ _) | (with_reducible refine Kd.C_drew ?_)))
      (case side4 => exact (Kd.R_reads' HO165.out).2.1)
      rintro e w' ⟨rfl, ⟨nd, rfl⟩⟩
      refine ⟨_, rfl, ?_⟩
      refine hK.out _ _ (hHeld) (fun hHeld => ?_)
      clear hK K
      refine norm_ (a' := ?_) ?_ ?_
      rotate_left
      ·show Act.put _ (some 30) _ = _
       simp only [Act.put, List.setIfInBounds_toArray, List.set_cons_zero, List.set_cons_succ, i64_w, i32_w]
       rfl
      refine pure_ (i := 16) (N := some 31) (v := ?_) (a' := ?_) #[true, true, true, true, true, true, true, true, true, true, true, true, true, true, true, true, true, false, false, false, false, false, false, false, false, false] rfl rfl (any_of HT_.out (by kernel_rfl)) (fun _ _ _ h => h) (Or.inl ⟨by rfl, ?_⟩) ?_ ?_
      rotate_left
      ·intro w'
       go_simp
       with_reducible rfl
      rotate_left
      ·simp only [Act.put, List.setIfInBounds_toArray, List.set_cons_zero, List.set_cons_succ, i64_w, i32_w]
       rfl
      refine pure_ (i := 17) (N := some 32) (v := ?_) (a' := ?_) #[true, true, true, true, true, true, true, true, true, true, true, true, true, true, true, true, true, true, false, false, false, false, false, false, false, false] rfl rfl (any_of HT_.out (by kernel_rfl)) (fun _ _ _ h => h) (Or.inl ⟨by rfl, ?_⟩) ?_ ?_
      rotate_left
      ·intro w'
       go_simp
       with_reducible rfl
      rotate_left
      ·simp only [Act.put, List.setIfInBounds_toArray, List.set_cons_zero, List.set_cons_succ, i64_w, i32_w]
       rfl
      refine pure_ (i := 18) (N := some 33) (v := ?_) (a' := ?_) #[true, true, true, true, true, true, true, true, true, true, true, true, true, true, true, true, true, true, true, false, false, false, false, false, false, false] rfl rfl (any_of HT_.out (by kernel_rfl)) (fun _ _ _ h => h) (Or.inl ⟨by rfl, ?_⟩) ?_ ?_
      rotate_left
      ·intro w'
       go_simp
       with_reducible rfl
      rotate_left
      ·simp only [Act.put, List.setIfInBounds_toArray, List.set_cons_zero, List.set_cons_succ, i64_w, i32_w]
       rfl
      refine pure_ (i := 19) (N := some 34) (v := ?_) (a' := ?_) #[true, true, true, true, true, true, true, true, true, true, true, true, true, true, true, true, true, true, true, true, false, false, false, false, false, false] rfl rfl (any_of HT_.out (by kernel_rfl)) (fun _ _ _ h => h) (Or.inl ⟨by rfl, ?_⟩) ?_ ?_
      rotate_left
      ·intro w'
       go_simp
       with_reducible rfl
      rotate_left
      ·simp only [Act.put, List.setIfInBounds_toArray, List.set_cons_zero, List.set_cons_succ, i64_w, i32_w]
       rfl
      refine pure_ (i := 20) (N := some 35) (v := ?_) (a' := ?_) #[true, true, true, true, true, true, true, true, true, true, true, true, true, true, true, true, true, true, true, true, true, false, false, false, false, false] rfl rfl (any_of HT_.out (by kernel_rfl)) (fun _ _ _ h => h) (Or.inl ⟨by rfl, ?_⟩) ?_ ?_
      rotate_left
      ·intro w'
       go_simp
       with_reducible rfl
      rotate_left
      ·simp only [Act.put, List.setIfInBounds_toArray, List.set_cons_zero, List.set_cons_succ, i64_w, i32_w]
       rfl
      refine pure_ (i := 21) (N := some 36) (v := ?_) (a' := ?_) #[true, true, true, true, true, true, true, true, true, true, true, true, true, true, true, true, true, true, true, true, true, true, false, false, false, false] rfl rfl (any_of HT_.out (by kernel_rfl)) (fun _ _ _ h => h) (Or.inl ⟨by rfl, ?_⟩) ?_ ?_
      rotate_left
      ·intro w'
       go_simp
       with_reducible rfl
      rotate_left
      ·simp only [Act.put, List.setIfInBounds_toArray, List.set_cons_zero, List.set_cons_succ, i64_w, i32_w]
       rfl
      refine pure_ (i := 22) (N := some 37) (v := ?_) (a' := ?_) #[true, true, true, true, true, true, true, true, true, true, true, true, true, true, true, true, true, true, true, true, true, true, true, false, false, false] rfl rfl (any_of HT_.out (by kernel_rfl)) (fun _ _ _ h => h) (Or.inl ⟨by rfl, ?_⟩) ?_ ?_
      rotate_left
      ·intro w'
       go_simp
       with_reducible rfl
      rotate_left
      ·simp only [Act.put, List.setIfInBounds_toArray, List.set_cons_zero, List.set_cons_succ, i64_w, i32_w]
       rfl
      refine pure_ (i := 23) (N := some 38) (v := ?_) (a' := ?_) #[true, true, true, true, true, true, true, true, true, true, true, true, true, true, true, true, true, true, true, true, true, true, true, true, false, false] rfl rfl (any_of HT_.out (by kernel_rfl)) (fun _ _ _ h => h) (Or.inl ⟨by rfl, ?_⟩) ?_ ?_
      rotate_left
      ·intro w'
       go_simp
       with_reducible rfl
      rotate_left
      ·simp only [Act.put, List.setIfInBounds_toArray, List.set_cons_zero, List.set_cons_succ, i64_w, i32_w]
       rfl
      refine pure_ (i := 24) (N := some 39) (v := ?_) (a' := ?_) #[true, true, true, true, true, true, true, true, true, true, true, true, true, true, true, true, true, true, true, true, true, true, true, true, true, false] rfl rfl (any_of HT_.out (by kernel_rfl)) (fun _ _ _ h => h) (Or.inl ⟨by rfl, ?_⟩) ?_ ?_
      rotate_left
      ·intro w'
       go_simp
       with_reducible rfl
      rotate_left
      ·simp only [Act.put, List.setIfInBounds_toArray, List.set_cons_zero, List.set_cons_succ, i64_w, i32_w]
       rfl
      refine pure_ (i := 25) (N := some 0) (v := ?_) (a' := ?_) #[true, true, true, true, true, true, true, true, true, true, true, true, true, true, true, true, true, true, true, true, true, true, true, true, true, true] rfl rfl (any_of HT_.out (by kernel_rfl)) (fun _ _ _ h => h) (Or.inl ⟨by rfl, ?_⟩) ?_ ?_
      rotate_left
      ·intro w'
       go_simp
       with_reducible rfl
      rotate_left
      ·simp only [Act.put, List.setIfInBounds_toArray, List.set_cons_zero, List.set_cons_succ, i64_w, i32_w]
       rfl
      refine done_ (done_of HT_.out (by kernel_rfl)) ?_
      try go_wp2
      go_ret
      exact ⟨by first | rfl | (simp [errW_none, errW_some] <;> rfl) | (simp [*, errW_none, errW_some] <;> rfl), by repeat (first | (with_reducible first | exact HB.out | apply below_alloc | apply pw_below_drewN | apply below_drew1) | exact HB.out)⟩
     ·rw [if_neg c12] at H
      have c12b0 : (t156 == 2) = false := beq_eq_false_iff_ne.mpr c12
      have c12b1 : (t156 != 2) = true := bne_iff_ne.mpr c12
      obtain rfl := Option.some.inj H
      go_enter Try.func21, Try.ntmps21
      try go_wp2_with (first | ((with_reducible refine gate_callee (f := 87) rfl ?_); refine goesL_ (some 6) rfl rfl Try.func87 (by kernel_rfl) rfl #[] rfl (by (try simp only [List.map_toArray, List.map_cons, List.map_nil]); first | done | rfl | (simp only [List.length_drop, List.length_take]; rfl)) ?_; (with_reducible refine (thermionlaw04_chain.calls  t144 t145 _ A1.out).mono ?_); rintro e w26 ⟨v146, rfl, ho0, hb⟩; refine ⟨_, rfl, ?_⟩; have n0_ := Aside0.mk (Kd.R_lower ho0 (below_size (by repeat (first | (with_reducible first | exact HB.out | apply below_alloc | apply pw_below_drewN | apply below_drew1) | exact HB.out)))); have n1_ := Aside0.mk (below_step (by repeat (first | (with_reducible first | exact HB.out | apply below_alloc | apply pw_below_drewN | apply below_drew1) | exact HB.out)) hb); clear HB; have HO147 := n0_; have HB := n1_; clear n0_ n1_; (try clear hb); (try clear hb2); (try clear hk); (try clear hi); (try clear ho0); obtain ⟨Ao27, co27, eo27⟩ := Kd.R_slice HO147.out; subst eo27) | ((with_reducible refine gate_callee (f := 24) rfl ?_); refine goesL_ (some 7) rfl rfl Try.func24 (by kernel_rfl) rfl #[.agg #[.int .i64 t144, .slice Ao27 t145.length co27]] rfl (by (try simp only [List.map_toArray, List.map_cons, List.map_nil]); first | done | rfl | (simp only [List.length_drop, List.length_take]; rfl)) ?_; (with_reducible refine (mount_Tight.calls t144 _ _ t145 t148 t151 _ ?side1 ?side2 A2.out).mono ?_); (case side1 => repeat (first | exact (Kd.R_reads' HO147.out).2.2 | (with_reducible refine Kd.C_alloc ?_ _) | (with_reducible refine Kd.C_drewN ?_ _) | (with_reducible refine Kd.C_drew ?_))); (case side2 => exact (Kd.R_reads' HO147.out).2.1); rintro e w28 ⟨v149, rfl, ho0, hb⟩; refine ⟨_, rfl, ?_⟩; have n0_ := Aside0.mk (Kd.R_below (by (with_reducible repeat (first | apply Kd.R_alloc | apply Kd.R_drewN | apply Kd.R_drew)); exact HO147.out) hb); have n1_ := Aside0.mk (Kd.N_lower (Kd.N_mono (ok' := fun k_ => some k_ ≠ (.slice Ao27 t145.length co27 : Value).ownBlock) (Kd.S_N (Kd.S_bound ho0)) (fun k_ hk_ => (Kd.fresh' (Kd.R_lt (by (with_reducible repeat (first | apply Kd.R_alloc | apply Kd.R_drewN | apply Kd.R_drew)); exact HO147.out)) k_ hk_.2.1))) (below_size (by repeat (first | (with_reducible first | exact HB.out | apply below_alloc | apply pw_below_drewN | apply below_drew1) | exact HB.out)))); have n2_ := Aside0.mk (below_step (by repeat (first | (with_reducible first | exact HB.out | apply below_alloc | apply pw_below_drewN | apply below_drew1) | exact HB.out)) hb); clear HO147; clear HB; have HO147 := n0_; have HO150 := n1_; have HB := n2_; clear n0_ n1_ n2_; (try clear hb); (try clear hb2); (try clear hk); (try clear hi); (try clear ho0)) | ((with_reducible refine gate_callee (f := 59) rfl ?_); refine goesL_ (some 11) rfl rfl Try.func59 (by kernel_rfl) rfl #[] rfl (by (try simp only [List.map_toArray, List.map_cons, List.map_nil]); first | done | rfl | (simp only [List.length_drop, List.length_take]; rfl)) ?_; (with_reducible refine (thermionlaw04_kit.calls  t152 t155 _ A3.out).mono ?_); rintro e w29 ⟨v153, rfl, ho0, hb⟩; refine ⟨_, rfl, ?_⟩; have n0_ := Aside0.mk (Kd.R_below (by (with_reducible repeat (first | apply Kd.R_alloc | apply Kd.R_drewN | apply Kd.R_drew)); exact HO147.out) hb); have n1_ := Aside0.mk (Kd.N_elder' (by (with_reducible repeat (first | apply Kd.N_alloc | apply Kd.N_drewN | apply Kd.N_drew)); exact HO150.out) (Kd.N_base ho0) hb); have n2_ := Aside0.mk (Kd.N_lower (Kd.N_mono (ok' := fun k_ => some k_ ≠ (.slice Ao27 t145.length co27 : Value).ownBlock ∧ some k_ ≠ (v149 : Value).ownBlock) ho0 (fun k_ hk_ => ⟨(Kd.fresh' (Kd.R_lt (by (with_reducible repeat (first | apply Kd.R_alloc | apply Kd.R_drewN | apply Kd.R_drew)); exact HO147.out)) k_ hk_), (Kd.fresh' (Kd.N_lt (by (with_reducible repeat (first | apply Kd.N_alloc | apply Kd.N_drewN | apply Kd.N_drew)); exact HO150.out)) k_ hk_)⟩)) (below_size (by repeat (first | (with_reducible first | exact HB.out | apply below_alloc | apply pw_below_drewN | apply below_drew1) | exact HB.out)))); have n3_ := Aside0.mk (below_step (by repeat (first | (with_reducible first | exact HB.out | apply below_alloc | apply pw_below_drewN | apply below_drew1) | exact HB.out)) hb); clear HO147; clear HO150; clear HB; have HO147 := n0_; have HO150 := n1_; have HO154 := n2_; have HB := n3_; clear n0_ n1_ n2_ n3_; (try clear hb); (try clear hb2); (try clear hk); (try clear hi); (try clear ho0); obtain ⟨Ao30, co30, eo30⟩ := Kd.N_slice HO154.out; subst eo30) | ((with_reducible refine gate_callee (f := 30) rfl ?_); refine goesL_ (some 12) rfl rfl Try.func30 (by kernel_rfl) rfl #[.agg #[.slice Ao30 t152.length co30, .int .i64 t155]] rfl (by (try simp only [List.map_toArray, List.map_cons, List.map_nil]); first | done | rfl | (simp only [List.length_drop, List.length_take]; rfl)) ?_; (with_reducible refine (mount_Orders.calls _ _ t152 t155 t156 t157 _ ?side1 ?side2 A4.out).mono ?_); (case side1 => repeat (first | exact (Kd.N_reads' HO154.out).2.2 | (with_reducible refine Kd.C_alloc ?_ _) | (with_reducible refine Kd.C_drewN ?_ _) | (with_reducible refine Kd.C_drew ?_))); (case side2 => exact (Kd.N_reads' HO154.out).2.1); rintro e w31 ⟨rfl, hb⟩; refine ⟨_, rfl, ?_⟩; have n0_ := Aside0.mk (Kd.R_below (by (with_reducible repeat (first | apply Kd.R_alloc | apply Kd.R_drewN | apply Kd.R_drew)); exact HO147.out) hb); have n1_ := Aside0.mk (Kd.N_below (by (with_reducible repeat (first | apply Kd.N_alloc | apply Kd.N_drewN | apply Kd.N_drew)); exact HO150.out) hb); have n2_ := Aside0.mk (Kd.N_below (by (with_reducible repeat (first | apply Kd.N_alloc | apply Kd.N_drewN | apply Kd.N_drew)); exact HO154.out) hb); have n3_ := Aside0.mk (below_step (by repeat (first | (with_reducible first | exact HB.out | apply below_alloc | apply pw_below_drewN | apply below_drew1) | exact HB.out)) hb); clear HO147; clear HO150; clear HO154; clear HB; have HO147 := n0_; have HO150 := n1_; have HO154 := n2_; have HB := n3_; clear n0_ n1_ n2_ n3_; (try clear hb); (try clear hb2); (try clear hk); (try clear hi)))
      have n0_ := Aside0.mk (Kd.R_drew HO147.out)
      have n1_ := Aside0.mk (Kd.N_drew HO150.out)
      have n2_ := Aside0.mk (Kd.N_drew HO154.out)
      have n3_ := Aside0.mk (below_drew1 HB.out)
      clear HO147
      clear HO150
      clear HO154
      clear HB
      have HO147 := n0_
      have HO150 := n1_
      have HO154 := n2_
      have HB := n3_
      clear n0_ n1_ n2_ n3_
      obtain ⟨Ao33, co33, eo33⟩ := Kd.N_slice HO150.out
      (first | subst eo33 | (injection eo33 with f1_ f2_ f3_; have f4_ := f1_.symm; have f5_ := f3_.symm; clear f1_ f2_ f3_; subst f4_; subst f5_))
      have p158 : 0 ≤ (0 : Int) := (by omega)
      have q158 : 0 < (t148.length : Int) := of_decide_eq_true (by first | (with_reducible assumption) | assumption)
      obtain ⟨ad158, A158_0, c158_0, e158, hx158_0, hl158_0, hi158_0⟩ := at_L6 (Kd.N_reads' HO150.out).2.2 0 p158 q158
      cases e158
      obtain ⟨ce158, hce158, hMe158, hcc158⟩ := Kd.N_get HO150.out [] 0 p158 (by first | exact q158 | exact of_decide_eq_true (by first | (with_reducible assumption) | assumption) | (have e_ := (Kd.N_reads' HO150.out).1; omega))
      obtain ⟨ua158_0, uc158_0, rfl, ul158_0, ge158_0⟩ := Kd.FK_slice_open hMe158
      have hv158_0 := hcc158 0 _ rfl
      rw [Nat.add_zero, show ((Kd.slice 32 k32)).sz = 1 from rfl, Nat.mul_one] at hv158_0
      replace hv158_0 := Option.some.inj (hv158_0.symm.trans hx158_0)
      injection hv158_0 with hva_ hvn_ hvc_
      rw [hva_] at ge158_0
      rw [hvc_] at ul158_0
      have HL158_0 := Aside0.mk (show Kd.V k32 32 _ w.heap.size _ _ (rd_L6 t148 0) from Kd.V_mk ul158_0 ge158_0)
      clear hva_ hvn_ hvc_ ge158_0 ul158_0
      clear hcc158 hce158
      have qi158 : (0 < t148.length) = True := eq_true (by omega)
      (try rw [show ((0 : Int)).toNat = 0 from rfl] at hx158_0)
      (try rw [Addr.add_zero'] at hx158_0)
      have HR158_0 := Aside0.mk hi158_0
      have HC158_0 := Aside0.mk hl158_0
      clear hi158_0 hl158_0
      replace p158 := eq_true p158
      replace q158 := eq_true q158
      refine start_ (n := 26) (S := fun w' => w'.cell? ad158 = some (.slice A158_0 (rd_L6 t148 0).length c158_0)) (ds := []) #[false, false, false, false, false, false, false, false, false, false, false, false, false, false, false, false, false, false, false, false, false, false, false, false, false, false] (by kernel_rfl) rfl rfl (hx158_0) (fun hHeld => ?_); refine with_tabW thermionlaw04_awake.tab3 thermionlaw04_awake.bits3 (fun HT_ HW_ => ?_)
      generalize w31.drew = w32 at HO147 HO150 HO154 HB HL158_0 HR158_0 hx158_0 hHeld ⊢
      refine pure_ (i := 0) (N := some 15) (v := ?_) (a' := ?_) #[true, false, false, false, false, false, false, false, false, false, false, false, false, false, false, false, false, false, false, false, false, false, false, false, false, false] rfl rfl (any_of HT_.out (by kernel_rfl)) (fun _ _ _ h => h) (Or.inl ⟨by rfl, ?_⟩) ?_ ?_
      rotate_left
      ·intro w'
       go_simp
       with_reducible rfl
      rotate_left
      ·simp only [Act.put, List.setIfInBounds_toArray, List.set_cons_zero, List.set_cons_succ, i64_w, i32_w]
       rfl
      refine pure_ (i := 1) (N := some 16) (v := ?_) (a' := ?_) #[true, true, false, false, false, false, false, false, false, false, false, false, false, false, false, false, false, false, false, false, false, false, false, false, false, false] rfl rfl (any_of HT_.out (by kernel_rfl)) (fun _ _ _ h => h) (Or.inl ⟨by rfl, ?_⟩) ?_ ?_
      rotate_left
      ·intro w'
       go_simp
       with_reducible rfl
      rotate_left
      ·simp only [Act.put, List.setIfInBounds_toArray, List.set_cons_zero, List.set_cons_succ, i64_w, i32_w]
       rfl
      refine pure_ (i := 2) (N := some 17) (v := ?_) (a' := ?_) #[true, true, true, false, false, false, false, false, false, false, false, false, false, false, false, false, false, false, false, false, false, false, false, false, false, false] rfl rfl (any_of HT_.out (by kernel_rfl)) (fun _ _ _ h => h) (Or.inl ⟨by rfl, ?_⟩) ?_ ?_
      rotate_left
      ·intro w'
       go_simp
       with_reducible rfl
      rotate_left
      ·simp only [Act.put, List.setIfInBounds_toArray, List.set_cons_zero, List.set_cons_succ, i64_w, i32_w]
       rfl
      refine pure_ (i := 3) (N := some 18) (v := ?_) (a' := ?_) #[true, true, true, true, false, false, false, false, false, false, false, false, false, false, false, false, false, false, false, false, false, false, false, false, false, false] rfl rfl (any_of HT_.out (by kernel_rfl)) (fun _ _ _ h => h) (Or.inl ⟨by rfl, ?_⟩) ?_ ?_
      rotate_left
      ·intro w'
       go_simp
       with_reducible rfl
      rotate_left
      ·simp only [Act.put, List.setIfInBounds_toArray, List.set_cons_zero, List.set_cons_succ, i64_w, i32_w]
       rfl
      refine pure_ (i := 4) (N := some 19) (v := ?_) (a' := ?_) #[true, true, true, true, true, false, false, false, false, false, false, false, false, false, false, false, false, false, false, false, false, false, false, false, false, false] rfl rfl (any_of HT_.out (by kernel_rfl)) (fun _ _ _ h => h) (Or.inl ⟨by rfl, ?_⟩) ?_ ?_
      rotate_left
      ·intro w'
       go_simp
       with_reducible rfl
      rotate_left
      ·simp only [Act.put, List.setIfInBounds_toArray, List.set_cons_zero, List.set_cons_succ, i64_w, i32_w]
       rfl
      refine pure_ (i := 5) (N := some 20) (v := ?_) (a' := ?_) #[true, true, true, true, true, true, false, false, false, false, false, false, false, false, false, false, false, false, false, false, false, false, false, false, false, false] rfl rfl (any_of HT_.out (by kernel_rfl)) (fun _ _ _ h => h) (Or.inl ⟨by rfl, ?_⟩) ?_ ?_
      rotate_left
      ·intro w'
       go_simp
       with_reducible rfl
      rotate_left
      ·simp only [Act.put, List.setIfInBounds_toArray, List.set_cons_zero, List.set_cons_succ, i64_w, i32_w]
       rfl
      refine pure_ (i := 6) (N := some 21) (v := ?_) (a' := ?_) #[true, true, true, true, true, true, true, false, false, false, false, false, false, false, false, false, false, false, false, false, false, false, false, false, false, false] rfl rfl (any_of HT_.out (by kernel_rfl)) (fun _ _ _ h => h) (Or.inl ⟨by rfl, ?_⟩) ?_ ?_
      rotate_left
      ·intro w'
       go_simp
       with_reducible rfl
      rotate_left
      ·simp only [Act.put, List.setIfInBounds_toArray, List.set_cons_zero, List.set_cons_succ, i64_w, i32_w]
       rfl
      refine pure_ (i := 7) (N := some 22) (v := ?_) (a' := ?_) #[true, true, true, true, true, true, true, true, false, false, false, false, false, false, false, false, false, false, false, false, false, false, false, false, false, false] rfl rfl (any_of HT_.out (by kernel_rfl)) (fun _ _ _ h => h) (Or.inl ⟨by rfl, ?_⟩) ?_ ?_
      rotate_left
      ·intro w'
       go_simp
       with_reducible rfl
      rotate_left
      ·simp only [Act.put, List.setIfInBounds_toArray, List.set_cons_zero, List.set_cons_succ, i64_w, i32_w]
       rfl
      refine pure_ (i := 8) (N := some 23) (v := ?_) (a' := ?_) #[true, true, true, true, true, true, true, true, true, false, false, false, false, false, false, false, false, false, false, false, false, false, false, false, false, false] rfl rfl (any_of HT_.out (by kernel_rfl)) (fun _ _ _ h => h) (Or.inl ⟨by rfl, ?_⟩) ?_ ?_
      rotate_left
      ·intro w'
       go_simp
       with_reducible rfl
      rotate_left
      ·simp only [Act.put, List.setIfInBounds_toArray, List.set_cons_zero, List.set_cons_succ, i64_w, i32_w]
       rfl
      refine pure_ (i := 9) (N := some 24) (v := ?_) (a' := ?_) #[true, true, true, true, true, true, true, true, true, true, false, false, false, false, false, false, false, false, false, false, false, false, false, false, false, false] rfl rfl (any_of HT_.out (by kernel_rfl)) (fun _ _ _ h => h) (Or.inl ⟨by rfl, ?_⟩) ?_ ?_
      rotate_left
      ·intro w'
       go_simp
       with_reducible rfl
      rotate_left
      ·simp only [Act.put, List.setIfInBounds_toArray, List.set_cons_zero, List.set_cons_succ, i64_w, i32_w]
       rfl
      refine pure_ (i := 11) (N := some 26) (v := ?_) (a' := ?_) #[true, true, true, true, true, true, true, true, true, true, false, true, false, false, false, false, false, false, false, false, false, false, false, false, false, false] rfl rfl (any_of HT_.out (by kernel_rfl)) (fun _ _ _ h => h) (Or.inl ⟨by rfl, ?_⟩) ?_ ?_
      rotate_left
      ·intro w'
       go_simp
       with_reducible rfl
      rotate_left
      ·simp only [Act.put, List.setIfInBounds_toArray, List.set_cons_zero, List.set_cons_succ, i64_w, i32_w]
       rfl
      refine take_ (i := 10) (N := some 25) (v := ?_) (a' := ?_) #[true, true, true, true, true, true, true, true, true, true, true, true, false, false, false, false, false, false, false, false, false, false, false, false, false, false] rfl rfl (take_ofW HT_.out HW_.out (by kernel_rfl)) (fun _ _ _ h => h) (Or.inl ⟨by rfl, ?_⟩) hHeld ?_ ?_
      rotate_left
      ·intro w' s0
       go_simp
       with_reducible rfl
      rotate_left
      ·simp only [Act.put, List.setIfInBounds_toArray, List.set_cons_zero, List.set_cons_succ, i64_w, i32_w]
       rfl
      refine one_ (i := 12) (N := some 27) #[true, true, true, true, true, true, true, true, true, true, true, true, true, false, false, false, false, false, false, false, false, false, false, false, false, false] rfl rfl (one_of HT_.out (by kernel_rfl)) (by decide) (fun K hK => ?_)
      refine goes_ Try.func52 (by kernel_rfl) rfl #[.int .i64 10, .int .i64 12] (by rfl) rfl rfl (by (try simp only [List.map_toArray, List.map_cons, List.map_nil]); first | done | rfl | (simp only [List.length_drop, List.length_take]; rfl)) ?_
      with_reducible refine (thermionlaw04_of.calls 10 12 t159 t160 _ A8.out).mono ?_
      rintro e w34 ⟨rfl, hb⟩
      have HS0_ := (hb.cell (World.block_lt_of_cell? _ _ (hHeld))).trans (hHeld)
      refine ⟨_, rfl, ?_⟩
      have n0_ := Aside0.mk (Kd.R_below (by (with_reducible repeat (first | apply Kd.R_alloc | apply Kd.R_drewN | apply Kd.R_drew)); exact HO147.out) hb)
      have n1_ := Aside0.mk (Kd.N_below (by (with_reducible repeat (first | apply Kd.N_alloc | apply Kd.N_drewN | apply Kd.N_drew)); exact HO150.out) hb)
      have n2_ := Aside0.mk (Kd.N_below (by (with_reducible repeat (first | apply Kd.N_alloc | apply Kd.N_drewN | apply Kd.N_drew)); exact HO154.out) hb)
      have n3_ := Aside0.mk (Kd.V_below (by (with_reducible repeat (first | apply Kd.V_alloc | apply Kd.V_drewN | apply Kd.V_drew)); exact HL158_0.out) hb)
      have n4_ := Aside0.mk (Kd.C_below (by repeat (first | (with_reducible exact HR158_0.out) | (with_reducible refine Kd.C_alloc ?_ _) | (with_reducible refine Kd.C_drewN ?_ _) | (with_reducible refine Kd.C_drew ?_) | exact HR158_0.out)) hb)
      have n5_ := Aside0.mk (below_step (by repeat (first | (with_reducible first | exact HB.out | apply below_alloc | apply pw_below_drewN | apply below_drew1) | exact HB.out)) hb)
      clear HO147
      clear HO150
      clear HO154
      clear HL158_0
      clear HR158_0
      clear HB
      have HO147 := n0_
      have HO150 := n1_
      have HO154 := n2_
      have HL158_0 := n3_
      have HR158_0 := n4_
      have HB := n5_
      clear n0_ n1_ n2_ n3_ n4_ n5_
      (try clear hb)
      (try clear hb2)
      (try clear hk)
      (try clear hi)
      refine hK.out _ _ (HS0_) (fun hHeld => ?_)
      clear hK K
      refine norm_ (a' := ?_) ?_ ?_
      rotate_left
      ·show Act.put _ (some 27) _ = _
       simp only [Act.put, List.setIfInBounds_toArray, List.set_cons_zero, List.set_cons_succ, i64_w, i32_w]
       rfl
      refine one_ (i := 13) (N := some 28) #[true, true, true, true, true, true, true, true, true, true, true, true, true, true, false, false, false, false, false, false, false, false, false, false, false, false] rfl rfl (one_of HT_.out (by kernel_rfl)) (by decide) (fun K hK => ?_)
      refine goes_ Try.func52 (by kernel_rfl) rfl #[.int .i64 17, .int .i64 18] (by rfl) rfl rfl (by (try simp only [List.map_toArray, List.map_cons, List.map_nil]); first | done | rfl | (simp only [List.length_drop, List.length_take]; rfl)) ?_
      with_reducible refine (thermionlaw04_of.calls 17 18 t161 t162 _ A9.out).mono ?_
      rintro e w35 ⟨rfl, hb⟩
      have HS0_ := (hb.cell (World.block_lt_of_cell? _ _ (hHeld))).trans (hHeld)
      refine ⟨_, rfl, ?_⟩
      have n0_ := Aside0.mk (Kd.R_below (by (with_reducible repeat (first | apply Kd.R_alloc | apply Kd.R_drewN | apply Kd.R_drew)); exact HO147.out) hb)
      have n1_ := Aside0.mk (Kd.N_below (by (with_reducible repeat (first | apply Kd.N_alloc | apply Kd.N_drewN | apply Kd.N_drew)); exact HO150.out) hb)
      have n2_ := Aside0.mk (Kd.N_below (by (with_reducible repeat (first | apply Kd.N_alloc | apply Kd.N_drewN | apply Kd.N_drew)); exact HO154.out) hb)
      have n3_ := Aside0.mk (Kd.V_below (by (with_reducible repeat (first | apply Kd.V_alloc | apply Kd.V_drewN | apply Kd.V_drew)); exact HL158_0.out) hb)
      have n4_ := Aside0.mk (Kd.C_below (by repeat (first | (with_reducible exact HR158_0.out) | (with_reducible refine Kd.C_alloc ?_ _) | (with_reducible refine Kd.C_drewN ?_ _) | (with_reducible refine Kd.C_drew ?_) | exact HR158_0.out)) hb)
      have n5_ := Aside0.mk (below_step (by repeat (first | (with_reducible first | exact HB.out | apply below_alloc | apply pw_below_drewN | apply below_drew1) | exact HB.out)) hb)
      clear HO147
      clear HO150
      clear HO154
      clear HL158_0
      clear HR158_0
      clear HB
      have HO147 := n0_
      have HO150 := n1_
      have HO154 := n2_
      have HL158_0 := n3_
      have HR158_0 := n4_
      have HB := n5_
      clear n0_ n1_ n2_ n3_ n4_ n5_
      (try clear hb)
      (try clear hb2)
      (try clear hk)
      (try clear hi)
      refine hK.out _ _ (HS0_) (fun hHeld => ?_)
      clear hK K
      refine norm_ (a' := ?_) ?_ ?_
      rotate_left
      ·show Act.put _ (some 28) _ = _
       simp only [Act.put, List.setIfInBounds_toArray, List.set_cons_zero, List.set_cons_succ, i64_w, i32_w]
       rfl
      refine one_ (i := 14) (N := some 29) #[true, true, true, true, true, true, true, true, true, true, true, true, true, true, true, false, false, false, false, false, false, false, false, false, false, false] rfl rfl (one_of HT_.out (by kernel_rfl)) (by decide) (fun K hK => ?_)
      refine Kd.R_lit_step k32 _ 32 ?hg (N := 29) ?hd (xs := ([(⟨0, 0⟩ : S32), (⟨t159, t160⟩ : S32), (⟨t161, t162⟩ : S32)] : List (S32))) (inner := [.int .i64 0, .int .i64 0, .int .i64 t159, .int .i64 t160, .int .i64 t161, .int .i64 t162]) (ok := fun _ => True) (okp := fun _ => True) ?hr ?hp (fun _ hk => hk) trivial (Below.refl _ _) (Nat.le_refl _) (by simp) ?_; (case hd => rfl); (case hg => rfl); (case hr => first | (go_simp; done) | (go_simp; rfl)); (case hp => exact (Reps.c2 (show Kd.M k32 _ _ _ (⟨0, 0⟩ : S32) [.int .i64 0, .int .i64 0] from (k32_mkM _ _ _ (⟨0, 0⟩ : S32) )) (Reps.c2 (show Kd.M k32 _ _ _ (⟨t159, t160⟩ : S32) [.int .i64 t159, .int .i64 t160] from (k32_mkM _ _ _ (⟨t159, t160⟩ : S32) )) (Reps.c2 (show Kd.M k32 _ _ _ (⟨t161, t162⟩ : S32) [.int .i64 t161, .int .i64 t162] from (k32_mkM _ _ _ (⟨t161, t162⟩ : S32) )) (Reps.none _ _)))))
      intro v164 w36 ho37 hb hg_ hnew_
      have HS0_ := (hb.cell (World.block_lt_of_cell? _ _ (hHeld))).trans (hHeld)
      clear hg_ hnew_
      (first | rw [← Ny163.out] at ho37 | (simp only [Int.reduceToNat] at ho37; rw [← Ny163.out] at ho37))
      have n0_ := Aside0.mk (Kd.R_below (by (with_reducible repeat (first | apply Kd.R_alloc | apply Kd.R_drewN | apply Kd.R_drew)); exact HO147.out) hb)
      have n1_ := Aside0.mk (Kd.N_elder' (by (with_reducible repeat (first | apply Kd.N_alloc | apply Kd.N_drewN | apply Kd.N_drew)); exact HO150.out) (Kd.R_base ho37) hb)
      have n2_ := Aside0.mk (Kd.N_elder' (by (with_reducible repeat (first | apply Kd.N_alloc | apply Kd.N_drewN | apply Kd.N_drew)); exact HO154.out) (Kd.R_base ho37) hb)
      have n3_ := Aside0.mk (Kd.V_elder' (by (with_reducible repeat (first | apply Kd.V_alloc | apply Kd.V_drewN | apply Kd.V_drew)); exact HL158_0.out) (Kd.R_base ho37) hb)
      have n4_ := Aside0.mk (Kd.R_lower ho37 (below_size (by repeat (first | (with_reducible first | exact HB.out | apply below_alloc | apply pw_below_drewN | apply below_drew1) | exact HB.out))))
      have n5_ := Aside0.mk (Kd.C_below (by repeat (first | (with_reducible exact HR158_0.out) | (with_reducible refine Kd.C_alloc ?_ _) | (with_reducible refine Kd.C_drewN ?_ _) | (with_reducible refine Kd.C_drew ?_) | exact HR158_0.out)) hb)
      have n6_ := Aside0.mk (below_step (by repeat (first | (with_reducible first | exact HB.out | apply below_alloc | apply pw_below_drewN | apply below_drew1) | exact HB.out)) hb)
      clear HO147
      clear HO150
      clear HO154
      clear HL158_0
      clear HR158_0
      clear HB
      have HO147 := n0_
      have HO150 := n1_
      have HO154 := n2_
      have HL158_0 := n3_
      have HO165 := n4_
      have HR158_0 := n5_
      have HB := n6_
      clear n0_ n1_ n2_ n3_ n4_ n5_ n6_
      clear hb ho37
      obtain ⟨Ao38, co38, eo38⟩ := Kd.R_slice HO165.out
      (first | subst eo38 | (injection eo38 with f1_ f2_ f3_; have f4_ := f1_.symm; have f5_ := f3_.symm; clear f1_ f2_ f3_; subst f4_; subst f5_))
      refine hK.out _ _ (HS0_) (fun hHeld => ?_)
      clear hK K
      refine norm_ (a' := ?_) ?_ ?_
      rotate_left
      ·show Act.put _ (some 29) _ = _
       simp only [Act.put, List.setIfInBounds_toArray, List.set_cons_zero, List.set_cons_succ, i64_w, i32_w]
       rfl
      refine one_ (i := 15) (N := some 30) #[true, true, true, true, true, true, true, true, true, true, true, true, true, true, true, true, false, false, false, false, false, false, false, false, false, false] rfl rfl (one_of HT_.out (by kernel_rfl)) (by decide) (fun K hK => ?_)
      refine goes_ Try.func88 (by kernel_rfl) rfl #[.slice A158_0 (rd_L6 t148 0).length c158_0, .slice Ao38 y163.length co38] (by rfl) rfl rfl (by (try simp only [List.map_toArray, List.map_cons, List.map_nil]); first | done | rfl | (simp only [List.length_drop, List.length_take]; rfl)) ?_
      with_reducible refine (thermionkit_SameRanges.calls k _ _ (rd_L6 t148 0) _ _ y163 true _ ?side1 ?side2 ?side3 ?side4 A10.out).mono ?_
      (case side1 => repeat (first | exact (by repeat (first | (with_reducible exact HR158_0.out) | (with_reducible refine Kd.C_alloc ?_ _) | (with_reducible refine Kd.C_drewN ?_ _) | (with_reducible refine Kd.C_drew ?_) | exact HR158_0.out)) | (with_reducible refine Kd.C_alloc ?_ _) | (with_reducible refine Kd.C_drewN ?_ _) | (with_reducible refine Kd.C_drew ?_)))
      (case side2 => exact HC158_0.out)
      (case side3 => repeat (first | exact (Kd.R_reads' HO165.out).2.2 | (with_reducible refine Kd.C_alloc ?_ _) | (with_reducible refine Kd.C_drewN ?_ _) | (with_reducible refine Kd.C_drew ?_)))
      (case side4 => exact (Kd.R_reads' HO165.out).2.1)
      rintro e w' ⟨rfl, ⟨nd, rfl⟩⟩
      refine ⟨_, rfl, ?_⟩
      refine hK.out _ _ (hHeld) (fun hHeld => ?_)
      clear hK K
      refine norm_ (a' := ?_) ?_ ?_
      rotate_left
      ·show Act.put _ (some 30) _ = _
       simp only [Act.put, List.setIfInBounds_toArray, List.set_cons_zero, List.set_cons_succ, i64_w, i32_w]
       rfl
      refine pure_ (i := 16) (N := some 31) (v := ?_) (a' := ?_) #[true, true, true, true, true, true, true, true, true, true, true, true, true, true, true, true, true, false, false, false, false, false, false, false, false, false] rfl rfl (any_of HT_.out (by kernel_rfl)) (fun _ _ _ h => h) (Or.inl ⟨by rfl, ?_⟩) ?_ ?_
      rotate_left
      ·intro w'
       go_simp
       with_reducible rfl
      rotate_left
      ·simp only [Act.put, List.setIfInBounds_toArray, List.set_cons_zero, List.set_cons_succ, i64_w, i32_w]
       rfl
      refine pure_ (i := 17) (N := some 32) (v := ?_) (a' := ?_) #[true, true, true, true, true, true, true, true, true, true, true, true, true, true, true, true, true, true, false, false, false, false, false, false, false, false] rfl rfl (any_of HT_.out (by kernel_rfl)) (fun _ _ _ h => h) (Or.inl ⟨by rfl, ?_⟩) ?_ ?_
      rotate_left
      ·intro w'
       go_simp
       with_reducible rfl
      rotate_left
      ·simp only [Act.put, List.setIfInBounds_toArray, List.set_cons_zero, List.set_cons_succ, i64_w, i32_w]
       rfl
      refine pure_ (i := 18) (N := some 33) (v := ?_) (a' := ?_) #[true, true, true, true, true, true, true, true, true, true, true, true, true, true, true, true, true, true, true, false, false, false, false, false, false, false] rfl rfl (any_of HT_.out (by kernel_rfl)) (fun _ _ _ h => h) (Or.inl ⟨by rfl, ?_⟩) ?_ ?_
      rotate_left
      ·intro w'
       go_simp
       with_reducible rfl
      rotate_left
      ·simp only [Act.put, List.setIfInBounds_toArray, List.set_cons_zero, List.set_cons_succ, i64_w, i32_w]
       rfl
      refine pure_ (i := 19) (N := some 34) (v := ?_) (a' := ?_) #[true, true, true, true, true, true, true, true, true, true, true, true, true, true, true, true, true, true, true, true, false, false, false, false, false, false] rfl rfl (any_of HT_.out (by kernel_rfl)) (fun _ _ _ h => h) (Or.inl ⟨by rfl, ?_⟩) ?_ ?_
      rotate_left
      ·intro w'
       go_simp
       with_reducible rfl
      rotate_left
      ·simp only [Act.put, List.setIfInBounds_toArray, List.set_cons_zero, List.set_cons_succ, i64_w, i32_w]
       rfl
      refine pure_ (i := 20) (N := some 35) (v := ?_) (a' := ?_) #[true, true, true, true, true, true, true, true, true, true, true, true, true, true, true, true, true, true, true, true, true, false, false, false, false, false] rfl rfl (any_of HT_.out (by kernel_rfl)) (fun _ _ _ h => h) (Or.inl ⟨by rfl, ?_⟩) ?_ ?_
      rotate_left
      ·intro w'
       go_simp
       with_reducible rfl
      rotate_left
      ·simp only [Act.put, List.setIfInBounds_toArray, List.set_cons_zero, List.set_cons_succ, i64_w, i32_w]
       rfl
      refine pure_ (i := 21) (N := some 36) (v := ?_) (a' := ?_) #[true, true, true, true, true, true, true, true, true, true, true, true, true, true, true, true, true, true, true, true, true, true, false, false, false, false] rfl rfl (any_of HT_.out (by kernel_rfl)) (fun _ _ _ h => h) (Or.inl ⟨by rfl, ?_⟩) ?_ ?_
      rotate_left
      ·intro w'
       go_simp
       with_reducible rfl
      rotate_left
      ·simp only [Act.put, List.setIfInBounds_toArray, List.set_cons_zero, List.set_cons_succ, i64_w, i32_w]
       rfl
      refine pure_ (i := 22) (N := some 37) (v := undef) (a' := ?_) #[true, true, true, true, true, true, true, true, true, true, true, true, true, true, true, true, true, true, true, true, true, true, true, false, false, false] rfl rfl (any_of HT_.out (by kernel_rfl)) (fun _ _ _ h => h) (Or.inr ⟨by rfl, rfl⟩) ?_ ?_
      rotate_left
      ·simp only [Act.put, List.setIfInBounds_toArray, List.set_cons_zero, List.set_cons_succ, i64_w, i32_w]
       rfl
      refine pure_ (i := 23) (N := some 38) (v := undef) (a' := ?_) #[true, true, true, true, true, true, true, true, true, true, true, true, true, true, true, true, true, true, true, true, true, true, true, true, false, false] rfl rfl (any_of HT_.out (by kernel_rfl)) (fun _ _ _ h => h) (Or.inr ⟨by rfl, rfl⟩) ?_ ?_
      rotate_left
      ·simp only [Act.put, List.setIfInBounds_toArray, List.set_cons_zero, List.set_cons_succ, i64_w, i32_w]
       rfl
      refine pure_ (i := 24) (N := some 39) (v := ?_) (a' := ?_) #[true, true, true, true, true, true, true, true, true, true, true, true, true, true, true, true, true, true, true, true, true, true, true, true, true, false] rfl rfl (any_of HT_.out (by kernel_rfl)) (fun _ _ _ h => h) (Or.inl ⟨by rfl, ?_⟩) ?_ ?_
      rotate_left
      ·intro w'
       go_simp
       with_reducible rfl
      rotate_left
      ·simp only [Act.put, List.setIfInBounds_toArray, List.set_cons_zero, List.set_cons_succ, i64_w, i32_w]
       rfl
      refine pure_ (i := 25) (N := some 0) (v := ?_) (a' := ?_) #[true, true, true, true, true, true, true, true, true, true, true, true, true, true, true, true, true, true, true, true, true, true, true, true, true, true] rfl rfl (any_of HT_.out (by kernel_rfl)) (fun _ _ _ h => h) (Or.inl ⟨by rfl, ?_⟩) ?_ ?_
      rotate_left
      ·intro w'
       go_simp
       with_reducible rfl
      rotate_left
      ·simp only [Act.put, List.setIfInBounds_toArray, List.set_cons_zero, List.set_cons_succ, i64_w, i32_w]
       rfl
      refine done_ (done_of HT_.out (by kernel_rfl)) ?_
      try go_wp2
      go_ret
      exact ⟨by first | rfl | (simp [errW_none, errW_some] <;> rfl) | (simp [*, errW_none, errW_some] <;> rfl), by repeat (first | (with_reducible first | exact HB.out | apply below_alloc | apply pw_below_drewN | apply below_drew1) | exact HB.out)⟩
    ·replace c11 := Bool.eq_false_iff.mpr c11
     subst c11
     have H1 : (some false) = some r := by rw [if_neg (show ¬ (false = true) by decide)] at H; exact H
     clear H
     have H := H1
     clear H1
     obtain rfl := Option.some.inj H
     go_enter Try.func21, Try.ntmps21
     try go_wp2_with (first | ((with_reducible refine gate_callee (f := 87) rfl ?_); refine goesL_ (some 6) rfl rfl Try.func87 (by kernel_rfl) rfl #[] rfl (by (try simp only [List.map_toArray, List.map_cons, List.map_nil]); first | done | rfl | (simp only [List.length_drop, List.length_take]; rfl)) ?_; (with_reducible refine (thermionlaw04_chain.calls  t144 t145 _ A1.out).mono ?_); rintro e w39 ⟨v146, rfl, ho0, hb⟩; refine ⟨_, rfl, ?_⟩; have n0_ := Aside0.mk (Kd.R_lower ho0 (below_size (by repeat (first | (with_reducible first | exact HB.out | apply below_alloc | apply pw_below_drewN | apply below_drew1) | exact HB.out)))); have n1_ := Aside0.mk (below_step (by repeat (first | (with_reducible first | exact HB.out | apply below_alloc | apply pw_below_drewN | apply below_drew1) | exact HB.out)) hb); clear HB; have HO147 := n0_; have HB := n1_; clear n0_ n1_; (try clear hb); (try clear hb2); (try clear hk); (try clear hi); (try clear ho0); obtain ⟨Ao40, co40, eo40⟩ := Kd.R_slice HO147.out; subst eo40) | ((with_reducible refine gate_callee (f := 24) rfl ?_); refine goesL_ (some 7) rfl rfl Try.func24 (by kernel_rfl) rfl #[.agg #[.int .i64 t144, .slice Ao40 t145.length co40]] rfl (by (try simp only [List.map_toArray, List.map_cons, List.map_nil]); first | done | rfl | (simp only [List.length_drop, List.length_take]; rfl)) ?_; (with_reducible refine (mount_Tight.calls t144 _ _ t145 t148 t151 _ ?side1 ?side2 A2.out).mono ?_); (case side1 => repeat (first | exact (Kd.R_reads' HO147.out).2.2 | (with_reducible refine Kd.C_alloc ?_ _) | (with_reducible refine Kd.C_drewN ?_ _) | (with_reducible refine Kd.C_drew ?_))); (case side2 => exact (Kd.R_reads' HO147.out).2.1); rintro e w41 ⟨v149, rfl, ho0, hb⟩; refine ⟨_, rfl, ?_⟩; have n0_ := Aside0.mk (Kd.R_below (by (with_reducible repeat (first | apply Kd.R_alloc | apply Kd.R_drewN | apply Kd.R_drew)); exact HO147.out) hb); have n1_ := Aside0.mk (Kd.N_lower (Kd.N_mono (ok' := fun k_ => some k_ ≠ (.slice Ao40 t145.length co40 : Value).ownBlock) (Kd.S_N (Kd.S_bound ho0)) (fun k_ hk_ => (Kd.fresh' (Kd.R_lt (by (with_reducible repeat (first | apply Kd.R_alloc | apply Kd.R_drewN | apply Kd.R_drew)); exact HO147.out)) k_ hk_.2.1))) (below_size (by repeat (first | (with_reducible first | exact HB.out | apply below_alloc | apply pw_below_drewN | apply below_drew1) | exact HB.out)))); have n2_ := Aside0.mk (below_step (by repeat (first | (with_reducible first | exact HB.out | apply below_alloc | apply pw_below_drewN | apply below_drew1) | exact HB.out)) hb); clear HO147; clear HB; have HO147 := n0_; have HO150 := n1_; have HB := n2_; clear n0_ n1_ n2_; (try clear hb); (try clear hb2); (try clear hk); (try clear hi); (try clear ho0)) | ((with_reducible refine gate_callee (f := 59) rfl ?_); refine goesL_ (some 11) rfl rfl Try.func59 (by kernel_rfl) rfl #[] rfl (by (try simp only [List.map_toArray, List.map_cons, List.map_nil]); first | done | rfl | (simp only [List.length_drop, List.length_take]; rfl)) ?_; (with_reducible refine (thermionlaw04_kit.calls  t152 t155 _ A3.out).mono ?_); rintro e w42 ⟨v153, rfl, ho0, hb⟩; refine ⟨_, rfl, ?_⟩; have n0_ := Aside0.mk (Kd.R_below (by (with_reducible repeat (first | apply Kd.R_alloc | apply Kd.R_drewN | apply Kd.R_drew)); exact HO147.out) hb); have n1_ := Aside0.mk (Kd.N_elder' (by (with_reducible repeat (first | apply Kd.N_alloc | apply Kd.N_drewN | apply Kd.N_drew)); exact HO150.out) (Kd.N_base ho0) hb); have n2_ := Aside0.mk (Kd.N_lower (Kd.N_mono (ok' := fun k_ => some k_ ≠ (.slice Ao40 t145.length co40 : Value).ownBlock ∧ some k_ ≠ (v149 : Value).ownBlock) ho0 (fun k_ hk_ => ⟨(Kd.fresh' (Kd.R_lt (by (with_reducible repeat (first | apply Kd.R_alloc | apply Kd.R_drewN | apply Kd.R_drew)); exact HO147.out)) k_ hk_), (Kd.fresh' (Kd.N_lt (by (with_reducible repeat (first | apply Kd.N_alloc | apply Kd.N_drewN | apply Kd.N_drew)); exact HO150.out)) k_ hk_)⟩)) (below_size (by repeat (first | (with_reducible first | exact HB.out | apply below_alloc | apply pw_below_drewN | apply below_drew1) | exact HB.out)))); have n3_ := Aside0.mk (below_step (by repeat (first | (with_reducible first | exact HB.out | apply below_alloc | apply pw_below_drewN | apply below_drew1) | exact HB.out)) hb); clear HO147; clear HO150; clear HB; have HO147 := n0_; have HO150 := n1_; have HO154 := n2_; have HB := n3_; clear n0_ n1_ n2_ n3_; (try clear hb); (try clear hb2); (try clear hk); (try clear hi); (try clear ho0); obtain ⟨Ao43, co43, eo43⟩ := Kd.N_slice HO154.out; subst eo43) | ((with_reducible refine gate_callee (f := 30) rfl ?_); refine goesL_ (some 12) rfl rfl Try.func30 (by kernel_rfl) rfl #[.agg #[.slice Ao43 t152.length co43, .int .i64 t155]] rfl (by (try simp only [List.map_toArray, List.map_cons, List.map_nil]); first | done | rfl | (simp only [List.length_drop, List.length_take]; rfl)) ?_; (with_reducible refine (mount_Orders.calls _ _ t152 t155 t156 t157 _ ?side1 ?side2 A4.out).mono ?_); (case side1 => repeat (first | exact (Kd.N_reads' HO154.out).2.2 | (with_reducible refine Kd.C_alloc ?_ _) | (with_reducible refine Kd.C_drewN ?_ _) | (with_reducible refine Kd.C_drew ?_))); (case side2 => exact (Kd.N_reads' HO154.out).2.1); rintro e w44 ⟨rfl, hb⟩; refine ⟨_, rfl, ?_⟩; have n0_ := Aside0.mk (Kd.R_below (by (with_reducible repeat (first | apply Kd.R_alloc | apply Kd.R_drewN | apply Kd.R_drew)); exact HO147.out) hb); have n1_ := Aside0.mk (Kd.N_below (by (with_reducible repeat (first | apply Kd.N_alloc | apply Kd.N_drewN | apply Kd.N_drew)); exact HO150.out) hb); have n2_ := Aside0.mk (Kd.N_below (by (with_reducible repeat (first | apply Kd.N_alloc | apply Kd.N_drewN | apply Kd.N_drew)); exact HO154.out) hb); have n3_ := Aside0.mk (below_step (by repeat (first | (with_reducible first | exact HB.out | apply below_alloc | apply pw_below_drewN | apply below_drew1) | exact HB.out)) hb); clear HO147; clear HO150; clear HO154; clear HB; have HO147 := n0_; have HO150 := n1_; have HO154 := n2_; have HB := n3_; clear n0_ n1_ n2_ n3_; (try clear hb); (try clear hb2); (try clear hk); (try clear hi)))
     have n0_ := Aside0.mk (Kd.R_drew HO147.out)
     have n1_ := Aside0.mk (Kd.N_drew HO150.out)
     have n2_ := Aside0.mk (Kd.N_drew HO154.out)
     have n3_ := Aside0.mk (below_drew1 HB.out)
     clear HO147
     clear HO150
     clear HO154
     clear HB
     have HO147 := n0_
     have HO150 := n1_
     have HO154 := n2_
     have HB := n3_
     clear n0_ n1_ n2_ n3_
     obtain ⟨Ao46, co46, eo46⟩ := Kd.N_slice HO150.out
     (first | subst eo46 | (injection eo46 with f1_ f2_ f3_; have f4_ := f1_.symm; have f5_ := f3_.symm; clear f1_ f2_ f3_; subst f4_; subst f5_))
     have p158 : 0 ≤ (0 : Int) := (by omega)
     have q158 : 0 < (t148.length : Int) := of_decide_eq_true (by first | (with_reducible assumption) | assumption)
     obtain ⟨ad158, A158_0, c158_0, e158, hx158_0, hl158_0, hi158_0⟩ := at_L6 (Kd.N_reads' HO150.out).2.2 0 p158 q158
     cases e158
     obtain ⟨ce158, hce158, hMe158, hcc158⟩ := Kd.N_get HO150.out [] 0 p158 (by first | exact q158 | exact of_decide_eq_true (by first | (with_reducible assumption) | assumption) | (have e_ := (Kd.N_reads' HO150.out).1; omega))
     obtain ⟨ua158_0, uc158_0, rfl, ul158_0, ge158_0⟩ := Kd.FK_slice_open hMe158
     have hv158_0 := hcc158 0 _ rfl
     rw [Nat.add_zero, show ((Kd.slice 32 k32)).sz = 1 from rfl, Nat.mul_one] at hv158_0
     replace hv158_0 := Option.some.inj (hv158_0.symm.trans hx158_0)
     injection hv158_0 with hva_ hvn_ hvc_
     rw [hva_] at ge158_0
     rw [hvc_] at ul158_0
     have HL158_0 := Aside0.mk (show Kd.V k32 32 _ w.heap.size _ _ (rd_L6 t148 0) from Kd.V_mk ul158_0 ge158_0)
     clear hva_ hvn_ hvc_ ge158_0 ul158_0
     clear hcc158 hce158
     have qi158 : (0 < t148.length) = True := eq_true (by omega)
     (try rw [show ((0 : Int)).toNat = 0 from rfl] at hx158_0)
     (try rw [Addr.add_zero'] at hx158_0)
     have HR158_0 := Aside0.mk hi158_0
     have HC158_0 := Aside0.mk hl158_0
     clear hi158_0 hl158_0
     replace p158 := eq_true p158
     replace q158 := eq_true q158
     refine start_ (n := 26) (S := fun w' => w'.cell? ad158 = some (.slice A158_0 (rd_L6 t148 0).length c158_0)) (ds := []) #[false, false, false, false, false, false, false, false, false, false, false, false, false, false, false, false, false, false, false, false, false, false, false, false, false, false] (by kernel_rfl) rfl rfl (hx158_0) (fun hHeld => ?_); refine with_tabW thermionlaw04_awake.tab3 thermionlaw04_awake.bits3 (fun HT_ HW_ => ?_)
     generalize w44.drew = w45 at HO147 HO150 HO154 HB HL158_0 HR158_0 hx158_0 hHeld ⊢
     refine pure_ (i := 0) (N := some 15) (v := ?_) (a' := ?_) #[true, false, false, false, false, false, false, false, false, false, false, false, false, false, false, false, false, false, false, false, false, false, false, false, false, false] rfl rfl (any_of HT_.out (by kernel_rfl)) (fun _ _ _ h => h) (Or.inl ⟨by rfl, ?_⟩) ?_ ?_
     rotate_left
     ·intro w'
      go_simp
      with_reducible rfl
     rotate_left
     ·simp only [Act.put, List.setIfInBounds_toArray, List.set_cons_zero, List.set_cons_succ, i64_w, i32_w]
      rfl
     refine pure_ (i := 1) (N := some 16) (v := ?_) (a' := ?_) #[true, true, false, false, false, false, false, false, false, false, false, false, false, false, false, false, false, false, false, false, false, false, false, false, false, false] rfl rfl (any_of HT_.out (by kernel_rfl)) (fun _ _ _ h => h) (Or.inl ⟨by rfl, ?_⟩) ?_ ?_
     rotate_left
     ·intro w'
      go_simp
      with_reducible rfl
     rotate_left
     ·simp only [Act.put, List.setIfInBounds_toArray, List.set_cons_zero, List.set_cons_succ, i64_w, i32_w]
      rfl
     refine pure_ (i := 2) (N := some 17) (v := ?_) (a' := ?_) #[true, true, true, false, false, false, false, false, false, false, false, false, false, false, false, false, false, false, false, false, false, false, false, false, false, false] rfl rfl (any_of HT_.out (by kernel_rfl)) (fun _ _ _ h => h) (Or.inl ⟨by rfl, ?_⟩) ?_ ?_
     rotate_left
     ·intro w'
      go_simp
      with_reducible rfl
     rotate_left
     ·simp only [Act.put, List.setIfInBounds_toArray, List.set_cons_zero, List.set_cons_succ, i64_w, i32_w]
      rfl
     refine pure_ (i := 3) (N := some 18) (v := ?_) (a' := ?_) #[true, true, true, true, false, false, false, false, false, false, false, false, false, false, false, false, false, false, false, false, false, false, false, false, false, false] rfl rfl (any_of HT_.out (by kernel_rfl)) (fun _ _ _ h => h) (Or.inl ⟨by rfl, ?_⟩) ?_ ?_
     rotate_left
     ·intro w'
      go_simp
      with_reducible rfl
     rotate_left
     ·simp only [Act.put, List.setIfInBounds_toArray, List.set_cons_zero, List.set_cons_succ, i64_w, i32_w]
      rfl
     refine pure_ (i := 4) (N := some 19) (v := ?_) (a' := ?_) #[true, true, true, true, true, false, false, false, false, false, false, false, false, false, false, false, false, false, false, false, false, false, false, false, false, false] rfl rfl (any_of HT_.out (by kernel_rfl)) (fun _ _ _ h => h) (Or.inl ⟨by rfl, ?_⟩) ?_ ?_
     rotate_left
     ·intro w'
      go_simp
      with_reducible rfl
     rotate_left
     ·simp only [Act.put, List.setIfInBounds_toArray, List.set_cons_zero, List.set_cons_succ, i64_w, i32_w]
      rfl
     refine pure_ (i := 5) (N := some 20) (v := ?_) (a' := ?_) #[true, true, true, true, true, true, false, false, false, false, false, false, false, false, false, false, false, false, false, false, false, false, false, false, false, false] rfl rfl (any_of HT_.out (by kernel_rfl)) (fun _ _ _ h => h) (Or.inl ⟨by rfl, ?_⟩) ?_ ?_
     rotate_left
     ·intro w'
      go_simp
      with_reducible rfl
     rotate_left
     ·simp only [Act.put, List.setIfInBounds_toArray, List.set_cons_zero, List.set_cons_succ, i64_w, i32_w]
      rfl
     refine pure_ (i := 6) (N := some 21) (v := ?_) (a' := ?_) #[true, true, true, true, true, true, true, false, false, false, false, false, false, false, false, false, false, false, false, false, false, false, false, false, false, false] rfl rfl (any_of HT_.out (by kernel_rfl)) (fun _ _ _ h => h) (Or.inl ⟨by rfl, ?_⟩) ?_ ?_
     rotate_left
     ·intro w'
      go_simp
      with_reducible rfl
     rotate_left
     ·simp only [Act.put, List.setIfInBounds_toArray, List.set_cons_zero, List.set_cons_succ, i64_w, i32_w]
      rfl
     refine pure_ (i := 7) (N := some 22) (v := ?_) (a' := ?_) #[true, true, true, true, true, true, true, true, false, false, false, false, false, false, false, false, false, false, false, false, false, false, false, false, false, false] rfl rfl (any_of HT_.out (by kernel_rfl)) (fun _ _ _ h => h) (Or.inl ⟨by rfl, ?_⟩) ?_ ?_
     rotate_left
     ·intro w'
      go_simp
      with_reducible rfl
     rotate_left
     ·simp only [Act.put, List.setIfInBounds_toArray, List.set_cons_zero, List.set_cons_succ, i64_w, i32_w]
      rfl
     refine pure_ (i := 8) (N := some 23) (v := ?_) (a' := ?_) #[true, true, true, true, true, true, true, true, true, false, false, false, false, false, false, false, false, false, false, false, false, false, false, false, false, false] rfl rfl (any_of HT_.out (by kernel_rfl)) (fun _ _ _ h => h) (Or.inl ⟨by rfl, ?_⟩) ?_ ?_
     rotate_left
     ·intro w'
      go_simp
      with_reducible rfl
     rotate_left
     ·simp only [Act.put, List.setIfInBounds_toArray, List.set_cons_zero, List.set_cons_succ, i64_w, i32_w]
      rfl
     refine pure_ (i := 9) (N := some 24) (v := ?_) (a' := ?_) #[true, true, true, true, true, true, true, true, true, true, false, false, false, false, false, false, false, false, false, false, false, false, false, false, false, false] rfl rfl (any_of HT_.out (by kernel_rfl)) (fun _ _ _ h => h) (Or.inl ⟨by rfl, ?_⟩) ?_ ?_
     rotate_left
     ·intro w'
      go_simp
      with_reducible rfl
     rotate_left
     ·simp only [Act.put, List.setIfInBounds_toArray, List.set_cons_zero, List.set_cons_succ, i64_w, i32_w]
      rfl
     refine pure_ (i := 11) (N := some 26) (v := ?_) (a' := ?_) #[true, true, true, true, true, true, true, true, true, true, false, true, false, false, false, false, false, false, false, false, false, false, false, false, false, false] rfl rfl (any_of HT_.out (by kernel_rfl)) (fun _ _ _ h => h) (Or.inl ⟨by rfl, ?_⟩) ?_ ?_
     rotate_left
     ·intro w'
      go_simp
      with_reducible rfl
     rotate_left
     ·simp only [Act.put, List.setIfInBounds_toArray, List.set_cons_zero, List.set_cons_succ, i64_w, i32_w]
      rfl
     refine take_ (i := 10) (N := some 25) (v := ?_) (a' := ?_) #[true, true, true, true, true, true, true, true, true, true, true, true, false, false, false, false, false, false, false, false, false, false, false, false, false, false] rfl rfl (take_ofW HT_.out HW_.out (by kernel_rfl)) (fun _ _ _ h => h) (Or.inl ⟨by rfl, ?_⟩) hHeld ?_ ?_
     rotate_left
     ·intro w' s0
      go_simp
      with_reducible rfl
     rotate_left
     ·simp only [Act.put, List.setIfInBounds_toArray, List.set_cons_zero, List.set_cons_succ, i64_w, i32_w]
      rfl
     refine one_ (i := 12) (N := some 27) #[true, true, true, true, true, true, true, true, true, true, true, true, true, false, false, false, false, false, false, false, false, false, false, false, false, false] rfl rfl (one_of HT_.out (by kernel_rfl)) (by decide) (fun K hK => ?_)
     refine goes_ Try.func52 (by kernel_rfl) rfl #[.int .i64 10, .int .i64 12] (by rfl) rfl rfl (by (try simp only [List.map_toArray, List.map_cons, List.map_nil]); first | done | rfl | (simp only [List.length_drop, List.length_take]; rfl)) ?_
     with_reducible refine (thermionlaw04_of.calls 10 12 t159 t160 _ A8.out).mono ?_
     rintro e w47 ⟨rfl, hb⟩
     have HS0_ := (hb.cell (World.block_lt_of_cell? _ _ (hHeld))).trans (hHeld)
     refine ⟨_, rfl, ?_⟩
     have n0_ := Aside0.mk (Kd.R_below (by (with_reducible repeat (first | apply Kd.R_alloc | apply Kd.R_drewN | apply Kd.R_drew)); exact HO147.out) hb)
     have n1_ := Aside0.mk (Kd.N_below (by (with_reducible repeat (first | apply Kd.N_alloc | apply Kd.N_drewN | apply Kd.N_drew)); exact HO150.out) hb)
     have n2_ := Aside0.mk (Kd.N_below (by (with_reducible repeat (first | apply Kd.N_alloc | apply Kd.N_drewN | apply Kd.N_drew)); exact HO154.out) hb)
     have n3_ := Aside0.mk (Kd.V_below (by (with_reducible repeat (first | apply Kd.V_alloc | apply Kd.V_drewN | apply Kd.V_drew)); exact HL158_0.out) hb)
     have n4_ := Aside0.mk (Kd.C_below (by repeat (first | (with_reducible exact HR158_0.out) | (with_reducible refine Kd.C_alloc ?_ _) | (with_reducible refine Kd.C_drewN ?_ _) | (with_reducible refine Kd.C_drew ?_) | exact HR158_0.out)) hb)
     have n5_ := Aside0.mk (below_step (by repeat (first | (with_reducible first | exact HB.out | apply below_alloc | apply pw_below_drewN | apply below_drew1) | exact HB.out)) hb)
     clear HO147
     clear HO150
     clear HO154
     clear HL158_0
     clear HR158_0
     clear HB
     have HO147 := n0_
     have HO150 := n1_
     have HO154 := n2_
     have HL158_0 := n3_
     have HR158_0 := n4_
     have HB := n5_
     clear n0_ n1_ n2_ n3_ n4_ n5_
     (try clear hb)
     (try clear hb2)
     (try clear hk)
     (try clear hi)
     refine hK.out _ _ (HS0_) (fun hHeld => ?_)
     clear hK K
     refine norm_ (a' := ?_) ?_ ?_
     rotate_left
     ·show Act.put _ (some 27) _ = _
      simp only [Act.put, List.setIfInBounds_toArray, List.set_cons_zero, List.set_cons_succ, i64_w, i32_w]
      rfl
     refine one_ (i := 13) (N := some 28) #[true, true, true, true, true, true, true, true, true, true, true, true, true, true, false, false, false, false, false, false, false, false, false, false, false, false] rfl rfl (one_of HT_.out (by kernel_rfl)) (by decide) (fun K hK => ?_)
     refine goes_ Try.func52 (by kernel_rfl) rfl #[.int .i64 17, .int .i64 18] (by rfl) rfl rfl (by (try simp only [List.map_toArray, List.map_cons, List.map_nil]); first | done | rfl | (simp only [List.length_drop, List.length_take]; rfl)) ?_
     with_reducible refine (thermionlaw04_of.calls 17 18 t161 t162 _ A9.out).mono ?_
     rintro e w48 ⟨rfl, hb⟩
     have HS0_ := (hb.cell (World.block_lt_of_cell? _ _ (hHeld))).trans (hHeld)
     refine ⟨_, rfl, ?_⟩
     have n0_ := Aside0.mk (Kd.R_below (by (with_reducible repeat (first | apply Kd.R_alloc | apply Kd.R_drewN | apply Kd.R_drew)); exact HO147.out) hb)
     have n1_ := Aside0.mk (Kd.N_below (by (with_reducible repeat (first | apply Kd.N_alloc | apply Kd.N_drewN | apply Kd.N_drew)); exact HO150.out) hb)
     have n2_ := Aside0.mk (Kd.N_below (by (with_reducible repeat (first | apply Kd.N_alloc | apply Kd.N_drewN | apply Kd.N_drew)); exact HO154.out) hb)
     have n3_ := Aside0.mk (Kd.V_below (by (with_reducible repeat (first | apply Kd.V_alloc | apply Kd.V_drewN | apply Kd.V_drew)); exact HL158_0.out) hb)
     have n4_ := Aside0.mk (Kd.C_below (by repeat (first | (with_reducible exact HR158_0.out) | (with_reducible refine Kd.C_alloc ?_ _) | (with_reducible refine Kd.C_drewN ?_ _) | (with_reducible refine Kd.C_drew ?_) | exact HR158_0.out)) hb)
     have n5_ := Aside0.mk (below_step (by repeat (first | (with_reducible first | exact HB.out | apply below_alloc | apply pw_below_drewN | apply below_drew1) | exact HB.out)) hb)
     clear HO147
     clear HO150
     clear HO154
     clear HL158_0
     clear HR158_0
     clear HB
     have HO147 := n0_
     have HO150 := n1_
     have HO154 := n2_
     have HL158_0 := n3_
     have HR158_0 := n4_
     have HB := n5_
     clear n0_ n1_ n2_ n3_ n4_ n5_
     (try clear hb)
     (try clear hb2)
     (try clear hk)
     (try clear hi)
     refine hK.out _ _ (HS0_) (fun hHeld => ?_)
     clear hK K
     refine norm_ (a' := ?_) ?_ ?_
     rotate_left
     ·show Act.put _ (some 28) _ = _
      simp only [Act.put, List.setIfInBounds_toArray, List.set_cons_zero, List.set_cons_succ, i64_w, i32_w]
      rfl
     refine one_ (i := 14) (N := some 29) #[true, true, true, true, true, true, true, true, true, true, true, true, true, true, true, false, false, false, false, false, false, false, false, false, false, false] rfl rfl (one_of HT_.out (by kernel_rfl)) (by decide) (fun K hK => ?_)
     refine Kd.R_lit_step k32 _ 32 ?hg (N := 29) ?hd (xs := ([(⟨0, 0⟩ : S32), (⟨t159, t160⟩ : S32), (⟨t161, t162⟩ : S32)] : List (S32))) (inner := [.int .i64 0, .int .i64 0, .int .i64 t159, .int .i64 t160, .int .i64 t161, .int .i64 t162]) (ok := fun _ => True) (okp := fun _ => True) ?hr ?hp (fun _ hk => hk) trivial (Below.refl _ _) (Nat.le_refl _) (by simp) ?_; (case hd => rfl); (case hg => rfl); (case hr => first | (go_simp; done) | (go_simp; rfl)); (case hp => exact (Reps.c2 (show Kd.M k32 _ _ _ (⟨0, 0⟩ : S32) [.int .i64 0, .int .i64 0] from (k32_mkM _ _ _ (⟨0, 0⟩ : S32) )) (Reps.c2 (show Kd.M k32 _ _ _ (⟨t159, t160⟩ : S32) [.int .i64 t159, .int .i64 t160] from (k32_mkM _ _ _ (⟨t159, t160⟩ : S32) )) (Reps.c2 (show Kd.M k32 _ _ _ (⟨t161, t162⟩ : S32) [.int .i64 t161, .int .i64 t162] from (k32_mkM _ _ _ (⟨t161, t162⟩ : S32) )) (Reps.none _ _)))))
     intro v164 w49 ho50 hb hg_ hnew_
     have HS0_ := (hb.cell (World.block_lt_of_cell? _ _ (hHeld))).trans (hHeld)
     clear hg_ hnew_
     (first | rw [← Ny163.out] at ho50 | (simp only [Int.reduceToNat] at ho50; rw [← Ny163.out] at ho50))
     have n0_ := Aside0.mk (Kd.R_below (by (with_reducible repeat (first | apply Kd.R_alloc | apply Kd.R_drewN | apply Kd.R_drew)); exact HO147.out) hb)
     have n1_ := Aside0.mk (Kd.N_elder' (by (with_reducible repeat (first | apply Kd.N_alloc | apply Kd.N_drewN | apply Kd.N_drew)); exact HO150.out) (Kd.R_base ho50) hb)
     have n2_ := Aside0.mk (Kd.N_elder' (by (with_reducible repeat (first | apply Kd.N_alloc | apply Kd.N_drewN | apply Kd.N_drew)); exact HO154.out) (Kd.R_base ho50) hb)
     have n3_ := Aside0.mk (Kd.V_elder' (by (with_reducible repeat (first | apply Kd.V_alloc | apply Kd.V_drewN | apply Kd.V_drew)); exact HL158_0.out) (Kd.R_base ho50) hb)
     have n4_ := Aside0.mk (Kd.R_lower ho50 (below_size (by repeat (first | (with_reducible first | exact HB.out | apply below_alloc | apply pw_below_drewN | apply below_drew1) | exact HB.out))))
     have n5_ := Aside0.mk (Kd.C_below (by repeat (first | (with_reducible exact HR158_0.out) | (with_reducible refine Kd.C_alloc ?_ _) | (with_reducible refine Kd.C_drewN ?_ _) | (with_reducible refine Kd.C_drew ?_) | exact HR158_0.out)) hb)
     have n6_ := Aside0.mk (below_step (by repeat (first | (with_reducible first | exact HB.out | apply below_alloc | apply pw_below_drewN | apply below_drew1) | exact HB.out)) hb)
     clear HO147
     clear HO150
     clear HO154
     clear HL158_0
     clear HR158_0
     clear HB
     have HO147 := n0_
     have HO150 := n1_
     have HO154 := n2_
     have HL158_0 := n3_
     have HO165 := n4_
     have HR158_0 := n5_
     have HB := n6_
     clear n0_ n1_ n2_ n3_ n4_ n5_ n6_
     clear hb ho50
     obtain ⟨Ao51, co51, eo51⟩ := Kd.R_slice HO165.out
     (first | subst eo51 | (injection eo51 with f1_ f2_ f3_; have f4_ := f1_.symm; have f5_ := f3_.symm; clear f1_ f2_ f3_; subst f4_; subst f5_))
     refine hK.out _ _ (HS0_) (fun hHeld => ?_)
     clear hK K
     refine norm_ (a' := ?_) ?_ ?_
     rotate_left
     ·show Act.put _ (some 29) _ = _
      simp only [Act.put, List.setIfInBounds_toArray, List.set_cons_zero, List.set_cons_succ, i64_w, i32_w]
      rfl
     refine one_ (i := 15) (N := some 30) #[true, true, true, true, true, true, true, true, true, true, true, true, true, true, true, true, false, false, false, false, false, false, false, false, false, false] rfl rfl (one_of HT_.out (by kernel_rfl)) (by decide) (fun K hK => ?_)
     refine goes_ Try.func88 (by kernel_rfl) rfl #[.slice A158_0 (rd_L6 t148 0).length c158_0, .slice Ao51 y163.length co51] (by rfl) rfl rfl (by (try simp only [List.map_toArray, List.map_cons, List.map_nil]); first | done | rfl | (simp only [List.length_drop, List.length_take]; rfl)) ?_
     with_reducible refine (thermionkit_SameRanges.calls k _ _ (rd_L6 t148 0) _ _ y163 false _ ?side1 ?side2 ?side3 ?side4 A10.out).mono ?_
     (case side1 => repeat (first | exact (by repeat (first | (with_reducible exact HR158_0.out) | (with_reducible refine Kd.C_alloc ?_ _) | (with_reducible refine Kd.C_drewN ?_ _) | (with_reducible refine Kd.C_drew ?_) | exact HR158_0.out)) | (with_reducible refine Kd.C_alloc ?_ _) | (with_reducible refine Kd.C_drewN ?_ _) | (with_reducible refine Kd.C_drew ?_)))
     (case side2 => exact HC158_0.out)
     (case side3 => repeat (first | exact (Kd.R_reads' HO165.out).2.2 | (with_reducible refine Kd.C_alloc ?_ _) | (with_reducible refine Kd.C_drewN ?_ _) | (with_reducible refine Kd.C_drew ?_)))
     (case side4 => exact (Kd.R_reads' HO165.out).2.1)
     rintro e w' ⟨rfl, ⟨nd, rfl⟩⟩
     refine ⟨_, rfl, ?_⟩
     refine hK.out _ _ (hHeld) (fun hHeld => ?_)
     clear hK K
     refine norm_ (a' := ?_) ?_ ?_
     rotate_left
     ·show Act.put _ (some 30) _ = _
      simp only [Act.put, List.setIfInBounds_toArray, List.set_cons_zero, List.set_cons_succ, i64_w, i32_w]
      rfl
     refine pure_ (i := 16) (N := some 31) (v := ?_) (a' := ?_) #[true, true, true, true, true, true, true, true, true, true, true, true, true, true, true, true, true, false, false, false, false, false, false, false, false, false] rfl rfl (any_of HT_.out (by kernel_rfl)) (fun _ _ _ h => h) (Or.inl ⟨by rfl, ?_⟩) ?_ ?_
     rotate_left
     ·intro w'
      go_simp
      with_reducible rfl
     rotate_left
     ·simp only [Act.put, List.setIfInBounds_toArray, List.set_cons_zero, List.set_cons_succ, i64_w, i32_w]
      rfl
     refine pure_ (i := 17) (N := some 32) (v := ?_) (a' := ?_) #[true, true, true, true, true, true, true, true, true, true, true, true, true, true, true, true, true, true, false, false, false, false, false, false, false, false] rfl rfl (any_of HT_.out (by kernel_rfl)) (fun _ _ _ h => h) (Or.inl ⟨by rfl, ?_⟩) ?_ ?_
     rotate_left
     ·intro w'
      go_simp
      with_reducible rfl
     rotate_left
     ·simp only [Act.put, List.setIfInBounds_toArray, List.set_cons_zero, List.set_cons_succ, i64_w, i32_w]
      rfl
     refine pure_ (i := 18) (N := some 33) (v := undef) (a' := ?_) #[true, true, true, true, true, true, true, true, true, true, true, true, true, true, true, true, true, true, true, false, false, false, false, false, false, false] rfl rfl (any_of HT_.out (by kernel_rfl)) (fun _ _ _ h => h) (Or.inr ⟨by rfl, rfl⟩) ?_ ?_
     rotate_left
     ·simp only [Act.put, List.setIfInBounds_toArray, List.set_cons_zero, List.set_cons_succ, i64_w, i32_w]
      rfl
     refine pure_ (i := 19) (N := some 34) (v := undef) (a' := ?_) #[true, true, true, true, true, true, true, true, true, true, true, true, true, true, true, true, true, true, true, true, false, false, false, false, false, false] rfl rfl (any_of HT_.out (by kernel_rfl)) (fun _ _ _ h => h) (Or.inr ⟨by rfl, rfl⟩) ?_ ?_
     rotate_left
     ·simp only [Act.put, List.setIfInBounds_toArray, List.set_cons_zero, List.set_cons_succ, i64_w, i32_w]
      rfl
     refine pure_ (i := 20) (N := some 35) (v := ?_) (a' := ?_) #[true, true, true, true, true, true, true, true, true, true, true, true, true, true, true, true, true, true, true, true, true, false, false, false, false, false] rfl rfl (any_of HT_.out (by kernel_rfl)) (fun _ _ _ h => h) (Or.inl ⟨by rfl, ?_⟩) ?_ ?_
     rotate_left
     ·intro w'
      go_simp
      with_reducible rfl
     rotate_left
     ·simp only [Act.put, List.setIfInBounds_toArray, List.set_cons_zero, List.set_cons_succ, i64_w, i32_w]
      rfl
     refine pure_ (i := 21) (N := some 36) (v := ?_) (a' := ?_) #[true, true, true, true, true, true, true, true, true, true, true, true, true, true, true, true, true, true, true, true, true, true, false, false, false, false] rfl rfl (any_of HT_.out (by kernel_rfl)) (fun _ _ _ h => h) (Or.inl ⟨by rfl, ?_⟩) ?_ ?_
     rotate_left
     ·intro w'
      go_simp
      with_reducible rfl
     rotate_left
     ·simp only [Act.put, List.setIfInBounds_toArray, List.set_cons_zero, List.set_cons_succ, i64_w, i32_w]
      rfl
     refine pure_ (i := 22) (N := some 37) (v := undef) (a' := ?_) #[true, true, true, true, true, true, true, true, true, true, true, true, true, true, true, true, true, true, true, true, true, true, true, false, false, false] rfl rfl (any_of HT_.out (by kernel_rfl)) (fun _ _ _ h => h) (Or.inr ⟨by rfl, rfl⟩) ?_ ?_
     rotate_left
     ·simp only [Act.put, List.setIfInBounds_toArray, List.set_cons_zero, List.set_cons_succ, i64_w, i32_w]
      rfl
     refine pure_ (i := 23) (N := some 38) (v := undef) (a' := ?_) #[true, true, true, true, true, true, true, true, true, true, true, true, true, true, true, true, true, true, true, true, true, true, true, true, false, false] rfl rfl (any_of HT_.out (by kernel_rfl)) (fun _ _ _ h => h) (Or.inr ⟨by rfl, rfl⟩) ?_ ?_
     rotate_left
     ·simp only [Act.put, List.setIfInBounds_toArray, List.set_cons_zero, List.set_cons_succ, i64_w, i32_w]
      rfl
     refine pure_ (i := 24) (N := some 39) (v := ?_) (a' := ?_) #[true, true, true, true, true, true, true, true, true, true, true, true, true, true, true, true, true, true, true, true, true, true, true, true, true, false] rfl rfl (any_of HT_.out (by kernel_rfl)) (fun _ _ _ h => h) (Or.inl ⟨by rfl, ?_⟩) ?_ ?_
     rotate_left
     ·intro w'
      go_simp
      with_reducible rfl
     rotate_left
     ·simp only [Act.put, List.setIfInBounds_toArray, List.set_cons_zero, List.set_cons_succ, i64_w, i32_w]
      rfl
     refine pure_ (i := 25) (N := some 0) (v := ?_) (a' := ?_) #[true, true, true, true, true, true, true, true, true, true, true, true, true, true, true, true, true, true, true, true, true, true, true, true, true, true] rfl rfl (any_of HT_.out (by kernel_rfl)) (fun _ _ _ h => h) (Or.inl ⟨by rfl, ?_⟩) ?_ ?_
     rotate_left
     ·intro w'
      go_simp
      with_reducible rfl
     rotate_left
     ·simp only [Act.put, List.setIfInBounds_toArray, List.set_cons_zero, List.set_cons_succ, i64_w, i32_w]
      rfl
     refine done_ (done_of HT_.out (by kernel_rfl)) ?_
     try go_wp2
     go_ret
     exact ⟨by first | rfl | (simp [errW_none, errW_some] <;> rfl) | (simp [*, errW_none, errW_some] <;> rfl), by repeat (first | (with_reducible first | exact HB.out | apply below_alloc | apply pw_below_drewN | apply below_drew1) | exact HB.out)⟩
   ·rw [if_neg c7] at H
    exact absurd H (by simp)
  ·rw [if_neg c6] at H
   have c6b0 : ((t148.length : Int) == 3) = false := beq_eq_false_iff_ne.mpr c6
   have c6b1 : ((t148.length : Int) != 3) = true := bne_iff_ne.mpr c6
   obtain rfl := Option.some.inj H
   go_enter Try.func21, Try.ntmps21
   try go_wp2_with (first | ((with_reducible refine gate_callee (f := 87) rfl ?_); refine goesL_ (some 6) rfl rfl Try.func87 (by kernel_rfl) rfl #[] rfl (by (try simp only [List.map_toArray, List.map_cons, List.map_nil]); first | done | rfl | (simp only [List.length_drop, List.length_take]; rfl)) ?_; (with_reducible refine (thermionlaw04_chain.calls  t144 t145 _ A1.out).mono ?_); rintro e w52 ⟨v146, rfl, ho0, hb⟩; refine ⟨_, rfl, ?_⟩; have n0_ := Aside0.mk (Kd.R_lower ho0 (below_size (by repeat (first | (with_reducible first | exact HB.out | apply below_alloc | apply pw_below_drewN | apply below_drew1) | exact HB.out)))); have n1_ := Aside0.mk (below_step (by repeat (first | (with_reducible first | exact HB.out | apply below_alloc | apply pw_below_drewN | apply below_drew1) | exact HB.out)) hb); clear HB; have HO147 := n0_; have HB := n1_; clear n0_ n1_; (try clear hb); (try clear hb2); (try clear hk); (try clear hi); (try clear ho0); obtain ⟨Ao53, co53, eo53⟩ := Kd.R_slice HO147.out; subst eo53) | ((with_reducible refine gate_callee (f := 24) rfl ?_); refine goesL_ (some 7) rfl rfl Try.func24 (by kernel_rfl) rfl #[.agg #[.int .i64 t144, .slice Ao53 t145.length co53]] rfl (by (try simp only [List.map_toArray, List.map_cons, List.map_nil]); first | done | rfl | (simp only [List.length_drop, List.length_take]; rfl)) ?_; (with_reducible refine (mount_Tight.calls t144 _ _ t145 t148 t151 _ ?side1 ?side2 A2.out).mono ?_); (case side1 => repeat (first | exact (Kd.R_reads' HO147.out).2.2 | (with_reducible refine Kd.C_alloc ?_ _) | (with_reducible refine Kd.C_drewN ?_ _) | (with_reducible refine Kd.C_drew ?_))); (case side2 => exact (Kd.R_reads' HO147.out).2.1); rintro e w54 ⟨v149, rfl, ho0, hb⟩; refine ⟨_, rfl, ?_⟩; have n0_ := Aside0.mk (Kd.R_below (by (with_reducible repeat (first | apply Kd.R_alloc | apply Kd.R_drewN | apply Kd.R_drew)); exact HO147.out) hb); have n1_ := Aside0.mk (Kd.N_lower (Kd.N_mono (ok' := fun k_ => some k_ ≠ (.slice Ao53 t145.length co53 : Value).ownBlock) (Kd.S_N (Kd.S_bound ho0)) (fun k_ hk_ => (Kd.fresh' (Kd.R_lt (by (with_reducible repeat (first | apply Kd.R_alloc | apply Kd.R_drewN | apply Kd.R_drew)); exact HO147.out)) k_ hk_.2.1))) (below_size (by repeat (first | (with_reducible first | exact HB.out | apply below_alloc | apply pw_below_drewN | apply below_drew1) | exact HB.out)))); have n2_ := Aside0.mk (below_step (by repeat (first | (with_reducible first | exact HB.out | apply below_alloc | apply pw_below_drewN | apply below_drew1) | exact HB.out)) hb); clear HO147; clear HB; have HO147 := n0_; have HO150 := n1_; have HB := n2_; clear n0_ n1_ n2_; (try clear hb); (try clear hb2); (try clear hk); (try clear hi); (try clear ho0)) | ((with_reducible refine gate_callee (f := 59) rfl ?_); refine goesL_ (some 11) rfl rfl Try.func59 (by kernel_rfl) rfl #[] rfl (by (try simp only [List.map_toArray, List.map_cons, List.map_nil]); first | done | rfl | (simp only [List.length_drop, List.length_take]; rfl)) ?_; (with_reducible refine (thermionlaw04_kit.calls  t152 t155 _ A3.out).mono ?_); rintro e w55 ⟨v153, rfl, ho0, hb⟩; refine ⟨_, rfl, ?_⟩; have n0_ := Aside0.mk (Kd.R_below (by (with_reducible repeat (first | apply Kd.R_alloc | apply Kd.R_drewN | apply Kd.R_drew)); exact HO147.out) hb); have n1_ := Aside0.mk (Kd.N_elder' (by (with_reducible repeat (first | apply Kd.N_alloc | apply Kd.N_drewN | apply Kd.N_drew)); exact HO150.out) (Kd.N_base ho0) hb); have n2_ := Aside0.mk (Kd.N_lower (Kd.N_mono (ok' := fun k_ => some k_ ≠ (.slice Ao53 t145.length co53 : Value).ownBlock ∧ some k_ ≠ (v149 : Value).ownBlock) ho0 (fun k_ hk_ => ⟨(Kd.fresh' (Kd.R_lt (by (with_reducible repeat (first | apply Kd.R_alloc | apply Kd.R_drewN | apply Kd.R_drew)); exact HO147.out)) k_ hk_), (Kd.fresh' (Kd.N_lt (by (with_reducible repeat (first | apply Kd.N_alloc | apply Kd.N_drewN | apply Kd.N_drew)); exact HO150.out)) k_ hk_)⟩)) (below_size (by repeat (first | (with_reducible first | exact HB.out | apply below_alloc | apply pw_below_drewN | apply below_drew1) | exact HB.out)))); have n3_ := Aside0.mk (below_step (by repeat (first | (with_reducible first | exact HB.out | apply below_alloc | apply pw_below_drewN | apply below_drew1) | exact HB.out)) hb); clear HO147; clear HO150; clear HB; have HO147 := n0_; have HO150 := n1_; have HO154 := n2_; have HB := n3_; clear n0_ n1_ n2_ n3_; (try clear hb); (try clear hb2); (try clear hk); (try clear hi); (try clear ho0); obtain ⟨Ao56, co56, eo56⟩ := Kd.N_slice HO154.out; subst eo56) | ((with_reducible refine gate_callee (f := 30) rfl ?_); refine goesL_ (some 12) rfl rfl Try.func30 (by kernel_rfl) rfl #[.agg #[.slice Ao56 t152.length co56, .int .i64 t155]] rfl (by (try simp only [List.map_toArray, List.map_cons, List.map_nil]); first | done | rfl | (simp only [List.length_drop, List.length_take]; rfl)) ?_; (with_reducible refine (mount_Orders.calls _ _ t152 t155 t156 t157 _ ?side1 ?side2 A4.out).mono ?_); (case side1 => repeat (first | exact (Kd.N_reads' HO154.out).2.2 | (with_reducible refine Kd.C_alloc ?_ _) | (with_reducible refine Kd.C_drewN ?_ _) | (with_reducible refine Kd.C_drew ?_))); (case side2 => exact (Kd.N_reads' HO154.out).2.1); rintro e w57 ⟨rfl, hb⟩; refine ⟨_, rfl, ?_⟩; have n0_ := Aside0.mk (Kd.R_below (by (with_reducible repeat (first | apply Kd.R_alloc | apply Kd.R_drewN | apply Kd.R_drew)); exact HO147.out) hb); have n1_ := Aside0.mk (Kd.N_below (by (with_reducible repeat (first | apply Kd.N_alloc | apply Kd.N_drewN | apply Kd.N_drew)); exact HO150.out) hb); have n2_ := Aside0.mk (Kd.N_below (by (with_reducible repeat (first | apply Kd.N_alloc | apply Kd.N_drewN | apply Kd.N_drew)); exact HO154.out) hb); have n3_ := Aside0.mk (below_step (by repeat (first | (with_reducible first | exact HB.out | apply below_alloc | apply pw_below_drewN | apply below_drew1) | exact HB.out)) hb); clear HO147; clear HO150; clear HO154; clear HB; have HO147 := n0_; have HO150 := n1_; have HO154 := n2_; have HB := n3_; clear n0_ n1_ n2_ n3_; (try clear hb); (try clear hb2); (try clear hk); (try clear hi)))
   have n0_ := Aside0.mk (Kd.R_drew HO147.out)
   have n1_ := Aside0.mk (Kd.N_drew HO150.out)
   have n2_ := Aside0.mk (Kd.N_drew HO154.out)
   have n3_ := Aside0.mk (below_drew1 HB.out)
   clear HO147
   clear HO150
   clear HO154
   clear HB
   have HO147 := n0_
   have HO150 := n1_
   have HO154 := n2_
   have HB := n3_
   clear n0_ n1_ n2_ n3_
   obtain ⟨Ao59, co59, eo59⟩ := Kd.N_slice HO150.out
   (first | subst eo59 | (injection eo59 with f1_ f2_ f3_; have f4_ := f1_.symm; have f5_ := f3_.symm; clear f1_ f2_ f3_; subst f4_; subst f5_))
   refine start_ (n := 26) (S := fun w' => True) (ds := []) #[false, false, false, false, false, false, false, false, false, false, false, false, false, false, false, false, false, false, false, false, false, false, false, false, false, false] (by kernel_rfl) rfl rfl trivial (fun hHeld => ?_); refine with_tabW thermionlaw04_awake.tab3 thermionlaw04_awake.bits3 (fun HT_ HW_ => ?_)
   generalize w57.drew = w58 at HO147 HO150 HO154 HB hHeld ⊢
   refine pure_ (i := 0) (N := some 15) (v := ?_) (a' := ?_) #[true, false, false, false, false, false, false, false, false, false, false, false, false, false, false, false, false, false, false, false, false, false, false, false, false, false] rfl rfl (any_of HT_.out (by kernel_rfl)) (fun _ _ _ h => h) (Or.inl ⟨by rfl, ?_⟩) ?_ ?_
   rotate_left
   ·intro w'
    go_simp
    with_reducible rfl
   rotate_left
   ·simp only [Act.put, List.setIfInBounds_toArray, List.set_cons_zero, List.set_cons_succ, i64_w, i32_w]
    rfl
   refine pure_ (i := 1) (N := some 16) (v := ?_) (a' := ?_) #[true, true, false, false, false, false, false, false, false, false, false, false, false, false, false, false, false, false, false, false, false, false, false, false, false, false] rfl rfl (any_of HT_.out (by kernel_rfl)) (fun _ _ _ h => h) (Or.inl ⟨by rfl, ?_⟩) ?_ ?_
   rotate_left
   ·intro w'
    go_simp
    with_reducible rfl
   rotate_left
   ·simp only [Act.put, List.setIfInBounds_toArray, List.set_cons_zero, List.set_cons_succ, i64_w, i32_w]
    rfl
   refine pure_ (i := 2) (N := some 17) (v := ?_) (a' := ?_) #[true, true, true, false, false, false, false, false, false, false, false, false, false, false, false, false, false, false, false, false, false, false, false, false, false, false] rfl rfl (any_of HT_.out (by kernel_rfl)) (fun _ _ _ h => h) (Or.inl ⟨by rfl, ?_⟩) ?_ ?_
   rotate_left
   ·intro w'
    go_simp
    with_reducible rfl
   rotate_left
   ·simp only [Act.put, List.setIfInBounds_toArray, List.set_cons_zero, List.set_cons_succ, i64_w, i32_w]
    rfl
   refine pure_ (i := 3) (N := some 18) (v := ?_) (a' := ?_) #[true, true, true, true, false, false, false, false, false, false, false, false, false, false, false, false, false, false, false, false, false, false, false, false, false, false] rfl rfl (any_of HT_.out (by kernel_rfl)) (fun _ _ _ h => h) (Or.inl ⟨by rfl, ?_⟩) ?_ ?_
   rotate_left
   ·intro w'
    go_simp
    with_reducible rfl
   rotate_left
   ·simp only [Act.put, List.setIfInBounds_toArray, List.set_cons_zero, List.set_cons_succ, i64_w, i32_w]
    rfl
   refine pure_ (i := 4) (N := some 19) (v := ?_) (a' := ?_) #[true, true, true, true, true, false, false, false, false, false, false, false, false, false, false, false, false, false, false, false, false, false, false, false, false, false] rfl rfl (any_of HT_.out (by kernel_rfl)) (fun _ _ _ h => h) (Or.inl ⟨by rfl, ?_⟩) ?_ ?_
   rotate_left
   ·intro w'
    go_simp
    with_reducible rfl
   rotate_left
   ·simp only [Act.put, List.setIfInBounds_toArray, List.set_cons_zero, List.set_cons_succ, i64_w, i32_w]
    rfl
   refine pure_ (i := 5) (N := some 20) (v := ?_) (a' := ?_) #[true, true, true, true, true, true, false, false, false, false, false, false, false, false, false, false, false, false, false, false, false, false, false, false, false, false] rfl rfl (any_of HT_.out (by kernel_rfl)) (fun _ _ _ h => h) (Or.inl ⟨by rfl, ?_⟩) ?_ ?_
   rotate_left
   ·intro w'
    go_simp
    with_reducible rfl
   rotate_left
   ·simp only [Act.put, List.setIfInBounds_toArray, List.set_cons_zero, List.set_cons_succ, i64_w, i32_w]
    rfl
   refine pure_ (i := 6) (N := some 21) (v := ?_) (a' := ?_) #[true, true, true, true, true, true, true, false, false, false, false, false, false, false, false, false, false, false, false, false, false, false, false, false, false, false] rfl rfl (any_of HT_.out (by kernel_rfl)) (fun _ _ _ h => h) (Or.inl ⟨by rfl, ?_⟩) ?_ ?_
   rotate_left
   ·intro w'
    go_simp
    with_reducible rfl
   rotate_left
   ·simp only [Act.put, List.setIfInBounds_toArray, List.set_cons_zero, List.set_cons_succ, i64_w, i32_w]
    rfl
   refine pure_ (i := 7) (N := some 22) (v := ?_) (a' := ?_) #[true, true, true, true, true, true, true, true, false, false, false, false, false, false, false, false, false, false, false, false, false, false, false, false, false, false] rfl rfl (any_of HT_.out (by kernel_rfl)) (fun _ _ _ h => h) (Or.inl ⟨by rfl, ?_⟩) ?_ ?_
   rotate_left
   ·intro w'
    go_simp
    with_reducible rfl
   rotate_left
   ·simp only [Act.put, List.setIfInBounds_toArray, List.set_cons_zero, List.set_cons_succ, i64_w, i32_w]
    rfl
   refine pure_ (i := 8) (N := some 23) (v := undef) (a' := ?_) #[true, true, true, true, true, true, true, true, true, false, false, false, false, false, false, false, false, false, false, false, false, false, false, false, false, false] rfl rfl (any_of HT_.out (by kernel_rfl)) (fun _ _ _ h => h) (Or.inr ⟨by rfl, rfl⟩) ?_ ?_
   rotate_left
   ·simp only [Act.put, List.setIfInBounds_toArray, List.set_cons_zero, List.set_cons_succ, i64_w, i32_w]
    rfl
   refine pure_ (i := 9) (N := some 24) (v := undef) (a' := ?_) #[true, true, true, true, true, true, true, true, true, true, false, false, false, false, false, false, false, false, false, false, false, false, false, false, false, false] rfl rfl (any_of HT_.out (by kernel_rfl)) (fun _ _ _ h => h) (Or.inr ⟨by rfl, rfl⟩) ?_ ?_
   rotate_left
   ·simp only [Act.put, List.setIfInBounds_toArray, List.set_cons_zero, List.set_cons_succ, i64_w, i32_w]
    rfl
   refine pure_ (i := 10) (N := some 25) (v := undef) (a' := ?_) #[true, true, true, true, true, true, true, true, true, true, true, false, false, false, false, false, false, false, false, false, false, false, false, false, false, false] rfl rfl (any_of HT_.out (by kernel_rfl)) (fun _ _ _ h => h) (Or.inr ⟨by rfl, rfl⟩) ?_ ?_
   rotate_left
   ·simp only [Act.put, List.setIfInBounds_toArray, List.set_cons_zero, List.set_cons_succ, i64_w, i32_w]
    rfl
   refine pure_ (i := 11) (N := some 26) (v := undef) (a' := ?_) #[true, true, true, true, true, true, true, true, true, true, true, true, false, false, false, false, false, false, false, false, false, false, false, false, false, false] rfl rfl (any_of HT_.out (by kernel_rfl)) (fun _ _ _ h => h) (Or.inr ⟨by rfl, rfl⟩) ?_ ?_
   rotate_left
   ·simp only [Act.put, List.setIfInBounds_toArray, List.set_cons_zero, List.set_cons_succ, i64_w, i32_w]
    rfl
   refine pure_ (i := 12) (N := some 27) (v := undef) (a' := ?_) #[true, true, true, true, true, true, true, true, true, true, true, true, true, false, false, false, false, false, false, false, false, false, false, false, false, false] rfl rfl (any_of HT_.out (by kernel_rfl)) (fun _ _ _ h => h) (Or.inr ⟨by rfl, rfl⟩) ?_ ?_
   rotate_left
   ·simp only [Act.put, List.setIfInBounds_toArray, List.set_cons_zero, List.set_cons_succ, i64_w, i32_w]
    rfl
   refine pure_ (i := 13) (N := some 28) (v := undef) (a' := ?_) #[true, true, true, true, true, true, true, true, true, true, true, true, true, true, false, false, false, false, false, false, false, false, false, false, false, false] rfl rfl (any_of HT_.out (by kernel_rfl)) (fun _ _ _ h => h) (Or.inr ⟨by rfl, rfl⟩) ?_ ?_
   rotate_left
   ·simp only [Act.put, List.setIfInBounds_toArray, List.set_cons_zero, List.set_cons_succ, i64_w, i32_w]
    rfl
   refine pure_ (i := 14) (N := some 29) (v := undef) (a' := ?_) #[true, true, true, true, true, true, true, true, true, true, true, true, true, true, true, false, false, false, false, false, false, false, false, false, false, false] rfl rfl (any_of HT_.out (by kernel_rfl)) (fun _ _ _ h => h) (Or.inr ⟨by rfl, rfl⟩) ?_ ?_
   rotate_left
   ·simp only [Act.put, List.setIfInBounds_toArray, List.set_cons_zero, List.set_cons_succ, i64_w, i32_w]
    rfl
   refine pure_ (i := 15) (N := some 30) (v := undef) (a' := ?_) #[true, true, true, true, true, true, true, true, true, true, true, true, true, true, true, true, false, false, false, false, false, false, false, false, false, false] rfl rfl (any_of HT_.out (by kernel_rfl)) (fun _ _ _ h => h) (Or.inr ⟨by rfl, rfl⟩) ?_ ?_
   rotate_left
   ·simp only [Act.put, List.setIfInBounds_toArray, List.set_cons_zero, List.set_cons_succ, i64_w, i32_w]
    rfl
   refine pure_ (i := 16) (N := some 31) (v := ?_) (a' := ?_) #[true, true, true, true, true, true, true, true, true, true, true, true, true, true, true, true, true, false, false, false, false, false, false, false, false, false] rfl rfl (any_of HT_.out (by kernel_rfl)) (fun _ _ _ h => h) (Or.inl ⟨by rfl, ?_⟩) ?_ ?_
   rotate_left
   ·intro w'
    go_simp
    with_reducible rfl
   rotate_left
   ·simp only [Act.put, List.setIfInBounds_toArray, List.set_cons_zero, List.set_cons_succ, i64_w, i32_w]
    rfl
   refine pure_ (i := 17) (N := some 32) (v := ?_) (a' := ?_) #[true, true, true, true, true, true, true, true, true, true, true, true, true, true, true, true, true, true, false, false, false, false, false, false, false, false] rfl rfl (any_of HT_.out (by kernel_rfl)) (fun _ _ _ h => h) (Or.inl ⟨by rfl, ?_⟩) ?_ ?_
   rotate_left
   ·intro w'
    go_simp
    with_reducible rfl
   rotate_left
   ·simp only [Act.put, List.setIfInBounds_toArray, List.set_cons_zero, List.set_cons_succ, i64_w, i32_w]
    rfl
   refine pure_ (i := 18) (N := some 33) (v := undef) (a' := ?_) #[true, true, true, true, true, true, true, true, true, true, true, true, true, true, true, true, true, true, true, false, false, false, false, false, false, false] rfl rfl (any_of HT_.out (by kernel_rfl)) (fun _ _ _ h => h) (Or.inr ⟨by rfl, rfl⟩) ?_ ?_
   rotate_left
   ·simp only [Act.put, List.setIfInBounds_toArray, List.set_cons_zero, List.set_cons_succ, i64_w, i32_w]
    rfl
   refine pure_ (i := 19) (N := some 34) (v := undef) (a' := ?_) #[true, true, true, true, true, true, true, true, true, true, true, true, true, true, true, true, true, true, true, true, false, false, false, false, false, false] rfl rfl (any_of HT_.out (by kernel_rfl)) (fun _ _ _ h => h) (Or.inr ⟨by rfl, rfl⟩) ?_ ?_
   rotate_left
   ·simp only [Act.put, List.setIfInBounds_toArray, List.set_cons_zero, List.set_cons_succ, i64_w, i32_w]
    rfl
   refine pure_ (i := 20) (N := some 35) (v := ?_) (a' := ?_) #[true, true, true, true, true, true, true, true, true, true, true, true, true, true, true, true, true, true, true, true, true, false, false, false, false, false] rfl rfl (any_of HT_.out (by kernel_rfl)) (fun _ _ _ h => h) (Or.inl ⟨by rfl, ?_⟩) ?_ ?_
   rotate_left
   ·intro w'
    go_simp
    with_reducible rfl
   rotate_left
   ·simp only [Act.put, List.setIfInBounds_toArray, List.set_cons_zero, List.set_cons_succ, i64_w, i32_w]
    rfl
   refine pure_ (i := 21) (N := some 36) (v := ?_) (a' := ?_) #[true, true, true, true, true, true, true, true, true, true, true, true, true, true, true, true, true, true, true, true, true, true, false, false, false, false] rfl rfl (any_of HT_.out (by kernel_rfl)) (fun _ _ _ h => h) (Or.inl ⟨by rfl, ?_⟩) ?_ ?_
   rotate_left
   ·intro w'
    go_simp
    with_reducible rfl
   rotate_left
   ·simp only [Act.put, List.setIfInBounds_toArray, List.set_cons_zero, List.set_cons_succ, i64_w, i32_w]
    rfl
   refine pure_ (i := 22) (N := some 37) (v := undef) (a' := ?_) #[true, true, true, true, true, true, true, true, true, true, true, true, true, true, true, true, true, true, true, true, true, true, true, false, false, false] rfl rfl (any_of HT_.out (by kernel_rfl)) (fun _ _ _ h => h) (Or.inr ⟨by rfl, rfl⟩) ?_ ?_
   rotate_left
   ·simp only [Act.put, List.setIfInBounds_toArray, List.set_cons_zero, List.set_cons_succ, i64_w, i32_w]
    rfl
   refine pure_ (i := 23) (N := some 38) (v := undef) (a' := ?_) #[true, true, true, true, true, true, true, true, true, true, true, true, true, true, true, true, true, true, true, true, true, true, true, true, false, false] rfl rfl (any_of HT_.out (by kernel_rfl)) (fun _ _ _ h => h) (Or.inr ⟨by rfl, rfl⟩) ?_ ?_
   rotate_left
   ·simp only [Act.put, List.setIfInBounds_toArray, List.set_cons_zero, List.set_cons_succ, i64_w, i32_w]
    rfl
   refine pure_ (i := 24) (N := some 39) (v := ?_) (a' := ?_) #[true, true, true, true, true, true, true, true, true, true, true, true, true, true, true, true, true, true, true, true, true, true, true, true, true, false] rfl rfl (any_of HT_.out (by kernel_rfl)) (fun _ _ _ h => h) (Or.inl ⟨by rfl, ?_⟩) ?_ ?_
   rotate_left
   ·intro w'
    go_simp
    with_reducible rfl
   rotate_left
   ·simp only [Act.put, List.setIfInBounds_toArray, List.set_cons_zero, List.set_cons_succ, i64_w, i32_w]
    rfl
   refine pure_ (i := 25) (N := some 0) (v := ?_) (a' := ?_) #[true, true, true, true, true, true, true, true, true, true, true, true, true, true, true, true, true, true, true, true, true, true, true, true, true, true] rfl rfl (any_of HT_.out (by kernel_rfl)) (fun _ _ _ h => h) (Or.inl ⟨by rfl, ?_⟩) ?_ ?_
   rotate_left
   ·intro w'
    go_simp
    with_reducible rfl
   rotate_left
   ·simp only [Act.put, List.setIfInBounds_toArray, List.set_cons_zero, List.set_cons_succ, i64_w, i32_w]
    rfl
   refine done_ (done_of HT_.out (by kernel_rfl)) ?_
   try go_wp2
   go_ret
   exact ⟨by first | rfl | (simp [errW_none, errW_some] <;> rfl) | (simp [*, errW_none, errW_some] <;> rfl), by repeat (first | (with_reducible first | exact HB.out | apply below_alloc | apply pw_below_drewN | apply below_drew1) | exact HB.out)⟩
 ·rw [if_neg c5] at H
  have c5b0 : (t151 == 0) = false := beq_eq_false_iff_ne.mpr c5
  have c5b1 : (t151 != 0) = true := bne_iff_ne.mpr c5
  obtain rfl := Option.some.inj H
  go_enter Try.func21, Try.ntmps21
  try go_wp2_with (first | ((with_reducible refine gate_callee (f := 87) rfl ?_); refine goesL_ (some 6) rfl rfl Try.func87 (by kernel_rfl) rfl #[] rfl (by (try simp only [List.map_toArray, List.map_cons, List.map_nil]); first | done | rfl | (simp only [List.length_drop, List.length_take]; rfl)) ?_; (with_reducible refine (thermionlaw04_chain.calls  t144 t145 _ A1.out).mono ?_); rintro e w60 ⟨v146, rfl, ho0, hb⟩; refine ⟨_, rfl, ?_⟩; have n0_ := Aside0.mk (Kd.R_lower ho0 (below_size (by repeat (first | (with_reducible first | exact HB.out | apply below_alloc | apply pw_below_drewN | apply below_drew1) | exact HB.out)))); have n1_ := Aside0.mk (below_step (by repeat (first | (with_reducible first | exact HB.out | apply below_alloc | apply pw_below_drewN | apply below_drew1) | exact HB.out)) hb); clear HB; have HO147 := n0_; have HB := n1_; clear n0_ n1_; (try clear hb); (try clear hb2); (try clear hk); (try clear hi); (try clear ho0); obtain ⟨Ao61, co61, eo61⟩ := Kd.R_slice HO147.out; subst eo61) | ((with_reducible refine gate_callee (f := 24) rfl ?_); refine goesL_ (some 7) rfl rfl Try.func24 (by kernel_rfl) rfl #[.agg #[.int .i64 t144, .slice Ao61 t145.length co61]] rfl (by (try simp only [List.map_toArray, List.map_cons, List.map_nil]); first | done | rfl | (simp only [List.length_drop, List.length_take]; rfl)) ?_; (with_reducible refine (mount_Tight.calls t144 _ _ t145 t148 t151 _ ?side1 ?side2 A2.out).mono ?_); (case side1 => repeat (first | exact (Kd.R_reads' HO147.out).2.2 | (with_reducible refine Kd.C_alloc ?_ _) | (with_reducible refine Kd.C_drewN ?_ _) | (with_reducible refine Kd.C_drew ?_))); (case side2 => exact (Kd.R_reads' HO147.out).2.1); rintro e w62 ⟨v149, rfl, ho0, hb⟩; refine ⟨_, rfl, ?_⟩; have n0_ := Aside0.mk (Kd.R_below (by (with_reducible repeat (first | apply Kd.R_alloc | apply Kd.R_drewN | apply Kd.R_drew)); exact HO147.out) hb); have n1_ := Aside0.mk (Kd.N_lower (Kd.N_mono (ok' := fun k_ => some k_ ≠ (.slice Ao61 t145.length co61 : Value).ownBlock) (Kd.S_N (Kd.S_bound ho0)) (fun k_ hk_ => (Kd.fresh' (Kd.R_lt (by (with_reducible repeat (first | apply Kd.R_alloc | apply Kd.R_drewN | apply Kd.R_drew)); exact HO147.out)) k_ hk_.2.1))) (below_size (by repeat (first | (with_reducible first | exact HB.out | apply below_alloc | apply pw_below_drewN | apply below_drew1) | exact HB.out)))); have n2_ := Aside0.mk (below_step (by repeat (first | (with_reducible first | exact HB.out | apply below_alloc | apply pw_below_drewN | apply below_drew1) | exact HB.out)) hb); clear HO147; clear HB; have HO147 := n0_; have HO150 := n1_; have HB := n2_; clear n0_ n1_ n2_; (try clear hb); (try clear hb2); (try clear hk); (try clear hi); (try clear ho0)) | ((with_reducible refine gate_callee (f := 59) rfl ?_); refine goesL_ (some 11) rfl rfl Try.func59 (by kernel_rfl) rfl #[] rfl (by (try simp only [List.map_toArray, List.map_cons, List.map_nil]); first | done | rfl | (simp only [List.length_drop, List.length_take]; rfl)) ?_; (with_reducible refine (thermionlaw04_kit.calls  t152 t155 _ A3.out).mono ?_); rintro e w63 ⟨v153, rfl, ho0, hb⟩; refine ⟨_, rfl, ?_⟩; have n0_ := Aside0.mk (Kd.R_below (by (with_reducible repeat (first | apply Kd.R_alloc | apply Kd.R_drewN | apply Kd.R_drew)); exact HO147.out) hb); have n1_ := Aside0.mk (Kd.N_elder' (by (with_reducible repeat (first | apply Kd.N_alloc | apply Kd.N_drewN | apply Kd.N_drew)); exact HO150.out) (Kd.N_base ho0) hb); have n2_ := Aside0.mk (Kd.N_lower (Kd.N_mono (ok' := fun k_ => some k_ ≠ (.slice Ao61 t145.length co61 : Value).ownBlock ∧ some k_ ≠ (v149 : Value).ownBlock) ho0 (fun k_ hk_ => ⟨(Kd.fresh' (Kd.R_lt (by (with_reducible repeat (first | apply Kd.R_alloc | apply Kd.R_drewN | apply Kd.R_drew)); exact HO147.out)) k_ hk_), (Kd.fresh' (Kd.N_lt (by (with_reducible repeat (first | apply Kd.N_alloc | apply Kd.N_drewN | apply Kd.N_drew)); exact HO150.out)) k_ hk_)⟩)) (below_size (by repeat (first | (with_reducible first | exact HB.out | apply below_alloc | apply pw_below_drewN | apply below_drew1) | exact HB.out)))); have n3_ := Aside0.mk (below_step (by repeat (first | (with_reducible first | exact HB.out | apply below_alloc | apply pw_below_drewN | apply below_drew1) | exact HB.out)) hb); clear HO147; clear HO150; clear HB; have HO147 := n0_; have HO150 := n1_; have HO154 := n2_; have HB := n3_; clear n0_ n1_ n2_ n3_; (try clear hb); (try clear hb2); (try clear hk); (try clear hi); (try clear ho0); obtain ⟨Ao64, co64, eo64⟩ := Kd.N_slice HO154.out; subst eo64) | ((with_reducible refine gate_callee (f := 30) rfl ?_); refine goesL_ (some 12) rfl rfl Try.func30 (by kernel_rfl) rfl #[.agg #[.slice Ao64 t152.length co64, .int .i64 t155]] rfl (by (try simp only [List.map_toArray, List.map_cons, List.map_nil]); first | done | rfl | (simp only [List.length_drop, List.length_take]; rfl)) ?_; (with_reducible refine (mount_Orders.calls _ _ t152 t155 t156 t157 _ ?side1 ?side2 A4.out).mono ?_); (case side1 => repeat (first | exact (Kd.N_reads' HO154.out).2.2 | (with_reducible refine Kd.C_alloc ?_ _) | (with_reducible refine Kd.C_drewN ?_ _) | (with_reducible refine Kd.C_drew ?_))); (case side2 => exact (Kd.N_reads' HO154.out).2.1); rintro e w65 ⟨rfl, hb⟩; refine ⟨_, rfl, ?_⟩; have n0_ := Aside0.mk (Kd.R_below (by (with_reducible repeat (first | apply Kd.R_alloc | apply Kd.R_drewN | apply Kd.R_drew)); exact HO147.out) hb); have n1_ := Aside0.mk (Kd.N_below (by (with_reducible repeat (first | apply Kd.N_alloc | apply Kd.N_drewN | apply Kd.N_drew)); exact HO150.out) hb); have n2_ := Aside0.mk (Kd.N_below (by (with_reducible repeat (first | apply Kd.N_alloc | apply Kd.N_drewN | apply Kd.N_drew)); exact HO154.out) hb); have n3_ := Aside0.mk (below_step (by repeat (first | (with_reducible first | exact HB.out | apply below_alloc | apply pw_below_drewN | apply below_drew1) | exact HB.out)) hb); clear HO147; clear HO150; clear HO154; clear HB; have HO147 := n0_; have HO150 := n1_; have HO154 := n2_; have HB := n3_; clear n0_ n1_ n2_ n3_; (try clear hb); (try clear hb2); (try clear hk); (try clear hi)))
  have n0_ := Aside0.mk (Kd.R_drew HO147.out)
  have n1_ := Aside0.mk (Kd.N_drew HO150.out)
  have n2_ := Aside0.mk (Kd.N_drew HO154.out)
  have n3_ := Aside0.mk (below_drew1 HB.out)
  clear HO147
  clear HO150
  clear HO154
  clear HB
  have HO147 := n0_
  have HO150 := n1_
  have HO154 := n2_
  have HB := n3_
  clear n0_ n1_ n2_ n3_
  refine start_ (n := 26) (S := fun w' => True) (ds := []) #[false, false, false, false, false, false, false, false, false, false, false, false, false, false, false, false, false, false, false, false, false, false, false, false, false, false] (by kernel_rfl) rfl rfl trivial (fun hHeld => ?_); refine with_tabW thermionlaw04_awake.tab3 thermionlaw04_awake.bits3 (fun HT_ HW_ => ?_)
  generalize w65.drew = w66 at HO147 HO150 HO154 HB hHeld ⊢
  refine pure_ (i := 0) (N := some 15) (v := ?_) (a' := ?_) #[true, false, false, false, false, false, false, false, false, false, false, false, false, false, false, false, false, false, false, false, false, false, false, false, false, false] rfl rfl (any_of HT_.out (by kernel_rfl)) (fun _ _ _ h => h) (Or.inl ⟨by rfl, ?_⟩) ?_ ?_
  rotate_left
  ·intro w'
   go_simp
   with_reducible rfl
  rotate_left
  ·simp only [Act.put, List.setIfInBounds_toArray, List.set_cons_zero, List.set_cons_succ, i64_w, i32_w]
   rfl
  refine pure_ (i := 1) (N := some 16) (v := ?_) (a' := ?_) #[true, true, false, false, false, false, false, false, false, false, false, false, false, false, false, false, false, false, false, false, false, false, false, false, false, false] rfl rfl (any_of HT_.out (by kernel_rfl)) (fun _ _ _ h => h) (Or.inl ⟨by rfl, ?_⟩) ?_ ?_
  rotate_left
  ·intro w'
   go_simp
   with_reducible rfl
  rotate_left
  ·simp only [Act.put, List.setIfInBounds_toArray, List.set_cons_zero, List.set_cons_succ, i64_w, i32_w]
   rfl
  refine pure_ (i := 2) (N := some 17) (v := ?_) (a' := ?_) #[true, true, true, false, false, false, false, false, false, false, false, false, false, false, false, false, false, false, false, false, false, false, false, false, false, false] rfl rfl (any_of HT_.out (by kernel_rfl)) (fun _ _ _ h => h) (Or.inl ⟨by rfl, ?_⟩) ?_ ?_
  rotate_left
  ·intro w'
   go_simp
   with_reducible rfl
  rotate_left
  ·simp only [Act.put, List.setIfInBounds_toArray, List.set_cons_zero, List.set_cons_succ, i64_w, i32_w]
   rfl
  refine pure_ (i := 3) (N := some 18) (v := undef) (a' := ?_) #[true, true, true, true, false, false, false, false, false, false, false, false, false, false, false, false, false, false, false, false, false, false, false, false, false, false] rfl rfl (any_of HT_.out (by kernel_rfl)) (fun _ _ _ h => h) (Or.inr ⟨by rfl, rfl⟩) ?_ ?_
  rotate_left
  ·simp only [Act.put, List.setIfInBounds_toArray, List.set_cons_zero, List.set_cons_succ, i64_w, i32_w]
   rfl
  refine pure_ (i := 4) (N := some 19) (v := undef) (a' := ?_) #[true, true, true, true, true, false, false, false, false, false, false, false, false, false, false, false, false, false, false, false, false, false, false, false, false, false] rfl rfl (any_of HT_.out (by kernel_rfl)) (fun _ _ _ h => h) (Or.inr ⟨by rfl, rfl⟩) ?_ ?_
  rotate_left
  ·simp only [Act.put, List.setIfInBounds_toArray, List.set_cons_zero, List.set_cons_succ, i64_w, i32_w]
   rfl
  refine pure_ (i := 5) (N := some 20) (v := undef) (a' := ?_) #[true, true, true, true, true, true, false, false, false, false, false, false, false, false, false, false, false, false, false, false, false, false, false, false, false, false] rfl rfl (any_of HT_.out (by kernel_rfl)) (fun _ _ _ h => h) (Or.inr ⟨by rfl, rfl⟩) ?_ ?_
  rotate_left
  ·simp only [Act.put, List.setIfInBounds_toArray, List.set_cons_zero, List.set_cons_succ, i64_w, i32_w]
   rfl
  refine pure_ (i := 6) (N := some 21) (v := ?_) (a' := ?_) #[true, true, true, true, true, true, true, false, false, false, false, false, false, false, false, false, false, false, false, false, false, false, false, false, false, false] rfl rfl (any_of HT_.out (by kernel_rfl)) (fun _ _ _ h => h) (Or.inl ⟨by rfl, ?_⟩) ?_ ?_
  rotate_left
  ·intro w'
   go_simp
   with_reducible rfl
  rotate_left
  ·simp only [Act.put, List.setIfInBounds_toArray, List.set_cons_zero, List.set_cons_succ, i64_w, i32_w]
   rfl
  refine pure_ (i := 7) (N := some 22) (v := ?_) (a' := ?_) #[true, true, true, true, true, true, true, true, false, false, false, false, false, false, false, false, false, false, false, false, false, false, false, false, false, false] rfl rfl (any_of HT_.out (by kernel_rfl)) (fun _ _ _ h => h) (Or.inl ⟨by rfl, ?_⟩) ?_ ?_
  rotate_left
  ·intro w'
   go_simp
   with_reducible rfl
  rotate_left
  ·simp only [Act.put, List.setIfInBounds_toArray, List.set_cons_zero, List.set_cons_succ, i64_w, i32_w]
   rfl
  refine pure_ (i := 8) (N := some 23) (v := undef) (a' := ?_) #[true, true, true, true, true, true, true, true, true, false, false, false, false, false, false, false, false, false, false, false, false, false, false, false, false, false] rfl rfl (any_of HT_.out (by kernel_rfl)) (fun _ _ _ h => h) (Or.inr ⟨by rfl, rfl⟩) ?_ ?_
  rotate_left
  ·simp only [Act.put, List.setIfInBounds_toArray, List.set_cons_zero, List.set_cons_succ, i64_w, i32_w]
   rfl
  refine pure_ (i := 9) (N := some 24) (v := undef) (a' := ?_) #[true, true, true, true, true, true, true, true, true, true, false, false, false, false, false, false, false, false, false, false, false, false, false, false, false, false] rfl rfl (any_of HT_.out (by kernel_rfl)) (fun _ _ _ h => h) (Or.inr ⟨by rfl, rfl⟩) ?_ ?_
  rotate_left
  ·simp only [Act.put, List.setIfInBounds_toArray, List.set_cons_zero, List.set_cons_succ, i64_w, i32_w]
   rfl
  refine pure_ (i := 10) (N := some 25) (v := undef) (a' := ?_) #[true, true, true, true, true, true, true, true, true, true, true, false, false, false, false, false, false, false, false, false, false, false, false, false, false, false] rfl rfl (any_of HT_.out (by kernel_rfl)) (fun _ _ _ h => h) (Or.inr ⟨by rfl, rfl⟩) ?_ ?_
  rotate_left
  ·simp only [Act.put, List.setIfInBounds_toArray, List.set_cons_zero, List.set_cons_succ, i64_w, i32_w]
   rfl
  refine pure_ (i := 11) (N := some 26) (v := undef) (a' := ?_) #[true, true, true, true, true, true, true, true, true, true, true, true, false, false, false, false, false, false, false, false, false, false, false, false, false, false] rfl rfl (any_of HT_.out (by kernel_rfl)) (fun _ _ _ h => h) (Or.inr ⟨by rfl, rfl⟩) ?_ ?_
  rotate_left
  ·simp only [Act.put, List.setIfInBounds_toArray, List.set_cons_zero, List.set_cons_succ, i64_w, i32_w]
   rfl
  refine pure_ (i := 12) (N := some 27) (v := undef) (a' := ?_) #[true, true, true, true, true, true, true, true, true, true, true, true, true, false, false, false, false, false, false, false, false, false, false, false, false, false] rfl rfl (any_of HT_.out (by kernel_rfl)) (fun _ _ _ h => h) (Or.inr ⟨by rfl, rfl⟩) ?_ ?_
  rotate_left
  ·simp only [Act.put, List.setIfInBounds_toArray, List.set_cons_zero, List.set_cons_succ, i64_w, i32_w]
   rfl
  refine pure_ (i := 13) (N := some 28) (v := undef) (a' := ?_) #[true, true, true, true, true, true, true, true, true, true, true, true, true, true, false, false, false, false, false, false, false, false, false, false, false, false] rfl rfl (any_of HT_.out (by kernel_rfl)) (fun _ _ _ h => h) (Or.inr ⟨by rfl, rfl⟩) ?_ ?_
  rotate_left
  ·simp only [Act.put, List.setIfInBounds_toArray, List.set_cons_zero, List.set_cons_succ, i64_w, i32_w]
   rfl
  refine pure_ (i := 14) (N := some 29) (v := undef) (a' := ?_) #[true, true, true, true, true, true, true, true, true, true, true, true, true, true, true, false, false, false, false, false, false, false, false, false, false, false] rfl rfl (any_of HT_.out (by kernel_rfl)) (fun _ _ _ h => h) (Or.inr ⟨by rfl, rfl⟩) ?_ ?_
  rotate_left
  ·simp only [Act.put, List.setIfInBounds_toArray, List.set_cons_zero, List.set_cons_succ, i64_w, i32_w]
   rfl
  refine pure_ (i := 15) (N := some 30) (v := undef) (a' := ?_) #[true, true, true, true, true, true, true, true, true, true, true, true, true, true, true, true, false, false, false, false, false, false, false, false, false, false] rfl rfl (any_of HT_.out (by kernel_rfl)) (fun _ _ _ h => h) (Or.inr ⟨by rfl, rfl⟩) ?_ ?_
  rotate_left
  ·simp only [Act.put, List.setIfInBounds_toArray, List.set_cons_zero, List.set_cons_succ, i64_w, i32_w]
   rfl
  refine pure_ (i := 16) (N := some 31) (v := ?_) (a' := ?_) #[true, true, true, true, true, true, true, true, true, true, true, true, true, true, true, true, true, false, false, false, false, false, false, false, false, false] rfl rfl (any_of HT_.out (by kernel_rfl)) (fun _ _ _ h => h) (Or.inl ⟨by rfl, ?_⟩) ?_ ?_
  rotate_left
  ·intro w'
   go_simp
   with_reducible rfl
  rotate_left
  ·simp only [Act.put, List.setIfInBounds_toArray, List.set_cons_zero, List.set_cons_succ, i64_w, i32_w]
   rfl
  refine pure_ (i := 17) (N := some 32) (v := ?_) (a' := ?_) #[true, true, true, true, true, true, true, true, true, true, true, true, true, true, true, true, true, true, false, false, false, false, false, false, false, false] rfl rfl (any_of HT_.out (by kernel_rfl)) (fun _ _ _ h => h) (Or.inl ⟨by rfl, ?_⟩) ?_ ?_
  rotate_left
  ·intro w'
   go_simp
   with_reducible rfl
  rotate_left
  ·simp only [Act.put, List.setIfInBounds_toArray, List.set_cons_zero, List.set_cons_succ, i64_w, i32_w]
   rfl
  refine pure_ (i := 18) (N := some 33) (v := undef) (a' := ?_) #[true, true, true, true, true, true, true, true, true, true, true, true, true, true, true, true, true, true, true, false, false, false, false, false, false, false] rfl rfl (any_of HT_.out (by kernel_rfl)) (fun _ _ _ h => h) (Or.inr ⟨by rfl, rfl⟩) ?_ ?_
  rotate_left
  ·simp only [Act.put, List.setIfInBounds_toArray, List.set_cons_zero, List.set_cons_succ, i64_w, i32_w]
   rfl
  refine pure_ (i := 19) (N := some 34) (v := undef) (a' := ?_) #[true, true, true, true, true, true, true, true, true, true, true, true, true, true, true, true, true, true, true, true, false, false, false, false, false, false] rfl rfl (any_of HT_.out (by kernel_rfl)) (fun _ _ _ h => h) (Or.inr ⟨by rfl, rfl⟩) ?_ ?_
  rotate_left
  ·simp only [Act.put, List.setIfInBounds_toArray, List.set_cons_zero, List.set_cons_succ, i64_w, i32_w]
   rfl
  refine pure_ (i := 20) (N := some 35) (v := ?_) (a' := ?_) #[true, true, true, true, true, true, true, true, true, true, true, true, true, true, true, true, true, true, true, true, true, false, false, false, false, false] rfl rfl (any_of HT_.out (by kernel_rfl)) (fun _ _ _ h => h) (Or.inl ⟨by rfl, ?_⟩) ?_ ?_
  rotate_left
  ·intro w'
   go_simp
   with_reducible rfl
  rotate_left
  ·simp only [Act.put, List.setIfInBounds_toArray, List.set_cons_zero, List.set_cons_succ, i64_w, i32_w]
   rfl
  refine pure_ (i := 21) (N := some 36) (v := ?_) (a' := ?_) #[true, true, true, true, true, true, true, true, true, true, true, true, true, true, true, true, true, true, true, true, true, true, false, false, false, false] rfl rfl (any_of HT_.out (by kernel_rfl)) (fun _ _ _ h => h) (Or.inl ⟨by rfl, ?_⟩) ?_ ?_
  rotate_left
  ·intro w'
   go_simp
   with_reducible rfl
  rotate_left
  ·simp only [Act.put, List.setIfInBounds_toArray, List.set_cons_zero, List.set_cons_succ, i64_w, i32_w]
   rfl
  refine pure_ (i := 22) (N := some 37) (v := undef) (a' := ?_) #[true, true, true, true, true, true, true, true, true, true, true, true, true, true, true, true, true, true, true, true, true, true, true, false, false, false] rfl rfl (any_of HT_.out (by kernel_rfl)) (fun _ _ _ h => h) (Or.inr ⟨by rfl, rfl⟩) ?_ ?_
  rotate_left
  ·simp only [Act.put, List.setIfInBounds_toArray, List.set_cons_zero, List.set_cons_succ, i64_w, i32_w]
   rfl
  refine pure_ (i := 23) (N := some 38) (v := undef) (a' := ?_) #[true, true, true, true, true, true, true, true, true, true, true, true, true, true, true, true, true, true, true, true, true, true, true, true, false, false] rfl rfl (any_of HT_.out (by kernel_rfl)) (fun _ _ _ h => h) (Or.inr ⟨by rfl, rfl⟩) ?_ ?_
  rotate_left
  ·simp only [Act.put, List.setIfInBounds_toArray, List.set_cons_zero, List.set_cons_succ, i64_w, i32_w]
   rfl
  refine pure_ (i := 24) (N := some 39) (v := ?_) (a' := ?_) #[true, true, true, true, true, true, true, true, true, true, true, true, true, true, true, true, true, true, true, true, true, true, true, true, true, false] rfl rfl (any_of HT_.out (by kernel_rfl)) (fun _ _ _ h => h) (Or.inl ⟨by rfl, ?_⟩) ?_ ?_
  rotate_left
  ·intro w'
   go_simp
   with_reducible rfl
  rotate_left
  ·simp only [Act.put, List.setIfInBounds_toArray, List.set_cons_zero, List.set_cons_succ, i64_w, i32_w]
   rfl
  refine pure_ (i := 25) (N := some 0) (v := ?_) (a' := ?_) #[true, true, true, true, true, true, true, true, true, true, true, true, true, true, true, true, true, true, true, true, true, true, true, true, true, true] rfl rfl (any_of HT_.out (by kernel_rfl)) (fun _ _ _ h => h) (Or.inl ⟨by rfl, ?_⟩) ?_ ?_
  rotate_left
  ·intro w'
   go_simp
   with_reducible rfl
  rotate_left
  ·simp only [Act.put, List.setIfInBounds_toArray, List.set_cons_zero, List.set_cons_succ, i64_w, i32_w]
   rfl
  refine done_ (done_of HT_.out (by kernel_rfl)) ?_
  try go_wp2
  go_ret
  exact ⟨by first | rfl | (simp [errW_none, errW_some] <;> rfl) | (simp [*, errW_none, errW_some] <;> rfl), by repeat (first | (with_reducible first | exact HB.out | apply below_alloc | apply pw_below_drewN | apply below_drew1) | exact HB.out)⟩

end Go.Proofs.Ytbcfphoheijmdaa.Print
end

section
/- The chapter's examples that every statement of this layer asks: their values. -/
namespace Go.Proofs.Ytbcfphoheijmdaa.Print
open Go.RowKit Go.Proofs.YtbcfphoheijmdaaW.PrintWords
theorem awake_true : thermionlaw04_awake.f 8 = some true := by kernel_rfl
end Go.Proofs.Ytbcfphoheijmdaa.Print
end

section
/- The ways over ever more points, in plain Lean: when no point comes behind itself, the table that is left bounds all positions, and each bound is reached by some. -/
namespace Go.Proofs.Ytbcfphoheijmdaa.Floyd

/-- What bounds nothing. -/
def far : Int := 1099511627776
/-- One step: the ways over m. -/
def ov (T : Nat → Nat → Int) (m : Nat) : Nat → Nat → Int := fun a b => if T a m < far ∧ T m b < far then min (T a b) (T a m + T m b) else T a b
/-- The table behind the ways over the first k points. -/
def st (E : Nat → Nat → Int) : Nat → Nat → Nat → Int
  | 0 => E
  | k + 1 => ov (st E k) k

theorem ov_le (T : Nat → Nat → Int) (m a b : Nat) : ov T m a b ≤ T a b := by unfold ov; split <;> omega
theorem ov_way (T : Nat → Nat → Int) (m a b : Nat) (h1 : T a m < far) (h2 : T m b < far) : ov T m a b ≤ T a m + T m b := by unfold ov; rw [if_pos ⟨h1, h2⟩]; omega
theorem ov_cases (T : Nat → Nat → Int) (m a b : Nat) : ov T m a b = T a b ∨ (T a m < far ∧ T m b < far ∧ ov T m a b = T a m + T m b) := by
  unfold ov
  split
  · rename_i h
    rcases Int.le_total (T a b) (T a m + T m b) with q | q
    · left; omega
    · right; exact ⟨h.1, h.2, by omega⟩
  · left; rfl
theorem st_succ (E : Nat → Nat → Int) (k a b : Nat) : st E (k + 1) a b = ov (st E k) k a b := rfl
theorem st_le (E : Nat → Nat → Int) (k a b : Nat) : st E k a b ≤ E a b := by
  induction k with
  | zero => exact Int.le_refl _
  | succ k ih => exact Int.le_trans (ov_le _ _ _ _) ih
theorem st_mono (E : Nat → Nat → Int) (k d a b : Nat) : st E (k + d) a b ≤ st E k a b := by
  induction d with
  | zero => exact Int.le_refl _
  | succ d ih => exact Int.le_trans (ov_le _ _ _ _) ih

/-- Positions that keep to a table. -/
def PKeeps (n : Nat) (E : Nat → Nat → Int) (x : Nat → Int) : Prop := ∀ a b, a < n → b < n → E a b < far → x b - x a ≤ E a b
theorem PKeeps.ov {n : Nat} {T : Nat → Nat → Int} {x : Nat → Int} (h : PKeeps n T x) (m : Nat) (hm : m < n) : PKeeps n (Floyd.ov T m) x := by
  intro a b ha hb hf
  rcases ov_cases T m a b with q | ⟨q1, q2, q3⟩
  · rw [q] at hf ⊢; exact h a b ha hb hf
  · rw [q3]; have := h a m ha hm q1; have := h m b hm hb q2; omega
theorem PKeeps.st {n : Nat} {E : Nat → Nat → Int} {x : Nat → Int} (h : PKeeps n E x) (k : Nat) (hk : k ≤ n) : PKeeps n (Floyd.st E k) x := by
  induction k with
  | zero => exact h
  | succ k ih => exact (ih (by omega)).ov k (by omega)

/-- Ways along edges; the list has the points between. -/
inductive PWay (E : Nat → Nat → Int) : List Nat → Nat → Nat → Int → Prop
  | edge (a b : Nat) : E a b < far → PWay E [] a b (E a b)
  | cons (a v b : Nat) (l : List Nat) (c : Int) : E a v < far → PWay E l v b c → PWay E (v :: l) a b (E a v + c)
theorem PWay.split {E : Nat → Nat → Int} : ∀ (l1 : List Nat) {l2 : List Nat} {m a b : Nat} {c : Int}, PWay E (l1 ++ m :: l2) a b c → ∃ c1 c2, PWay E l1 a m c1 ∧ PWay E l2 m b c2 ∧ c = c1 + c2
  | [], l2, m, a, b, c, h => by
    cases h with
    | cons _ _ _ _ c' hf hw => exact ⟨_, c', .edge _ _ hf, hw, rfl⟩
  | v :: l1, l2, m, a, b, c, h => by
    cases h with
    | cons _ _ _ _ c' hf hw =>
      obtain ⟨c1, c2, h1, h2, rfl⟩ := PWay.split l1 hw
      exact ⟨_, c2, .cons _ _ _ _ _ hf h1, h2, by omega⟩
theorem PWay.join {E : Nat → Nat → Int} : ∀ {l1 l2 : List Nat} {m a b : Nat} {c1 c2 : Int}, PWay E l1 a m c1 → PWay E l2 m b c2 → ∃ c, PWay E (l1 ++ m :: l2) a b c
  | [], l2, m, a, b, c1, c2, h1, h2 => by
    cases h1 with
    | edge _ _ hf => exact ⟨_, .cons _ _ _ _ _ hf h2⟩
  | v :: l1, l2, m, a, b, c1, c2, h1, h2 => by
    cases h1 with
    | cons _ _ _ _ c' hf hw =>
      obtain ⟨c, h⟩ := PWay.join hw h2
      exact ⟨_, .cons _ _ _ _ _ hf h⟩
theorem PWay.bound {E : Nat → Nat → Int} {n : Nat} {M : Int} (hM : ∀ a b, a < n → b < n → E a b < far → E a b ≤ M) : ∀ {l : List Nat} {a b : Nat} {c : Int}, PWay E l a b c → a < n → b < n → (∀ v, v ∈ l → v < n) → c ≤ ((l.length : Int) + 1) * M
  | [], a, b, c, h, ha, hb, _ => by
    cases h with
    | edge _ _ hf => have := hM a b ha hb hf; simpa using this
  | v :: l, a, b, c, h, ha, hb, hl => by
    cases h with
    | cons _ _ _ _ c' hf hw =>
      have h1 := hM a v ha (hl v (by simp)) hf
      have h2 := PWay.bound hM hw (hl v (by simp)) hb (fun x hx => hl x (by simp [hx]))
      have : ((((v :: l).length : Nat) : Int) + 1) * M = M + ((l.length : Int) + 1) * M := by
        rw [List.length_cons]
        have : (((l.length + 1 : Nat) : Int) + 1) = 1 + ((l.length : Int) + 1) := by omega
        rw [this, Int.add_mul, Int.one_mul]
      omega
theorem PWay.short {E : Nat → Nat → Int} : ∀ {l : List Nat} {a b : Nat} {c : Int}, PWay E l a b c → ∃ l' c', PWay E l' a b c' ∧ l'.Nodup ∧ ∀ v, v ∈ l' → v ∈ l
  | [], a, b, c, h => ⟨[], c, h, by simp, by simp⟩
  | v :: l, a, b, c, h => by
    cases h with
    | cons _ _ _ _ c' hf hw =>
      obtain ⟨l', c2, h1, h2, h3⟩ := PWay.short hw
      by_cases q : v ∈ l'
      · obtain ⟨x, y, rfl⟩ := List.append_of_mem q
        obtain ⟨d1, d2, g1, g2, _⟩ := PWay.split x h1
        rw [List.nodup_append] at h2
        refine ⟨v :: y, _, .cons _ _ _ _ _ hf g2, h2.2.1, ?_⟩
        intro u hu
        rcases List.mem_cons.1 hu with r | r
        · rw [r]; simp
        · exact List.mem_cons_of_mem _ (h3 u (by simp [r]))
      · exact ⟨v :: l', _, .cons _ _ _ _ _ hf h1, List.nodup_cons.2 ⟨q, h2⟩, fun u hu => by
          rcases List.mem_cons.1 hu with r | r
          · rw [r]; simp
          · exact List.mem_cons_of_mem _ (h3 u r)⟩
theorem len_le : ∀ (k : Nat) (l : List Nat), l.Nodup → (∀ v, v ∈ l → v < k) → l.length ≤ k
  | 0, l, _, h => by
    cases l with
    | nil => simp
    | cons v l => exact absurd (h v (by simp)) (by omega)
  | k + 1, l, hn, h => by
    by_cases q : k ∈ l
    · obtain ⟨x, y, rfl⟩ := List.append_of_mem q
      rw [List.nodup_append] at hn
      have hy := List.nodup_cons.1 hn.2.1
      have : (x ++ y).length ≤ k := by
        apply len_le k
        · rw [List.nodup_append]
          exact ⟨hn.1, hy.2, fun a ha b hb => hn.2.2 a ha b (by simp [hb])⟩
        · intro v hv
          have h1 : v < k + 1 := h v (by simp at hv ⊢; rcases hv with r | r <;> simp [r])
          have h2 : v ≠ k := by
            rintro rfl
            rcases List.mem_append.1 hv with r | r
            · exact hn.2.2 v r v (by simp) rfl
            · exact hy.1 r
          omega
      simp at this ⊢
      omega
    · have := len_le k l hn (fun v hv => by
        have h1 := h v hv
        have h2 : v ≠ k := by rintro rfl; exact q hv
        omega)
      omega

/-- What the first table of a chain is like. -/
structure TFine (n : Nat) (E : Nat → Nat → Int) : Prop where
  small : n ≤ 24
  diag : ∀ a, a < n → E a a = 0
  top : ∀ a b, E a b ≤ far
  most : ∀ a b, a < n → b < n → E a b < far → E a b ≤ 1000000

theorem mul_small {k n : Nat} (h : k ≤ n) (hn : n ≤ 24) : ((k : Int) + 1) * 1000000 ≤ 25000000 := by omega
/-- A short way bounds the table. -/
theorem TFine.complete {n : Nat} {E : Nat → Nat → Int} (F : TFine n E) : ∀ (k : Nat), k ≤ n → ∀ {l : List Nat} {a b : Nat} {c : Int}, PWay E l a b c → a < n → b < n → l.Nodup → (∀ v, v ∈ l → v < k) → st E k a b ≤ c
  | 0, _, l, a, b, c, h, _, _, _, hl => by
    cases h with
    | edge _ _ _ => exact Int.le_refl _
    | cons _ v _ _ _ _ _ => exact absurd (hl v (by simp)) (by omega)
  | k + 1, hk, l, a, b, c, h, ha, hb, hn, hl => by
    by_cases q : k ∈ l
    · obtain ⟨x, y, rfl⟩ := List.append_of_mem q
      obtain ⟨c1, c2, g1, g2, rfl⟩ := PWay.split x h
      rw [List.nodup_append] at hn
      have hy := List.nodup_cons.1 hn.2.1
      have hx1 : ∀ v, v ∈ x → v < k := fun v hv => by
        have h1 := hl v (by simp [hv])
        have h2 : v ≠ k := by rintro rfl; exact hn.2.2 v hv v (by simp) rfl
        omega
      have hy1 : ∀ v, v ∈ y → v < k := fun v hv => by
        have h1 := hl v (by simp [hv])
        have h2 : v ≠ k := by rintro rfl; exact hy.1 hv
        omega
      have i1 := F.complete k (by omega) g1 ha (by omega) hn.1 hx1
      have i2 := F.complete k (by omega) g2 (by omega) hb hy.2 hy1
      have b1 := PWay.bound F.most g1 ha (by omega) (fun v hv => by have := hx1 v hv; omega)
      have b2 := PWay.bound F.most g2 (by omega) hb (fun v hv => by have := hy1 v hv; omega)
      have l1 := len_le k x hn.1 hx1
      have l2 := len_le k y hy.2 hy1
      have m1 := mul_small (k := x.length) (n := n) (by omega) F.small
      have m2 := mul_small (k := y.length) (n := n) (by omega) F.small
      have := ov_way (st E k) k a b (by unfold far; omega) (by unfold far; omega)
      rw [st_succ]
      omega
    · have := F.complete k (by omega) h ha hb hn (fun v hv => by
        have h1 := hl v hv
        have h2 : v ≠ k := by rintro rfl; exact q hv
        omega)
      exact Int.le_trans (ov_le _ _ _ _) this
theorem st_way {E : Nat → Nat → Int} : ∀ (k : Nat) {a b : Nat}, st E k a b < far → ∃ l c, PWay E l a b c ∧ ∀ v, v ∈ l → v < k
  | 0, a, b, h => ⟨[], _, .edge a b h, by simp⟩
  | k + 1, a, b, h => by
    rw [st_succ] at h
    rcases ov_cases (st E k) k a b with q | ⟨q1, q2, _⟩
    · rw [q] at h
      obtain ⟨l, c, h1, h2⟩ := st_way k h
      exact ⟨l, c, h1, fun v hv => by have := h2 v hv; omega⟩
    · obtain ⟨l1, c1, h1, h2⟩ := st_way k q1
      obtain ⟨l2, c2, g1, g2⟩ := st_way k q2
      obtain ⟨c, hc⟩ := PWay.join h1 g1
      refine ⟨_, c, hc, fun v hv => ?_⟩
      rcases List.mem_append.1 hv with r | r
      · have := h2 v r; omega
      · rcases List.mem_cons.1 r with r | r
        · omega
        · have := g2 v r; omega
theorem TFine.upper {n : Nat} {E : Nat → Nat → Int} (F : TFine n E) {k a b : Nat} (hk : k ≤ n) (ha : a < n) (hb : b < n) (h : st E k a b < far) : st E k a b ≤ 25000000 := by
  obtain ⟨l, c, h1, h2⟩ := st_way k h
  obtain ⟨l', c', g1, g2, g3⟩ := h1.short
  have h4 : ∀ v, v ∈ l' → v < k := fun v hv => h2 v (g3 v hv)
  have i := F.complete k hk g1 ha hb g2 h4
  have b1 := PWay.bound F.most g1 ha hb (fun v hv => by have := h4 v hv; omega)
  have l1 := len_le k l' g2 h4
  have m1 := mul_small (k := l'.length) (n := n) (by omega) F.small
  omega
/-- No point has come behind itself in the first k steps. -/
def PCalm (n : Nat) (E : Nat → Nat → Int) (k : Nat) : Prop := ∀ j, j < k → ∀ a, a < n → 0 ≤ st E (j + 1) a a
theorem TFine.self {n : Nat} {E : Nat → Nat → Int} (F : TFine n E) : ∀ {k : Nat}, PCalm n E k → ∀ a, a < n → st E k a a = 0
  | 0, _, a, ha => F.diag a ha
  | k + 1, h, a, ha => by
    have h1 := h k (by omega) a ha
    have h2 := st_le E (k + 1) a a
    rw [F.diag a ha] at h2
    omega
theorem TFine.closed {n : Nat} {E : Nat → Nat → Int} (F : TFine n E) : ∀ {k : Nat}, k ≤ n → PCalm n E k → ∀ a b j, a < n → b < n → j < k → st E k a j < far → st E k j b < far → st E k a b ≤ st E k a j + st E k j b
  | 0, _, _, a, b, j, _, _, hj, _, _ => absurd hj (by omega)
  | k + 1, hk, hc, a, b, j, ha, hb, hj, h1, h2 => by
    have hck : PCalm n E k := fun i hi => hc i (by omega)
    have hself := F.self hck k (by omega)
    have IH := F.closed (k := k) (by omega) hck
    -- row and column k stay
    have hrow : ∀ v, st E (k + 1) k v = st E k k v := fun v => by
      rw [st_succ]
      rcases ov_cases (st E k) k k v with q | ⟨q1, q2, q3⟩
      · exact q
      · rw [q3, hself]; omega
    have hcol : ∀ v, st E (k + 1) v k = st E k v k := fun v => by
      rw [st_succ]
      rcases ov_cases (st E k) k v k with q | ⟨q1, q2, q3⟩
      · exact q
      · rw [q3, hself]; omega
    by_cases q : j = k
    · subst q
      rw [hcol] at h1 ⊢
      rw [hrow] at h2 ⊢
      exact ov_way _ _ _ _ h1 h2
    · have hj' : j < k := by omega
      have hjn : j < n := by omega
      have up : ∀ {x y : Nat}, x < n → y < n → st E k x y < far → st E k x y ≤ 25000000 := fun hx hy h => F.upper (by omega) hx hy h
      rw [st_succ] at h1 h2 ⊢
      rw [st_succ E k a j, st_succ E k j b]
      have hkn : k < n := by omega
      rcases ov_cases (st E k) k a j with p | ⟨p1, p2, p3⟩ <;> rcases ov_cases (st E k) k j b with r | ⟨r1, r2, r3⟩
      · rw [p] at h1 ⊢; rw [r] at h2 ⊢
        exact Int.le_trans (ov_le _ _ _ _) (IH a b j ha hb hj' h1 h2)
      · rw [p] at h1 ⊢; rw [r3]
        have u1 := up ha hjn h1; have u2 := up hjn hkn r1
        have c1 := IH a k j ha hkn hj' h1 r1
        have := ov_way (st E k) k a b (by unfold far; omega) r2
        omega
      · rw [p3]; rw [r] at h2 ⊢
        have u1 := up hkn hjn p2; have u2 := up hjn hb h2
        have c1 := IH k b j hkn hb hj' p2 h2
        have := ov_way (st E k) k a b p1 (by unfold far; omega)
        omega
      · rw [p3, r3]
        have c1 := IH k k j hkn hkn hj' p2 r1
        rw [hself] at c1
        have := ov_way (st E k) k a b p1 r2
        omega
/-- The bounds are reached: the positions from a point on keep to the first table. -/
theorem TFine.reached {n : Nat} {E : Nat → Nat → Int} (F : TFine n E) (hc : PCalm n E n) (hall : ∀ a b, a < n → b < n → st E n a b < far) (a : Nat) (ha : a < n) : PKeeps n E (fun b => st E n a b) := by
  intro i j hi hj hf
  have h1 := F.closed (Nat.le_refl _) hc a j i ha hj hi (hall a i ha hi) (hall i j hi hj)
  have h2 := st_le E n i j
  show st E n a j - st E n a i ≤ E i j
  omega
theorem TFine.whole {n : Nat} {E : Nat → Nat → Int} (F : TFine n E) {l : List Nat} {a b : Nat} {c : Int} (h : PWay E l a b c) (ha : a < n) (hb : b < n) (hl : ∀ v, v ∈ l → v < n) : st E n a b < far := by
  obtain ⟨l', c', g1, g2, g3⟩ := h.short
  have h4 : ∀ v, v ∈ l' → v < n := fun v hv => hl v (g3 v hv)
  have i := F.complete n (Nat.le_refl _) g1 ha hb g2 h4
  have b1 := PWay.bound F.most g1 ha hb h4
  have l1 := len_le n l' g2 h4
  have m1 := mul_small (k := l'.length) (n := n) l1 F.small
  unfold far
  omega
/-- A clash: nothing keeps to the table. -/
theorem clash_none {n : Nat} {E : Nat → Nat → Int} {k a : Nat} (hk : k ≤ n) (ha : a < n) (h : st E k a a < 0) (x : Nat → Int) : ¬ PKeeps n E x := fun hx => by
  have := hx.st k hk a a ha ha (by unfold far; omega)
  omega
end Go.Proofs.Ytbcfphoheijmdaa.Floyd
end

section
/- What a tight table says of positions: each range is that of all positions that keep to the links, and both its ends are reached. -/
namespace Go.Proofs.Ytbcfphoheijmdaa.Print
open Go.RowKit Go.Proofs.YtbcfphoheijmdaaW.PrintWords Go.Proofs.YtbcfphoheijmdaaW.PrintLast Go.Proofs.YtbcfphoheijmdaaW.PrintMore Go.Proofs.Ytbcfphoheijmdaa Go.Proofs.Ytbcfphoheijmdaa.H
set_option linter.unusedVariables false
set_option linter.unusedSimpArgs false

theorem getD_map_range24 {i : Nat} (hi : i < 24) : ((List.range 24).map (fun (i : Nat) => (i : Int))).getD i 0 = i := by
  simp [List.getD_eq_getElem?_getD, hi]
open Floyd

def tf (T : List Int) : Nat → Nat → Int := fun a b => T.getD (a * 24 + b) 0
/-- Positions (of points by number) that keep to links. -/
def FitsL (L : List S35) (x : Nat → Int) : Prop := ∀ l, l ∈ L → l.f2.f0 ≤ x l.f1.toNat - x l.f0.toNat ∧ x l.f1.toNat - x l.f0.toNat ≤ l.f2.f1

theorem linkStep_tf {T : List Int} {l : S35} (hT : T.length = 576) {P : Int} (hP : P ≤ 24) (hl : linkErr P l = 0) {a b : Nat} (ha : a < 24) (hb : b < 24) :
    tf (linkStep T l) a b = if a = l.f0.toNat ∧ b = l.f1.toNat then mn (tf T a b) l.f2.f1 else if a = l.f1.toNat ∧ b = l.f0.toNat then mn (tf T a b) (-l.f2.f0) else tf T a b := by
  obtain ⟨h1, h2, h3, h4, h5, h6, h7, h8⟩ := linkErr_ok hl
  generalize hf : l.f0.toNat = f
  generalize ht : l.f1.toNat = t
  have hf2 : f < 24 := by omega
  have ht2 : t < 24 := by omega
  have hne : f ≠ t := by omega
  unfold linkStep tf
  simp only [hf, ht]
  by_cases q1 : a = f ∧ b = t
  · obtain ⟨rfl, rfl⟩ := q1
    rw [if_pos ⟨rfl, rfl⟩, H.getD_set_ne (by omega), H.getD_set_eq (by omega)]
  · rw [if_neg q1]
    by_cases q2 : a = t ∧ b = f
    · obtain ⟨rfl, rfl⟩ := q2
      rw [if_pos ⟨rfl, rfl⟩, H.getD_set_eq (by rw [List.length_set]; omega), H.getD_set_ne (by omega)]
    · rw [if_neg q2, H.getD_set_ne (by omega), H.getD_set_ne (by omega)]
theorem linkStep_le {T : List Int} {l : S35} (hT : T.length = 576) {P : Int} (hP : P ≤ 24) (hl : linkErr P l = 0) {a b : Nat} (ha : a < 24) (hb : b < 24) : tf (linkStep T l) a b ≤ tf T a b := by
  rw [linkStep_tf hT hP hl ha hb]
  have := mn_le (tf T a b) l.f2.f1
  have := mn_le (tf T a b) (-l.f2.f0)
  repeat' split
  all_goals omega
theorem links_le {P : Int} (hP : P ≤ 24) {a b : Nat} (ha : a < 24) (hb : b < 24) : ∀ (L : List S35) (T : List Int), T.length = 576 → (∀ l, l ∈ L → linkErr P l = 0) → tf (L.foldl linkStep T) a b ≤ tf T a b
  | [], T, _, _ => Int.le_refl _
  | l :: L, T, hT, h => Int.le_trans (links_le hP ha hb L _ (by rw [linkStep_length]; exact hT) (fun l' h' => h l' (by simp [h']))) (linkStep_le hT hP (h l (by simp)) ha hb)
theorem links_edge {P : Int} (hP : P ≤ 24) : ∀ (L : List S35) (T : List Int), T.length = 576 → (∀ l, l ∈ L → linkErr P l = 0) → ∀ l, l ∈ L → tf (L.foldl linkStep T) l.f0.toNat l.f1.toNat ≤ l.f2.f1 ∧ tf (L.foldl linkStep T) l.f1.toNat l.f0.toNat ≤ -l.f2.f0
  | [], _, _, _, l, hl => by simp at hl
  | l' :: L, T, hT, h, l, hl => by
    have hT' : (linkStep T l').length = 576 := by rw [linkStep_length]; exact hT
    have hL : ∀ l, l ∈ L → linkErr P l = 0 := fun l' h' => h l' (by simp [h'])
    rcases List.mem_cons.1 hl with rfl | hm
    · have hok := linkErr_ok (h l (by simp))
      have a1 : l.f0.toNat < 24 := by omega
      have a2 : l.f1.toNat < 24 := by omega
      have e1 := links_le hP a1 a2 L _ hT' hL
      have e2 := links_le hP a2 a1 L _ hT' hL
      rw [linkStep_tf hT hP (h l (by simp)) a1 a2, if_pos ⟨rfl, rfl⟩] at e1
      rw [linkStep_tf hT hP (h l (by simp)) a2 a1, if_neg (by omega), if_pos ⟨rfl, rfl⟩] at e2
      have := mn_le (tf T l.f0.toNat l.f1.toNat) l.f2.f1
      have := mn_le (tf T l.f1.toNat l.f0.toNat) (-l.f2.f0)
      rw [List.foldl_cons]
      omega
    · rw [List.foldl_cons]
      exact links_edge hP L _ hT' hL l hm
theorem links_fine {P : Int} (hP : P ≤ 24) : ∀ (L : List S35) (T : List Int), T.length = 576 → (∀ l, l ∈ L → linkErr P l = 0) → ((∀ a, a < 24 → tf T a a = 0) ∧ (∀ a b, a < 24 → b < 24 → tf T a b < far → tf T a b ≤ 1000000)) →
    (∀ a, a < 24 → tf (L.foldl linkStep T) a a = 0) ∧ (∀ a b, a < 24 → b < 24 → tf (L.foldl linkStep T) a b < far → tf (L.foldl linkStep T) a b ≤ 1000000)
  | [], T, _, _, h => h
  | l :: L, T, hT, h, hh => by
    rw [List.foldl_cons]
    apply links_fine hP L _ (by rw [linkStep_length]; exact hT) (fun l' h' => h l' (by simp [h']))
    have hl := h l (by simp)
    have hok := linkErr_ok hl
    constructor
    · intro a ha
      rw [linkStep_tf hT hP hl ha ha, if_neg (by omega), if_neg (by omega)]
      exact hh.1 a ha
    · intro a b ha hb
      rw [linkStep_tf hT hP hl ha hb]
      have h1 := hh.2 a b ha hb
      have := mn_le (tf T a b) l.f2.f1
      have := mn_le (tf T a b) (-l.f2.f0)
      repeat' split
      · intro q; omega
      · intro q; omega
      · exact h1
theorem links_keep {P : Int} {n : Nat} (hP : P = n) (hn : n ≤ 24) (x : Nat → Int) : ∀ (L : List S35) (T : List Int), T.length = 576 → (∀ l, l ∈ L → linkErr P l = 0) → (PKeeps n (tf (L.foldl linkStep T)) x ↔ PKeeps n (tf T) x ∧ FitsL L x)
  | [], T, _, _ => ⟨fun h => ⟨h, fun l hl => by simp at hl⟩, fun h => h.1⟩
  | l :: L, T, hT, h => by
    have hl := h l (by simp)
    have hok := linkErr_ok hl
    have hP' : P ≤ 24 := by omega
    rw [List.foldl_cons, links_keep hP hn x L _ (by rw [linkStep_length]; exact hT) (fun l' h' => h l' (by simp [h']))]
    have hf : l.f0.toNat < n := by omega
    have ht : l.f1.toNat < n := by omega
    have key : PKeeps n (tf (linkStep T l)) x ↔ PKeeps n (tf T) x ∧ (l.f2.f0 ≤ x l.f1.toNat - x l.f0.toNat ∧ x l.f1.toNat - x l.f0.toNat ≤ l.f2.f1) := by
      constructor
      · intro hk
        refine ⟨fun a b ha hb hfar => ?_, ?_⟩
        · have h1 := linkStep_le hT hP' hl (a := a) (b := b) (by omega) (by omega)
          have := hk a b ha hb (by omega)
          omega
        · have e1 := linkStep_tf hT hP' hl (a := l.f0.toNat) (b := l.f1.toNat) (by omega) (by omega)
          have e2 := linkStep_tf hT hP' hl (a := l.f1.toNat) (b := l.f0.toNat) (by omega) (by omega)
          rw [if_pos ⟨rfl, rfl⟩] at e1
          rw [if_neg (by omega), if_pos ⟨rfl, rfl⟩] at e2
          have m1 := mn_le (tf T l.f0.toNat l.f1.toNat) l.f2.f1
          have m2 := mn_le (tf T l.f1.toNat l.f0.toNat) (-l.f2.f0)
          have k1 := hk _ _ hf ht (by unfold far; omega)
          have k2 := hk _ _ ht hf (by unfold far; omega)
          omega
      · rintro ⟨hk, hg⟩ a b ha hb
        rw [linkStep_tf hT hP' hl (by omega) (by omega)]
        have h1 := hk a b ha hb
        have m1 := mn_le (tf T a b) l.f2.f1
        have m2 := mn_le (tf T a b) (-l.f2.f0)
        split
        · rename_i q
          obtain ⟨rfl, rfl⟩ := q
          intro hfar
          rcases m1.2.2 with r | r
          · rw [r] at hfar ⊢; exact h1 hfar
          · rw [r]; omega
        · split
          · rename_i q
            obtain ⟨rfl, rfl⟩ := q
            intro hfar
            rcases m2.2.2 with r | r
            · rw [r] at hfar ⊢; exact h1 hfar
            · rw [r]; omega
          · exact h1
    rw [key]
    unfold FitsL
    constructor
    · rintro ⟨⟨h1, h2⟩, h3⟩
      refine ⟨h1, fun l' hl' => ?_⟩
      rcases List.mem_cons.1 hl' with rfl | hm
      · exact h2
      · exact h3 l' hm
    · rintro ⟨h1, h2⟩
      exact ⟨⟨h1, h2 l (by simp)⟩, fun l' hl' => h2 l' (by simp [hl'])⟩
theorem base_tf {a b : Nat} (ha : a < 24) (hb : b < 24) : tf baseTab a b = if a = b then 0 else far := by
  unfold tf baseTab far
  rw [getD_map_range, if_pos (by omega)]
  have h1 : (a * 24 + b) / 24 = a := by omega
  have h2 : (a * 24 + b) % 24 = b := by omega
  rw [h1, h2]
/-- The first table of a valid chain. -/
theorem init_fine {n : Nat} {L : List S35} (hn : n ≤ 24) (h : ∀ l, l ∈ L → linkErr n l = 0) : TFine n (tf (initTab L)) := by
  have := links_fine (P := n) (by omega) L baseTab baseTab_length h ⟨fun a ha => by rw [base_tf ha ha, if_pos rfl], fun a b ha hb => by
    rw [base_tf ha hb]; unfold far; split <;> intro q <;> omega⟩
  refine ⟨hn, fun a ha => this.1 a (by omega), fun a b => ?_, fun a b ha hb => this.2 a b (by omega) (by omega)⟩
  have := (Small.init (P := n) L h) (a * 24 + b)
  unfold far tf
  exact this.2
theorem init_keep {n : Nat} {L : List S35} (hn : n ≤ 24) (h : ∀ l, l ∈ L → linkErr n l = 0) (x : Nat → Int) : PKeeps n (tf (initTab L)) x ↔ FitsL L x := by
  unfold initTab
  rw [links_keep rfl hn x L baseTab baseTab_length h]
  constructor
  · exact fun h => h.2
  · refine fun h => ⟨fun a b ha hb => ?_, h⟩
    rw [base_tf (by omega) (by omega)]
    split
    · rename_i q; subst q; intro _; omega
    · intro q; omega

/-- There is a way by links. -/
def Lk (n : Nat) (E : Nat → Nat → Int) (a b : Nat) : Prop := ∃ l c, PWay E l a b c ∧ ∀ v, v ∈ l → v < n
theorem Lk.trans {n : Nat} {E : Nat → Nat → Int} {a m b : Nat} (hm : m < n) (h1 : Lk n E a m) (h2 : Lk n E m b) : Lk n E a b := by
  obtain ⟨l1, c1, p1, p2⟩ := h1
  obtain ⟨l2, c2, q1, q2⟩ := h2
  obtain ⟨c, hc⟩ := PWay.join p1 q1
  refine ⟨_, c, hc, fun v hv => ?_⟩
  rcases List.mem_append.1 hv with r | r
  · exact p2 v r
  · rcases List.mem_cons.1 r with r | r
    · omega
    · exact q2 v r
theorem rootStep_get {R : List Int} {l : S35} {i : Nat} (hi : i < R.length) : (rootStep R l).getD i 0 = rootVal (R.getD l.f0.toNat 0) (R.getD l.f1.toNat 0) (R.getD i 0) := by
  simp [rootStep, List.getD_eq_getElem?_getD, hi]
theorem roots_lk {n : Nat} {E : Nat → Nat → Int} (hn : n ≤ 24) (hE : ∀ a, a < 24 → Lk n E a a) : ∀ (L : List S35) (R : List Int), R.length = 24 → (∀ l, l ∈ L → l.f0.toNat < n ∧ l.f1.toNat < n ∧ Lk n E l.f0.toNat l.f1.toNat ∧ Lk n E l.f1.toNat l.f0.toNat) →
    (∀ i j, i < 24 → j < 24 → R.getD i 0 = R.getD j 0 → Lk n E i j) → ∀ i j, i < 24 → j < 24 → (L.foldl rootStep R).getD i 0 = (L.foldl rootStep R).getD j 0 → Lk n E i j
  | [], R, _, _, h => h
  | l :: L, R, hR, hL, h => by
    rw [List.foldl_cons]
    apply roots_lk hn hE L _ (by simp [rootStep, hR]) (fun l' h' => hL l' (by simp [h']))
    intro i j hi hj e
    rw [rootStep_get (by omega), rootStep_get (by omega)] at e
    obtain ⟨hf, ht, hft, htf⟩ := hL l (by simp)
    have m := mn_le (R.getD l.f0.toNat 0) (R.getD l.f1.toNat 0)
    have to1 : ∀ k, k < 24 → (R.getD k 0 = R.getD l.f0.toNat 0 ∨ R.getD k 0 = R.getD l.f1.toNat 0) → Lk n E k l.f0.toNat := fun k hk q => by
      rcases q with q | q
      · exact h k _ hk (by omega) q
      · exact (h k _ hk (by omega) q).trans ht htf
    have fro1 : ∀ k, k < 24 → (R.getD k 0 = R.getD l.f0.toNat 0 ∨ R.getD k 0 = R.getD l.f1.toNat 0) → Lk n E l.f0.toNat k := fun k hk q => by
      rcases q with q | q
      · exact h _ k (by omega) hk q.symm
      · exact hft.trans ht (h _ k (by omega) hk q.symm)
    unfold rootVal at e
    split at e
    · rename_i q1
      split at e
      · rename_i q2
        exact (to1 i hi q1).trans hf (fro1 j hj q2)
      · rename_i q2
        exact absurd (by omega) q2
    · rename_i q1
      split at e
      · exact absurd (by omega) q1
      · exact h i j hi hj e
theorem chain_roots {n : Nat} {L : List S35} (h : chainErr n L = 0) : ∀ i, i < n → (rootsOf L).getD i 0 = 0 := by
  obtain ⟨h1, h2, h3, h4⟩ := chainErr_ok h
  have hroots : ((rootsOf L).take n).all (· == 0) = true := by
    unfold chainErr at h
    rw [if_neg (by omega), if_neg (by omega)] at h
    split at h
    · rename_i l hl
      have := h4 l (List.mem_of_find?_eq_some hl)
      have := List.find?_some hl
      simp_all
    · split at h
      · rename_i q; rwa [Int.toNat_natCast] at q
      · omega
  have hz : ∀ i, i < n → (rootsOf L).getD i 0 = 0 := fun i hi => by
    have hlen := rootsOf_length L
    have := List.all_eq_true.1 hroots ((rootsOf L)[i]) (List.mem_iff_getElem.2 ⟨i, by rw [List.length_take]; omega, by rw [List.getElem_take]⟩)
    rw [List.getD_eq_getElem?_getD, List.getElem?_eq_getElem (by omega)]
    simpa using this
  exact hz
theorem chain_lk {n : Nat} {L : List S35} (h : chainErr n L = 0) : ∀ i j, i < n → j < n → Lk n (tf (initTab L)) i j := by
  obtain ⟨h1, h2, h3, h4⟩ := chainErr_ok h
  have hn : n ≤ 24 := by omega
  have F := links_fine (P := n) (by omega) L baseTab baseTab_length h4 ⟨fun a ha => by rw [base_tf ha ha, if_pos rfl], fun a b ha hb => by
    rw [base_tf ha hb]; unfold far; split <;> intro q <;> omega⟩
  have hz := chain_roots h
  intro i j hi hj
  refine roots_lk (n := n) (E := tf (initTab L)) hn (fun a ha => ⟨[], _, .edge a a (by show tf (initTab L) a a < far; rw [show tf (initTab L) a a = 0 from F.1 a ha]; decide), by simp⟩) L ((List.range 24).map (fun (i : Nat) => (i : Int))) (by simp) (fun l hl => ?_) (fun i j hi hj e => ?_) i j (by omega) (by omega) ((hz i hi).trans (hz j hj).symm)
  · have hok := linkErr_ok (h4 l hl)
    have he := links_edge (P := n) (by omega) L baseTab baseTab_length h4 l hl
    refine ⟨by omega, by omega, ⟨[], _, .edge _ _ ?_, by simp⟩, ⟨[], _, .edge _ _ ?_, by simp⟩⟩
    · unfold far; show tf (L.foldl linkStep baseTab) _ _ < _; omega
    · unfold far; show tf (L.foldl linkStep baseTab) _ _ < _; omega
  · rw [getD_map_range24 hi, getD_map_range24 hj] at e
    have : i = j := by omega
    subst this
    exact ⟨[], _, .edge i i (by show tf (initTab L) i i < far; rw [show tf (initTab L) i i = 0 from F.1 i hi]; decide), by simp⟩

theorem over_tf {T : List Int} {m n a b : Nat} (ha : a < n) (hb : b < n) (hn : n ≤ 24) : tf (overTab T m n) a b = ov (tf T) m a b := by
  unfold tf ov
  rw [overTab_get T m n a b ha hb hn]
  rfl
theorem floyd_st {n : Nat} {E : Nat → Nat → Int} (hn : n ≤ 24) : ∀ (k m : Nat) (T : List Int), m + k = n → (∀ a b, a < n → b < n → tf T a b = st E m a b) →
    ((floyd n k m T).2 = 0 ∧ (∀ a b, a < n → b < n → tf (floyd n k m T).1 a b = st E n a b) ∧ ∀ j, m ≤ j → j < n → ∀ a, a < n → 0 ≤ st E (j + 1) a a) ∨ ((floyd n k m T).2 = 12 ∧ ∃ j, j < n ∧ ∃ a, a < n ∧ st E (j + 1) a a < 0)
  | 0, m, T, hm, h => by
    left
    have : m = n := by omega
    subst this
    exact ⟨rfl, h, fun j h1 h2 => by omega⟩
  | k + 1, m, T, hm, h => by
    have hov : ∀ a b, a < n → b < n → tf (overTab T m n) a b = st E (m + 1) a b := fun a b ha hb => by
      rw [over_tf ha hb hn, st_succ]
      unfold ov
      rw [h a m ha (by omega), h m b (by omega) hb, h a b ha hb]
    by_cases q : negDiag n (overTab T m n) = true
    · right
      rw [floyd_neg q]
      unfold negDiag at q
      rw [List.any_eq_true] at q
      obtain ⟨a, ha, hq⟩ := q
      have ha' : a < n := by simpa using ha
      refine ⟨rfl, m, by omega, a, ha', ?_⟩
      rw [← hov a a ha' ha']
      simpa [tf] using hq
    · have q' : negDiag n (overTab T m n) = false := by simpa using q
      rw [floyd_next q']
      rcases floyd_st hn k (m + 1) (overTab T m n) (by omega) hov with ⟨h1, h2, h3⟩ | h1
      · left
        refine ⟨h1, h2, fun j hj1 hj2 a ha => ?_⟩
        by_cases e : j = m
        · subst e
          rw [← hov a a ha ha]
          unfold negDiag at q'
          rw [List.any_eq_false] at q'
          have := q' a (by simpa using ha)
          unfold tf
          simpa using this
        · exact h3 j (by omega) hj2 a ha
      · right; exact h1
/-- What a tight table says. -/
structure TightIs (n : Nat) (L : List S35) (T : List Int) : Prop where
  bound : ∀ x, FitsL L x → ∀ a b, a < n → b < n → x b - x a ≤ tf T a b
  reach : ∀ a, a < n → FitsL L (tf T a)
  self : ∀ a, a < n → tf T a a = 0
theorem tight_sem {n : Nat} {L : List S35} (h : chainErr n L = 0) : ((tightOf n L).2 = 0 ∧ TightIs n L (tightOf n L).1) ∨ ((tightOf n L).2 = 12 ∧ ∀ x, ¬ FitsL L x) := by
  obtain ⟨h1, h2, h3, h4⟩ := chainErr_ok h
  have hn : n ≤ 24 := by omega
  have F := init_fine hn h4
  unfold tightOf
  rw [if_pos h, Int.toNat_natCast]
  rcases floyd_st hn n 0 (initTab L) (by omega) (fun a b _ _ => rfl) with ⟨g1, g2, g3⟩ | ⟨g1, j, hj, a, ha, hneg⟩
  · left
    have hcalm : PCalm n (tf (initTab L)) n := fun j hj a ha => g3 j (by omega) hj a ha
    have hall : ∀ a b, a < n → b < n → st (tf (initTab L)) n a b < far := fun a b ha hb => by
      obtain ⟨l, c, hw, hl⟩ := chain_lk h a b ha hb
      exact F.whole hw ha hb hl
    refine ⟨g1, ⟨fun x hx a b ha hb => ?_, fun a ha => ?_, fun a ha => ?_⟩⟩
    · rw [g2 a b ha hb]
      exact ((init_keep hn h4 x).2 hx).st n (Nat.le_refl _) a b ha hb (hall a b ha hb)
    · have := (init_keep hn h4 _).1 (F.reached hcalm hall a ha)
      intro l hl
      have hok := linkErr_ok (h4 l hl)
      rw [g2 a _ ha (by omega), g2 a _ ha (by omega)]
      exact this l hl
    · rw [g2 a a ha ha]
      exact F.self hcalm a ha
  · right
    refine ⟨g1, fun x hx => ?_⟩
    exact clash_none (k := j + 1) (by omega) ha hneg x ((init_keep hn h4 x).2 hx)
theorem TightIs.tri {n : Nat} {L : List S35} {T : List Int} (h : TightIs n L T) {a m b : Nat} (ha : a < n) (hm : m < n) (hb : b < n) : tf T a b ≤ tf T a m + tf T m b := by
  have := h.bound _ (h.reach a ha) m b hm hb
  omega
theorem TightIs.edge {n : Nat} {L : List S35} {T : List Int} (h : TightIs n L T) {l : S35} (hl : l ∈ L) (h1 : l.f0.toNat < n) (h2 : l.f1.toNat < n) : tf T l.f0.toNat l.f1.toNat ≤ l.f2.f1 ∧ tf T l.f1.toNat l.f0.toNat ≤ -l.f2.f0 := by
  have a1 := h.reach _ h1 l hl
  have a2 := h.reach _ h2 l hl
  have s1 := h.self _ h1
  have s2 := h.self _ h2
  omega
/-- The near positions. -/
theorem TightIs.near {n : Nat} {L : List S35} {T : List Int} (h : TightIs n L T) (hL : ∀ l, l ∈ L → l.f0.toNat < n ∧ l.f1.toNat < n) {a : Nat} (ha : a < n) : FitsL L (fun i => -(tf T i a)) := by
  intro l hl
  obtain ⟨h1, h2⟩ := hL l hl
  have e := h.edge hl h1 h2
  have t1 := h.tri h1 h2 ha
  have t2 := h.tri h2 h1 ha
  simp only []
  omega
theorem FitsL.low {L : List S35} {x y : Nat → Int} (hx : FitsL L x) (hy : FitsL L y) : FitsL L (fun i => min (x i) (y i)) := by
  intro l hl
  have := hx l hl
  have := hy l hl
  simp only []
  omega
theorem FitsL.shift {L : List S35} {x : Nat → Int} (hx : FitsL L x) (s : Int) : FitsL L (fun i => x i + s) := by
  intro l hl
  have := hx l hl
  simp only []
  omega
/-- Each number of a tight range is met by some positions. -/
theorem TightIs.mid {n : Nat} {L : List S35} {T : List Int} (h : TightIs n L T) (hL : ∀ l, l ∈ L → l.f0.toNat < n ∧ l.f1.toNat < n) {a b : Nat} (ha : a < n) (hb : b < n) {v : Int} (h1 : -(tf T b a) ≤ v) (h2 : v ≤ tf T a b) : ∃ x, FitsL L x ∧ x b - x a = v := by
  refine ⟨_, ((h.near hL ha).shift (v + tf T b a)).low (h.reach a ha), ?_⟩
  have := h.self a ha
  show min (-(tf T b a) + (v + tf T b a)) (tf T a b) - min (-(tf T a a) + (v + tf T b a)) (tf T a a) = v
  omega
theorem TightIs.order {n : Nat} {L : List S35} {T : List Int} (h : TightIs n L T) {a b : Nat} (ha : a < n) (hb : b < n) : -(tf T b a) ≤ tf T a b := by
  have := h.tri ha hb ha
  have := h.self a ha
  omega
theorem TightIs.mono {n : Nat} {L M : List S35} {T U : List Int} (h : TightIs n L T) (g : TightIs n M U) (hs : ∀ x, FitsL M x → FitsL L x) {a b : Nat} (ha : a < n) (hb : b < n) : tf U a b ≤ tf T a b := by
  have := h.bound _ (hs _ (g.reach a ha)) a b ha hb
  have := g.self a ha
  omega
theorem FitsL.snoc {L : List S35} {l : S35} {x : Nat → Int} : FitsL (L ++ [l]) x ↔ FitsL L x ∧ (l.f2.f0 ≤ x l.f1.toNat - x l.f0.toNat ∧ x l.f1.toNat - x l.f0.toNat ≤ l.f2.f1) := by
  unfold FitsL
  constructor
  · intro h
    exact ⟨fun l' hl' => h l' (by simp [hl']), h l (by simp)⟩
  · rintro ⟨h1, h2⟩ l' hl'
    rcases List.mem_append.1 hl' with q | q
    · exact h1 l' q
    · have : l' = l := by simpa using q
      rw [this]; exact h2
end Go.Proofs.Ytbcfphoheijmdaa.Print
end

section
/- What the Go function thermionkit_Dice_One does, as a Lean function, and that its call does so. Printed by a program of this work out of the translation. -/
namespace Go.Proofs.Ytbcfphoheijmdaa.Print
open Go.RowKit Go.Proofs.YtbcfphoheijmdaaW.PrintWords Go.Proofs.YtbcfphoheijmdaaW.PrintLast Go.Proofs.YtbcfphoheijmdaaW.PrintMore
attribute [local go_sem] max2_int min2_int max_two min_two max_three min_three max_four min_four
set_option linter.unusedVariables false
set_option linter.unusedSimpArgs false

/-! ### thermionkit_Dice_One: function 35 -/
def thermionkit_Dice_One.f (s0_0 : Int) (a1 : Int) : Option (Bool × Int) := (thermionkit_Dice_Upto.f s0_0 a1).bind fun bt103 => (some ((bt103.1 == 0), bt103.2))
set_option maxHeartbeats 8000000 in
set_option maxRecDepth 100000 in
theorem thermionkit_Dice_One.calls (g : Nat) (s0_0 : Int) (a1 : Int) (r1 : Bool) (r2 : Int) (w0 w : World) (hI : IsS118 w0 w g s0_0) (hB : Below w0.heap.size w0 w) (h : thermionkit_Dice_One.f s0_0 a1 = some (r1, r2)) :
  Calls Try.prog 35 #[.pointer (some ⟨g, 0, none⟩), .int .i64 a1] w fun e w' => e = .returned (.bool r1) ∧ IsS118 w0 w' g r2 ∧ Below w0.heap.size w0 w' ∧ KeepBut w w' g none := by
 have HI0 := Aside0.mk hI
 have HK := Aside0.mk (KeepBut.refl w g none)
 have HL := Aside0.mk hB.size
 clear hI
 have HW0 := Aside0.mk hB.size
 have HB := Aside0.mk hB
 clear hB
 have H : ((thermionkit_Dice_Upto.f s0_0 a1).bind fun bt103 => (some ((bt103.1 == 0), bt103.2))) = some (r1, r2) := h
 clear h
 replace H := Option.bind_eq_some_iff.mp H
 obtain ⟨⟨t103, t104⟩, A30, H⟩ := H
 replace H : (some ((t103 == 0), t104)) = some (r1, r2) := H
 have A3 := Aside0.mk A30
 clear A30
 simp only [Option.some.injEq, Prod.mk.injEq] at H
 obtain ⟨rfl, rfl⟩ := H
 go_enter Try.func35, Try.ntmps35
 go_wp2_with (first | ((with_reducible refine gate_callee (f := 43) rfl ?_); refine goesL_ (some 7) rfl rfl Try.func43 (by kernel_rfl) rfl #[.pointer (some ⟨g, 0, none⟩), .int .i64 a1] rfl (by (try simp only [List.map_toArray, List.map_cons, List.map_nil]); first | done | rfl | (simp only [List.length_drop, List.length_take]; rfl)) ?_; (with_reducible refine (thermionkit_Dice_Upto.calls g s0_0 a1 t103 t104 w0 _ ?side1 ?side2 A3.out).mono ?_); (case side1 => repeat (first | (with_reducible first | exact HI0.out | apply IsS118.alloc | apply IsS118.drewN | apply IsS118.drew | apply IsS118.set_0) | exact HI0.out)); (case side2 => repeat (first | (with_reducible first | exact HB.out | apply below_alloc | apply pw_below_drewN | apply below_drew1 | refine below_set ?_ (IsS118.ge HI0.out)) | exact HB.out)); rintro e w4 ⟨rfl, hi, hb, hk⟩; refine ⟨_, rfl, ?_⟩; have n0_ := Aside0.mk (KeepBut.trans (by repeat (first | (with_reducible first | exact HK.out | apply KeepBut.set_ | apply keep_drewN | apply keep_drew | apply keep_alloc) | exact HK.out)) hk (.inl rfl)); have n1_ := Aside0.mk (hb); have n2_ := Aside0.mk (hi); clear HK; clear HB; clear HI0; have HK := n0_; have HB := n1_; have HI0 := n2_; clear n0_ n1_ n2_; (try clear hb); (try clear hb2); (try clear hk); (try clear hi)))
 go_ret
 exact ⟨by first | rfl | (simp [errW_none, errW_some] <;> rfl) | (simp [*, errW_none, errW_some] <;> rfl), by repeat (first | (with_reducible first | exact HI0.out | apply IsS118.alloc | apply IsS118.drewN | apply IsS118.drew | apply IsS118.set_0) | exact HI0.out), by repeat (first | (with_reducible first | exact HB.out | apply below_alloc | apply pw_below_drewN | apply below_drew1 | refine below_set ?_ (IsS118.ge HI0.out)) | exact HB.out), by repeat (first | (with_reducible first | exact HK.out | apply KeepBut.set_ | apply keep_drewN | apply keep_drew | apply keep_alloc) | exact HK.out)⟩

end Go.Proofs.Ytbcfphoheijmdaa.Print
end

section
/- Plain laws: what the dice deal. -/
namespace Go.Proofs.Ytbcfphoheijmdaa.Print
open Go.RowKit Go.Proofs.YtbcfphoheijmdaaW.PrintWords Go.Proofs.YtbcfphoheijmdaaW.PrintLast Go.Proofs.YtbcfphoheijmdaaW.PrintMore Go.Proofs.Ytbcfphoheijmdaa.H
set_option linter.unusedVariables false
set_option linter.unusedSimpArgs false

theorem u64_nonneg (x : Int) : 0 ≤ IntKind.u64.wrap x := by
  simp only [IntKind.wrap, IntKind.signed, IntKind.bits]
  simp
  omega
theorem next_two (s : Int) : ∃ v, thermionkit_Dice_next.f s = some (v, nextWord s) ∧ 0 ≤ v := ⟨_, rfl, by unfold Go.bits; exact u64_nonneg _⟩
theorem upto_eq (s n : Int) (h1 : 1 ≤ n) (h2 : n ≤ 9223372036854775807) : ∃ r, thermionkit_Dice_Upto.f s n = some (r, nextWord s) ∧ 0 ≤ r ∧ r < n := by
  obtain ⟨v, hv, h0⟩ := next_two s
  have hw : IntKind.u64.wrap n = n := by
    simp only [IntKind.wrap, IntKind.signed, IntKind.bits]
    simp
    omega
  have ht : Int.tmod v n = v % n := Int.tmod_eq_emod_of_nonneg h0
  have hm0 := Int.emod_nonneg v (show n ≠ 0 by omega)
  have hm1 := Int.emod_lt_of_pos v (show 0 < n by omega)
  refine ⟨v % n, ?_, hm0, hm1⟩
  unfold thermionkit_Dice_Upto.f
  rw [hv]
  simp only [Option.bind_some]
  rw [if_neg (by omega), hw, if_neg (by omega), ht, IntWalk.wrap64_in _ (by omega)]
theorem upto_zero (s n : Int) (h1 : n < 1) : thermionkit_Dice_Upto.f s n = some (0, nextWord s) := by
  obtain ⟨v, hv, h0⟩ := next_two s
  unfold thermionkit_Dice_Upto.f
  rw [hv]
  simp only [Option.bind_some]
  rw [if_pos h1]
theorem one_eq (s n : Int) (h1 : 1 ≤ n) (h2 : n ≤ 9223372036854775807) : ∃ b, thermionkit_Dice_One.f s n = some (b, nextWord s) := by
  obtain ⟨r, hr, _, _⟩ := upto_eq s n h1 h2
  unfold thermionkit_Dice_One.f
  rw [hr]
  exact ⟨_, rfl⟩
theorem between_eq (s a b : Int) (h : a ≤ b) (h1 : -4611686018427387904 ≤ a) (h2 : b ≤ 4611686018427387902) : ∃ r, thermionkit_Dice_Between.f s a b = some (r, nextWord s) ∧ a ≤ r ∧ r ≤ b := by
  unfold thermionkit_Dice_Between.f
  rw [IntWalk.wrap64_in (b - a) (by omega), IntWalk.wrap64_in (b - a + 1) (by omega)]
  obtain ⟨r, hr, h3, h4⟩ := upto_eq s (b - a + 1) (by omega) (by omega)
  rw [hr]
  refine ⟨a + r, ?_, by omega, by omega⟩
  simp only [Option.bind_some]
  rw [IntWalk.wrap64_in _ (by omega)]
end Go.Proofs.Ytbcfphoheijmdaa.Print
end

section
/- ChainOf as a Lean function; it makes valid chains. -/
namespace Go.Proofs.Ytbcfphoheijmdaa.Print
open Go.RowKit Go.Proofs.YtbcfphoheijmdaaW.PrintWords Go.Proofs.YtbcfphoheijmdaaW.PrintLast Go.Proofs.YtbcfphoheijmdaaW.PrintMore Go.Proofs.Ytbcfphoheijmdaa.H
set_option linter.unusedVariables false
set_option linter.unusedSimpArgs false

@[irreducible] def upV (s n : Int) : Int := ((thermionkit_Dice_Upto.f s n).getD (0, 0)).1
@[irreducible] def betV (s a b : Int) : Int := ((thermionkit_Dice_Between.f s a b).getD (0, 0)).1
@[irreducible] def oneV (s n : Int) : Bool := ((thermionkit_Dice_One.f s n).getD (false, 0)).1
theorem up_eq (s n : Int) (h1 : 1 ≤ n) (h2 : n ≤ 9223372036854775807) : thermionkit_Dice_Upto.f s n = some (upV s n, nextWord s) ∧ 0 ≤ upV s n ∧ upV s n < n := by
  obtain ⟨r, hr, h3, h4⟩ := upto_eq s n h1 h2
  have e : upV s n = r := by unfold upV; rw [hr]; rfl
  rw [e]
  exact ⟨hr, h3, h4⟩
theorem bet_eq (s a b : Int) (h : a ≤ b) (h1 : -4611686018427387904 ≤ a) (h2 : b ≤ 4611686018427387902) : thermionkit_Dice_Between.f s a b = some (betV s a b, nextWord s) ∧ a ≤ betV s a b ∧ betV s a b ≤ b := by
  obtain ⟨r, hr, h3, h4⟩ := between_eq s a b h h1 h2
  have e : betV s a b = r := by unfold betV; rw [hr]; rfl
  rw [e]
  exact ⟨hr, h3, h4⟩
theorem one_eq2 (s n : Int) (h1 : 1 ≤ n) (h2 : n ≤ 9223372036854775807) : thermionkit_Dice_One.f s n = some (oneV s n, nextWord s) := by
  obtain ⟨r, hr⟩ := one_eq s n h1 h2
  have e : oneV s n = r := by unfold oneV; rw [hr]; rfl
  rw [e]
  exact hr

/-- Where the first points stand, and the dice's word behind them. -/
def atsTo (s : Int) : Nat → List Int × Int
  | 0 => ([0], s)
  | i + 1 => ((atsTo s i).1 ++ [betV (atsTo s i).2 (-30) 30], nextWord (atsTo s i).2)
def next3 (s : Int) : Int := nextWord (nextWord (nextWord s))
def addRange (gap wide s : Int) : S32 :=
  if oneV (nextWord (nextWord s)) 40 = true then ⟨gap + 1, gap + 2⟩ else ⟨gap - upV s (wide + 1), max (gap - upV s (wide + 1) + wide - upV (nextWord s) (wide + 1)) gap⟩
def addLink (A : List Int) (wide s a b : Int) : S35 := ⟨a, b, addRange (A.getD b.toNat 0 - A.getD a.toNat 0) wide s⟩
/-- The links of the first points, each to one before it. -/
def treeTo (A : List Int) (wide s : Int) : Nat → List S35 × Int
  | 0 => ([], s)
  | i + 1 => ((treeTo A wide s i).1 ++ [if oneV (nextWord (treeTo A wide s i).2) 2 = true then addLink A wide (nextWord (nextWord (treeTo A wide s i).2)) (upV (treeTo A wide s i).2 (i + 1 : Nat)) (i + 1 : Nat) else addLink A wide (nextWord (nextWord (treeTo A wide s i).2)) (i + 1 : Nat) (upV (treeTo A wide s i).2 (i + 1 : Nat))], next3 (nextWord (nextWord (treeTo A wide s i).2)))
/-- Further links. -/
def moreTo (A : List Int) (wide P s : Int) : Nat → List S35 × Int
  | 0 => ([], s)
  | j + 1 => ((moreTo A wide P s j).1 ++ [addLink A wide (nextWord (nextWord (moreTo A wide P s j).2)) (upV (moreTo A wide P s j).2 P) (Int.tmod (upV (moreTo A wide P s j).2 P + betV (nextWord (moreTo A wide P s j).2) 1 (P - 1)) P)], next3 (nextWord (nextWord (moreTo A wide P s j).2)))
def chPoints (s points : Int) : Int := betV s 1 points
def chAts (s points : Int) : List Int × Int := atsTo (nextWord s) ((chPoints s points).toNat - 1)
def chTree (s points wide : Int) : List S35 × Int := treeTo (chAts s points).1 wide (chAts s points).2 ((chPoints s points).toNat - 1)
def chMany (s points wide : Int) : Nat := if 1 < chPoints s points then (upV (chTree s points wide).2 4).toNat else 0
def chMore (s points wide : Int) : List S35 × Int := moreTo (chAts s points).1 wide (chPoints s points) (nextWord (chTree s points wide).2) (chMany s points wide)
def thermionkit_ChainOf.f (s0_0 : Int) (a1 : Int) (a2 : Int) : Option (Int × (List (S35)) × Int) :=
  if 1 ≤ a1 ∧ a1 ≤ 24 ∧ 0 ≤ a2 ∧ a2 ≤ 1000 then some (chPoints s0_0 a1, (chTree s0_0 a1 a2).1 ++ (chMore s0_0 a1 a2).1, (chMore s0_0 a1 a2).2) else none

theorem atsTo_length (s : Int) : ∀ i, (atsTo s i).1.length = i + 1
  | 0 => rfl
  | i + 1 => by rw [atsTo]; simp [atsTo_length s i]
theorem small_snoc {A : List Int} {z : Int} (hb : -30 ≤ z ∧ z ≤ 30) (h : ∀ j, -30 ≤ A.getD j 0 ∧ A.getD j 0 ≤ 30) (j : Nat) : -30 ≤ (A ++ [z]).getD j 0 ∧ (A ++ [z]).getD j 0 ≤ 30 := by
  rw [List.getD_eq_getElem?_getD, List.getElem?_append]
  split
  · rw [← List.getD_eq_getElem?_getD]; exact h j
  · by_cases q : j - A.length = 0
    · rw [q]; simpa using hb
    · rw [List.getElem?_eq_none (by simp; omega)]; simp
theorem atsTo_small (s : Int) (i : Nat) : ∀ j, -30 ≤ (atsTo s i).1.getD j 0 ∧ (atsTo s i).1.getD j 0 ≤ 30 := by
  induction i with
  | zero =>
    intro j
    rw [atsTo]
    cases j with
    | zero => simp
    | succ j => simp
  | succ i ih =>
    rw [atsTo]
    exact small_snoc (bet_eq (atsTo s i).2 (-30) 30 (by omega) (by omega) (by omega)).2 ih
/-- The gap of a link that is made. -/
theorem addRange_ok (gap wide s : Int) (hg : -60 ≤ gap ∧ gap ≤ 60) (hw : 0 ≤ wide ∧ wide ≤ 1000) : (addRange gap wide s).f0 ≤ (addRange gap wide s).f1 ∧ -2000 ≤ (addRange gap wide s).f0 ∧ (addRange gap wide s).f1 ≤ 2000 := by
  have h1 := up_eq s (wide + 1) (by omega) (by omega)
  have h2 := up_eq (nextWord s) (wide + 1) (by omega) (by omega)
  unfold addRange
  split
  · simp only []; omega
  · simp only []; omega
theorem addLink_ok (A : List Int) (hA : ∀ j, -30 ≤ A.getD j 0 ∧ A.getD j 0 ≤ 30) (wide s a b P : Int) (hw : 0 ≤ wide ∧ wide ≤ 1000) (ha : 0 ≤ a ∧ a < P) (hb : 0 ≤ b ∧ b < P) (hab : a ≠ b) : linkErr P (addLink A wide s a b) = 0 := by
  have h1 := hA a.toNat
  have h2 := hA b.toNat
  have h3 := addRange_ok (A.getD b.toNat 0 - A.getD a.toNat 0) wide s (by omega) hw
  unfold linkErr addLink
  simp only []
  rw [if_neg (by omega), if_neg (by omega), if_neg (by omega), if_neg (by omega)]
theorem treeTo_length (A : List Int) (wide s : Int) : ∀ i, (treeTo A wide s i).1.length = i
  | 0 => rfl
  | i + 1 => by rw [treeTo]; simp [treeTo_length A wide s i]
theorem moreTo_length (A : List Int) (wide P s : Int) : ∀ i, (moreTo A wide P s i).1.length = i
  | 0 => rfl
  | i + 1 => by rw [moreTo]; simp [moreTo_length A wide P s i]
/-- The roots behind a link of a point that stands alone to one that hangs together with point 0. -/
theorem tree_root {R : List Int} {n i : Nat} {l : S35} (hi : i < 24) (hR : R.length = 24) (h0 : ∀ j, j < 24 → R.getD j 0 = if j < i then 0 else (j : Int)) (hl : (l.f0.toNat < i ∧ l.f1.toNat = i) ∨ (l.f0.toNat = i ∧ l.f1.toNat < i)) :
    ∀ j, j < 24 → (rootStep R l).getD j 0 = if j < i + 1 then 0 else (j : Int) := by
  intro j hj
  rw [rootStep_get (by omega), h0 j hj]
  have hf := h0 l.f0.toNat (by omega)
  have ht := h0 l.f1.toNat (by omega)
  have m1 := mn_le 0 (i : Int)
  have m2 := mn_le (i : Int) 0
  rcases hl with ⟨a1, a2⟩ | ⟨a1, a2⟩
  · rw [if_pos a1] at hf
    have ht2 : R.getD l.f1.toNat 0 = (i : Int) := by rw [ht, if_neg (by omega), a2]
    rw [hf, ht2]
    unfold rootVal
    by_cases q : j < i
    · rw [if_pos q, if_pos (Or.inl rfl), if_pos (by omega)]; omega
    · rw [if_neg q]
      by_cases q2 : j = i
      · subst q2; rw [if_pos (Or.inr rfl), if_pos (by omega)]; omega
      · rw [if_neg (by omega), if_neg (by omega)]
  · rw [if_pos a2] at ht
    have hf2 : R.getD l.f0.toNat 0 = (i : Int) := by rw [hf, if_neg (by omega), a1]
    rw [hf2, ht]
    unfold rootVal
    by_cases q : j < i
    · rw [if_pos q, if_pos (Or.inr rfl), if_pos (by omega)]; omega
    · rw [if_neg q]
      by_cases q2 : j = i
      · subst q2; rw [if_pos (Or.inl rfl), if_pos (by omega)]; omega
      · rw [if_neg (by omega), if_neg (by omega)]
theorem more_root {R : List Int} {l : S35} (hR : R.length = 24) (hf : l.f0.toNat < 24) (ht : l.f1.toNat < 24) (h1 : R.getD l.f0.toNat 0 = 0) (h2 : R.getD l.f1.toNat 0 = 0) : ∀ j, j < 24 → (rootStep R l).getD j 0 = R.getD j 0 := by
  intro j hj
  rw [rootStep_get (by omega), h1, h2]
  unfold rootVal
  have := mn_le 0 0
  split <;> omega
theorem tree_facts (A : List Int) (hA : ∀ j, -30 ≤ A.getD j 0 ∧ A.getD j 0 ≤ 30) (wide s : Int) (hw : 0 ≤ wide ∧ wide ≤ 1000) (P : Nat) (hP : P ≤ 24) : ∀ i, i < P → (∀ l, l ∈ (treeTo A wide s i).1 → linkErr P l = 0) ∧ ∀ j, j < 24 → (rootsOf (treeTo A wide s i).1).getD j 0 = if j < i + 1 then 0 else (j : Int)
  | 0, h => ⟨fun l hl => by simp [treeTo] at hl, fun j hj => by
      unfold treeTo rootsOf
      rw [List.foldl_nil, getD_map_range24 hj]
      split <;> omega⟩
  | i + 1, h => by
    have ih := tree_facts A hA wide s hw P hP i (by omega)
    have hu := up_eq (treeTo A wide s i).2 (i + 1 : Nat) (by omega) (by omega)
    rw [treeTo]
    simp only []
    generalize hx : (if oneV (nextWord (treeTo A wide s i).2) 2 = true then addLink A wide (nextWord (nextWord (treeTo A wide s i).2)) (upV (treeTo A wide s i).2 (i + 1 : Nat)) (i + 1 : Nat) else addLink A wide (nextWord (nextWord (treeTo A wide s i).2)) (i + 1 : Nat) (upV (treeTo A wide s i).2 (i + 1 : Nat))) = l
    have hl : linkErr P l = 0 ∧ ((l.f0.toNat < i + 1 ∧ l.f1.toNat = i + 1) ∨ (l.f0.toNat = i + 1 ∧ l.f1.toNat < i + 1)) := by
      rw [← hx]
      split
      · exact ⟨addLink_ok A hA wide _ _ _ _ hw (by omega) (by omega) (by omega), by left; unfold addLink; simp only []; omega⟩
      · exact ⟨addLink_ok A hA wide _ _ _ _ hw (by omega) (by omega) (by omega), by right; unfold addLink; simp only []; omega⟩
    refine ⟨fun l' hl' => ?_, ?_⟩
    · rcases List.mem_append.1 hl' with q | q
      · exact ih.1 l' q
      · rw [List.mem_singleton.1 q]; exact hl.1
    · rw [rootsOf_snoc]
      exact tree_root (n := P) (by omega) (rootsOf_length _) ih.2 hl.2
theorem rootsOf_append (L : List S35) (l : S35) (M : List S35) : rootsOf (L ++ (M ++ [l])) = rootStep (rootsOf (L ++ M)) l := by rw [← List.append_assoc, rootsOf_snoc]
theorem more_facts (A : List Int) (hA : ∀ j, -30 ≤ A.getD j 0 ∧ A.getD j 0 ≤ 30) (wide s : Int) (hw : 0 ≤ wide ∧ wide ≤ 1000) (P : Nat) (hP : P ≤ 24) (h2 : 2 ≤ P) (L : List S35) (hL : ∀ j, j < P → (rootsOf L).getD j 0 = 0) : ∀ i, (∀ l, l ∈ (moreTo A wide P s i).1 → linkErr P l = 0) ∧ ∀ j, j < P → (rootsOf (L ++ (moreTo A wide P s i).1)).getD j 0 = 0
  | 0 => ⟨fun l hl => by simp [moreTo] at hl, fun j hj => by simpa [moreTo] using hL j hj⟩
  | i + 1 => by
    have ih := more_facts A hA wide s hw P hP h2 L hL i
    have hu := up_eq (moreTo A wide P s i).2 P (by omega) (by omega)
    have hb := bet_eq (nextWord (moreTo A wide P s i).2) 1 ((P : Int) - 1) (by omega) (by omega) (by omega)
    rw [moreTo]
    simp only []
    generalize upV (moreTo A wide P s i).2 P = a at hu
    generalize betV (nextWord (moreTo A wide P s i).2) 1 ((P : Int) - 1) = b at hb
    have hm : Int.tmod (a + b) P = (a + b) % P := Int.tmod_eq_emod_of_nonneg (by omega)
    have hm0 := Int.emod_nonneg (a + b) (show (P : Int) ≠ 0 by omega)
    have hm1 := Int.emod_lt_of_pos (a + b) (show 0 < (P : Int) by omega)
    have hne : a ≠ (a + b) % P := by
      by_cases q : a + b < P
      · rw [Int.emod_eq_of_lt (by omega) q]; omega
      · have : (a + b) % P = a + b - P := by
          rw [← Int.sub_emod_right, Int.emod_eq_of_lt (by omega) (by omega)]
        omega
    rw [hm]
    generalize (a + b) % (P : Int) = c at hm0 hm1 hne
    have hl := addLink_ok A hA wide (nextWord (nextWord (moreTo A wide P s i).2)) a c P hw (by omega) (by omega) hne
    refine ⟨fun l' hl' => ?_, fun j hj => ?_⟩
    · rcases List.mem_append.1 hl' with q | q
      · exact ih.1 l' q
      · rw [List.mem_singleton.1 q]; exact hl
    · rw [rootsOf_append]
      have e1 : (addLink A wide (nextWord (nextWord (moreTo A wide P s i).2)) a c).f0.toNat = a.toNat := rfl
      have e2 : (addLink A wide (nextWord (nextWord (moreTo A wide P s i).2)) a c).f1.toNat = c.toNat := rfl
      rw [more_root (rootsOf_length _) (by rw [e1]; omega) (by rw [e2]; omega) (by rw [e1]; exact ih.2 _ (by omega)) (by rw [e2]; exact ih.2 _ (by omega)) j (by omega)]
      exact ih.2 j hj
/-- ChainOf makes valid chains. -/
theorem chainOf_fine {s points wide : Int} (hp : 1 ≤ points ∧ points ≤ 24) (hw : 0 ≤ wide ∧ wide ≤ 1000) : ∃ P L s', thermionkit_ChainOf.f s points wide = some (P, L, s') ∧ 1 ≤ P ∧ P ≤ points ∧ L.length ≤ 26 ∧ chainErr P L = 0 := by
  refine ⟨_, _, _, by unfold thermionkit_ChainOf.f; rw [if_pos ⟨hp.1, hp.2, hw.1, hw.2⟩], ?_⟩
  have hb := bet_eq s 1 points hp.1 (by omega) (by omega)
  have hP : chPoints s points = betV s 1 points := rfl
  obtain ⟨P, hPP⟩ : ∃ P : Nat, chPoints s points = P := ⟨(chPoints s points).toNat, by omega⟩
  have hA : ∀ j, -30 ≤ (chAts s points).1.getD j 0 ∧ (chAts s points).1.getD j 0 ≤ 30 := fun j => atsTo_small _ _ j
  have ht := tree_facts (chAts s points).1 hA wide (chAts s points).2 hw P (by omega) (P - 1) (by omega)
  have hte : treeTo (chAts s points).1 wide (chAts s points).2 (P - 1) = chTree s points wide := by unfold chTree; rw [hPP]; rfl
  rw [hte] at ht
  have hroot : ∀ j, j < P → (rootsOf (chTree s points wide).1).getD j 0 = 0 := fun j hj => by rw [ht.2 j (by omega), if_pos (by omega)]
  have hmore : (∀ l, l ∈ (chMore s points wide).1 → linkErr P l = 0) ∧ (∀ j, j < P → (rootsOf ((chTree s points wide).1 ++ (chMore s points wide).1)).getD j 0 = 0) ∧ (chMore s points wide).1.length ≤ 3 := by
    have hu := up_eq (chTree s points wide).2 4 (by omega) (by omega)
    by_cases q : 1 < chPoints s points
    · have := more_facts (chAts s points).1 hA wide (nextWord (chTree s points wide).2) hw P (by omega) (by omega) (chTree s points wide).1 hroot (chMany s points wide)
      have e : moreTo (chAts s points).1 wide P (nextWord (chTree s points wide).2) (chMany s points wide) = chMore s points wide := by unfold chMore; rw [hPP]
      rw [e] at this
      refine ⟨this.1, this.2, ?_⟩
      unfold chMore
      rw [moreTo_length]
      unfold chMany
      split <;> omega
    · have e : (chMore s points wide).1 = [] := by
        unfold chMore chMany
        rw [if_neg q]
        rfl
      rw [e, List.append_nil]
      exact ⟨fun l hl => by simp at hl, hroot, by simp⟩
  have hlen : (chTree s points wide).1.length = P - 1 := by rw [← hte, treeTo_length]
  refine ⟨by omega, by omega, by rw [List.length_append]; omega, ?_⟩
  rw [hPP]
  have hall : ∀ l, l ∈ (chTree s points wide).1 ++ (chMore s points wide).1 → linkErr P l = 0 := fun l hl => by
    rcases List.mem_append.1 hl with q | q
    · exact ht.1 l q
    · exact hmore.1 l q
  unfold chainErr
  rw [if_neg (by omega), if_neg (by rw [List.length_append]; omega)]
  have hn : ((chTree s points wide).1 ++ (chMore s points wide).1).find? (fun l => linkErr P l != 0) = none := by
    rw [List.find?_eq_none]
    intro l hl
    simp [hall l hl]
  rw [hn]
  simp only []
  rw [if_pos (roots_all hmore.2.1 (by rw [rootsOf_length]; omega))]
end Go.Proofs.Ytbcfphoheijmdaa.Print
end

section
/- Plain laws: tables of tight ranges, compared; the chapter's examples; remainders and ranges that the dice deal. -/
namespace Go.Proofs.Ytbcfphoheijmdaa.Print
open Go.RowKit Go.Proofs.YtbcfphoheijmdaaW.PrintWords Go.Proofs.YtbcfphoheijmdaaW.PrintLast Go.Proofs.YtbcfphoheijmdaaW.PrintMore Go.Proofs.Ytbcfphoheijmdaa.H
set_option linter.unusedVariables false
set_option linter.unusedSimpArgs false

theorem fuel_up {α : Type} {f : Nat → Option α} (hm : ∀ k, LeO (f k) (f (k + 1))) {k : Nat} {r : α} (h : f k = some r) : ∀ m, k ≤ m → f m = some r := by
  intro m hkm
  induction m with
  | zero => rw [show k = 0 by omega] at h; exact h
  | succ m ih =>
    by_cases e : k = m + 1
    · rw [← e]; exact h
    · exact hm m r (ih (by omega))
theorem awake_up {k : Nat} (h : 8 ≤ k) : thermionlaw04_awake.f k = some true := fuel_up thermionlaw04_awake.mono awake_true k h
theorem rowsOf_len (n : Nat) (T : List Int) : (rowsOf n T).length = n := by simp [rowsOf]
theorem rowsOf_row (n : Nat) (T : List Int) (a : Nat) (ha : a < n) : rd_L6 (rowsOf n T) (a : Int) = (List.range n).map (fun b => spanOf T a b) := by
  simp [rd_L6, rowsOf, List.getD_eq_getElem?_getD, ha]
theorem row_get (n : Nat) (T : List Int) (a b : Nat) (hb : b < n) : rd_T32 ((List.range n).map (fun b => spanOf T a b)) (b : Int) = spanOf T a b := by
  simp [rd_T32, List.getD_eq_getElem?_getD, hb]
theorem wrap_one (i : Nat) (h : i ≤ 1000000) : wrap64 ((i : Int) + 1) = ((i + 1 : Nat) : Int) := by rw [IntWalk.wrap64_in _ (by omega)]; omega
theorem square_at (n : Nat) (T : List Int) (hn : n ≤ 24) : ∀ (d i : Nat), i + d = n → thermionlaw04_square.l0 (d + 1) (rowsOf n T) n i = some true
  | 0, i, h => by
    have : i = n := by omega
    subst this
    rw [thermionlaw04_square.l0, if_neg (by rw [rowsOf_len]; omega), rowsOf_len]
    simp
  | d + 1, i, h => by
    rw [thermionlaw04_square.l0, if_pos (by rw [rowsOf_len]; omega), if_pos (by omega), rowsOf_row _ _ _ (by omega), if_pos (by simp), wrap_one _ (by omega)]
    exact square_at n T hn d (i + 1) (by omega)
theorem square_rows (n : Nat) (T : List Int) (hn : n ≤ 24) {k : Nat} (hk : 25 ≤ k) : thermionlaw04_square.f k (rowsOf n T) n = some true :=
  fuel_up (thermionlaw04_square.mono _ _) (k := n + 1) (square_at n T hn n 0 (by omega)) k (by omega)
theorem ranges_at (n : Nat) (f g : Nat → S32) (hn : n ≤ 24) : ∀ (d i : Nat), i + d = n → ∃ b, thermionkit_SameRanges.l0 (d + 1) ((List.range n).map f) ((List.range n).map g) i = some b ∧ (b = true ↔ ∀ j, i ≤ j → j < n → f j = g j)
  | 0, i, h => by
    refine ⟨true, ?_, ⟨fun _ j h1 h2 => by omega, fun _ => rfl⟩⟩
    rw [thermionkit_SameRanges.l0, if_neg (by simp; omega)]
  | d + 1, i, h => by
    obtain ⟨b, hb, hq⟩ := ranges_at n f g hn d (i + 1) (by omega)
    have e1 : rd_T32 ((List.range n).map f) (i : Int) = f i := by simp [rd_T32, List.getD_eq_getElem?_getD, show i < n by omega]
    have e2 : rd_T32 ((List.range n).map g) (i : Int) = g i := by simp [rd_T32, List.getD_eq_getElem?_getD, show i < n by omega]
    rw [thermionkit_SameRanges.l0, if_pos (by simp; omega), if_pos (by omega), if_pos (by simp; omega), e1, e2, wrap_one _ (by omega)]
    by_cases q : f i = g i
    · rw [if_neg (by rw [q]; simp)]
      refine ⟨b, hb, hq.trans ⟨fun h j h1 h2 => ?_, fun h j h1 h2 => h j (by omega) h2⟩⟩
      by_cases e : j = i
      · rw [e]; exact q
      · exact h j (by omega) h2
    · refine ⟨false, ?_, ⟨fun h => by simp at h, fun h => absurd (h i (by omega) (by omega)) q⟩⟩
      rw [if_pos]
      have : ¬ ((f i).f0 = (g i).f0 ∧ (f i).f1 = (g i).f1) := fun h => q (by cases hf : f i; cases hg : g i; rw [hf, hg] at h; simp only [] at h; rw [h.1, h.2])
      by_cases q0 : (f i).f0 = (g i).f0
      · have q1 : (f i).f1 ≠ (g i).f1 := fun e => this ⟨q0, e⟩
        simp [q0, q1]
      · simp [q0]
theorem ranges_eq (n : Nat) (f g : Nat → S32) (hn : n ≤ 24) {k : Nat} (hk : 25 ≤ k) : ∃ b, thermionkit_SameRanges.f k ((List.range n).map f) ((List.range n).map g) = some b ∧ (b = true ↔ ∀ j, j < n → f j = g j) := by
  obtain ⟨b, hb, hq⟩ := ranges_at n f g hn n 0 (by omega)
  refine ⟨b, fuel_up (thermionkit_SameRanges.mono _ _) (k := n + 1) ?_ k (by omega), hq.trans ⟨fun h j hj => h j (by omega) hj, fun h j _ hj => h j hj⟩⟩
  unfold thermionkit_SameRanges.f
  rw [if_pos (by simp)]
  exact hb
theorem same_at (n : Nat) (T U : List Int) (hn : n ≤ 24) : ∀ (d i : Nat), i + d = n → ∃ b, thermionlaw04_sameTight.l0 (d + 26) (rowsOf n T) (rowsOf n U) i = some b ∧ (b = true ↔ ∀ a, i ≤ a → a < n → ∀ c, c < n → spanOf T a c = spanOf U a c)
  | 0, i, h => by
    refine ⟨true, ?_, ⟨fun _ j h1 h2 => by omega, fun _ => rfl⟩⟩
    rw [thermionlaw04_sameTight.l0, if_neg (by rw [rowsOf_len]; omega)]
  | d + 1, i, h => by
    obtain ⟨b, hb, hq⟩ := same_at n T U hn d (i + 1) (by omega)
    obtain ⟨c, hc, hr⟩ := ranges_eq n (fun c => spanOf T i c) (fun c => spanOf U i c) hn (k := d + 26) (by omega)
    rw [show d + 1 + 26 = (d + 26) + 1 by omega, thermionlaw04_sameTight.l0, if_pos (by rw [rowsOf_len]; omega), if_pos (by omega), if_pos (by rw [rowsOf_len]; omega), rowsOf_row _ _ _ (by omega), rowsOf_row _ _ _ (by omega), hc, Option.bind_some]
    cases c with
    | false =>
      refine ⟨false, by rw [if_neg (by simp)], ⟨fun h => by simp at h, fun h => ?_⟩⟩
      exact hr.2 (fun j hj => h i (by omega) (by omega) j hj)
    | true =>
      rw [if_pos rfl, wrap_one _ (by omega)]
      refine ⟨b, hb, hq.trans ⟨fun h a h1 h2 c hcn => ?_, fun h a h1 h2 c hcn => h a (by omega) h2 c hcn⟩⟩
      by_cases e : a = i
      · subst e; exact hr.1 rfl c hcn
      · exact h a (by omega) h2 c hcn
theorem same_rows (n : Nat) (T U : List Int) (hn : n ≤ 24) {k : Nat} (hk : 50 ≤ k) : ∃ b, thermionlaw04_sameTight.f k (rowsOf n T) (rowsOf n U) = some b ∧ (b = true ↔ ∀ a, a < n → ∀ c, c < n → spanOf T a c = spanOf U a c) := by
  obtain ⟨b, hb, hq⟩ := same_at n T U hn n 0 (by omega)
  refine ⟨b, fuel_up (thermionlaw04_sameTight.mono _ _) (k := n + 26) ?_ k (by omega), hq.trans ⟨fun h a ha => h a (by omega) ha, fun h a _ ha => h a ha⟩⟩
  unfold thermionlaw04_sameTight.f
  rw [if_pos (by rw [rowsOf_len, rowsOf_len])]
  exact hb
theorem within_eq (a b : S32) : thermionkit_Within.f a.f0 a.f1 b.f0 b.f1 = some (decide (b.f0 ≤ a.f0 ∧ a.f1 ≤ b.f1)) := by
  unfold thermionkit_Within.f
  by_cases q : a.f0 ≥ b.f0
  · rw [if_pos q]; simp [show b.f0 ≤ a.f0 from q]
  · rw [if_neg q]; simp [show ¬ b.f0 ≤ a.f0 from q]
theorem mod_eq (a m : Int) (h1 : 1 ≤ m) (h2 : m ≤ 1000000) : ∃ r, thermionkit_Mod.f a m = some r ∧ 0 ≤ r ∧ r < m := by
  unfold thermionkit_Mod.f
  rw [if_neg (by omega), if_neg (by omega)]
  have b1 : -m < Int.tmod a m := Int.lt_tmod_of_pos a (by omega)
  have b2 : Int.tmod a m < m := Int.tmod_lt_of_pos a (by omega)
  by_cases q : Int.tmod a m < 0
  · rw [if_pos q, IntWalk.wrap64_in _ (by omega)]
    exact ⟨_, rfl, by omega, by omega⟩
  · rw [if_neg q]
    exact ⟨_, rfl, by omega, by omega⟩
theorem range_eq (s a b : Int) (h : a ≤ b) (h1 : -1000000 ≤ a) (h2 : b ≤ 1000000) : ∃ x y t, thermionkit_Dice_Range.f s a b = some (x, y, t) ∧ a ≤ x ∧ x ≤ y ∧ y ≤ b := by
  have p1 := bet_eq s a b h (by omega) (by omega)
  have p2 := bet_eq (nextWord s) a b h (by omega) (by omega)
  unfold thermionkit_Dice_Range.f
  rw [p1.1, Option.bind_some, p2.1, Option.bind_some]
  refine ⟨_, _, _, rfl, ?_⟩
  unfold mn mx
  simp only []
  refine ⟨?_, ?_, ?_⟩
  · split <;> omega
  · split <;> split <;> omega
  · split <;> omega
theorem chainErr_snoc {n : Nat} {L : List S35} {l : S35} (h : chainErr n L = 0) (hl : L.length < 80) (he : linkErr n l = 0) : chainErr n (L ++ [l]) = 0 := by
  obtain ⟨h1, h2, h3, h4⟩ := chainErr_ok h
  have hok := linkErr_ok he
  have hroots : ∀ i, i < n → (rootsOf L).getD i 0 = 0 := chain_roots h
  unfold chainErr
  rw [if_neg (by omega), if_neg (by rw [List.length_append]; simp; omega)]
  have hn : (L ++ [l]).find? (fun l => linkErr n l != 0) = none := by
    rw [List.find?_eq_none]
    intro l' hl'
    rcases List.mem_append.1 hl' with q | q
    · simp [h4 l' q]
    · rw [List.mem_singleton.1 q]; simp [he]
  rw [hn]
  simp only []
  rw [if_pos (roots_all (fun j hj => ?_) (by rw [rootsOf_length]; omega))]
  rw [rootsOf_snoc, more_root (rootsOf_length _) (by omega) (by omega) (hroots _ (by omega)) (hroots _ (by omega)) j (by omega)]
  exact hroots j hj
end Go.Proofs.Ytbcfphoheijmdaa.Print
end

section
/- Plain laws for MountReached: what a tight table says of its ranges, in the form in which the Go code asks it. -/
namespace Go.Proofs.Ytbcfphoheijmdaa.Print
open Go.RowKit Go.Proofs.YtbcfphoheijmdaaW.PrintWords Go.Proofs.YtbcfphoheijmdaaW.PrintLast Go.Proofs.YtbcfphoheijmdaaW.PrintMore Go.Proofs.Ytbcfphoheijmdaa.H
set_option linter.unusedVariables false
set_option linter.unusedSimpArgs false

/-- A tight table with small numbers. -/
structure Tog (n : Nat) (L : List S35) (T : List Int) : Prop where
  is : TightIs n L T
  small : ∀ i, -16777216000000 ≤ T.getD i 0 ∧ T.getD i 0 ≤ 16777216000000
  ok : chainErr n L = 0
theorem tog_of {n : Nat} {L : List S35} (h : chainErr n L = 0) : ((tightOf n L).2 = 0 ∧ Tog n L (tightOf n L).1) ∨ (tightOf n L).2 = 12 := by
  rcases tight_sem h with ⟨h1, h2⟩ | ⟨h1, h2⟩
  · left
    obtain ⟨_, _, hs⟩ := tightOf_small h1
    have hb := (bnd_le 24 (by omega)).2
    exact ⟨h1, h2, fun i => by have := hs i; omega, h⟩
  · right; exact h1
theorem Tog.n_le {n : Nat} {L : List S35} {T : List Int} (h : Tog n L T) : 1 ≤ n ∧ n ≤ 24 := by
  have := chainErr_ok h.ok
  omega
theorem Tog.sm {n : Nat} {L : List S35} {T : List Int} (h : Tog n L T) (a b : Nat) : -16777216000000 ≤ tf T a b ∧ tf T a b ≤ 16777216000000 := h.small _
theorem span_lo (T : List Int) (a b : Nat) : (spanOf T a b).f0 = -(tf T b a) := rfl
theorem span_hi (T : List Int) (a b : Nat) : (spanOf T a b).f1 = tf T a b := rfl
theorem Tog.pair {n : Nat} {L : List S35} {T : List Int} (h : Tog n L T) {a b : Nat} (ha : a < n) (hb : b < n) :
    IntKind.i64.wrap (-(spanOf T a b).f1) = (spanOf T b a).f0 ∧ IntKind.i64.wrap (-(spanOf T a b).f0) = (spanOf T b a).f1 ∧ decide ((spanOf T a b).f1 < (spanOf T a b).f0) = false ∧ (a = b → (spanOf T a b).f0 = 0 ∧ (spanOf T a b).f1 = 0) := by
  rw [span_lo, span_hi, span_lo, span_hi]
  have s1 := h.sm a b
  have s2 := h.sm b a
  have o := h.is.order ha hb
  refine ⟨IntWalk.i64_in _ (by omega), ?_, decide_eq_false (by omega), fun e => ?_⟩
  · rw [IntWalk.i64_in _ (by omega)]; omega
  · subst e
    rw [h.is.self a ha]
    exact ⟨rfl, rfl⟩
theorem Tog.tri {n : Nat} {L : List S35} {T : List Int} (h : Tog n L T) {a b x : Nat} (ha : a < n) (hb : b < n) (hx : x < n) :
    IntKind.i64.wrap ((spanOf T a x).f0 + (spanOf T x b).f0) = (spanOf T a x).f0 + (spanOf T x b).f0 ∧ IntKind.i64.wrap ((spanOf T a x).f1 + (spanOf T x b).f1) = (spanOf T a x).f1 + (spanOf T x b).f1 ∧
    thermionkit_Within.f (spanOf T a b).f0 (spanOf T a b).f1 ((spanOf T a x).f0 + (spanOf T x b).f0) ((spanOf T a x).f1 + (spanOf T x b).f1) = some true := by
  have e := within_eq (spanOf T a b) ⟨(spanOf T a x).f0 + (spanOf T x b).f0, (spanOf T a x).f1 + (spanOf T x b).f1⟩
  simp only [] at e
  rw [e]
  simp only [span_lo, span_hi]
  have s1 := h.sm a x
  have s2 := h.sm x a
  have s3 := h.sm b x
  have s4 := h.sm x b
  have t1 := h.is.tri ha hx hb
  have t2 := h.is.tri hb hx ha
  refine ⟨IntWalk.i64_in _ (by omega), IntWalk.i64_in _ (by omega), ?_⟩
  exact congrArg some (decide_eq_true (by omega))
theorem Tog.link {n : Nat} {L : List S35} {T : List Int} (h : Tog n L T) {l : S35} (hl : l ∈ L) {f t : Nat} (hf : l.f0 = f) (ht : l.f1 = t) : f < n ∧ t < n ∧ thermionkit_Within.f (spanOf T f t).f0 (spanOf T f t).f1 l.f2.f0 l.f2.f1 = some true := by
  have hok := linkErr_ok ((chainErr_ok h.ok).2.2.2 l hl)
  have h1 : f < n := by omega
  have h2 : t < n := by omega
  refine ⟨h1, h2, ?_⟩
  rw [within_eq, span_lo, span_hi]
  have e := h.is.edge hl (by omega) (by omega)
  rw [hf, ht] at e
  simp only [Int.toNat_natCast] at e
  exact congrArg some (decide_eq_true (by omega))
theorem rd35_mem {L : List S35} {i : Nat} (h : i < L.length) : rd_T35 L (i : Int) ∈ L := by
  have e : rd_T35 L (i : Int) = L[i] := by simp [rd_T35, List.getD_eq_getElem?_getD, h]
  rw [e]
  exact List.getElem_mem h
end Go.Proofs.Ytbcfphoheijmdaa.Print
end

section
/- Far and Near: positions at the ends of tight ranges, as Lean functions, and that the Go functions' calls give them. -/
namespace Go.Proofs.Ytbcfphoheijmdaa.Print
open Go.RowKit Go.Proofs.YtbcfphoheijmdaaW.PrintWords Go.Proofs.YtbcfphoheijmdaaW.PrintLast Go.Proofs.YtbcfphoheijmdaaW.PrintMore Go.Proofs.Ytbcfphoheijmdaa.H
attribute [local go_sem] max2_int min2_int max_two min_two max_three min_three max_four min_four
attribute [local go_sem ↓] Go.wp_at_zero Go.wp_at_succ
set_option linter.unusedVariables false
set_option linter.unusedSimpArgs false

/-- An end of a range. -/
def endOf (high : Bool) (r : S32) : Int := if high = true then r.f1 else r.f0
def endsRes (high : Bool) (P : Int) (L : List S35) (a : Int) : List Int × Int :=
  if (tightOf P L).2 = 0 then (if 0 ≤ a ∧ a ≤ P - 1 then ((List.range P.toNat).map (fun b => endOf high (spanOf (tightOf P L).1 a.toNat b)), 0) else ([], 7)) else ([], (tightOf P L).2)
def mount_Far.f (a0_0 : Int) (l0_1 : List (S35)) (a1 : Int) : Option (List Int × Int) := some (endsRes true a0_0 l0_1 a1)
def mount_Near.f (a0_0 : Int) (l0_1 : List (S35)) (a1 : Int) : Option (List Int × Int) := some (endsRes false a0_0 l0_1 a1)
theorem R_block {W : World} {base g : Nat} {X : List Int} (hb : W.heap[g]? = some (.cells (nums .i64 X).toArray 3 (0, 0))) (hg : base ≤ g) (hn : X.length ≤ maxLen) : (Kd.int .i64).R 3 W base (fun _ => True) (.slice (some ⟨g, 0, none⟩) X.length X.length) X := by
  refine Kd.R_of_own ⟨by simp [encs], .inr ⟨g, X.length, (nums .i64 X).toArray, rfl, hg, hb, Nat.le_refl _, hn, by simp [nums], ?_⟩⟩ (fun _ _ => trivial)
  simp [nums, encs]
  exact List.take_of_length_le (by simp)
theorem high_calls (lo hi : Int) (w : World) : Calls Try.prog 108 #[.agg #[.int .i64 lo, .int .i64 hi]] w fun e w' => e = .returned (.int .i64 hi) ∧ Below w.heap.size w w' := by
  have HM := Aside0.mk (Mem.start w)
  have hu32 := Try.underlying32
  go_enter Try.func108, Try.ntmps108
  go_wp2_with (first
    | ((with_reducible refine gate_dst (N := 1) rfl ?_); refine ev_box HM.out rfl 32 (.tmp 0) rfl (cs := #[.int .i64 lo, .int .i64 hi]) rfl ?_; intro g1 w1 hm1 hq1; clear hq1; have HM1 := Aside0.mk hm1; clear hm1 HM; have c1 : w1.cell? ⟨g1, 1, none⟩ = some (.int .i64 hi) := (HM1.out.cell 1).trans rfl))
  go_ret
  exact ⟨rfl, HM1.out.below⟩
theorem low_calls (lo hi : Int) (w : World) : Calls Try.prog 109 #[.agg #[.int .i64 lo, .int .i64 hi]] w fun e w' => e = .returned (.int .i64 lo) ∧ Below w.heap.size w w' := by
  have HM := Aside0.mk (Mem.start w)
  have hu32 := Try.underlying32
  go_enter Try.func109, Try.ntmps109
  go_wp2_with (first
    | ((with_reducible refine gate_dst (N := 1) rfl ?_); refine ev_box HM.out rfl 32 (.tmp 0) rfl (cs := #[.int .i64 lo, .int .i64 hi]) rfl ?_; intro g1 w1 hm1 hq1; clear hq1; have HM1 := Aside0.mk hm1; clear hm1 HM; have c1 : w1.cell? ⟨g1, 0, none⟩ = some (.int .i64 lo) := (HM1.out.cell 0).trans rfl))
  go_ret
  exact ⟨rfl, HM1.out.below⟩
/-- The list on the way: the first b ends, then zeros. -/
def endsTo (high : Bool) (T : List Int) (n a b : Nat) : List Int := (List.range n).map (fun j => if j < b then endOf high (spanOf T a j) else 0)
theorem endsTo_set (high : Bool) (T : List Int) (n a b : Nat) : (endsTo high T n a b).set b (endOf high (spanOf T a b)) = endsTo high T n a (b + 1) := by
  apply List.ext_getElem
  · simp [endsTo]
  · intro i h1 h2
    rw [List.getElem_set]
    simp only [endsTo, List.getElem_map, List.getElem_range]
    by_cases q : b = i
    · subst q; rw [if_pos rfl, if_pos (by omega)]
    · rw [if_neg q]
      by_cases q2 : i < b
      · rw [if_pos q2, if_pos (by omega)]
      · rw [if_neg q2, if_neg (by omega)]
theorem endsTo_start (high : Bool) (T : List Int) (n a : Nat) : endsTo high T n a 0 = List.replicate n 0 := by
  apply List.ext_getElem
  · simp [endsTo]
  · intro i h1 h2
    simp [endsTo]
theorem endsTo_done (high : Bool) (T : List Int) (n a b : Nat) (h : n ≤ b) : endsTo high T n a b = (List.range n).map (fun b => endOf high (spanOf T a b)) := by
  apply List.ext_getElem
  · simp [endsTo]
  · intro i h1 h2
    have hi : i < n := by simpa [endsTo] using h1
    simp only [endsTo, List.getElem_map, List.getElem_range]
    rw [if_pos (by omega)]
set_option maxHeartbeats 6400000 in
set_option maxRecDepth 100000 in
theorem ends_calls (high : Bool) (id : Nat) (hent : ∀ args W, Sem.run Try.prog (callFunc id args) W = .ok (.enter id args) W) (hend : ∀ (lo hi : Int) (W : World), Calls Try.prog id #[.agg #[.int .i64 lo, .int .i64 hi]] W fun e w' => e = .returned (.int .i64 (endOf high ⟨lo, hi⟩)) ∧ Below W.heap.size W w')
    (P : Int) (A : Option Addr) (c : Nat) (L : List S35) (a : Int) (w : World) (hr : Kd.C k35 w A L.length L) (hc : L.length ≤ c) :
    Calls Try.prog 107 #[.agg #[.int .i64 P, .slice A L.length c], .int .i64 a, .func (.func id) #[] #[]] w fun e w' => ∃ v0_ : Value, e = .returned (.tuple #[v0_, .int .i64 (endsRes high P L a).2]) ∧ Kd.R (Kd.int .i64) 3 w' w.heap.size (fun _ => True) v0_ (endsRes high P L a).1 ∧ Below w.heap.size w w' := by
  have HR := Aside0.mk hr
  have HM := Aside0.mk (Mem.start w)
  have HEN := Aside0.mk hend
  clear hr hend
  have hu27 := Try.underlying27
  have HTC := Aside0.mk (fun W hW => tight_calls P A c L W hW hc)
  have HLT : Aside0 ((tightOf P L).1.length = 576) := ⟨by
    by_cases hc : chainErr P L = 0
    · unfold tightOf; rw [if_pos hc]; exact (floyd_small (n := P.toNat) P.toNat 0 (initTab L) (by have := chainErr_ok hc; omega) (Small.init _ (chainErr_ok hc).2.2.2) (initTab_length _)).2
    · unfold tightOf; rw [if_neg hc]; simp⟩
  have HF : Aside0 (endsRes high P L a = if (tightOf P L).2 = 0 then (if 0 ≤ a ∧ a ≤ P - 1 then ((List.range P.toNat).map (fun b => endOf high (spanOf (tightOf P L).1 a.toNat b)), 0) else ([], 7)) else ([], (tightOf P L).2)) := ⟨rfl⟩
  generalize endsRes high P L a = r at HF ⊢
  by_cases t1 : (tightOf P L).2 = 0
  rotate_left
  · have HF2 : Aside0 (r.1 = [] ∧ r.2 = (tightOf P L).2) := ⟨by rw [HF.out, if_neg t1]; exact ⟨rfl, rfl⟩⟩
    clear HF
    generalize (tightOf P L).2 = E at t1 HTC HF2
    generalize (tightOf P L).1 = T at HTC HLT
    have t2 : (E != 0) = true := by simpa using t1
    clear t1
    go_enter Try.func107, Try.ntmps107
    go_wp2_with (first
      | ((with_reducible refine gate_dst (N := 3) rfl ?_); refine ev_box HM.out rfl 27 (.tmp 0) rfl (cs := #[.int .i64 P, .slice A L.length c]) rfl ?_; intro g1 w1 hm1 hq1; clear hq1; have HM1 := Aside0.mk hm1; clear hm1 HM)
      | ((with_reducible refine gate_dst (N := 13) rfl ?_); refine ev_load HM1.out.head rfl 27 (.tmp 3) rfl rfl _ Try.underlying27 rfl (n := 2) (by kernel_rfl) rfl ?_)
      | (go_at_call 89; refine (HTC.out _ (Kd.C_below HR.out HM1.out.below)).mono ?_; rintro e w' ⟨rfl, hd⟩; have HM2 := Aside0.mk (HM1.out.step hd); clear hd HM1)
      | ((with_reducible refine gate_dst (N := 8) rfl ?_); refine ev_new HM2.out rfl 125 rfl info125 ?_; intro g3 w3 hm3 hq1; clear hq1; have HM3 := Aside0.mk hm3; clear hm3 HM2)
      | (refine ev_store HM3.out rfl 125 (.tmp 8) (.tmp 15) rfl rfl rfl size125 (by simp) (size_nums HLT.out) (one_nums _) ?_; intro w5 hm5 hq1; clear hq1; have HM5 := Aside0.mk hm5; clear hm5 HM3))
    go_ret2
    exact ⟨.slice none 0 0, by rw [HF2.out.2]; rfl, by rw [HF2.out.1]; exact Kd.R_nil _ _ _ _ _, HM5.out.below⟩
  obtain ⟨hce, _, hsm⟩ := tightOf_small t1
  have HOK := Aside0.mk (chainErr_ok hce)
  have HF2 : Aside0 (r = if 0 ≤ a ∧ a ≤ P - 1 then ((List.range P.toNat).map (fun b => endOf high (spanOf (tightOf P L).1 a.toNat b)), 0) else ([], 7)) := ⟨by rw [HF.out, if_pos t1]⟩
  rw [t1] at HTC
  have HBD := Aside0.mk (hsm.wide (bnd_le 24 (by omega)).2)
  clear t1 hce hsm HF
  generalize (tightOf P L).1 = T at HTC HLT HF2 HBD
  obtain ⟨n, rfl⟩ : ∃ n : Nat, P = n := ⟨P.toNat, by have := HOK.out; omega⟩
  have hn1 : 1 ≤ n := by have := HOK.out.1; omega
  have hn2 : n ≤ 24 := by have := HOK.out.2.1; omega
  clear HOK
  have hw1 : IntKind.i64.wrap ((n : Int) - 1) = (n : Int) - 1 := IntWalk.i64_in _ (by omega)
  rw [Int.toNat_natCast] at HF2
  by_cases ha : 0 ≤ a ∧ a ≤ (n : Int) - 1
  · obtain ⟨x, rfl⟩ : ∃ x : Nat, a = x := ⟨a.toNat, by omega⟩
    have hx : x < n := by omega
    have HIN := Aside0.mk (in_eq (x : Int) 0 ((n : Int) - 1))
    rw [decide_eq_true ha] at HIN
    have HF3 : Aside0 (r.1 = (List.range n).map (fun b => endOf high (spanOf T x b)) ∧ r.2 = 0) := ⟨by rw [HF2.out, if_pos ha, Int.toNat_natCast]; exact ⟨rfl, rfl⟩⟩
    clear ha
    go_enter Try.func107, Try.ntmps107
    go_wp2_with (first
      | ((with_reducible refine gate_dst (N := 3) rfl ?_); refine ev_box HM.out rfl 27 (.tmp 0) rfl (cs := #[.int .i64 (n : Int), .slice A L.length c]) rfl ?_; intro g1 w1 hm1 hq1; clear hq1; have HM1 := Aside0.mk hm1; clear hm1 HM)
      | ((with_reducible refine gate_dst (N := 13) rfl ?_); refine ev_load HM1.out.head rfl 27 (.tmp 3) rfl rfl _ Try.underlying27 rfl (n := 2) (by kernel_rfl) rfl ?_)
      | (go_at_call 89; refine (HTC.out _ (Kd.C_below HR.out HM1.out.below)).mono ?_; rintro e w' ⟨rfl, hd⟩; have HM2 := Aside0.mk (HM1.out.step hd); clear hd HM1)
      | ((with_reducible refine gate_dst (N := 8) rfl ?_); refine ev_new HM2.out rfl 125 rfl info125 ?_; intro g3 w3 hm3 hq1; clear hq1; have HM3 := Aside0.mk hm3; clear hm3 HM2)
      | (refine ev_store HM3.out rfl 125 (.tmp 8) (.tmp 15) rfl rfl rfl size125 (by simp) (size_nums HLT.out) (one_nums _) ?_; intro w5 hm5 hq1; clear hq1; have HM5 := Aside0.mk hm5; clear hm5 HM3; have c0 : w5.cell? ⟨g1, 0, none⟩ = some (.int .i64 (n : Int)) := (blk_cell HM5.out.second 0).trans rfl)
      | (go_at_call 102; refine (mount_in.calls _ _ _ _ _ HIN.out).mono ?_; rintro e w6 ⟨rfl, hd⟩; have HM6 := Aside0.mk (HM5.out.step hd.below); clear hd HM5 c0; have c6 : w6.cell? ⟨g1, 0, none⟩ = some (.int .i64 (n : Int)) := (blk_cell HM6.out.second 0).trans rfl)
      | ((with_reducible refine gate_dst (N := 28) rfl ?_); refine ev_make HM6.out rfl 22 (.tmp 27) rfl n rfl 3 (.int .i64 0) 8 Try.underlying22 info3 rfl (by omega) (by unfold maxLen; omega) ?_; intro g6 w7 hm7 hq7; have HM7 := Aside0.mk hm7; clear hm7 HM6 hq7 c6))
    have HM8 : Aside0 (Mem w w7 [(g6, (nums .i64 (endsTo high T n x 0)).toArray, 3), (g3, (nums .i64 T).toArray, 125), (g1, #[.int .i64 (n : Int), .slice A L.length c], 27)]) := ⟨by
      rw [endsTo_start]
      have e : (nums .i64 (List.replicate n 0)).toArray = (List.replicate n (Value.int .i64 0)).toArray := by simp [nums]
      rw [e]
      exact HM7.out⟩
    clear HM7
    go_loopg [31] n (fun k v31 w' => ∃ (b : Nat), v31 = .int .i64 b ∧ Aside0 (b + k = n) ∧ Aside0 (Mem w w' [(g6, (nums .i64 (endsTo high T n x b)).toArray, 3), (g3, (nums .i64 T).toArray, 125), (g1, #[.int .i64 (n : Int), .slice A L.length c], 27)]))
    case atStart => exact ⟨0, rfl, ⟨by omega⟩, HM8⟩
    case round =>
      clear HM8
      obtain ⟨b, rfl, HK, HM⟩ := hrel
      by_cases hb : b < n
      · have i1 : (0 : Int) ≤ (b : Int) := by omega
        have i2 : (b : Int) < (n : Int) := by omega
        have HSP := Aside0.mk (fun W => span_calls T x b HLT.out (by omega) (by omega) HBD.out W)
        have HST := Aside0.mk (endsTo_set high T n x b)
        have HLE := Aside0.mk (show (endsTo high T n x b).length = n by simp [endsTo])
        generalize endsTo high T n x b = X at HM HST HLE
        go_wp2_with (first
          | ((with_reducible refine gate_dst (N := 37) rfl ?_); refine ev_load HM.out.second rfl 125 (.tmp 8) rfl rfl _ Try.underlying125 rfl (n := 576) size125 (size_nums HLT.out) ?_)
          | (go_at_call 90; refine (HSP.out _).mono ?_; rintro e w8 ⟨rfl, hd⟩; have HM9 := Aside0.mk (HM.out.step hd); clear hd HM))
        refine (HEN.out _ _ _).mono ?_
        rintro e w9 ⟨rfl, hd⟩
        have HMA := Aside0.mk (HM9.out.step hd)
        clear hd HM9
        have cX : w9.cell? ⟨g6, b, none⟩ = some (.int .i64 (X.getD b 0)) := by rw [HMA.out.cell, get_nums _ _ (by rw [HLE.out]; exact hb)]
        have fX : w9.frozen? ⟨g6, b, none⟩ = false := HMA.out.frozen b
        go_wp2_with fail
        go_roundg (n - (b + 1))
        case measure => have := HK.out; omega
        case rel => exact ⟨b + 1, by go_num, ⟨by omega⟩, ⟨by rw [← HST.out]; exact HMA.out.put b _ (set_nums _ _ _)⟩⟩
      · have HRB := Aside0.mk (R_block (base := w.heap.size) HM.out.head HM.out.geh (by simp [endsTo]; unfold maxLen; omega))
        have HED := Aside0.mk (endsTo_done high T n x b (by omega))
        have HLE := Aside0.mk (show (endsTo high T n x b).length = n by simp [endsTo])
        go_wp2_with fail
        go_ret2
        refine ⟨.slice (some ⟨g6, 0, none⟩) n n, by rw [HF3.out.2]; rfl, ?_, HM.out.below⟩
        have := HRB.out
        rw [HLE.out] at this
        rw [HF3.out.1, ← HED.out]
        exact this
  · have HIN := Aside0.mk (in_eq a 0 ((n : Int) - 1))
    rw [decide_eq_false ha] at HIN
    have HF3 : Aside0 (r.1 = [] ∧ r.2 = 7) := ⟨by rw [HF2.out, if_neg ha]; exact ⟨rfl, rfl⟩⟩
    go_enter Try.func107, Try.ntmps107
    go_wp2_with (first
      | ((with_reducible refine gate_dst (N := 3) rfl ?_); refine ev_box HM.out rfl 27 (.tmp 0) rfl (cs := #[.int .i64 (n : Int), .slice A L.length c]) rfl ?_; intro g1 w1 hm1 hq1; clear hq1; have HM1 := Aside0.mk hm1; clear hm1 HM)
      | ((with_reducible refine gate_dst (N := 13) rfl ?_); refine ev_load HM1.out.head rfl 27 (.tmp 3) rfl rfl _ Try.underlying27 rfl (n := 2) (by kernel_rfl) rfl ?_)
      | (go_at_call 89; refine (HTC.out _ (Kd.C_below HR.out HM1.out.below)).mono ?_; rintro e w' ⟨rfl, hd⟩; have HM2 := Aside0.mk (HM1.out.step hd); clear hd HM1)
      | ((with_reducible refine gate_dst (N := 8) rfl ?_); refine ev_new HM2.out rfl 125 rfl info125 ?_; intro g3 w3 hm3 hq1; clear hq1; have HM3 := Aside0.mk hm3; clear hm3 HM2)
      | (refine ev_store HM3.out rfl 125 (.tmp 8) (.tmp 15) rfl rfl rfl size125 (by simp) (size_nums HLT.out) (one_nums _) ?_; intro w5 hm5 hq1; clear hq1; have HM5 := Aside0.mk hm5; clear hm5 HM3; have c0 : w5.cell? ⟨g1, 0, none⟩ = some (.int .i64 (n : Int)) := (blk_cell HM5.out.second 0).trans rfl)
      | (go_at_call 102; refine (mount_in.calls _ _ _ _ _ HIN.out).mono ?_; rintro e w6 ⟨rfl, hd⟩; have HM6 := Aside0.mk (HM5.out.step hd.below); clear hd))
    go_ret2
    exact ⟨.slice none 0 0, by rw [HF3.out.2]; rfl, by rw [HF3.out.1]; exact Kd.R_nil _ _ _ _ _, HM6.out.below⟩
theorem high_enters (args : Array Value) (W : World) : Sem.run Try.prog (callFunc 108 args) W = .ok (.enter 108 args) W := by
  have h1 : ¬ Try.f108.name = "runtime.NumGoroutine" := by decide
  have h2 : ¬ Try.f108.body = none := fun h => by
    have : Try.f108.body.isSome = false := by rw [h]; rfl
    exact absurd this (by show ¬ (true = false); decide)
  simp [callFunc, go_sem, Try.func108, h1, h2]
theorem low_enters (args : Array Value) (W : World) : Sem.run Try.prog (callFunc 109 args) W = .ok (.enter 109 args) W := by
  have h1 : ¬ Try.f109.name = "runtime.NumGoroutine" := by decide
  have h2 : ¬ Try.f109.body = none := fun h => by
    have : Try.f109.body.isSome = false := by rw [h]; rfl
    exact absurd this (by show ¬ (true = false); decide)
  simp [callFunc, go_sem, Try.func109, h1, h2]
set_option maxHeartbeats 1600000 in
set_option maxRecDepth 100000 in
theorem mount_Far.calls (a0_0 : Int) (A0_1 : Option Addr) (c0_1 : Nat) (l0_1 : List (S35)) (a1 : Int) (r1 : List Int) (r2 : Int) (w : World) (hr0_1 : Kd.C k35 w A0_1 l0_1.length l0_1) (hc0_1 : l0_1.length ≤ c0_1) (h : mount_Far.f a0_0 l0_1 a1 = some (r1, r2)) :
    Calls Try.prog 49 #[.agg #[.int .i64 a0_0, .slice A0_1 l0_1.length c0_1], .int .i64 a1] w fun e w' => ∃ v0_ : Value, e = .returned (.tuple #[v0_, .int .i64 r2]) ∧ Kd.R (Kd.int .i64) 3 w' w.heap.size (fun _ => True) v0_ r1 ∧ Below w.heap.size w w' := by
  have HF := Aside0.mk (Option.some.inj h)
  have HR := Aside0.mk hr0_1
  have HM := Aside0.mk (Mem.start w)
  have HE := Aside0.mk (fun W hW => ends_calls true 108 high_enters (fun lo hi W => high_calls lo hi W) a0_0 A0_1 c0_1 l0_1 a1 W hW hc0_1)
  clear h hr0_1
  rw [HF.out] at HE
  clear HF
  have hu27 := Try.underlying27
  go_enter Try.func49, Try.ntmps49
  go_wp2_with (first
    | ((with_reducible refine gate_dst (N := 2) rfl ?_); refine ev_box HM.out rfl 27 (.tmp 0) rfl (cs := #[.int .i64 a0_0, .slice A0_1 l0_1.length c0_1]) rfl ?_; intro g1 w1 hm1 hq1; clear hq1; have HM1 := Aside0.mk hm1; clear hm1 HM)
    | ((with_reducible refine gate_dst (N := 6) rfl ?_); refine ev_load HM1.out.head rfl 27 (.tmp 2) rfl rfl _ Try.underlying27 rfl (n := 2) (by kernel_rfl) rfl ?_)
    | (go_at_call 107; refine (HE.out _ (Kd.C_below HR.out HM1.out.below)).mono ?_; rintro e w2 ⟨v, rfl, hR, hd⟩; have HR2 := Aside0.mk (Kd.R_lower hR HM1.out.below.size); have HB2 := Aside0.mk (below_step HM1.out.below hd); clear hR hd))
  go_ret2
  exact ⟨v, rfl, HR2.out, HB2.out⟩
set_option maxHeartbeats 1600000 in
set_option maxRecDepth 100000 in
theorem mount_Near.calls (a0_0 : Int) (A0_1 : Option Addr) (c0_1 : Nat) (l0_1 : List (S35)) (a1 : Int) (r1 : List Int) (r2 : Int) (w : World) (hr0_1 : Kd.C k35 w A0_1 l0_1.length l0_1) (hc0_1 : l0_1.length ≤ c0_1) (h : mount_Near.f a0_0 l0_1 a1 = some (r1, r2)) :
    Calls Try.prog 50 #[.agg #[.int .i64 a0_0, .slice A0_1 l0_1.length c0_1], .int .i64 a1] w fun e w' => ∃ v0_ : Value, e = .returned (.tuple #[v0_, .int .i64 r2]) ∧ Kd.R (Kd.int .i64) 3 w' w.heap.size (fun _ => True) v0_ r1 ∧ Below w.heap.size w w' := by
  have HF := Aside0.mk (Option.some.inj h)
  have HR := Aside0.mk hr0_1
  have HM := Aside0.mk (Mem.start w)
  have HE := Aside0.mk (fun W hW => ends_calls false 109 low_enters (fun lo hi W => low_calls lo hi W) a0_0 A0_1 c0_1 l0_1 a1 W hW hc0_1)
  clear h hr0_1
  rw [HF.out] at HE
  clear HF
  have hu27 := Try.underlying27
  go_enter Try.func50, Try.ntmps50
  go_wp2_with (first
    | ((with_reducible refine gate_dst (N := 2) rfl ?_); refine ev_box HM.out rfl 27 (.tmp 0) rfl (cs := #[.int .i64 a0_0, .slice A0_1 l0_1.length c0_1]) rfl ?_; intro g1 w1 hm1 hq1; clear hq1; have HM1 := Aside0.mk hm1; clear hm1 HM)
    | ((with_reducible refine gate_dst (N := 6) rfl ?_); refine ev_load HM1.out.head rfl 27 (.tmp 2) rfl rfl _ Try.underlying27 rfl (n := 2) (by kernel_rfl) rfl ?_)
    | (go_at_call 107; refine (HE.out _ (Kd.C_below HR.out HM1.out.below)).mono ?_; rintro e w2 ⟨v, rfl, hR, hd⟩; have HR2 := Aside0.mk (Kd.R_lower hR HM1.out.below.size); have HB2 := Aside0.mk (below_step HM1.out.below hd); clear hR hd))
  go_ret2
  exact ⟨v, rfl, HR2.out, HB2.out⟩
end Go.Proofs.Ytbcfphoheijmdaa.Print
end

section
/- Fits: do positions fit a chain? As a Lean function, and that the Go function's call gives it. -/
namespace Go.Proofs.Ytbcfphoheijmdaa.Print
open Go.RowKit Go.Proofs.YtbcfphoheijmdaaW.PrintWords Go.Proofs.YtbcfphoheijmdaaW.PrintLast Go.Proofs.YtbcfphoheijmdaaW.PrintMore Go.Proofs.Ytbcfphoheijmdaa.H
attribute [local go_sem] max2_int min2_int max_two min_two max_three min_three max_four min_four
attribute [local go_sem ↓] Go.wp_at_zero Go.wp_at_succ
set_option linter.unusedVariables false
set_option linter.unusedSimpArgs false

/-- Do positions do what a link demands? -/
def liesOn (at_ : List Int) (l : S35) : Bool := decide (l.f2.f0 ≤ at_.getD l.f1.toNat 0 - at_.getD l.f0.toNat 0 ∧ at_.getD l.f1.toNat 0 - at_.getD l.f0.toNat 0 ≤ l.f2.f1)
def InWord (x : Int) : Prop := -9223372036854775808 ≤ x ∧ x ≤ 9223372036854775807
theorem wrap_cases (d : Int) (h : -18446744073709551615 ≤ d ∧ d ≤ 18446744073709551615) : (IntKind.i64.wrap d = d ∧ InWord d) ∨ (IntKind.i64.wrap d = d - 18446744073709551616 ∧ 9223372036854775807 < d) ∨ (IntKind.i64.wrap d = d + 18446744073709551616 ∧ d < -9223372036854775808) := by
  unfold InWord
  simp only [IntKind.wrap, IntKind.signed, IntKind.bits]
  simp
  omega
set_option maxHeartbeats 3200000 in
set_option maxRecDepth 100000 in
theorem lies_calls (at_ : List Int) (A : Option Addr) (c ga : Nat) (l : S35) (w : World) (hb : w.cell? ⟨ga, 0, none⟩ = some (.slice A at_.length c)) (hr : (Kd.int .i64).C w A at_.length at_) (hw : ∀ x, x ∈ at_ → InWord x) (P : Int) (hl : linkErr P l = 0) (hP : P = at_.length) :
    Calls Try.prog 138 #[.agg #[.int .i64 l.f0, .int .i64 l.f1, .int .i64 l.f2.f0, .int .i64 l.f2.f1], .pointer (some ⟨ga, 0, none⟩)] w fun e w' => e = .returned (.bool (!liesOn at_ l)) ∧ Below w.heap.size w w' := by
  obtain ⟨h1, h2, h3, h4, h5, h6, h7, h8⟩ := linkErr_ok hl
  obtain ⟨F, T, ⟨lo, hi⟩⟩ := l
  simp only [] at h1 h2 h3 h4 h5 h6 h7 h8
  obtain ⟨f, rfl⟩ : ∃ f : Nat, F = f := ⟨F.toNat, by omega⟩
  obtain ⟨t, rfl⟩ : ∃ t : Nat, T = t := ⟨T.toNat, by omega⟩
  have hf : f < at_.length := by omega
  have ht : t < at_.length := by omega
  obtain ⟨ad, e0, x0⟩ := cell_int hr f hf
  obtain ⟨_, e1, x1⟩ := cell_int hr t ht
  cases e0
  cases e1
  have w0 : InWord (at_.getD f 0) := hw _ (by rw [List.getD_eq_getElem?_getD, List.getElem?_eq_getElem hf]; exact List.getElem_mem _)
  have w1 : InWord (at_.getD t 0) := hw _ (by rw [List.getD_eq_getElem?_getD, List.getElem?_eq_getElem ht]; exact List.getElem_mem _)
  have HL : Aside0 (liesOn at_ ⟨(f : Int), (t : Int), ⟨lo, hi⟩⟩ = decide (lo ≤ at_.getD t 0 - at_.getD f 0 ∧ at_.getD t 0 - at_.getD f 0 ≤ hi)) := ⟨by unfold liesOn; simp only [Int.toNat_natCast]⟩
  generalize at_.getD f 0 = X at x0 w0 HL
  generalize at_.getD t 0 = Y at x1 w1 HL
  unfold InWord at w0 w1
  have HM := Aside0.mk (Mem.start w)
  have HX0 := Aside0.mk x0
  have HX1 := Aside0.mk x1
  have HHB := Aside0.mk hb
  clear hr hw x0 x1 hb
  have i1 : (0 : Int) ≤ (f : Int) := by omega
  have i2 : (f : Int) < (at_.length : Int) := by omega
  have i3 : (0 : Int) ≤ (t : Int) := by omega
  have i4 : (t : Int) < (at_.length : Int) := by omega
  have hu35 := Try.underlying35
  have hcase := wrap_cases (Y - X) (by omega)
  go_enter Try.func138, Try.ntmps138
  go_wp2_with (first
    | ((with_reducible refine gate_dst (N := 2) rfl ?_); refine ev_box HM.out rfl 35 (.tmp 0) rfl (cs := #[.int .i64 (f : Int), .int .i64 (t : Int), .int .i64 lo, .int .i64 hi]) rfl ?_; intro g1 w1 hm1 hq1; clear hq1; have HM1 := Aside0.mk hm1; clear hm1 HM; have c0 : w1.cell? ⟨g1, 0, none⟩ = some (.int .i64 (f : Int)) := (HM1.out.cell 0).trans rfl; have c1 : w1.cell? ⟨g1, 1, none⟩ = some (.int .i64 (t : Int)) := (HM1.out.cell 1).trans rfl; have c2 : w1.cell? ⟨g1, 2, none⟩ = some (.int .i64 lo) := (HM1.out.cell 2).trans rfl; have c3 : w1.cell? ⟨g1, 3, none⟩ = some (.int .i64 hi) := (HM1.out.cell 3).trans rfl; have x0 := cell_later HM1.out.below HX0.out; have x1 := cell_later HM1.out.below HX1.out; have hb := cell_later HM1.out.below HHB.out))
  go_quiet (fail)
  have d2 : (w1.drewN nq).cell? ⟨g1, 2, none⟩ = some (.int .i64 lo) := c2
  have d3 : (w1.drewN nq).cell? ⟨g1, 3, none⟩ = some (.int .i64 hi) := c3
  have HB2 : Aside0 (Below w.heap.size w (w1.drewN nq)) := ⟨(HM1.out.drewN nq).below⟩
  clear x0 x1 hb c0 c1 c2 c3
  rcases hcase with ⟨hd, hin⟩ | ⟨hd, hbig⟩ | ⟨hd, hsm⟩
  · have HIN := Aside0.mk (in_eq (Y - X) lo hi)
    generalize hbb : decide (lo ≤ Y - X ∧ Y - X ≤ hi) = b at HIN HL
    clear hbb
    have hss : (Y - X < 0 ∧ Y < X) ∨ (¬ Y - X < 0 ∧ ¬ Y < X) := by omega
    rcases hss with ⟨s1, s2⟩ | ⟨s1, s2⟩
    all_goals cases b
    all_goals (
      go_wp2_with (first
        | (go_at_call 102; refine (mount_in.calls _ _ _ _ _ HIN.out).mono ?_; rintro e w5 ⟨rfl, hd5⟩; have HB5 := Aside0.mk (below_step HB2.out hd5.below); clear hd5))
      go_ret
      exact ⟨by rw [HL.out]; rfl, HB5.out⟩)
  · have HL2 : Aside0 (liesOn at_ ⟨(f : Int), (t : Int), ⟨lo, hi⟩⟩ = false) := ⟨by rw [HL.out]; exact decide_eq_false (by omega)⟩
    have s1 : Y - X - 18446744073709551616 < 0 := by omega
    have s2 : ¬ Y < X := by omega
    go_wp2_with fail
    go_ret
    exact ⟨by rw [HL2.out]; rfl, HB2.out⟩
  · have HL2 : Aside0 (liesOn at_ ⟨(f : Int), (t : Int), ⟨lo, hi⟩⟩ = false) := ⟨by rw [HL.out]; exact decide_eq_false (by omega)⟩
    have s1 : ¬ Y - X + 18446744073709551616 < 0 := by omega
    have s2 : Y < X := by omega
    go_wp2_with fail
    go_ret
    exact ⟨by rw [HL2.out]; rfl, HB2.out⟩
set_option maxHeartbeats 3200000 in
set_option maxRecDepth 100000 in
theorem index_calls (L : List S35) (A : Option Addr) (c id : Nat) (cap : Array Value) (p : S35 → Bool) (hent : ∀ args W, Sem.run Try.prog (callFunc id args) W = .ok (.enter id args) W) (w : World) (hr : Kd.C k35 w A L.length L)
    (hcall : ∀ l, l ∈ L → ∀ W, Below w.heap.size w W → Calls Try.prog id (#[.agg #[.int .i64 l.f0, .int .i64 l.f1, .int .i64 l.f2.f0, .int .i64 l.f2.f1]] ++ cap) W fun e w' => e = .returned (.bool (p l)) ∧ Below W.heap.size W w') :
    Calls Try.prog 148 #[.slice A L.length c, .func (.func id) #[] cap] w fun e w' => ∃ r : Int, e = .returned (.int .i64 r) ∧ (0 ≤ r ↔ L.any p = true) ∧ Below w.heap.size w w' := by
  have HR := Aside0.mk hr
  have HC := Aside0.mk hcall
  clear hr hcall
  have hu35 := Try.underlying35
  go_enter Try.func148, Try.ntmps148
  go_wp2_with fail
  go_loopg [8] L.length (fun k v8 w' => ∃ (i : Nat), v8 = .int .i64 i ∧ Aside0 (i + k = L.length) ∧ Aside0 ((L.take i).any p = false) ∧ Aside0 (Below w.heap.size w w'))
  case atStart => exact ⟨0, rfl, ⟨by omega⟩, ⟨by simp⟩, ⟨Below.refl _ _⟩⟩
  case round =>
    obtain ⟨i, rfl, HK, HA, HB⟩ := hrel
    by_cases hi : i < L.length
    · obtain ⟨ad, e0, x0, x1, x2, x3⟩ := at35 (Kd.C_below HR.out HB.out) i hi
      cases e0
      have HCI := Aside0.mk (fun W hW => HC.out L[i] (List.getElem_mem hi) W hW)
      have HNX : Aside0 ((L.take (i + 1)).any p = p L[i]) := ⟨by rw [take_at _ _ hi, List.any_append, HA.out]; simp⟩
      have HAL : Aside0 (p L[i] = true → L.any p = true) := ⟨fun h => List.any_eq_true.2 ⟨L[i], List.getElem_mem hi, h⟩⟩
      generalize L[i] = X at x0 x1 x2 x3 HCI HNX HAL
      generalize p X = b at HCI HNX HAL
      have i1 : (0 : Int) ≤ (i : Int) := by omega
      have i2 : (i : Int) < (L.length : Int) := by omega
      have hmx := Kd.C_max HR.out
      have n1 : IntKind.i64.wrap ((i : Int) + 1) = (i : Int) + 1 := IntWalk.i64_in _ (by omega)
      have n2 : wrap64 ((i : Int) + 1) = (i : Int) + 1 := IntWalk.wrap64_in _ (by omega)
      clear hmx
      go_wp2_with fail
      refine (HCI.out _ HB.out).mono ?_
      rintro e w5 ⟨rfl, hd⟩
      have HB5 := Aside0.mk (below_step HB.out hd)
      clear hd
      cases b with
      | true =>
        go_wp2_with fail
        go_ret
        exact ⟨(i : Int), rfl, ⟨fun _ => by simpa using HAL.out, fun _ => i1⟩, HB5.out⟩
      | false =>
        go_wp2_with fail
        go_roundg (L.length - (i + 1))
        case measure => have := HK.out; omega
        case rel => exact ⟨i + 1, by go_num, ⟨by omega⟩, HNX, HB5⟩
    · have HE : Aside0 (L.any p = false) := ⟨by have := HA.out; rwa [List.take_of_length_le (by omega)] at this⟩
      go_wp2_with fail
      go_ret
      exact ⟨-1, rfl, ⟨fun h => by omega, fun h => by rw [HE.out] at h; simp at h⟩, HB.out⟩
set_option maxHeartbeats 1600000 in
set_option maxRecDepth 100000 in
theorem contains_calls (L : List S35) (A : Option Addr) (c id : Nat) (cap : Array Value) (p : S35 → Bool) (hent : ∀ args W, Sem.run Try.prog (callFunc id args) W = .ok (.enter id args) W) (w : World) (hr : Kd.C k35 w A L.length L)
    (hcall : ∀ l, l ∈ L → ∀ W, Below w.heap.size w W → Calls Try.prog id (#[.agg #[.int .i64 l.f0, .int .i64 l.f1, .int .i64 l.f2.f0, .int .i64 l.f2.f1]] ++ cap) W fun e w' => e = .returned (.bool (p l)) ∧ Below W.heap.size W w') :
    Calls Try.prog 137 #[.slice A L.length c, .func (.func id) #[] cap] w fun e w' => e = .returned (.bool (L.any p)) ∧ Below w.heap.size w w' := by
  have HIX := Aside0.mk (index_calls L A c id cap p hent w hr hcall)
  clear hr hcall
  go_enter Try.func137, Try.ntmps137
  go_wp2_with (first
    | (go_at_call 148; refine HIX.out.mono ?_; rintro e w' ⟨r, rfl, hiff, hd⟩; have HI := Aside0.mk hiff; have HB := Aside0.mk hd; clear hiff hd HIX))
  go_ret
  refine ⟨?_, HB.out⟩
  have : decide (r ≥ 0) = L.any p := by
    cases hq : L.any p with
    | true => exact decide_eq_true (HI.out.2 hq)
    | false => exact decide_eq_false (fun h => by have := HI.out.1 h; rw [hq] at this; simp at this)
  rw [← this]
  rfl
theorem lies_enters (args : Array Value) (W : World) : Sem.run Try.prog (callFunc 138 args) W = .ok (.enter 138 args) W := by
  have h1 : ¬ Try.f138.name = "runtime.NumGoroutine" := by decide
  have h2 : ¬ Try.f138.body = none := fun h => by
    have : Try.f138.body.isSome = false := by rw [h]; rfl
    exact absurd this (by show ¬ (true = false); decide)
  simp [callFunc, go_sem, Try.func138, h1, h2]
def fitsOn (P : Int) (L : List S35) (at_ : List Int) : Bool := decide ((at_.length : Int) = P) && L.all (liesOn at_)
instance (x : Int) : Decidable (InWord x) := by unfold InWord; infer_instance
def mount_fits.f (a0_0 : Int) (l0_1 : List (S35)) (l1 : List Int) : Option (Bool) := if (∀ x, x ∈ l1 → InWord x) ∧ (∀ l, l ∈ l0_1 → linkErr a0_0 l = 0) then some (fitsOn a0_0 l0_1 l1) else none
set_option maxHeartbeats 1600000 in
set_option maxRecDepth 100000 in
theorem mount_fits.calls (a0_0 : Int) (A0_1 : Option Addr) (c0_1 : Nat) (l0_1 : List (S35)) (A1 : Option Addr) (c1 : Nat) (l1 : List Int) (r : Bool) (w : World) (hr0_1 : Kd.C k35 w A0_1 l0_1.length l0_1) (hc0_1 : l0_1.length ≤ c0_1) (hr1 : Kd.C (Kd.int .i64) w A1 l1.length l1) (hc1 : l1.length ≤ c1) (h : mount_fits.f a0_0 l0_1 l1 = some r) :
    Calls Try.prog 110 #[.agg #[.int .i64 a0_0, .slice A0_1 l0_1.length c0_1], .slice A1 l1.length c1] w fun e w' => e = .returned (.bool r) ∧ Below w.heap.size w w' := by
  unfold mount_fits.f at h
  have hg : (∀ x, x ∈ l1 → InWord x) ∧ (∀ l, l ∈ l0_1 → linkErr a0_0 l = 0) := by
    by_cases q : (∀ x, x ∈ l1 → InWord x) ∧ (∀ l, l ∈ l0_1 → linkErr a0_0 l = 0)
    · exact q
    · rw [if_neg q] at h; simp at h
  rw [if_pos hg] at h
  have HF := Aside0.mk (Option.some.inj h)
  have HR := Aside0.mk hr0_1
  have HR1 := Aside0.mk hr1
  have HG := Aside0.mk hg
  have HM := Aside0.mk (Mem.start w)
  clear h hr0_1 hr1 hg
  have hu27 := Try.underlying27
  by_cases hn : (l1.length : Int) = a0_0
  · have HF2 : Aside0 (r = !(l0_1.any (fun l => !liesOn l1 l))) := ⟨by rw [← HF.out]; unfold fitsOn; rw [decide_eq_true hn]; simp [List.all_eq_not_any_not]⟩
    have t1 : ((l1.length : Int) != a0_0) = false := by simp [hn]
    generalize hb : l0_1.any (fun l => !liesOn l1 l) = b at HF2
    have HBB := Aside0.mk hb
    clear hb
    go_enter Try.func110, Try.ntmps110
    go_wp2_with (first
      | ((with_reducible refine gate_dst (N := 2) rfl ?_); refine ev_box HM.out rfl 27 (.tmp 0) rfl (cs := #[.int .i64 a0_0, .slice A0_1 l0_1.length c0_1]) rfl ?_; intro g1 w1 hm1 hq1; clear hq1; have HM1 := Aside0.mk hm1; clear hm1 HM)
      | ((with_reducible refine gate_dst (N := 3) rfl ?_); refine box_event ?hg (N := 3) ?hd (cs := #[.slice A1 l1.length c1]) (t := 22) ?hr ?_; (case hd => rfl); (case hg => rfl); (case hr => first | (go_simp; done) | (go_simp; rfl)); intro g2 hg2 w2 hbox hb; have HM2 := Aside0.mk (HM1.out.new hg2 hbox hb); clear hg2 hbox hb HM1; have c0 : w2.cell? ⟨g2, 0, none⟩ = some (.slice A1 l1.length c1) := (HM2.out.cell 0).trans rfl; have c1_ : w2.cell? ⟨g1, 0, none⟩ = some (.int .i64 a0_0) := (blk_cell HM2.out.second 0).trans rfl; have c2 : w2.cell? ⟨g1, 1, none⟩ = some (.slice A0_1 l0_1.length c0_1) := (blk_cell HM2.out.second 1).trans rfl)
      | (go_at_call 137; refine (contains_calls l0_1 A0_1 c0_1 138 #[.pointer (some ⟨g2, 0, none⟩)] (fun l => !liesOn l1 l) lies_enters _ (Kd.C_below HR.out HM2.out.below) (fun l hl W hW => lies_calls l1 A1 c1 g2 l W (cell_later hW c0) (Kd.C_below (Kd.C_below HR1.out HM2.out.below) hW) HG.out.1 a0_0 (HG.out.2 l hl) hn.symm)).mono ?_; rintro e w3 ⟨rfl, hd⟩; rw [HBB.out]; have HB3 := Aside0.mk (below_step HM2.out.below hd); clear hd))
    go_ret
    exact ⟨by rw [HF2.out]; rfl, HB3.out⟩
  · have HF2 : Aside0 (r = false) := ⟨by rw [← HF.out]; unfold fitsOn; rw [decide_eq_false hn]; rfl⟩
    have t1 : ((l1.length : Int) != a0_0) = true := by simp [hn]
    go_enter Try.func110, Try.ntmps110
    go_wp2_with (first
      | ((with_reducible refine gate_dst (N := 2) rfl ?_); refine ev_box HM.out rfl 27 (.tmp 0) rfl (cs := #[.int .i64 a0_0, .slice A0_1 l0_1.length c0_1]) rfl ?_; intro g1 w1 hm1 hq1; clear hq1; have HM1 := Aside0.mk hm1; clear hm1 HM)
      | ((with_reducible refine gate_dst (N := 3) rfl ?_); refine box_event ?hg (N := 3) ?hd (cs := #[.slice A1 l1.length c1]) (t := 22) ?hr ?_; (case hd => rfl); (case hg => rfl); (case hr => first | (go_simp; done) | (go_simp; rfl)); intro g2 hg2 w2 hbox hb; have HM2 := Aside0.mk (HM1.out.new hg2 hbox hb); clear hg2 hbox hb HM1; have c0 : w2.cell? ⟨g2, 0, none⟩ = some (.slice A1 l1.length c1) := (HM2.out.cell 0).trans rfl; have c1_ : w2.cell? ⟨g1, 0, none⟩ = some (.int .i64 a0_0) := (blk_cell HM2.out.second 0).trans rfl))
    go_ret
    exact ⟨by rw [HF2.out]; rfl, HM2.out.below⟩
def mount_Fits.f (a0_0 : Int) (l0_1 : List (S35)) (l1 : List Int) : Option (Bool) := if ∀ x, x ∈ l1 → InWord x then some (decide (chainErr a0_0 l0_1 = 0) && fitsOn a0_0 l0_1 l1) else none
theorem chainErr_links {P : Int} {L : List S35} (h : chainErr P L = 0) : ∀ l, l ∈ L → linkErr P l = 0 := by
  unfold chainErr at h
  split at h
  · omega
  · split at h
    · omega
    · split at h
      · rename_i l hl
        have := List.find?_some hl
        simp [h] at this
      · rename_i hl
        intro l hm
        have := List.find?_eq_none.1 hl l hm
        simpa using this
set_option maxHeartbeats 1600000 in
set_option maxRecDepth 100000 in
theorem mount_Fits.calls (a0_0 : Int) (A0_1 : Option Addr) (c0_1 : Nat) (l0_1 : List (S35)) (A1 : Option Addr) (c1 : Nat) (l1 : List Int) (r : Bool) (w : World) (hr0_1 : Kd.C k35 w A0_1 l0_1.length l0_1) (hc0_1 : l0_1.length ≤ c0_1) (hr1 : Kd.C (Kd.int .i64) w A1 l1.length l1) (hc1 : l1.length ≤ c1) (h : mount_Fits.f a0_0 l0_1 l1 = some r) :
    Calls Try.prog 51 #[.agg #[.int .i64 a0_0, .slice A0_1 l0_1.length c0_1], .slice A1 l1.length c1] w fun e w' => e = .returned (.bool r) ∧ Below w.heap.size w w' := by
  unfold mount_Fits.f at h
  have hg : ∀ x, x ∈ l1 → InWord x := by
    by_cases q : ∀ x, x ∈ l1 → InWord x
    · exact q
    · rw [if_neg q] at h; simp at h
  rw [if_pos hg] at h
  have HF := Aside0.mk (Option.some.inj h)
  have HR := Aside0.mk hr0_1
  have HR1 := Aside0.mk hr1
  have HG := Aside0.mk hg
  have HM := Aside0.mk (Mem.start w)
  have HCC := Aside0.mk (fun W hW => mount_CheckChain.calls a0_0 A0_1 c0_1 l0_1 (chainErr a0_0 l0_1) W hW hc0_1 rfl)
  clear h hr0_1 hr1 hg
  have hu27 := Try.underlying27
  by_cases he : chainErr a0_0 l0_1 = 0
  · have HF2 : Aside0 (mount_fits.f a0_0 l0_1 l1 = some r) := ⟨by unfold mount_fits.f; rw [if_pos ⟨HG.out, chainErr_links he⟩, ← HF.out, decide_eq_true he]; rfl⟩
    rw [he] at HCC
    clear he HF
    go_enter Try.func51, Try.ntmps51
    go_wp2_with (first
      | ((with_reducible refine gate_dst (N := 2) rfl ?_); refine ev_box HM.out rfl 27 (.tmp 0) rfl (cs := #[.int .i64 a0_0, .slice A0_1 l0_1.length c0_1]) rfl ?_; intro g1 w1 hm1 hq1; clear hq1; have HM1 := Aside0.mk hm1; clear hm1 HM)
      | ((with_reducible refine gate_dst (N := 5) rfl ?_); refine ev_load HM1.out.head rfl 27 (.tmp 2) rfl rfl _ Try.underlying27 rfl (n := 2) (by kernel_rfl) rfl ?_)
      | (go_at_call 53; refine (HCC.out _ (Kd.C_below HR.out HM1.out.below)).mono ?_; rintro e w2 ⟨rfl, hd⟩; have HM2 := Aside0.mk (HM1.out.step hd); have c0 : w2.cell? ⟨g1, 0, none⟩ = some (.int .i64 a0_0) := (HM2.out.cell 0).trans rfl; have c1_ : w2.cell? ⟨g1, 1, none⟩ = some (.slice A0_1 l0_1.length c0_1) := (HM2.out.cell 1).trans rfl; clear hd HM1)
      | (go_at_call 110; refine (mount_fits.calls a0_0 A0_1 c0_1 l0_1 A1 c1 l1 r _ (Kd.C_below HR.out HM2.out.below) hc0_1 (Kd.C_below HR1.out HM2.out.below) hc1 HF2.out).mono ?_; rintro e w3 ⟨rfl, hd⟩; have HB3 := Aside0.mk (below_step HM2.out.below hd); clear hd))
    go_ret
    exact ⟨rfl, HB3.out⟩
  · have HF2 : Aside0 (r = false) := ⟨by rw [← HF.out, decide_eq_false he]; rfl⟩
    generalize chainErr a0_0 l0_1 = E at he HCC
    have t1 : (E == 0) = false := by simpa using he
    clear he HF
    go_enter Try.func51, Try.ntmps51
    go_wp2_with (first
      | ((with_reducible refine gate_dst (N := 2) rfl ?_); refine ev_box HM.out rfl 27 (.tmp 0) rfl (cs := #[.int .i64 a0_0, .slice A0_1 l0_1.length c0_1]) rfl ?_; intro g1 w1 hm1 hq1; clear hq1; have HM1 := Aside0.mk hm1; clear hm1 HM)
      | ((with_reducible refine gate_dst (N := 5) rfl ?_); refine ev_load HM1.out.head rfl 27 (.tmp 2) rfl rfl _ Try.underlying27 rfl (n := 2) (by kernel_rfl) rfl ?_)
      | (go_at_call 53; refine (HCC.out _ (Kd.C_below HR.out HM1.out.below)).mono ?_; rintro e w2 ⟨rfl, hd⟩; have HM2 := Aside0.mk (HM1.out.step hd); clear hd HM1))
    go_ret
    exact ⟨by rw [HF2.out]; rfl, HM2.out.below⟩
end Go.Proofs.Ytbcfphoheijmdaa.Print
end

section
/- Plain law of MountReached: far and near positions fit, reach the ends of tight ranges and keep to all of them. -/
namespace Go.Proofs.Ytbcfphoheijmdaa.Print
open Go.RowKit Go.Proofs.YtbcfphoheijmdaaW.PrintWords Go.Proofs.YtbcfphoheijmdaaW.PrintLast Go.Proofs.YtbcfphoheijmdaaW.PrintMore Go.Proofs.Ytbcfphoheijmdaa.H
set_option linter.unusedVariables false
set_option linter.unusedSimpArgs false

/-- The far (or near) positions. -/
def endsL (high : Bool) (n : Nat) (T : List Int) (a : Nat) : List Int := (List.range n).map (fun b => endOf high (spanOf T a b))
theorem endsL_len (high : Bool) (n : Nat) (T : List Int) (a : Nat) : (endsL high n T a).length = n := by simp [endsL]
theorem endsL_get (high : Bool) (n : Nat) (T : List Int) (a i : Nat) (h : i < n) : (endsL high n T a).getD i 0 = endOf high (spanOf T a i) := by
  simp [endsL, List.getD_eq_getElem?_getD, h]
theorem endOf_hi (T : List Int) (a b : Nat) : endOf true (spanOf T a b) = tf T a b := rfl
theorem endOf_lo (T : List Int) (a b : Nat) : endOf false (spanOf T a b) = -(tf T b a) := rfl
theorem ends_ok {n : Nat} {L : List S35} {a : Nat} (high : Bool) (h : (tightOf n L).2 = 0) (ha : a < n) : endsRes high n L a = (endsL high n (tightOf n L).1 a, 0) := by
  unfold endsRes endsL
  rw [if_pos h, if_pos (by omega), Int.toNat_natCast, Int.toNat_natCast]
theorem ends_clash {n : Nat} {L : List S35} {a : Int} (high : Bool) (h : (tightOf n L).2 = 12) : endsRes high n L a = ([], 12) := by
  unfold endsRes
  rw [if_neg (by rw [h]; decide), h]
theorem Tog.fits {n : Nat} {L : List S35} {T : List Int} (h : Tog n L T) (high : Bool) {a : Nat} (ha : a < n) : mount_Fits.f n L (endsL high n T a) = some true := by
  have hL : ∀ l, l ∈ L → l.f0.toNat < n ∧ l.f1.toNat < n := fun l hl => by
    have := linkErr_ok ((chainErr_ok h.ok).2.2.2 l hl)
    omega
  unfold mount_Fits.f
  rw [if_pos (fun x hx => ?_)]
  · rw [decide_eq_true h.ok]
    unfold fitsOn
    rw [endsL_len, decide_eq_true rfl]
    have : L.all (liesOn (endsL high n T a)) = true := by
      rw [List.all_eq_true]
      intro l hl
      obtain ⟨h1, h2⟩ := hL l hl
      unfold liesOn
      rw [endsL_get _ _ _ _ _ h1, endsL_get _ _ _ _ _ h2]
      refine decide_eq_true ?_
      cases high with
      | true => exact h.is.reach a ha l hl
      | false => exact h.is.near hL ha l hl
    rw [this]
    rfl
  · obtain ⟨b, hb, rfl⟩ := List.mem_map.1 hx
    have s1 := h.sm a b
    have s2 := h.sm b a
    unfold InWord
    cases high with
    | true => rw [endOf_hi]; omega
    | false => rw [endOf_lo]; omega
theorem Tog.fits_calls {n : Nat} {L : List S35} {T : List Int} (h : Tog n L T) (high : Bool) {a : Nat} (ha : a < n) (A A' : Option Addr) (c c' : Nat) (W : World) (hW : Kd.C k35 W A L.length L) (hc : L.length ≤ c) (hX : Kd.C (Kd.int .i64) W A' n (endsL high n T a)) (hc' : n ≤ c') :
    Calls Try.prog 51 #[.agg #[.int .i64 n, .slice A L.length c], .slice A' n c'] W fun e w' => e = .returned (.bool true) ∧ Below W.heap.size W w' := by
  have e := endsL_len high n T a
  have := mount_Fits.calls n A c L A' c' (endsL high n T a) true W hW hc (by rw [e]; exact hX) (by rw [e]; exact hc') (h.fits high ha)
  rw [e] at this
  exact this
/-- What is asked of two points' positions. -/
theorem Tog.keeps {n : Nat} {L : List S35} {T : List Int} (h : Tog n L T) (high : Bool) {a i k : Nat} (ha : a < n) (hi : i < n) (hk : k < n) :
    IntKind.i64.wrap (endOf high (spanOf T a k) - endOf high (spanOf T a i)) = endOf high (spanOf T a k) - endOf high (spanOf T a i) ∧
    decide (endOf high (spanOf T a k) - endOf high (spanOf T a i) < (spanOf T i k).f0) = false ∧ decide ((spanOf T i k).f1 < endOf high (spanOf T a k) - endOf high (spanOf T a i)) = false := by
  have s1 := h.sm a k
  have s2 := h.sm a i
  have s3 := h.sm k a
  have s4 := h.sm i a
  have t1 := h.is.tri ha hi hk
  have t2 := h.is.tri ha hk hi
  have t3 := h.is.tri hi hk ha
  have t4 := h.is.tri hk hi ha
  rw [span_lo, span_hi]
  cases high with
  | true =>
    rw [endOf_hi, endOf_hi]
    exact ⟨IntWalk.i64_in _ (by omega), decide_eq_false (by omega), decide_eq_false (by omega)⟩
  | false =>
    rw [endOf_lo, endOf_lo]
    exact ⟨IntWalk.i64_in _ (by omega), decide_eq_false (by omega), decide_eq_false (by omega)⟩
theorem Tog.zero {n : Nat} {L : List S35} {T : List Int} (h : Tog n L T) (high : Bool) {a : Nat} (ha : a < n) : endOf high (spanOf T a a) = 0 := by
  have s := h.is.self a ha
  cases high with
  | true => rw [endOf_hi, s]
  | false => rw [endOf_lo, s]; rfl
end Go.Proofs.Ytbcfphoheijmdaa.Print
end
