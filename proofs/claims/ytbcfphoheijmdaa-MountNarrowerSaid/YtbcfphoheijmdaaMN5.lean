/- Part 5 of the texts of a claim about Ytbcfphoheijmdaa, put together by a program of this work: what the Go functions do, and that their calls do so. -/
import Derived.Test.YtbcfphoheijmdaaMN3
import Derived.Test.YtbcfphoheijmdaaMN4
import Derived.KernelRfl
section
/- What the Go function thermionlaw04_awake does, as a Lean function, and that its call does so. Printed by a program of this work out of the translation. -/
namespace Go.Proofs.Ytbcfphoheijmdaa.Print
open Go.RowKit Go.Proofs.YtbcfphoheijmdaaW.PrintWords Go.Proofs.YtbcfphoheijmdaaW.PrintLast Go.Proofs.YtbcfphoheijmdaaW.PrintMore
attribute [local go_sem] max2_int min2_int max_two min_two max_three min_three max_four min_four
set_option linter.unusedVariables false
set_option linter.unusedSimpArgs false

/-! ### thermionlaw04_awake: function 21 -/
def thermionlaw04_awake.f (k : Nat)  : Option (Bool) := (thermionlaw04_chain.f).bind fun bt144 => ((mount_Tight.f bt144.1 bt144.2).bind fun bt148 => ((thermionlaw04_kit.f).bind fun bt152 => ((mount_Orders.f bt152.1 bt152.2).bind fun bt156 => (if bt148.2 = 0 then (if (bt148.1.length : Int) = 3 then (if 0 < (bt148.1.length : Int) then ((thermionlaw04_of.f 10 12).bind fun bt159 => ((thermionlaw04_of.f 17 18).bind fun bt161 => ((thermionkit_SameRanges.f k (rd_L6 bt148.1 0) (([(⟨0, 0⟩ : S32), (⟨bt159.1, bt159.2⟩ : S32), (⟨bt161.1, bt161.2⟩ : S32)] : List (S32)))).bind fun t166 => (if t166 = true then (if bt156.1 = 2 then (some (bt156.2 == 0)) else (some false)) else (some false))))) else (none)) else (some false)) else (some false)))))
theorem thermionlaw04_awake.mono : ∀ k, LeO (thermionlaw04_awake.f k ) (thermionlaw04_awake.f (k + 1) ) := by
 intro  k
 unfold thermionlaw04_awake.f
 repeat' first
   | (with_reducible exact thermionkit_SameRanges.mono _ _ _)
   | (with_reducible exact LeO.refl _)
   | (with_reducible exact LeO.none _)
   | (with_reducible refine LeO.ite ?_ ?_)
   | (with_reducible refine LeO.bind ?_ (fun _ => ?_))
   | exact thermionkit_SameRanges.mono _ _ _
   | exact LeO.none _
   | refine LeO.ite ?_ ?_
   | refine LeO.bind ?_ (fun _ => ?_)
def thermionlaw04_awake.T3 : Bool × List (List Nat × List Nat) := (true, [([], []), ([0], [0]), ([1], [1]), ([2], [2]), ([3, 2], [2, 3]), ([4, 2], [2, 4]), ([2, 5], [2, 5]), ([6, 2], [6]), ([7], [7]), ([8, 7], [7, 8]), ([9, 7], [7, 9]), ([7], [7]), ([7, 7], [7]), ([12, 7], [7]), ([11, 12, 13, 7], [7, 11, 12, 13]), ([10, 14, 13, 7], [7, 10, 14]), ([7, 15], [7, 15]), ([16, 15], [16]), ([17], [17]), ([18, 17], [17, 18]), ([17, 19], [17, 19]), ([20, 17], [20]), ([21], [21]), ([22, 21], [21, 22]), ([21, 23], [21, 23]), ([24, 21, 0, 1, 2, 3, 4, 5, 6, 7, 8, 9, 10, 11, 12, 13, 14, 15, 16, 17, 18, 19, 20, 21, 22, 23, 24], [24])])
def thermionlaw04_awake.B3 : List Nat := [0, 1, 3, 7, 15, 31, 63, 127, 255, 511, 1023, 255, 255, 4351, 14591, 32767, 65535, 131071, 262143, 524287, 1048575, 2097151, 4194303, 8388607, 16777215, 33554431]
theorem thermionlaw04_awake.tab3 : rtab .any (opsOf Try.f21 3) = thermionlaw04_awake.T3 := by kernel_rfl
theorem thermionlaw04_awake.bits3 : waitsOk thermionlaw04_awake.T3.2 thermionlaw04_awake.B3 = true := by kernel_rfl
set_option maxHeartbeats 8000000 in
set_option maxRecDepth 100000 in
theorem thermionlaw04_awake.calls (k : Nat)  (r : Bool) (w : World) (h : thermionlaw04_awake.f k  = some r) :
  Calls Try.prog 21 #[] w fun e w' => e = .returned (.bool r) ∧ Below w.heap.size w w' := by
 have hu32 := Try.underlying32
 have HB := Aside0.mk (Below.refl w.heap.size w)
 have H : ((thermionlaw04_chain.f).bind fun bt144 => ((mount_Tight.f bt144.1 bt144.2).bind fun bt148 => ((thermionlaw04_kit.f).bind fun bt152 => ((mount_Orders.f bt152.1 bt152.2).bind fun bt156 => (if bt148.2 = 0 then (if (bt148.1.length : Int) = 3 then (if 0 < (bt148.1.length : Int) then ((thermionlaw04_of.f 10 12).bind fun bt159 => ((thermionlaw04_of.f 17 18).bind fun bt161 => ((thermionkit_SameRanges.f k (rd_L6 bt148.1 0) (([(⟨0, 0⟩ : S32), (⟨bt159.1, bt159.2⟩ : S32), (⟨bt161.1, bt161.2⟩ : S32)] : List (S32)))).bind fun t166 => (if t166 = true then (if bt156.1 = 2 then (some (bt156.2 == 0)) else (some false)) else (some false))))) else (none)) else (some false)) else (some false)))))) = some r := h
 clear h
 replace H := Option.bind_eq_some_iff.mp H
 obtain ⟨⟨t144, t145⟩, A10, H⟩ := H
 replace H : ((mount_Tight.f t144 t145).bind fun bt148 => ((thermionlaw04_kit.f).bind fun bt152 => ((mount_Orders.f bt152.1 bt152.2).bind fun bt156 => (if bt148.2 = 0 then (if (bt148.1.length : Int) = 3 then (if 0 < (bt148.1.length : Int) then ((thermionlaw04_of.f 10 12).bind fun bt159 => ((thermionlaw04_of.f 17 18).bind fun bt161 => ((thermionkit_SameRanges.f k (rd_L6 bt148.1 0) (([(⟨0, 0⟩ : S32), (⟨bt159.1, bt159.2⟩ : S32), (⟨bt161.1, bt161.2⟩ : S32)] : List (S32)))).bind fun t166 => (if t166 = true then (if bt156.1 = 2 then (some (bt156.2 == 0)) else (some false)) else (some false))))) else (none)) else (some false)) else (some false))))) = some r := H
 have A1 := Aside0.mk A10
 clear A10
 replace H := Option.bind_eq_some_iff.mp H
 obtain ⟨⟨t148, t151⟩, A20, H⟩ := H
 replace H : ((thermionlaw04_kit.f).bind fun bt152 => ((mount_Orders.f bt152.1 bt152.2).bind fun bt156 => (if t151 = 0 then (if (t148.length : Int) = 3 then (if 0 < (t148.length : Int) then ((thermionlaw04_of.f 10 12).bind fun bt159 => ((thermionlaw04_of.f 17 18).bind fun bt161 => ((thermionkit_SameRanges.f k (rd_L6 t148 0) (([(⟨0, 0⟩ : S32), (⟨bt159.1, bt159.2⟩ : S32), (⟨bt161.1, bt161.2⟩ : S32)] : List (S32)))).bind fun t166 => (if t166 = true then (if bt156.1 = 2 then (some (bt156.2 == 0)) else (some false)) else (some false))))) else (none)) else (some false)) else (some false)))) = some r := H
 have A2 := Aside0.mk A20
 clear A20
 replace H := Option.bind_eq_some_iff.mp H
 obtain ⟨⟨t152, t155⟩, A30, H⟩ := H
 replace H : ((mount_Orders.f t152 t155).bind fun bt156 => (if t151 = 0 then (if (t148.length : Int) = 3 then (if 0 < (t148.length : Int) then ((thermionlaw04_of.f 10 12).bind fun bt159 => ((thermionlaw04_of.f 17 18).bind fun bt161 => ((thermionkit_SameRanges.f k (rd_L6 t148 0) (([(⟨0, 0⟩ : S32), (⟨bt159.1, bt159.2⟩ : S32), (⟨bt161.1, bt161.2⟩ : S32)] : List (S32)))).bind fun t166 => (if t166 = true then (if bt156.1 = 2 then (some (bt156.2 == 0)) else (some false)) else (some false))))) else (none)) else (some false)) else (some false))) = some r := H
 have A3 := Aside0.mk A30
 clear A30
 replace H := Option.bind_eq_some_iff.mp H
 obtain ⟨⟨t156, t157⟩, A40, H⟩ := H
 replace H : (if t151 = 0 then (if (t148.length : Int) = 3 then (if 0 < (t148.length : Int) then ((thermionlaw04_of.f 10 12).bind fun bt159 => ((thermionlaw04_of.f 17 18).bind fun bt161 => ((thermionkit_SameRanges.f k (rd_L6 t148 0) (([(⟨0, 0⟩ : S32), (⟨bt159.1, bt159.2⟩ : S32), (⟨bt161.1, bt161.2⟩ : S32)] : List (S32)))).bind fun t166 => (if t166 = true then (if t156 = 2 then (some (t157 == 0)) else (some false)) else (some false))))) else (none)) else (some false)) else (some false)) = some r := H
 have A4 := Aside0.mk A40
 clear A40
 by_cases c5 : t151 = 0
 ·rw [if_pos c5] at H
  have c5b0 : (t151 == 0) = true := beq_iff_eq.mpr c5
  have c5b1 : (t151 != 0) = false := bne_eq_false_iff_eq.mpr c5
  clear c5
  by_cases c6 : (t148.length : Int) = 3
  ·rw [if_pos c6] at H
   have c6b0 : ((t148.length : Int) == 3) = true := beq_iff_eq.mpr c6
   have c6b1 : ((t148.length : Int) != 3) = false := bne_eq_false_iff_eq.mpr c6
   clear c6
   by_cases c7 : 0 < (t148.length : Int)
   ·rw [if_pos c7] at H
    have c7b0 : decide (0 < (t148.length : Int)) = true := decide_eq_true c7
    have c7b1 : decide (0 < t148.length) = true := decide_eq_true (by omega)
    clear c7
    replace H := Option.bind_eq_some_iff.mp H
    obtain ⟨⟨t159, t160⟩, A80, H⟩ := H
    replace H : ((thermionlaw04_of.f 17 18).bind fun bt161 => ((thermionkit_SameRanges.f k (rd_L6 t148 0) (([(⟨0, 0⟩ : S32), (⟨t159, t160⟩ : S32), (⟨bt161.1, bt161.2⟩ : S32)] : List (S32)))).bind fun t166 => (if t166 = true then (if t156 = 2 then (some (t157 == 0)) else (some false)) else (some false)))) = some r := H
    have A8 := Aside0.mk A80
    clear A80
    replace H := Option.bind_eq_some_iff.mp H
    obtain ⟨⟨t161, t162⟩, A90, H⟩ := H
    replace H : ((thermionkit_SameRanges.f k (rd_L6 t148 0) (([(⟨0, 0⟩ : S32), (⟨t159, t160⟩ : S32), (⟨t161, t162⟩ : S32)] : List (S32)))).bind fun t166 => (if t166 = true then (if t156 = 2 then (some (t157 == 0)) else (some false)) else (some false))) = some r := H
    have A9 := Aside0.mk A90
    clear A90
    obtain ⟨y163, hy163⟩ : ∃ y_ : List (S32), y_ = (([(⟨0, 0⟩ : S32), (⟨t159, t160⟩ : S32), (⟨t161, t162⟩ : S32)] : List (S32))) := ⟨_, rfl⟩
    replace H : ((thermionkit_SameRanges.f k (rd_L6 t148 0) y163).bind fun t166 => (if t166 = true then (if t156 = 2 then (some (t157 == 0)) else (some false)) else (some false))) = some r := by first | (rw [hy163]; with_reducible exact H) | (have H2_ := (Option.bind_some _ _).symm.trans H; rw [hy163]; with_reducible exact H2_) | (have H2_ := (Option.bind_some _ _).symm.trans H; with_reducible exact H2_) | with_reducible exact H | (rw [hy163]; exact H) | exact H
    have Ny163 := Aside0.mk hy163
    clear hy163
    replace H := Option.bind_eq_some_iff.mp H
    obtain ⟨t166, A100, H⟩ := H
    replace H : (if t166 = true then (if t156 = 2 then (some (t157 == 0)) else (some false)) else (some false)) = some r := H
    have A10 := Aside0.mk A100
    clear A100
    by_cases c11 : t166 = true
    ·subst c11
     have H1 : (if t156 = 2 then (some (t157 == 0)) else (some false)) = some r := by rw [if_pos rfl] at H; exact H
     clear H
     have H := H1
     clear H1
     by_cases c12 : t156 = 2
     ·rw [if_pos c12] at H
      have c12b0 : (t156 == 2) = true := beq_iff_eq.mpr c12
      have c12b1 : (t156 != 2) = false := bne_eq_false_iff_eq.mpr c12
      clear c12
      obtain rfl := Option.some.inj H
      go_enter Try.func21, Try.ntmps21
      try go_wp2_with (first | ((with_reducible refine gate_callee (f := 87) rfl ?_); refine goesL_ (some 6) rfl rfl Try.func87 (by kernel_rfl) rfl #[] rfl (by (try simp only [List.map_toArray, List.map_cons, List.map_nil]); first | done | rfl | (simp only [List.length_drop, List.length_take]; rfl)) ?_; (with_reducible refine (thermionlaw04_chain.calls  t144 t145 _ A1.out).mono ?_); rintro e w13 ⟨v146, rfl, ho0, hb⟩; refine ⟨_, rfl, ?_⟩; have n0_ := Aside0.mk (Kd.R_lower ho0 (below_size (by repeat (first | (with_reducible first | exact HB.out | apply below_alloc | apply pw_below_drewN | apply below_drew1) | exact HB.out)))); have n1_ := Aside0.mk (below_step (by repeat (first | (with_reducible first | exact HB.out | apply below_alloc | apply pw_below_drewN | apply below_drew1) | exact HB.out)) hb); clear HB; have HO147 := n0_; have HB := n1_; clear n0_ n1_; (try clear hb); (try clear hb2); (try clear hk); (try clear hi); (try clear ho0); obtain ⟨Ao14, co14, eo14⟩ := Kd.R_slice HO147.out; subst eo14) | ((with_reducible refine gate_callee (f := 24) rfl ?_); refine goesL_ (some 7) rfl rfl Try.func24 (by kernel_rfl) rfl #[.agg #[.int .i64 t144, .slice Ao14 t145.length co14]] rfl (by (try simp only [List.map_toArray, List.map_cons, List.map_nil]); first | done | rfl | (simp only [List.length_drop, List.length_take]; rfl)) ?_; (with_reducible refine (mount_Tight.calls t144 _ _ t145 t148 t151 _ ?side1 ?side2 A2.out).mono ?_); (case side1 => repeat (first | exact (Kd.R_reads' HO147.out).2.2 | (with_reducible refine Kd.C_alloc ?_ _) | (with_reducible refine Kd.C_drewN ?_ _) | (with_reducible refine Kd.C_drew ?_))); (case side2 => exact (Kd.R_reads' HO147.out).2.1); rintro e w15 ⟨v149, rfl, ho0, hb⟩; refine ⟨_, rfl, ?_⟩; have n0_ := Aside0.mk (Kd.R_below (by (with_reducible repeat (first | apply Kd.R_alloc | apply Kd.R_drewN | apply Kd.R_drew)); exact HO147.out) hb); have n1_ := Aside0.mk (Kd.N_lower (Kd.N_mono (ok' := fun k_ => some k_ ≠ (.slice Ao14 t145.length co14 : Value).ownBlock) (Kd.S_N (Kd.S_bound ho0)) (fun k_ hk_ => (Kd.fresh' (Kd.R_lt (by (with_reducible repeat (first | apply Kd.R_alloc | apply Kd.R_drewN | apply Kd.R_drew)); exact HO147.out)) k_ hk_.2.1))) (below_size (by repeat (first | (with_reducible first | exact HB.out | apply below_alloc | apply pw_below_drewN | apply below_drew1) | exact HB.out)))); have n2_ := Aside0.mk (below_step (by repeat (first | (with_reducible first | exact HB.out | apply below_alloc | apply pw_below_drewN | apply below_drew1) | exact HB.out)) hb); clear HO147; clear HB; have HO147 := n0_; have HO150 := n1_; have HB := n2_; clear n0_ n1_ n2_; (try clear hb); (try clear hb2); (try clear hk); (try clear hi); (try clear ho0)) | ((with_reducible refine gate_callee (f := 59) rfl ?_); refine goesL_ (some 11) rfl rfl Try.func59 (by kernel_rfl) rfl #[] rfl (by (try simp only [List.map_toArray, List.map_cons, List.map_nil]); first | done | rfl | (simp only [List.length_drop, List.length_take]; rfl)) ?_; (with_reducible refine (thermionlaw04_kit.calls  t152 t155 _ A3.out).mono ?_); rintro e w16 ⟨v153, rfl, ho0, hb⟩; refine ⟨_, rfl, ?_⟩; have n0_ := Aside0.mk (Kd.R_below (by (with_reducible repeat (first | apply Kd.R_alloc | apply Kd.R_drewN | apply Kd.R_drew)); exact HO147.out) hb); have n1_ := Aside0.mk (Kd.N_elder' (by (with_reducible repeat (first | apply Kd.N_alloc | apply Kd.N_drewN | apply Kd.N_drew)); exact HO150.out) (Kd.N_base ho0) hb); have n2_ := Aside0.mk (Kd.N_lower (Kd.N_mono (ok' := fun k_ => some k_ ≠ (.slice Ao14 t145.length co14 : Value).ownBlock ∧ some k_ ≠ (v149 : Value).ownBlock) ho0 (fun k_ hk_ => ⟨(Kd.fresh' (Kd.R_lt (by (with_reducible repeat (first | apply Kd.R_alloc | apply Kd.R_drewN | apply Kd.R_drew)); exact HO147.out)) k_ hk_), (Kd.fresh' (Kd.N_lt (by (with_reducible repeat (first | apply Kd.N_alloc | apply Kd.N_drewN | apply Kd.N_drew)); exact HO150.out)) k_ hk_)⟩)) (below_size (by repeat (first | (with_reducible first | exact HB.out | apply below_alloc | apply pw_below_drewN | apply below_drew1) | exact HB.out)))); have n3_ := Aside0.mk (below_step (by repeat (first | (with_reducible first | exact HB.out | apply below_alloc | apply pw_below_drewN | apply below_drew1) | exact HB.out)) hb); clear HO147; clear HO150; clear HB; have HO147 := n0_; have HO150 := n1_; have HO154 := n2_; have HB := n3_; clear n0_ n1_ n2_ n3_; (try clear hb); (try clear hb2); (try clear hk); (try clear hi); (try clear ho0); obtain ⟨Ao17, co17, eo17⟩ := Kd.N_slice HO154.out; subst eo17) | ((with_reducible refine gate_callee (f := 30) rfl ?_); refine goesL_ (some 12) rfl rfl Try.func30 (by kernel_rfl) rfl #[.agg #[.slice Ao17 t152.length co17, .int .i64 t155]] rfl (by (try simp only [List.map_toArray, List.map_cons, List.map_nil]); first | done | rfl | (simp only [List.length_drop, List.length_take]; rfl)) ?_; (with_reducible refine (mount_Orders.calls _ _ t152 t155 t156 t157 _ ?side1 ?side2 A4.out).mono ?_); (case side1 => repeat (first | exact (Kd.N_reads' HO154.out).2.2 | (with_reducible refine Kd.C_alloc ?_ _) | (with_reducible refine Kd.C_drewN ?_ _) | (with_reducible refine Kd.C_drew ?_))); (case side2 => exact (Kd.N_reads' HO154.out).2.1); rintro e w18 ⟨rfl, hb⟩; refine ⟨_, rfl, ?_⟩; have n0_ := Aside0.mk (Kd.R_below (by (with_reducible repeat (first | apply Kd.R_alloc | apply Kd.R_drewN | apply Kd.R_drew)); exact HO147.out) hb); have n1_ := Aside0.mk (Kd.N_below (by (with_reducible repeat (first | apply Kd.N_alloc | apply Kd.N_drewN | apply Kd.N_drew)); exact HO150.out) hb); have n2_ := Aside0.mk (Kd.N_below (by (with_reducible repeat (first | apply Kd.N_alloc | apply Kd.N_drewN | apply Kd.N_drew)); exact HO154.out) hb); have n3_ := Aside0.mk (below_step (by repeat (first | (with_reducible first | exact HB.out | apply below_alloc | apply pw_below_drewN | apply below_drew1) | exact HB.out)) hb); clear HO147; clear HO150; clear HO154; clear HB; have HO147 := n0_; have HO150 := n1_; have HO154 := n2_; have HB := n3_; clear n0_ n1_ n2_ n3_; (try clear hb); (try clear hb2); (try clear hk); (try clear hi)))
      have n0_ := Aside0.mk (Kd.R_drew HO147.out)
      have n1_ := Aside0.mk (Kd.N_drew HO150.out)
      have n2_ := Aside0.mk (Kd.N_drew HO154.out)
      have n3_ := Aside0.mk (below_drew1 HB.out)
      clear HO147
      clear HO150
      clear HO154
      clear HB
      have HO147 := n0_
      have HO150 := n1_
      have HO154 := n2_
      have HB := n3_
      clear n0_ n1_ n2_ n3_
      obtain ⟨Ao20, co20, eo20⟩ := Kd.N_slice HO150.out
      (first | subst eo20 | (injection eo20 with f1_ f2_ f3_; have f4_ := f1_.symm; have f5_ := f3_.symm; clear f1_ f2_ f3_; subst f4_; subst f5_))
      have p158 : 0 ≤ (0 : Int) := (by omega)
      have q158 : 0 < (t148.length : Int) := of_decide_eq_true (by first | (with_reducible assumption) | assumption)
      obtain ⟨ad158, A158_0, c158_0, e158, hx158_0, hl158_0, hi158_0⟩ := at_L6 (Kd.N_reads' HO150.out).2.2 0 p158 q158
      cases e158
      obtain ⟨ce158, hce158, hMe158, hcc158⟩ := Kd.N_get HO150.out [] 0 p158 (by first | exact q158 | exact of_decide_eq_true (by first | (with_reducible assumption) | assumption) | (have e_ := (Kd.N_reads' HO150.out).1; omega))
      obtain ⟨ua158_0, uc158_0, rfl, ul158_0, ge158_0⟩ := Kd.FK_slice_open hMe158
      have hv158_0 := hcc158 0 _ rfl
      rw [Nat.add_zero, show ((Kd.slice 32 k32)).sz = 1 from rfl, Nat.mul_one] at hv158_0
      replace hv158_0 := Option.some.inj (hv158_0.symm.trans hx158_0)
      injection hv158_0 with hva_ hvn_ hvc_
      rw [hva_] at ge158_0
      rw [hvc_] at ul158_0
      have HL158_0 := Aside0.mk (show Kd.V k32 32 _ w.heap.size _ _ (rd_L6 t148 0) from Kd.V_mk ul158_0 ge158_0)
      clear hva_ hvn_ hvc_ ge158_0 ul158_0
      clear hcc158 hce158
      have qi158 : (0 < t148.length) = True := eq_true (by omega)
      (try rw [show ((0 : Int)).toNat = 0 from rfl] at hx158_0)
      (try rw [Addr.add_zero'] at hx158_0)
      have HR158_0 := Aside0.mk hi158_0
      have HC158_0 := Aside0.mk hl158_0
      clear hi158_0 hl158_0
      replace p158 := eq_true p158
      replace q158 := eq_true q158
      refine start_ (n := 26) (S := fun w' => w'.cell? ad158 = some (.slice A158_0 (rd_L6 t148 0).length c158_0)) (ds := []) #[false, false, false, false, false, false, false, false, false, false, false, false, false, false, false, false, false, false, false, false, false, false, false, false, false, false] (by kernel_rfl) rfl rfl (hx158_0) (fun hHeld => ?_); refine with_tabW thermionlaw04_awake.tab3 thermionlaw04_awake.bits3 (fun HT_ HW_ => ?_)
      generalize w18.drew = w19 at HO147 HO150 HO154 HB HL158_0 HR158_0 hx158_0 hHeld ⊢
      refine pure_ (i := 0) (N := some 15) (v := ?_) (a' := ?_) #[true, false, false, false, false, false, false, false, false, false, false, false, false, false, false, false, false, false, false, false, false, false, false, false, false, false] rfl rfl (any_of HT_.out (by kernel_rfl)) (fun _ _ _ h => h) (Or.inl ⟨by rfl, ?_⟩) ?_ ?_
      rotate_left
      ·intro w'
       go_simp
       with_reducible rfl
      rotate_left
      ·simp only [Act.put, List.setIfInBounds_toArray, List.set_cons_zero, List.set_cons_succ, i64_w, i32_w]
       rfl
      refine pure_ (i := 1) (N := some 16) (v := ?_) (a' := ?_) #[true, true, false, false, false, false, false, false, false, false, false, false, false, false, false, false, false, false, false, false, false, false, false, false, false, false] rfl rfl (any_of HT_.out (by kernel_rfl)) (fun _ _ _ h => h) (Or.inl ⟨by rfl, ?_⟩) ?_ ?_
      rotate_left
      ·intro w'
       go_simp
       with_reducible rfl
      rotate_left
      ·simp only [Act.put, List.setIfInBounds_toArray, List.set_cons_zero, List.set_cons_succ, i64_w, i32_w]
       rfl
      refine pure_ (i := 2) (N := some 17) (v := ?_) (a' := ?_) #[true, true, true, false, false, false, false, false, false, false, false, false, false, false, false, false, false, false, false, false, false, false, false, false, false, false] rfl rfl (any_of HT_.out (by kernel_rfl)) (fun _ _ _ h => h) (Or.inl ⟨by rfl, ?_⟩) ?_ ?_
      rotate_left
      ·intro w'
       go_simp
       with_reducible rfl
      rotate_left
      ·simp only [Act.put, List.setIfInBounds_toArray, List.set_cons_zero, List.set_cons_succ, i64_w, i32_w]
       rfl
      refine pure_ (i := 3) (N := some 18) (v := ?_) (a' := ?_) #[true, true, true, true, false, false, false, false, false, false, false, false, false, false, false, false, false, false, false, false, false, false, false, false, false, false] rfl rfl (any_of HT_.out (by kernel_rfl)) (fun _ _ _ h => h) (Or.inl ⟨by rfl, ?_⟩) ?_ ?_
      rotate_left
      ·intro w'
       go_simp
       with_reducible rfl
      rotate_left
      ·simp only [Act.put, List.setIfInBounds_toArray, List.set_cons_zero, List.set_cons_succ, i64_w, i32_w]
       rfl
      refine pure_ (i := 4) (N := some 19) (v := ?_) (a' := ?_) #[true, true, true, true, true, false, false, false, false, false, false, false, false, false, false, false, false, false, false, false, false, false, false, false, false, false] rfl rfl (any_of HT_.out (by kernel_rfl)) (fun _ _ _ h => h) (Or.inl ⟨by rfl, ?_⟩) ?_ ?_
      rotate_left
      ·intro w'
       go_simp
       with_reducible rfl
      rotate_left
      ·simp only [Act.put, List.setIfInBounds_toArray, List.set_cons_zero, List.set_cons_succ, i64_w, i32_w]
       rfl
      refine pure_ (i := 5) (N := some 20) (v := ?_) (a' := ?_) #[true, true, true, true, true, true, false, false, false, false, false, false, false, false, false, false, false, false, false, false, false, false, false, false, false, false] rfl rfl (any_of HT_.out (by kernel_rfl)) (fun _ _ _ h => h) (Or.inl ⟨by rfl, ?_⟩) ?_ ?_
      rotate_left
      ·intro w'
       go_simp
       with_reducible rfl
      rotate_left
      ·simp only [Act.put, List.setIfInBounds_toArray, List.set_cons_zero, List.set_cons_succ, i64_w, i32_w]
       rfl
      refine pure_ (i := 6) (N := some 21) (v := ?_) (a' := ?_) #[true, true, true, true, true, true, true, false, false, false, false, false, false, false, false, false, false, false, false, false, false, false, false, false, false, false] rfl rfl (any_of HT_.out (by kernel_rfl)) (fun _ _ _ h => h) (Or.inl ⟨by rfl, ?_⟩) ?_ ?_
      rotate_left
      ·intro w'
       go_simp
       with_reducible rfl
      rotate_left
      ·simp only [Act.put, List.setIfInBounds_toArray, List.set_cons_zero, List.set_cons_succ, i64_w, i32_w]
       rfl
      refine pure_ (i := 7) (N := some 22) (v := ?_) (a' := ?_) #[true, true, true, true, true, true, true, true, false, false, false, false, false, false, false, false, false, false, false, false, false, false, false, false, false, false] rfl rfl (any_of HT_.out (by kernel_rfl)) (fun _ _ _ h => h) (Or.inl ⟨by rfl, ?_⟩) ?_ ?_
      rotate_left
      ·intro w'
       go_simp
       with_reducible rfl
      rotate_left
      ·simp only [Act.put, List.setIfInBounds_toArray, List.set_cons_zero, List.set_cons_succ, i64_w, i32_w]
       rfl
      refine pure_ (i := 8) (N := some 23) (v := ?_) (a' := ?_) #[true, true, true, true, true, true, true, true, true, false, false, false, false, false, false, false, false, false, false, false, false, false, false, false, false, false] rfl rfl (any_of HT_.out (by kernel_rfl)) (fun _ _ _ h => h) (Or.inl ⟨by rfl, ?_⟩) ?_ ?_
      rotate_left
      ·intro w'
       go_simp
       with_reducible rfl
      rotate_left
      ·simp only [Act.put, List.setIfInBounds_toArray, List.set_cons_zero, List.set_cons_succ, i64_w, i32_w]
       rfl
      refine pure_ (i := 9) (N := some 24) (v := ?_) (a' := ?_) #[true, true, true, true, true, true, true, true, true, true, false, false, false, false, false, false, false, false, false, false, false, false, false, false, false, false] rfl rfl (any_of HT_.out (by kernel_rfl)) (fun _ _ _ h => h) (Or.inl ⟨by rfl, ?_⟩) ?_ ?_
      rotate_left
      ·intro w'
       go_simp
       with_reducible rfl
      rotate_left
      ·simp only [Act.put, List.setIfInBounds_toArray, List.set_cons_zero, List.set_cons_succ, i64_w, i32_w]
       rfl
      refine pure_ (i := 11) (N := some 26) (v := ?_) (a' := ?_) #[true, true, true, true, true, true, true, true, true, true, false, true, false, false, false, false, false, false, false, false, false, false, false, false, false, false] rfl rfl (any_of HT_.out (by kernel_rfl)) (fun _ _ _ h => h) (Or.inl ⟨by rfl, ?_⟩) ?_ ?_
      rotate_left
      ·intro w'
       go_simp
       with_reducible rfl
      rotate_left
      ·simp only [Act.put, List.setIfInBounds_toArray, List.set_cons_zero, List.set_cons_succ, i64_w, i32_w]
       rfl
      refine take_ (i := 10) (N := some 25) (v := ?_) (a' := ?_) #[true, true, true, true, true, true, true, true, true, true, true, true, false, false, false, false, false, false, false, false, false, false, false, false, false, false] rfl rfl (take_ofW HT_.out HW_.out (by kernel_rfl)) (fun _ _ _ h => h) (Or.inl ⟨by rfl, ?_⟩) hHeld ?_ ?_
      rotate_left
      ·intro w' s0
       go_simp
       with_reducible rfl
      rotate_left
      ·simp only [Act.put, List.setIfInBounds_toArray, List.set_cons_zero, List.set_cons_succ, i64_w, i32_w]
       rfl
      refine one_ (i := 12) (N := some 27) #[true, true, true, true, true, true, true, true, true, true, true, true, true, false, false, false, false, false, false, false, false, false, false, false, false, false] rfl rfl (one_of HT_.out (by kernel_rfl)) (by decide) (fun K hK => ?_)
      refine goes_ Try.func52 (by kernel_rfl) rfl #[.int .i64 10, .int .i64 12] (by rfl) rfl rfl (by (try simp only [List.map_toArray, List.map_cons, List.map_nil]); first | done | rfl | (simp only [List.length_drop, List.length_take]; rfl)) ?_
      with_reducible refine (thermionlaw04_of.calls 10 12 t159 t160 _ A8.out).mono ?_
      rintro e w21 ⟨rfl, hb⟩
      have HS0_ := (hb.cell (World.block_lt_of_cell? _ _ (hHeld))).trans (hHeld)
      refine ⟨_, rfl, ?_⟩
      have n0_ := Aside0.mk (Kd.R_below (by (with_reducible repeat (first | apply Kd.R_alloc | apply Kd.R_drewN | apply Kd.R_drew)); exact HO147.out) hb)
      have n1_ := Aside0.mk (Kd.N_below (by (with_reducible repeat (first | apply Kd.N_alloc | apply Kd.N_drewN | apply Kd.N_drew)); exact HO150.out) hb)
      have n2_ := Aside0.mk (Kd.N_below (by (with_reducible repeat (first | apply Kd.N_alloc | apply Kd.N_drewN | apply Kd.N_drew)); exact HO154.out) hb)
      have n3_ := Aside0.mk (Kd.V_below (by (with_reducible repeat (first | apply Kd.V_alloc | apply Kd.V_drewN | apply Kd.V_drew)); exact HL158_0.out) hb)
      have n4_ := Aside0.mk (Kd.C_below (by repeat (first | (with_reducible exact HR158_0.out) | (with_reducible refine Kd.C_alloc ?_ _) | (with_reducible refine Kd.C_drewN ?_ _) | (with_reducible refine Kd.C_drew ?_) | exact HR158_0.out)) hb)
      have n5_ := Aside0.mk (below_step (by repeat (first | (with_reducible first | exact HB.out | apply below_alloc | apply pw_below_drewN | apply below_drew1) | exact HB.out)) hb)
      clear HO147
      clear HO150
      clear HO154
      clear HL158_0
      clear HR158_0
      clear HB
      have HO147 := n0_
      have HO150 := n1_
      have HO154 := n2_
      have HL158_0 := n3_
      have HR158_0 := n4_
      have HB := n5_
      clear n0_ n1_ n2_ n3_ n4_ n5_
      (try clear hb)
      (try clear hb2)
      (try clear hk)
      (try clear hi)
      refine hK.out _ _ (HS0_) (fun hHeld => ?_)
      clear hK K
      refine norm_ (a' := ?_) ?_ ?_
      rotate_left
      ·show Act.put _ (some 27) _ = _
       simp only [Act.put, List.setIfInBounds_toArray, List.set_cons_zero, List.set_cons_succ, i64_w, i32_w]
       rfl
      refine one_ (i := 13) (N := some 28) #[true, true, true, true, true, true, true, true, true, true, true, true, true, true, false, false, false, false, false, false, false, false, false, false, false, false] rfl rfl (one_of HT_.out (by kernel_rfl)) (by decide) (fun K hK => ?_)
      refine goes_ Try.func52 (by kernel_rfl) rfl #[.int .i64 17, .int .i64 18] (by rfl) rfl rfl (by (try simp only [List.map_toArray, List.map_cons, List.map_nil]); first | done | rfl | (simp only [List.length_drop, List.length_take]; rfl)) ?_
      with_reducible refine (thermionlaw04_of.calls 17 18 t161 t162 _ A9.out).mono ?_
      rintro e w22 ⟨rfl, hb⟩
      have HS0_ := (hb.cell (World.block_lt_of_cell? _ _ (hHeld))).trans (hHeld)
      refine ⟨_, rfl, ?_⟩
      have n0_ := Aside0.mk (Kd.R_below (by (with_reducible repeat (first | apply Kd.R_alloc | apply Kd.R_drewN | apply Kd.R_drew)); exact HO147.out) hb)
      have n1_ := Aside0.mk (Kd.N_below (by (with_reducible repeat (first | apply Kd.N_alloc | apply Kd.N_drewN | apply Kd.N_drew)); exact HO150.out) hb)
      have n2_ := Aside0.mk (Kd.N_below (by (with_reducible repeat (first | apply Kd.N_alloc | apply Kd.N_drewN | apply Kd.N_drew)); exact HO154.out) hb)
      have n3_ := Aside0.mk (Kd.V_below (by (with_reducible repeat (first | apply Kd.V_alloc | apply Kd.V_drewN | apply Kd.V_drew)); exact HL158_0.out) hb)
      have n4_ := Aside0.mk (Kd.C_below (by repeat (first | (with_reducible exact HR158_0.out) | (with_reducible refine Kd.C_alloc ?_ _) | (with_reducible refine Kd.C_drewN ?_ _) | (with_reducible refine Kd.C_drew ?_) | exact HR158_0.out)) hb)
      have n5_ := Aside0.mk (below_step (by repeat (first | (with_reducible first | exact HB.out | apply below_alloc | apply pw_below_drewN | apply below_drew1) | exact HB.out)) hb)
      clear HO147
      clear HO150
      clear HO154
      clear HL158_0
      clear HR158_0
      clear HB
      have HO147 := n0_
      have HO150 := n1_
      have HO154 := n2_
      have HL158_0 := n3_
      have HR158_0 := n4_
      have HB := n5_
      clear n0_ n1_ n2_ n3_ n4_ n5_
      (try clear hb)
      (try clear hb2)
      (try clear hk)
      (try clear hi)
      refine hK.out _ _ (HS0_) (fun hHeld => ?_)
      clear hK K
      refine norm_ (a' := ?_) ?_ ?_
      rotate_left
      ·show Act.put _ (some 28) _ = _
       simp only [Act.put, List.setIfInBounds_toArray, List.set_cons_zero, List.set_cons_succ, i64_w, i32_w]
       rfl
      refine one_ (i := 14) (N := some 29) #[true, true, true, true, true, true, true, true, true, true, true, true, true, true, true, false, false, false, false, false, false, false, false, false, false, false] rfl rfl (one_of HT_.out (by kernel_rfl)) (by decide) (fun K hK => ?_)
      refine Kd.R_lit_step k32 _ 32 ?hg (N := 29) ?hd (xs := ([(⟨0, 0⟩ : S32), (⟨t159, t160⟩ : S32), (⟨t161, t162⟩ : S32)] : List (S32))) (inner := [.int .i64 0, .int .i64 0, .int .i64 t159, .int .i64 t160, .int .i64 t161, .int .i64 t162]) (ok := fun _ => True) (okp := fun _ => True) ?hr ?hp (fun _ hk => hk) trivial (Below.refl _ _) (Nat.le_refl _) (by simp) ?_; (case hd => rfl); (case hg => rfl); (case hr => first | (go_simp; done) | (go_simp; rfl)); (case hp => exact (Reps.c2 (show Kd.M k32 _ _ _ (⟨0, 0⟩ : S32) [.int .i64 0, .int .i64 0] from (k32_mkM _ _ _ (⟨0, 0⟩ : S32) )) (Reps.c2 (show Kd.M k32 _ _ _ (⟨t159, t160⟩ : S32) [.int .i64 t159, .int .i64 t160] from (k32_mkM _ _ _ (⟨t159, t160⟩ : S32) )) (Reps.c2 (show Kd.M k32 _ _ _ (⟨t161, t162⟩ : S32) [.int .i64 t161, .int .i64 t162] from (k32_mkM _ _ _ (⟨t161, t162⟩ : S32) )) (Reps.none _ _)))))
      intro v164 w23 ho24 hb hg_ hnew_
      have HS0_ := (hb.cell (World.block_lt_of_cell? _ _ (hHeld))).trans (hHeld)
      clear hg_ hnew_
      (first | rw [← Ny163.out] at ho24 | (simp only [Int.reduceToNat] at ho24; rw [← Ny163.out] at ho24))
      have n0_ := Aside0.mk (Kd.R_below (by (with_reducible repeat (first | apply Kd.R_alloc | apply Kd.R_drewN | apply Kd.R_drew)); exact HO147.out) hb)
      have n1_ := Aside0.mk (Kd.N_elder' (by (with_reducible repeat (first | apply Kd.N_alloc | apply Kd.N_drewN | apply Kd.N_drew)); exact HO150.out) (Kd.R_base ho24) hb)
      have n2_ := Aside0.mk (Kd.N_elder' (by (with_reducible repeat (first | apply Kd.N_alloc | apply Kd.N_drewN | apply Kd.N_drew)); exact HO154.out) (Kd.R_base ho24) hb)
      have n3_ := Aside0.mk (Kd.V_elder' (by (with_reducible repeat (first | apply Kd.V_alloc | apply Kd.V_drewN | apply Kd.V_drew)); exact HL158_0.out) (Kd.R_base ho24) hb)
      have n4_ := Aside0.mk (Kd.R_lower ho24 (below_size (by repeat (first | (with_reducible first | exact HB.out | apply below_alloc | apply pw_below_drewN | apply below_drew1) | exact HB.out))))
      have n5_ := Aside0.mk (Kd.C_below (by repeat (first | (with_reducible exact HR158_0.out) | (with_reducible refine Kd.C_alloc ?_ _) | (with_reducible refine Kd.C_drewN ?_ _) | (with_reducible refine Kd.C_drew ?_) | exact HR158_0.out)) hb)
      have n6_ := Aside0.mk (below_step (by repeat (first | (with_reducible first | exact HB.out | apply below_alloc | apply pw_below_drewN | apply below_drew1) | exact HB.out)) hb)
      clear HO147
      clear HO150
      clear HO154
      clear HL158_0
      clear HR158_0
      clear HB
      have HO147 := n0_
      have HO150 := n1_
      have HO154 := n2_
      have HL158_0 := n3_
      have HO165 := n4_
      have HR158_0 := n5_
      have HB := n6_
      clear n0_ n1_ n2_ n3_ n4_ n5_ n6_
      clear hb ho24
      obtain ⟨Ao25, co25, eo25⟩ := Kd.R_slice HO165.out
      (first | subst eo25 | (injection eo25 with f1_ f2_ f3_; have f4_ := f1_.symm; have f5_ := f3_.symm; clear f1_ f2_ f3_; subst f4_; subst f5_))
      refine hK.out _ _ (HS0_) (fun hHeld => ?_)
      clear hK K
      refine norm_ (a' := ?_) ?_ ?_
      rotate_left
      ·show Act.put _ (some 29) _ = _
       simp only [Act.put, List.setIfInBounds_toArray, List.set_cons_zero, List.set_cons_succ, i64_w, i32_w]
       rfl
      refine one_ (i := 15) (N := some 30) #[true, true, true, true, true, true, true, true, true, true, true, true, true, true, true, true, false, false, false, false, false, false, false, false, false, false] rfl rfl (one_of HT_.out (by kernel_rfl)) (by decide) (fun K hK => ?_)
      refine goes_ Try.func88 (by kernel_rfl) rfl #[.slice A158_0 (rd_L6 t148 0).length c158_0, .slice Ao25 y163.length co25] (by rfl) rfl rfl (by (try simp only [List.map_toArray, List.map_cons, List.map_nil]); first | done | rfl | (simp only [List.length_drop, List.length_take]; rfl)) ?_
      with_reducible refine (thermionkit_SameRanges.calls k _ _ (rd_L6 t148 0) _ _ y163 true _ ?side1 ?side2 ?side3 ?side4 A10.out).mono ?_
      (case side1 => repeat (first | exact (by repeat (first | (with_reducible exact HR158_0.out) | (with_reducible refine Kd.C_alloc ?_ _) | (with_reducible refine Kd.C_drewN ?_ _) | (with_reducible refine Kd.C_drew ?_) | exact HR158_0.out)) | (with_reducible refine Kd.C_alloc ?_ _) | (with_reducible refine Kd.C_drewN ?_ _) | (with_reducible refine Kd.C_drew ?_)))
      (case side2 => exact HC158_0.out)
      (case side3 => repeat (first | exact (Kd.R_reads' HO165.out).2.2 | (with_reducible refine Kd.C_alloc ?_ _) | (with_reducible refine Kd.C_drewN ?_ _) | (with_reducible refine Kd.C_drew ?_)))
      (case side4 => exact (Kd.R_reads' HO165.out).2.1)
      rintro e w' ⟨rfl, ⟨nd, rfl⟩⟩
      refine ⟨_, rfl, ?_⟩
      refine hK.out _ _ (hHeld) (fun hHeld => ?_)
      clear hK K
      refine norm_ (a' := ?_) ?_ ?_
      rotate_left
      ·show Act.put _ (some 30) _ = _
       simp only [Act.put, List.setIfInBounds_toArray, List.set_cons_zero, List.set_cons_succ, i64_w, i32_w]
       rfl
      refine pure_ (i := 16) (N := some 31) (v := ?_) (a' := ?_) #[true, true, true, true, true, true, true, true, true, true, true, true, true, true, true, true, true, false, false, false, false, false, false, false, false, false] rfl rfl (any_of HT_.out (by kernel_rfl)) (fun _ _ _ h => h) (Or.inl ⟨by rfl, ?_⟩) ?_ ?_
      rotate_left
      ·intro w'
       go_simp
       with_reducible rfl
      rotate_left
      ·simp only [Act.put, List.setIfInBounds_toArray, List.set_cons_zero, List.set_cons_succ, i64_w, i32_w]
       rfl
      refine pure_ (i := 17) (N := some 32) (v := ?_) (a' := ?_) #[true, true, true, true, true, true, true, true, true, true, true, true, true, true, true, true, true, true, false, false, false, false, false, false, false, false] rfl rfl (any_of HT_.out (by kernel_rfl)) (fun _ _ _ h => h) (Or.inl ⟨by rfl, ?_⟩) ?_ ?_
      rotate_left
      ·intro w'
       go_simp
       with_reducible rfl
      rotate_left
      ·simp only [Act.put, List.setIfInBounds_toArray, List.set_cons_zero, List.set_cons_succ, i64_w, i32_w]
       rfl
      refine pure_ (i := 18) (N := some 33) (v := ?_) (a' := ?_) #[true, true, true, true, true, true, true, true, true, true, true, true, true, true, true, true, true, true, true, false, false, false, false, false, false, false] rfl rfl (any_of HT_.out (by kernel_rfl)) (fun _ _ _ h => h) (Or.inl ⟨by rfl, ?_⟩) ?_ ?_
      rotate_left
      ·intro w'
       go_simp
       with_reducible rfl
      rotate_left
      ·simp only [Act.put, List.setIfInBounds_toArray, List.set_cons_zero, List.set_cons_succ, i64_w, i32_w]
       rfl
      refine pure_ (i := 19) (N := some 34) (v := ?_) (a' := ?_) #[true, true, true, true, true, true, true, true, true, true, true, true, true, true, true, true, true, true, true, true, false, false, false, false, false, false] rfl rfl (any_of HT_.out (by kernel_rfl)) (fun _ _ _ h => h) (Or.inl ⟨by rfl, ?_⟩) ?_ ?_
      rotate_left
      ·intro w'
       go_simp
       with_reducible rfl
      rotate_left
      ·simp only [Act.put, List.setIfInBounds_toArray, List.set_cons_zero, List.set_cons_succ, i64_w, i32_w]
       rfl
      refine pure_ (i := 20) (N := some 35) (v := ?_) (a' := ?_) #[true, true, true, true, true, true, true, true, true, true, true, true, true, true, true, true, true, true, true, true, true, false, false, false, false, false] rfl rfl (any_of HT_.out (by kernel_rfl)) (fun _ _ _ h => h) (Or.inl ⟨by rfl, ?_⟩) ?_ ?_
      rotate_left
      ·intro w'
       go_simp
       with_reducible rfl
      rotate_left
      ·simp only [Act.put, List.setIfInBounds_toArray, List.set_cons_zero, List.set_cons_succ, i64_w, i32_w]
       rfl
      refine pure_ (i := 21) (N := some 36) (v := ?_) (a' := ?_) #[true, true, true, true, true, true, true, true, true, true, true, true, true, true, true, true, true, true, true, true, true, true, false, false, false, false] rfl rfl (any_of HT_.out (by kernel_rfl)) (fun _ _ _ h => h) (Or.inl ⟨by rfl, ?_⟩) ?_ ?_
      rotate_left
      ·intro w'
       go_simp
       with_reducible rfl
      rotate_left
      ·simp only [Act.put, List.setIfInBounds_toArray, List.set_cons_zero, List.set_cons_succ, i64_w, i32_w]
       rfl
      refine pure_ (i := 22) (N := some 37) (v := ?_) (a' := ?_) #[true, true, true, true, true, true, true, true, true, true, true, true, true, true, true, true, true, true, true, true, true, true, true, false, false, false] rfl rfl (any_of HT_.out (by kernel_rfl)) (fun _ _ _ h => h) (Or.inl ⟨by rfl, ?_⟩) ?_ ?_
      rotate_left
      ·intro w'
       go_simp
       with_reducible rfl
      rotate_left
      ·simp only [Act.put, List.setIfInBounds_toArray, List.set_cons_zero, List.set_cons_succ, i64_w, i32_w]
       rfl
      refine pure_ (i := 23) (N := some 38) (v := ?_) (a' := ?_) #[true, true, true, true, true, true, true, true, true, true, true, true, true, true, true, true, true, true, true, true, true, true, true, true, false, false] rfl rfl (any_of HT_.out (by kernel_rfl)) (fun _ _ _ h => h) (Or.inl ⟨by rfl, ?_⟩) ?_ ?_
      rotate_left
      ·intro w'
       go_simp
       with_reducible rfl
      rotate_left
      ·simp only [Act.put, List.setIfInBounds_toArray, List.set_cons_zero, List.set_cons_succ, i64_w, i32_w]
       rfl
      refine pure_ (i := 24) (N := some 39) (v := ?_) (a' := ?_) #[true, true, true, true, true, true, true, true, true, true, true, true, true, true, true, true, true, true, true, true, true, true, true, true, true, false] rfl rfl (any_of HT_.out (by kernel_rfl)) (fun _ _ _ h => h) (Or.inl ⟨by rfl, ?_⟩) ?_ ?_
      rotate_left
      ·intro w'
       go_simp
       with_reducible rfl
      rotate_left
      ·simp only [Act.put, List.setIfInBounds_toArray, List.set_cons_zero, List.set_cons_succ, i64_w, i32_w]
       rfl
      refine pure_ (i := 25) (N := some 0) (v := ?_) (a' := ?_) #[true, true, true, true, true, true, true, true, true, true, true, true, true, true, true, true, true, true, true, true, true, true, true, true, true, true] rfl rfl (any_of HT_.out (by kernel_rfl)) (fun _ _ _ h => h) (Or.inl ⟨by rfl, ?_⟩) ?_ ?_
      rotate_left
      ·intro w'
       go_simp
       with_reducible rfl
      rotate_left
      ·simp only [Act.put, List.setIfInBounds_toArray, List.set_cons_zero, List.set_cons_succ, i64_w, i32_w]
       rfl
      refine done_ (done_of HT_.out (by kernel_rfl)) ?_
      try go_wp2
      go_ret
      exact ⟨by first | rfl | (simp [errW_none, errW_some] <;> rfl) | (simp [*, errW_none, errW_some] <;> rfl), by repeat (first | (with_reducible first | exact HB.out | apply below_alloc | apply pw_below_drewN | apply below_drew1) | exact HB.out)⟩
     ·rw [if_neg c12] at H
      have c12b0 : (t156 == 2) = false := beq_eq_false_iff_ne.mpr c12
      have c12b1 : (t156 != 2) = true := bne_iff_ne.mpr c12
      obtain rfl := Option.some.inj H
      go_enter Try.func21, Try.ntmps21
      try go_wp2_with (first | ((with_reducible refine gate_callee (f := 87) rfl ?_); refine goesL_ (some 6) rfl rfl Try.func87 (by kernel_rfl) rfl #[] rfl (by (try simp only [List.map_toArray, List.map_cons, List.map_nil]); first | done | rfl | (simp only [List.length_drop, List.length_take]; rfl)) ?_; (with_reducible refine (thermionlaw04_chain.calls  t144 t145 _ A1.out).mono ?_); rintro e w26 ⟨v146, rfl, ho0, hb⟩; refine ⟨_, rfl, ?_⟩; have n0_ := Aside0.mk (Kd.R_lower ho0 (below_size (by repeat (first | (with_reducible first | exact HB.out | apply below_alloc | apply pw_below_drewN | apply below_drew1) | exact HB.out)))); have n1_ := Aside0.mk (below_step (by repeat (first | (with_reducible first | exact HB.out | apply below_alloc | apply pw_below_drewN | apply below_drew1) | exact HB.out)) hb); clear HB; have HO147 := n0_; have HB := n1_; clear n0_ n1_; (try clear hb); (try clear hb2); (try clear hk); (try clear hi); (try clear ho0); obtain ⟨Ao27, co27, eo27⟩ := Kd.R_slice HO147.out; subst eo27) | ((with_reducible refine gate_callee (f := 24) rfl ?_); refine goesL_ (some 7) rfl rfl Try.func24 (by kernel_rfl) rfl #[.agg #[.int .i64 t144, .slice Ao27 t145.length co27]] rfl (by (try simp only [List.map_toArray, List.map_cons, List.map_nil]); first | done | rfl | (simp only [List.length_drop, List.length_take]; rfl)) ?_; (with_reducible refine (mount_Tight.calls t144 _ _ t145 t148 t151 _ ?side1 ?side2 A2.out).mono ?_); (case side1 => repeat (first | exact (Kd.R_reads' HO147.out).2.2 | (with_reducible refine Kd.C_alloc ?_ _) | (with_reducible refine Kd.C_drewN ?_ _) | (with_reducible refine Kd.C_drew ?_))); (case side2 => exact (Kd.R_reads' HO147.out).2.1); rintro e w28 ⟨v149, rfl, ho0, hb⟩; refine ⟨_, rfl, ?_⟩; have n0_ := Aside0.mk (Kd.R_below (by (with_reducible repeat (first | apply Kd.R_alloc | apply Kd.R_drewN | apply Kd.R_drew)); exact HO147.out) hb); have n1_ := Aside0.mk (Kd.N_lower (Kd.N_mono (ok' := fun k_ => some k_ ≠ (.slice Ao27 t145.length co27 : Value).ownBlock) (Kd.S_N (Kd.S_bound ho0)) (fun k_ hk_ => (Kd.fresh' (Kd.R_lt (by (with_reducible repeat (first | apply Kd.R_alloc | apply Kd.R_drewN | apply Kd.R_drew)); exact HO147.out)) k_ hk_.2.1))) (below_size (by repeat (first | (with_reducible first | exact HB.out | apply below_alloc | apply pw_below_drewN | apply below_drew1) | exact HB.out)))); have n2_ := Aside0.mk (below_step (by repeat (first | (with_reducible first | exact HB.out | apply below_alloc | apply pw_below_drewN | apply below_drew1) | exact HB.out)) hb); clear HO147; clear HB; have HO147 := n0_; have HO150 := n1_; have HB := n2_; clear n0_ n1_ n2_; (try clear hb); (try clear hb2); (try clear hk); (try clear hi); (try clear ho0)) | ((with_reducible refine gate_callee (f := 59) rfl ?_); refine goesL_ (some 11) rfl rfl Try.func59 (by kernel_rfl) rfl #[] rfl (by (try simp only [List.map_toArray, List.map_cons, List.map_nil]); first | done | rfl | (simp only [List.length_drop, List.length_take]; rfl)) ?_; (with_reducible refine (thermionlaw04_kit.calls  t152 t155 _ A3.out).mono ?_); rintro e w29 ⟨v153, rfl, ho0, hb⟩; refine ⟨_, rfl, ?_⟩; have n0_ := Aside0.mk (Kd.R_below (by (with_reducible repeat (first | apply Kd.R_alloc | apply Kd.R_drewN | apply Kd.R_drew)); exact HO147.out) hb); have n1_ := Aside0.mk (Kd.N_elder' (by (with_reducible repeat (first | apply Kd.N_alloc | apply Kd.N_drewN | apply Kd.N_drew)); exact HO150.out) (Kd.N_base ho0) hb); have n2_ := Aside0.mk (Kd.N_lower (Kd.N_mono (ok' := fun k_ => some k_ ≠ (.slice Ao27 t145.length co27 : Value).ownBlock ∧ some k_ ≠ (v149 : Value).ownBlock) ho0 (fun k_ hk_ => ⟨(Kd.fresh' (Kd.R_lt (by (with_reducible repeat (first | apply Kd.R_alloc | apply Kd.R_drewN | apply Kd.R_drew)); exact HO147.out)) k_ hk_), (Kd.fresh' (Kd.N_lt (by (with_reducible repeat (first | apply Kd.N_alloc | apply Kd.N_drewN | apply Kd.N_drew)); exact HO150.out)) k_ hk_)⟩)) (below_size (by repeat (first | (with_reducible first | exact HB.out | apply below_alloc | apply pw_below_drewN | apply below_drew1) | exact HB.out)))); have n3_ := Aside0.mk (below_step (by repeat (first | (with_reducible first | exact HB.out | apply below_alloc | apply pw_below_drewN | apply below_drew1) | exact HB.out)) hb); clear HO147; clear HO150; clear HB; have HO147 := n0_; have HO150 := n1_; have HO154 := n2_; have HB := n3_; clear n0_ n1_ n2_ n3_; (try clear hb); (try clear hb2); (try clear hk); (try clear hi); (try clear ho0); obtain ⟨Ao30, co30, eo30⟩ := Kd.N_slice HO154.out; subst eo30) | ((with_reducible refine gate_callee (f := 30) rfl ?_); refine goesL_ (some 12) rfl rfl Try.func30 (by kernel_rfl) rfl #[.agg #[.slice Ao30 t152.length co30, .int .i64 t155]] rfl (by (try simp only [List.map_toArray, List.map_cons, List.map_nil]); first | done | rfl | (simp only [List.length_drop, List.length_take]; rfl)) ?_; (with_reducible refine (mount_Orders.calls _ _ t152 t155 t156 t157 _ ?side1 ?side2 A4.out).mono ?_); (case side1 => repeat (first | exact (Kd.N_reads' HO154.out).2.2 | (with_reducible refine Kd.C_alloc ?_ _) | (with_reducible refine Kd.C_drewN ?_ _) | (with_reducible refine Kd.C_drew ?_))); (case side2 => exact (Kd.N_reads' HO154.out).2.1); rintro e w31 ⟨rfl, hb⟩; refine ⟨_, rfl, ?_⟩; have n0_ := Aside0.mk (Kd.R_below (by (with_reducible repeat (first | apply Kd.R_alloc | apply Kd.R_drewN | apply Kd.R_drew)); exact HO147.out) hb); have n1_ := Aside0.mk (Kd.N_below (by (with_reducible repeat (first | apply Kd.N_alloc | apply Kd.N_drewN | apply Kd.N_drew)); exact HO150.out) hb); have n2_ := Aside0.mk (Kd.N_below (by (with_reducible repeat (first | apply Kd.N_alloc | apply Kd.N_drewN | apply Kd.N_drew)); exact HO154.out) hb); have n3_ := Aside0.mk (below_step (by repeat (first | (with_reducible first | exact HB.out | apply below_alloc | apply pw_below_drewN | apply below_drew1) | exact HB.out)) hb); clear HO147; clear HO150; clear HO154; clear HB; have HO147 := n0_; have HO150 := n1_; have HO154 := n2_; have HB := n3_; clear n0_ n1_ n2_ n3_; (try clear hb); (try clear hb2); (try clear hk); (try clear hi)))
      have n0_ := Aside0.mk (Kd.R_drew HO147.out)
      have n1_ := Aside0.mk (Kd.N_drew HO150.out)
      have n2_ := Aside0.mk (Kd.N_drew HO154.out)
      have n3_ := Aside0.mk (below_drew1 HB.out)
      clear HO147
      clear HO150
      clear HO154
      clear HB
      have HO147 := n0_
      have HO150 := n1_
      have HO154 := n2_
      have HB := n3_
      clear n0_ n1_ n2_ n3_
      obtain ⟨Ao33, co33, eo33⟩ := Kd.N_slice HO150.out
      (first | subst eo33 | (injection eo33 with f1_ f2_ f3_; have f4_ := f1_.symm; have f5_ := f3_.symm; clear f1_ f2_ f3_; subst f4_; subst f5_))
      have p158 : 0 ≤ (0 : Int) := (by omega)
      have q158 : 0 < (t148.length : Int) := of_decide_eq_true (by first | (with_reducible assumption) | assumption)
      obtain ⟨ad158, A158_0, c158_0, e158, hx158_0, hl158_0, hi158_0⟩ := at_L6 (Kd.N_reads' HO150.out).2.2 0 p158 q158
      cases e158
      obtain ⟨ce158, hce158, hMe158, hcc158⟩ := Kd.N_get HO150.out [] 0 p158 (by first | exact q158 | exact of_decide_eq_true (by first | (with_reducible assumption) | assumption) | (have e_ := (Kd.N_reads' HO150.out).1; omega))
      obtain ⟨ua158_0, uc158_0, rfl, ul158_0, ge158_0⟩ := Kd.FK_slice_open hMe158
      have hv158_0 := hcc158 0 _ rfl
      rw [Nat.add_zero, show ((Kd.slice 32 k32)).sz = 1 from rfl, Nat.mul_one] at hv158_0
      replace hv158_0 := Option.some.inj (hv158_0.symm.trans hx158_0)
      injection hv158_0 with hva_ hvn_ hvc_
      rw [hva_] at ge158_0
      rw [hvc_] at ul158_0
      have HL158_0 := Aside0.mk (show Kd.V k32 32 _ w.heap.size _ _ (rd_L6 t148 0) from Kd.V_mk ul158_0 ge158_0)
      clear hva_ hvn_ hvc_ ge158_0 ul158_0
      clear hcc158 hce158
      have qi158 : (0 < t148.length) = True := eq_true (by omega)
      (try rw [show ((0 : Int)).toNat = 0 from rfl] at hx158_0)
      (try rw [Addr.add_zero'] at hx158_0)
      have HR158_0 := Aside0.mk hi158_0
      have HC158_0 := Aside0.mk hl158_0
      clear hi158_0 hl158_0
      replace p158 := eq_true p158
      replace q158 := eq_true q158
      refine start_ (n := 26) (S := fun w' => w'.cell? ad158 = some (.slice A158_0 (rd_L6 t148 0).length c158_0)) (ds := []) #[false, false, false, false, false, false, false, false, false, false, false, false, false, false, false, false, false, false, false, false, false, false, false, false, false, false] (by kernel_rfl) rfl rfl (hx158_0) (fun hHeld => ?_); refine with_tabW thermionlaw04_awake.tab3 thermionlaw04_awake.bits3 (fun HT_ HW_ => ?_)
      generalize w31.drew = w32 at HO147 HO150 HO154 HB HL158_0 HR158_0 hx158_0 hHeld ⊢
      refine pure_ (i := 0) (N := some 15) (v := ?_) (a' := ?_) #[true, false, false, false, false, false, false, false, false, false, false, false, false, false, false, false, false, false, false, false, false, false, false, false, false, false] rfl rfl (any_of HT_.out (by kernel_rfl)) (fun _ _ _ h => h) (Or.inl ⟨by rfl, ?_⟩) ?_ ?_
      rotate_left
      ·intro w'
       go_simp
       with_reducible rfl
      rotate_left
      ·simp only [Act.put, List.setIfInBounds_toArray, List.set_cons_zero, List.set_cons_succ, i64_w, i32_w]
       rfl
      refine pure_ (i := 1) (N := some 16) (v := ?_) (a' := ?_) #[true, true, false, false, false, false, false, false, false, false, false, false, false, false, false, false, false, false, false, false, false, false, false, false, false, false] rfl rfl (any_of HT_.out (by kernel_rfl)) (fun _ _ _ h => h) (Or.inl ⟨by rfl, ?_⟩) ?_ ?_
      rotate_left
      ·intro w'
       go_simp
       with_reducible rfl
      rotate_left
      ·simp only [Act.put, List.setIfInBounds_toArray, List.set_cons_zero, List.set_cons_succ, i64_w, i32_w]
       rfl
      refine pure_ (i := 2) (N := some 17) (v := ?_) (a' := ?_) #[true, true, true, false, false, false, false, false, false, false, false, false, false, false, false, false, false, false, false, false, false, false, false, false, false, false] rfl rfl (any_of HT_.out (by kernel_rfl)) (fun _ _ _ h => h) (Or.inl ⟨by rfl, ?_⟩) ?_ ?_
      rotate_left
      ·intro w'
       go_simp
       with_reducible rfl
      rotate_left
      ·simp only [Act.put, List.setIfInBounds_toArray, List.set_cons_zero, List.set_cons_succ, i64_w, i32_w]
       rfl
      refine pure_ (i := 3) (N := some 18) (v := ?_) (a' := ?_) #[true, true, true, true, false, false, false, false, false, false, false, false, false, false, false, false, false, false, false, false, false, false, false, false, false, false] rfl rfl (any_of HT_.out (by kernel_rfl)) (fun _ _ _ h => h) (Or.inl ⟨by rfl, ?_⟩) ?_ ?_
      rotate_left
      ·intro w'
       go_simp
       with_reducible rfl
      rotate_left
      ·simp only [Act.put, List.setIfInBounds_toArray, List.set_cons_zero, List.set_cons_succ, i64_w, i32_w]
       rfl
      refine pure_ (i := 4) (N := some 19) (v := ?_) (a' := ?_) #[true, true, true, true, true, false, false, false, false, false, false, false, false, false, false, false, false, false, false, false, false, false, false, false, false, false] rfl rfl (any_of HT_.out (by kernel_rfl)) (fun _ _ _ h => h) (Or.inl ⟨by rfl, ?_⟩) ?_ ?_
      rotate_left
      ·intro w'
       go_simp
       with_reducible rfl
      rotate_left
      ·simp only [Act.put, List.setIfInBounds_toArray, List.set_cons_zero, List.set_cons_succ, i64_w, i32_w]
       rfl
      refine pure_ (i := 5) (N := some 20) (v := ?_) (a' := ?_) #[true, true, true, true, true, true, false, false, false, false, false, false, false, false, false, false, false, false, false, false, false, false, false, false, false, false] rfl rfl (any_of HT_.out (by kernel_rfl)) (fun _ _ _ h => h) (Or.inl ⟨by rfl, ?_⟩) ?_ ?_
      rotate_left
      ·intro w'
       go_simp
       with_reducible rfl
      rotate_left
      ·simp only [Act.put, List.setIfInBounds_toArray, List.set_cons_zero, List.set_cons_succ, i64_w, i32_w]
       rfl
      refine pure_ (i := 6) (N := some 21) (v := ?_) (a' := ?_) #[true, true, true, true, true, true, true, false, false, false, false, false, false, false, false, false, false, false, false, false, false, false, false, false, false, false] rfl rfl (any_of HT_.out (by kernel_rfl)) (fun _ _ _ h => h) (Or.inl ⟨by rfl, ?_⟩) ?_ ?_
      rotate_left
      ·intro w'
       go_simp
       with_reducible rfl
      rotate_left
      ·simp only [Act.put, List.setIfInBounds_toArray, List.set_cons_zero, List.set_cons_succ, i64_w, i32_w]
       rfl
      refine pure_ (i := 7) (N := some 22) (v := ?_) (a' := ?_) #[true, true, true, true, true, true, true, true, false, false, false, false, false, false, false, false, false, false, false, false, false, false, false, false, false, false] rfl rfl (any_of HT_.out (by kernel_rfl)) (fun _ _ _ h => h) (Or.inl ⟨by rfl, ?_⟩) ?_ ?_
      rotate_left
      ·intro w'
       go_simp
       with_reducible rfl
      rotate_left
      ·simp only [Act.put, List.setIfInBounds_toArray, List.set_cons_zero, List.set_cons_succ, i64_w, i32_w]
       rfl
      refine pure_ (i := 8) (N := some 23) (v := ?_) (a' := ?_) #[true, true, true, true, true, true, true, true, true, false, false, false, false, false, false, false, false, false, false, false, false, false, false, false, false, false] rfl rfl (any_of HT_.out (by kernel_rfl)) (fun _ _ _ h => h) (Or.inl ⟨by rfl, ?_⟩) ?_ ?_
      rotate_left
      ·intro w'
       go_simp
       with_reducible rfl
      rotate_left
      ·simp only [Act.put, List.setIfInBounds_toArray, List.set_cons_zero, List.set_cons_succ, i64_w, i32_w]
       rfl
      refine pure_ (i := 9) (N := some 24) (v := ?_) (a' := ?_) #[true, true, true, true, true, true, true, true, true, true, false, false, false, false, false, false, false, false, false, false, false, false, false, false, false, false] rfl rfl (any_of HT_.out (by kernel_rfl)) (fun _ _ _ h => h) (Or.inl ⟨by rfl, ?_⟩) ?_ ?_
      rotate_left
      ·intro w'
       go_simp
       with_reducible rfl
      rotate_left
      ·simp only [Act.put, List.setIfInBounds_toArray, List.set_cons_zero, List.set_cons_succ, i64_w, i32_w]
       rfl
      refine pure_ (i := 11) (N := some 26) (v := ?_) (a' := ?_) #[true, true, true, true, true, true, true, true, true, true, false, true, false, false, false, false, false, false, false, false, false, false, false, false, false, false] rfl rfl (any_of HT_.out (by kernel_rfl)) (fun _ _ _ h => h) (Or.inl ⟨by rfl, ?_⟩) ?_ ?_
      rotate_left
      ·intro w'
       go_simp
       with_reducible rfl
      rotate_left
      ·simp only [Act.put, List.setIfInBounds_toArray, List.set_cons_zero, List.set_cons_succ, i64_w, i32_w]
       rfl
      refine take_ (i := 10) (N := some 25) (v := ?_) (a' := ?_) #[true, true, true, true, true, true, true, true, true, true, true, true, false, false, false, false, false, false, false, false, false, false, false, false, false, false] rfl rfl (take_ofW HT_.out HW_.out (by kernel_rfl)) (fun _ _ _ h => h) (Or.inl ⟨by rfl, ?_⟩) hHeld ?_ ?_
      rotate_left
      ·intro w' s0
       go_simp
       with_reducible rfl
      rotate_left
      ·simp only [Act.put, List.setIfInBounds_toArray, List.set_cons_zero, List.set_cons_succ, i64_w, i32_w]
       rfl
      refine one_ (i := 12) (N := some 27) #[true, true, true, true, true, true, true, true, true, true, true, true, true, false, false, false, false, false, false, false, false, false, false, false, false, false] rfl rfl (one_of HT_.out (by kernel_rfl)) (by decide) (fun K hK => ?_)
      refine goes_ Try.func52 (by kernel_rfl) rfl #[.int .i64 10, .int .i64 12] (by rfl) rfl rfl (by (try simp only [List.map_toArray, List.map_cons, List.map_nil]); first | done | rfl | (simp only [List.length_drop, List.length_take]; rfl)) ?_
      with_reducible refine (thermionlaw04_of.calls 10 12 t159 t160 _ A8.out).mono ?_
      rintro e w34 ⟨rfl, hb⟩
      have HS0_ := (hb.cell (World.block_lt_of_cell? _ _ (hHeld))).trans (hHeld)
      refine ⟨_, rfl, ?_⟩
      have n0_ := Aside0.mk (Kd.R_below (by (with_reducible repeat (first | apply Kd.R_alloc | apply Kd.R_drewN | apply Kd.R_drew)); exact HO147.out) hb)
      have n1_ := Aside0.mk (Kd.N_below (by (with_reducible repeat (first | apply Kd.N_alloc | apply Kd.N_drewN | apply Kd.N_drew)); exact HO150.out) hb)
      have n2_ := Aside0.mk (Kd.N_below (by (with_reducible repeat (first | apply Kd.N_alloc | apply Kd.N_drewN | apply Kd.N_drew)); exact HO154.out) hb)
      have n3_ := Aside0.mk (Kd.V_below (by (with_reducible repeat (first | apply Kd.V_alloc | apply Kd.V_drewN | apply Kd.V_drew)); exact HL158_0.out) hb)
      have n4_ := Aside0.mk (Kd.C_below (by repeat (first | (with_reducible exact HR158_0.out) | (with_reducible refine Kd.C_alloc ?_ _) | (with_reducible refine Kd.C_drewN ?_ _) | (with_reducible refine Kd.C_drew ?_) | exact HR158_0.out)) hb)
      have n5_ := Aside0.mk (below_step (by repeat (first | (with_reducible first | exact HB.out | apply below_alloc | apply pw_below_drewN | apply below_drew1) | exact HB.out)) hb)
      clear HO147
      clear HO150
      clear HO154
      clear HL158_0
      clear HR158_0
      clear HB
      have HO147 := n0_
      have HO150 := n1_
      have HO154 := n2_
      have HL158_0 := n3_
      have HR158_0 := n4_
      have HB := n5_
      clear n0_ n1_ n2_ n3_ n4_ n5_
      (try clear hb)
      (try clear hb2)
      (try clear hk)
      (try clear hi)
      refine hK.out _ _ (HS0_) (fun hHeld => ?_)
      clear hK K
      refine norm_ (a' := ?_) ?_ ?_
      rotate_left
      ·show Act.put _ (some 27) _ = _
       simp only [Act.put, List.setIfInBounds_toArray, List.set_cons_zero, List.set_cons_succ, i64_w, i32_w]
       rfl
      refine one_ (i := 13) (N := some 28) #[true, true, true, true, true, true, true, true, true, true, true, true, true, true, false, false, false, false, false, false, false, false, false, false, false, false] rfl rfl (one_of HT_.out (by kernel_rfl)) (by decide) (fun K hK => ?_)
      refine goes_ Try.func52 (by kernel_rfl) rfl #[.int .i64 17, .int .i64 18] (by rfl) rfl rfl (by (try simp only [List.map_toArray, List.map_cons, List.map_nil]); first | done | rfl | (simp only [List.length_drop, List.length_take]; rfl)) ?_
      with_reducible refine (thermionlaw04_of.calls 17 18 t161 t162 _ A9.out).mono ?_
      rintro e w35 ⟨rfl, hb⟩
      have HS0_ := (hb.cell (World.block_lt_of_cell? _ _ (hHeld))).trans (hHeld)
      refine ⟨_, rfl, ?_⟩
      have n0_ := Aside0.mk (Kd.R_below (by (with_reducible repeat (first | apply Kd.R_alloc | apply Kd.R_drewN | apply Kd.R_drew)); exact HO147.out) hb)
      have n1_ := Aside0.mk (Kd.N_below (by (with_reducible repeat (first | apply Kd.N_alloc | apply Kd.N_drewN | apply Kd.N_drew)); exact HO150.out) hb)
      have n2_ := Aside0.mk (Kd.N_below (by (with_reducible repeat (first | apply Kd.N_alloc | apply Kd.N_drewN | apply Kd.N_drew)); exact HO154.out) hb)
      have n3_ := Aside0.mk (Kd.V_below (by (with_reducible repeat (first | apply Kd.V_alloc | apply Kd.V_drewN | apply Kd.V_drew)); exact HL158_0.out) hb)
      have n4_ := Aside0.mk (Kd.C_below (by repeat (first | (with_reducible exact HR158_0.out) | (with_reducible refine Kd.C_alloc ?_ _) | (with_reducible refine Kd.C_drewN ?_ _) | (with_reducible refine Kd.C_drew ?_) | exact HR158_0.out)) hb)
      have n5_ := Aside0.mk (below_step (by repeat (first | (with_reducible first | exact HB.out | apply below_alloc | apply pw_below_drewN | apply below_drew1) | exact HB.out)) hb)
      clear HO147
      clear HO150
      clear HO154
      clear HL158_0
      clear HR158_0
      clear HB
      have HO147 := n0_
      have HO150 := n1_
      have HO154 := n2_
      have HL158_0 := n3_
      have HR158_0 := n4_
      have HB := n5_
      clear n0_ n1_ n2_ n3_ n4_ n5_
      (try clear hb)
      (try clear hb2)
      (try clear hk)
      (try clear hi)
      refine hK.out _ _ (HS0_) (fun hHeld => ?_)
      clear hK K
      refine norm_ (a' := ?_) ?_ ?_
      rotate_left
      ·show Act.put _ (some 28) _ = _
       simp only [Act.put, List.setIfInBounds_toArray, List.set_cons_zero, List.set_cons_succ, i64_w, i32_w]
       rfl
      refine one_ (i := 14) (N := some 29) #[true, true, true, true, true, true, true, true, true, true, true, true, true, true, true, false, false, false, false, false, false, false, false, false, false, false] rfl rfl (one_of HT_.out (by kernel_rfl)) (by decide) (fun K hK => ?_)
      refine Kd.R_lit_step k32 _ 32 ?hg (N := 29) ?hd (xs := ([(⟨0, 0⟩ : S32), (⟨t159, t160⟩ : S32), (⟨t161, t162⟩ : S32)] : List (S32))) (inner := [.int .i64 0, .int .i64 0, .int .i64 t159, .int .i64 t160, .int .i64 t161, .int .i64 t162]) (ok := fun _ => True) (okp := fun _ => True) ?hr ?hp (fun _ hk => hk) trivial (Below.refl _ _) (Nat.le_refl _) (by simp) ?_; (case hd => rfl); (case hg => rfl); (case hr => first | (go_simp; done) | (go_simp; rfl)); (case hp => exact (Reps.c2 (show Kd.M k32 _ _ _ (⟨0, 0⟩ : S32) [.int .i64 0, .int .i64 0] from (k32_mkM _ _ _ (⟨0, 0⟩ : S32) )) (Reps.c2 (show Kd.M k32 _ _ _ (⟨t159, t160⟩ : S32) [.int .i64 t159, .int .i64 t160] from (k32_mkM _ _ _ (⟨t159, t160⟩ : S32) )) (Reps.c2 (show Kd.M k32 _ _ _ (⟨t161, t162⟩ : S32) [.int .i64 t161, .int .i64 t162] from (k32_mkM _ _ _ (⟨t161, t162⟩ : S32) )) (Reps.none _ _)))))
      intro v164 w36 ho37 hb hg_ hnew_
      have HS0_ := (hb.cell (World.block_lt_of_cell? _ _ (hHeld))).trans (hHeld)
      clear hg_ hnew_
      (first | rw [← Ny163.out] at ho37 | (simp only [Int.reduceToNat] at ho37; rw [← Ny163.out] at ho37))
      have n0_ := Aside0.mk (Kd.R_below (by (with_reducible repeat (first | apply Kd.R_alloc | apply Kd.R_drewN | apply Kd.R_drew)); exact HO147.out) hb)
      have n1_ := Aside0.mk (Kd.N_elder' (by (with_reducible repeat (first | apply Kd.N_alloc | apply Kd.N_drewN | apply Kd.N_drew)); exact HO150.out) (Kd.R_base ho37) hb)
      have n2_ := Aside0.mk (Kd.N_elder' (by (with_reducible repeat (first | apply Kd.N_alloc | apply Kd.N_drewN | apply Kd.N_drew)); exact HO154.out) (Kd.R_base ho37) hb)
      have n3_ := Aside0.mk (Kd.V_elder' (by (with_reducible repeat (first | apply Kd.V_alloc | apply Kd.V_drewN | apply Kd.V_drew)); exact HL158_0.out) (Kd.R_base ho37) hb)
      have n4_ := Aside0.mk (Kd.R_lower ho37 (below_size (by repeat (first | (with_reducible first | exact HB.out | apply below_alloc | apply pw_below_drewN | apply below_drew1) | exact HB.out))))
      have n5_ := Aside0.mk (Kd.C_below (by repeat (first | (with_reducible exact HR158_0.out) | (with_reducible refine Kd.C_alloc ?_ _) | (with_reducible refine Kd.C_drewN ?_ _) | (with_reducible refine Kd.C_drew ?_) | exact HR158_0.out)) hb)
      have n6_ := Aside0.mk (below_step (by repeat (first | (with_reducible first | exact HB.out | apply below_alloc | apply pw_below_drewN | apply below_drew1) | exact HB.out)) hb)
      clear HO147
      clear HO150
      clear HO154
      clear HL158_0
      clear HR158_0
      clear HB
      have HO147 := n0_
      have HO150 := n1_
      have HO154 := n2_
      have HL158_0 := n3_
      have HO165 := n4_
      have HR158_0 := n5_
      have HB := n6_
      clear n0_ n1_ n2_ n3_ n4_ n5_ n6_
      clear hb ho37
      obtain ⟨Ao38, co38, eo38⟩ := Kd.R_slice HO165.out
      (first | subst eo38 | (injection eo38 with f1_ f2_ f3_; have f4_ := f1_.symm; have f5_ := f3_.symm; clear f1_ f2_ f3_; subst f4_; subst f5_))
      refine hK.out _ _ (HS0_) (fun hHeld => ?_)
      clear hK K
      refine norm_ (a' := ?_) ?_ ?_
      rotate_left
      ·show Act.put _ (some 29) _ = _
       simp only [Act.put, List.setIfInBounds_toArray, List.set_cons_zero, List.set_cons_succ, i64_w, i32_w]
       rfl
      refine one_ (i := 15) (N := some 30) #[true, true, true, true, true, true, true, true, true, true, true, true, true, true, true, true, false, false, false, false, false, false, false, false, false, false] rfl rfl (one_of HT_.out (by kernel_rfl)) (by decide) (fun K hK => ?_)
      refine goes_ Try.func88 (by kernel_rfl) rfl #[.slice A158_0 (rd_L6 t148 0).length c158_0, .slice Ao38 y163.length co38] (by rfl) rfl rfl (by (try simp only [List.map_toArray, List.map_cons, List.map_nil]); first | done | rfl | (simp only [List.length_drop, List.length_take]; rfl)) ?_
      with_reducible refine (thermionkit_SameRanges.calls k _ _ (rd_L6 t148 0) _ _ y163 true _ ?side1 ?side2 ?side3 ?side4 A10.out).mono ?_
      (case side1 => repeat (first | exact (by repeat (first | (with_reducible exact HR158_0.out) | (with_reducible refine Kd.C_alloc ?_ _) | (with_reducible refine Kd.C_drewN ?_ _) | (with_reducible refine Kd.C_drew ?_) | exact HR158_0.out)) | (with_reducible refine Kd.C_alloc ?_ _) | (with_reducible refine Kd.C_drewN ?_ _) | (with_reducible refine Kd.C_drew ?_)))
      (case side2 => exact HC158_0.out)
      (case side3 => repeat (first | exact (Kd.R_reads' HO165.out).2.2 | (with_reducible refine Kd.C_alloc ?_ _) | (with_reducible refine Kd.C_drewN ?_ _) | (with_reducible refine Kd.C_drew ?_)))
      (case side4 => exact (Kd.R_reads' HO165.out).2.1)
      rintro e w' ⟨rfl, ⟨nd, rfl⟩⟩
      refine ⟨_, rfl, ?_⟩
      refine hK.out _ _ (hHeld) (fun hHeld => ?_)
      clear hK K
      refine norm_ (a' := ?_) ?_ ?_
      rotate_left
      ·show Act.put _ (some 30) _ = _
       simp only [Act.put, List.setIfInBounds_toArray, List.set_cons_zero, List.set_cons_succ, i64_w, i32_w]
       rfl
      refine pure_ (i := 16) (N := some 31) (v := ?_) (a' := ?_) #[true, true, true, true, true, true, true, true, true, true, true, true, true, true, true, true, true, false, false, false, false, false, false, false, false, false] rfl rfl (any_of HT_.out (by kernel_rfl)) (fun _ _ _ h => h) (Or.inl ⟨by rfl, ?_⟩) ?_ ?_
      rotate_left
      ·intro w'
       go_simp
       with_reducible rfl
      rotate_left
      ·simp only [Act.put, List.setIfInBounds_toArray, List.set_cons_zero, List.set_cons_succ, i64_w, i32_w]
       rfl
      refine pure_ (i := 17) (N := some 32) (v := ?_) (a' := ?_) #[true, true, true, true, true, true, true, true, true, true, true, true, true, true, true, true, true, true, false, false, false, false, false, false, false, false] rfl rfl (any_of HT_.out (by kernel_rfl)) (fun _ _ _ h => h) (Or.inl ⟨by rfl, ?_⟩) ?_ ?_
      rotate_left
      ·intro w'
       go_simp
       with_reducible rfl
      rotate_left
      ·simp only [Act.put, List.setIfInBounds_toArray, List.set_cons_zero, List.set_cons_succ, i64_w, i32_w]
       rfl
      refine pure_ (i := 18) (N := some 33) (v := ?_) (a' := ?_) #[true, true, true, true, true, true, true, true, true, true, true, true, true, true, true, true, true, true, true, false, false, false, false, false, false, false] rfl rfl (any_of HT_.out (by kernel_rfl)) (fun _ _ _ h => h) (Or.inl ⟨by rfl, ?_⟩) ?_ ?_
      rotate_left
      ·intro w'
       go_simp
       with_reducible rfl
      rotate_left
      ·simp only [Act.put, List.setIfInBounds_toArray, List.set_cons_zero, List.set_cons_succ, i64_w, i32_w]
       rfl
      refine pure_ (i := 19) (N := some 34) (v := ?_) (a' := ?_) #[true, true, true, true, true, true, true, true, true, true, true, true, true, true, true, true, true, true, true, true, false, false, false, false, false, false] rfl rfl (any_of HT_.out (by kernel_rfl)) (fun _ _ _ h => h) (Or.inl ⟨by rfl, ?_⟩) ?_ ?_
      rotate_left
      ·intro w'
       go_simp
       with_reducible rfl
      rotate_left
      ·simp only [Act.put, List.setIfInBounds_toArray, List.set_cons_zero, List.set_cons_succ, i64_w, i32_w]
       rfl
      refine pure_ (i := 20) (N := some 35) (v := ?_) (a' := ?_) #[true, true, true, true, true, true, true, true, true, true, true, true, true, true, true, true, true, true, true, true, true, false, false, false, false, false] rfl rfl (any_of HT_.out (by kernel_rfl)) (fun _ _ _ h => h) (Or.inl ⟨by rfl, ?_⟩) ?_ ?_
      rotate_left
      ·intro w'
       go_simp
       with_reducible rfl
      rotate_left
      ·simp only [Act.put, List.setIfInBounds_toArray, List.set_cons_zero, List.set_cons_succ, i64_w, i32_w]
       rfl
      refine pure_ (i := 21) (N := some 36) (v := ?_) (a' := ?_) #[true, true, true, true, true, true, true, true, true, true, true, true, true, true, true, true, true, true, true, true, true, true, false, false, false, false] rfl rfl (any_of HT_.out (by kernel_rfl)) (fun _ _ _ h => h) (Or.inl ⟨by rfl, ?_⟩) ?_ ?_
      rotate_left
      ·intro w'
       go_simp
       with_reducible rfl
      rotate_left
      ·simp only [Act.put, List.setIfInBounds_toArray, List.set_cons_zero, List.set_cons_succ, i64_w, i32_w]
       rfl
      refine pure_ (i := 22) (N := some 37) (v := undef) (a' := ?_) #[true, true, true, true, true, true, true, true, true, true, true, true, true, true, true, true, true, true, true, true, true, true, true, false, false, false] rfl rfl (any_of HT_.out (by kernel_rfl)) (fun _ _ _ h => h) (Or.inr ⟨by rfl, rfl⟩) ?_ ?_
      rotate_left
      ·simp only [Act.put, List.setIfInBounds_toArray, List.set_cons_zero, List.set_cons_succ, i64_w, i32_w]
       rfl
      refine pure_ (i := 23) (N := some 38) (v := undef) (a' := ?_) #[true, true, true, true, true, true, true, true, true, true, true, true, true, true, true, true, true, true, true, true, true, true, true, true, false, false] rfl rfl (any_of HT_.out (by kernel_rfl)) (fun _ _ _ h => h) (Or.inr ⟨by rfl, rfl⟩) ?_ ?_
      rotate_left
      ·simp only [Act.put, List.setIfInBounds_toArray, List.set_cons_zero, List.set_cons_succ, i64_w, i32_w]
       rfl
      refine pure_ (i := 24) (N := some 39) (v := ?_) (a' := ?_) #[true, true, true, true, true, true, true, true, true, true, true, true, true, true, true, true, true, true, true, true, true, true, true, true, true, false] rfl rfl (any_of HT_.out (by kernel_rfl)) (fun _ _ _ h => h) (Or.inl ⟨by rfl, ?_⟩) ?_ ?_
      rotate_left
      ·intro w'
       go_simp
       with_reducible rfl
      rotate_left
      ·simp only [Act.put, List.setIfInBounds_toArray, List.set_cons_zero, List.set_cons_succ, i64_w, i32_w]
       rfl
      refine pure_ (i := 25) (N := some 0) (v := ?_) (a' := ?_) #[true, true, true, true, true, true, true, true, true, true, true, true, true, true, true, true, true, true, true, true, true, true, true, true, true, true] rfl rfl (any_of HT_.out (by kernel_rfl)) (fun _ _ _ h => h) (Or.inl ⟨by rfl, ?_⟩) ?_ ?_
      rotate_left
      ·intro w'
       go_simp
       with_reducible rfl
      rotate_left
      ·simp only [Act.put, List.setIfInBounds_toArray, List.set_cons_zero, List.set_cons_succ, i64_w, i32_w]
       rfl
      refine done_ (done_of HT_.out (by kernel_rfl)) ?_
      try go_wp2
      go_ret
      exact ⟨by first | rfl | (simp [errW_none, errW_some] <;> rfl) | (simp [*, errW_none, errW_some] <;> rfl), by repeat (first | (with_reducible first | exact HB.out | apply below_alloc | apply pw_below_drewN | apply below_drew1) | exact HB.out)⟩
    ·replace c11 := Bool.eq_false_iff.mpr c11
     subst c11
     have H1 : (some false) = some r := by rw [if_neg (show ¬ (false = true) by decide)] at H; exact H
     clear H
     have H := H1
     clear H1
     obtain rfl := Option.some.inj H
     go_enter Try.func21, Try.ntmps21
     try go_wp2_with (first | ((with_reducible refine gate_callee (f := 87) rfl ?_); refine goesL_ (some 6) rfl rfl Try.func87 (by kernel_rfl) rfl #[] rfl (by (try simp only [List.map_toArray, List.map_cons, List.map_nil]); first | done | rfl | (simp only [List.length_drop, List.length_take]; rfl)) ?_; (with_reducible refine (thermionlaw04_chain.calls  t144 t145 _ A1.out).mono ?_); rintro e w39 ⟨v146, rfl, ho0, hb⟩; refine ⟨_, rfl, ?_⟩; have n0_ := Aside0.mk (Kd.R_lower ho0 (below_size (by repeat (first | (with_reducible first | exact HB.out | apply below_alloc | apply pw_below_drewN | apply below_drew1) | exact HB.out)))); have n1_ := Aside0.mk (below_step (by repeat (first | (with_reducible first | exact HB.out | apply below_alloc | apply pw_below_drewN | apply below_drew1) | exact HB.out)) hb); clear HB; have HO147 := n0_; have HB := n1_; clear n0_ n1_; (try clear hb); (try clear hb2); (try clear hk); (try clear hi); (try clear ho0); obtain ⟨Ao40, co40, eo40⟩ := Kd.R_slice HO147.out; subst eo40) | ((with_reducible refine gate_callee (f := 24) rfl ?_); refine goesL_ (some 7) rfl rfl Try.func24 (by kernel_rfl) rfl #[.agg #[.int .i64 t144, .slice Ao40 t145.length co40]] rfl (by (try simp only [List.map_toArray, List.map_cons, List.map_nil]); first | done | rfl | (simp only [List.length_drop, List.length_take]; rfl)) ?_; (with_reducible refine (mount_Tight.calls t144 _ _ t145 t148 t151 _ ?side1 ?side2 A2.out).mono ?_); (case side1 => repeat (first | exact (Kd.R_reads' HO147.out).2.2 | (with_reducible refine Kd.C_alloc ?_ _) | (with_reducible refine Kd.C_drewN ?_ _) | (with_reducible refine Kd.C_drew ?_))); (case side2 => exact (Kd.R_reads' HO147.out).2.1); rintro e w41 ⟨v149, rfl, ho0, hb⟩; refine ⟨_, rfl, ?_⟩; have n0_ := Aside0.mk (Kd.R_below (by (with_reducible repeat (first | apply Kd.R_alloc | apply Kd.R_drewN | apply Kd.R_drew)); exact HO147.out) hb); have n1_ := Aside0.mk (Kd.N_lower (Kd.N_mono (ok' := fun k_ => some k_ ≠ (.slice Ao40 t145.length co40 : Value).ownBlock) (Kd.S_N (Kd.S_bound ho0)) (fun k_ hk_ => (Kd.fresh' (Kd.R_lt (by (with_reducible repeat (first | apply Kd.R_alloc | apply Kd.R_drewN | apply Kd.R_drew)); exact HO147.out)) k_ hk_.2.1))) (below_size (by repeat (first | (with_reducible first | exact HB.out | apply below_alloc | apply pw_below_drewN | apply below_drew1) | exact HB.out)))); have n2_ := Aside0.mk (below_step (by repeat (first | (with_reducible first | exact HB.out | apply below_alloc | apply pw_below_drewN | apply below_drew1) | exact HB.out)) hb); clear HO147; clear HB; have HO147 := n0_; have HO150 := n1_; have HB := n2_; clear n0_ n1_ n2_; (try clear hb); (try clear hb2); (try clear hk); (try clear hi); (try clear ho0)) | ((with_reducible refine gate_callee (f := 59) rfl ?_); refine goesL_ (some 11) rfl rfl Try.func59 (by kernel_rfl) rfl #[] rfl (by (try simp only [List.map_toArray, List.map_cons, List.map_nil]); first | done | rfl | (simp only [List.length_drop, List.length_take]; rfl)) ?_; (with_reducible refine (thermionlaw04_kit.calls  t152 t155 _ A3.out).mono ?_); rintro e w42 ⟨v153, rfl, ho0, hb⟩; refine ⟨_, rfl, ?_⟩; have n0_ := Aside0.mk (Kd.R_below (by (with_reducible repeat (first | apply Kd.R_alloc | apply Kd.R_drewN | apply Kd.R_drew)); exact HO147.out) hb); have n1_ := Aside0.mk (Kd.N_elder' (by (with_reducible repeat (first | apply Kd.N_alloc | apply Kd.N_drewN | apply Kd.N_drew)); exact HO150.out) (Kd.N_base ho0) hb); have n2_ := Aside0.mk (Kd.N_lower (Kd.N_mono (ok' := fun k_ => some k_ ≠ (.slice Ao40 t145.length co40 : Value).ownBlock ∧ some k_ ≠ (v149 : Value).ownBlock) ho0 (fun k_ hk_ => ⟨(Kd.fresh' (Kd.R_lt (by (with_reducible repeat (first | apply Kd.R_alloc | apply Kd.R_drewN | apply Kd.R_drew)); exact HO147.out)) k_ hk_), (Kd.fresh' (Kd.N_lt (by (with_reducible repeat (first | apply Kd.N_alloc | apply Kd.N_drewN | apply Kd.N_drew)); exact HO150.out)) k_ hk_)⟩)) (below_size (by repeat (first | (with_reducible first | exact HB.out | apply below_alloc | apply pw_below_drewN | apply below_drew1) | exact HB.out)))); have n3_ := Aside0.mk (below_step (by repeat (first | (with_reducible first | exact HB.out | apply below_alloc | apply pw_below_drewN | apply below_drew1) | exact HB.out)) hb); clear HO147; clear HO150; clear HB; have HO147 := n0_; have HO150 := n1_; have HO154 := n2_; have HB := n3_; clear n0_ n1_ n2_ n3_; (try clear hb); (try clear hb2); (try clear hk); (try clear hi); (try clear ho0); obtain ⟨Ao43, co43, eo43⟩ := Kd.N_slice HO154.out; subst eo43) | ((with_reducible refine gate_callee (f := 30) rfl ?_); refine goesL_ (some 12) rfl rfl Try.func30 (by kernel_rfl) rfl #[.agg #[.slice Ao43 t152.length co43, .int .i64 t155]] rfl (by (try simp only [List.map_toArray, List.map_cons, List.map_nil]); first | done | rfl | (simp only [List.length_drop, List.length_take]; rfl)) ?_; (with_reducible refine (mount_Orders.calls _ _ t152 t155 t156 t157 _ ?side1 ?side2 A4.out).mono ?_); (case side1 => repeat (first | exact (Kd.N_reads' HO154.out).2.2 | (with_reducible refine Kd.C_alloc ?_ _) | (with_reducible refine Kd.C_drewN ?_ _) | (with_reducible refine Kd.C_drew ?_))); (case side2 => exact (Kd.N_reads' HO154.out).2.1); rintro e w44 ⟨rfl, hb⟩; refine ⟨_, rfl, ?_⟩; have n0_ := Aside0.mk (Kd.R_below (by (with_reducible repeat (first | apply Kd.R_alloc | apply Kd.R_drewN | apply Kd.R_drew)); exact HO147.out) hb); have n1_ := Aside0.mk (Kd.N_below (by (with_reducible repeat (first | apply Kd.N_alloc | apply Kd.N_drewN | apply Kd.N_drew)); exact HO150.out) hb); have n2_ := Aside0.mk (Kd.N_below (by (with_reducible repeat (first | apply Kd.N_alloc | apply Kd.N_drewN | apply Kd.N_drew)); exact HO154.out) hb); have n3_ := Aside0.mk (below_step (by repeat (first | (with_reducible first | exact HB.out | apply below_alloc | apply pw_below_drewN | apply below_drew1) | exact HB.out)) hb); clear HO147; clear HO150; clear HO154; clear HB; have HO147 := n0_; have HO150 := n1_; have HO154 := n2_; have HB := n3_; clear n0_ n1_ n2_ n3_; (try clear hb); (try clear hb2); (try clear hk); (try clear hi)))
     have n0_ := Aside0.mk (Kd.R_drew HO147.out)
     have n1_ := Aside0.mk (Kd.N_drew HO150.out)
     have n2_ := Aside0.mk (Kd.N_drew HO154.out)
     have n3_ := Aside0.mk (below_drew1 HB.out)
     clear HO147
     clear HO150
     clear HO154
     clear HB
     have HO147 := n0_
     have HO150 := n1_
     have HO154 := n2_
     have HB := n3_
     clear n0_ n1_ n2_ n3_
     obtain ⟨Ao46, co46, eo46⟩ := Kd.N_slice HO150.out
     (first | subst eo46 | (injection eo46 with f1_ f2_ f3_; have f4_ := f1_.symm; have f5_ := f3_.symm; clear f1_ f2_ f3_; subst f4_; subst f5_))
     have p158 : 0 ≤ (0 : Int) := (by omega)
     have q158 : 0 < (t148.length : Int) := of_decide_eq_true (by first | (with_reducible assumption) | assumption)
     obtain ⟨ad158, A158_0, c158_0, e158, hx158_0, hl158_0, hi158_0⟩ := at_L6 (Kd.N_reads' HO150.out).2.2 0 p158 q158
     cases e158
     obtain ⟨ce158, hce158, hMe158, hcc158⟩ := Kd.N_get HO150.out [] 0 p158 (by first | exact q158 | exact of_decide_eq_true (by first | (with_reducible assumption) | assumption) | (have e_ := (Kd.N_reads' HO150.out).1; omega))
     obtain ⟨ua158_0, uc158_0, rfl, ul158_0, ge158_0⟩ := Kd.FK_slice_open hMe158
     have hv158_0 := hcc158 0 _ rfl
     rw [Nat.add_zero, show ((Kd.slice 32 k32)).sz = 1 from rfl, Nat.mul_one] at hv158_0
     replace hv158_0 := Option.some.inj (hv158_0.symm.trans hx158_0)
     injection hv158_0 with hva_ hvn_ hvc_
     rw [hva_] at ge158_0
     rw [hvc_] at ul158_0
     have HL158_0 := Aside0.mk (show Kd.V k32 32 _ w.heap.size _ _ (rd_L6 t148 0) from Kd.V_mk ul158_0 ge158_0)
     clear hva_ hvn_ hvc_ ge158_0 ul158_0
     clear hcc158 hce158
     have qi158 : (0 < t148.length) = True := eq_true (by omega)
     (try rw [show ((0 : Int)).toNat = 0 from rfl] at hx158_0)
     (try rw [Addr.add_zero'] at hx158_0)
     have HR158_0 := Aside0.mk hi158_0
     have HC158_0 := Aside0.mk hl158_0
     clear hi158_0 hl158_0
     replace p158 := eq_true p158
     replace q158 := eq_true q158
     refine start_ (n := 26) (S := fun w' => w'.cell? ad158 = some (.slice A158_0 (rd_L6 t148 0).length c158_0)) (ds := []) #[false, false, false, false, false, false, false, false, false, false, false, false, false, false, false, false, false, false, false, false, false, false, false, false, false, false] (by kernel_rfl) rfl rfl (hx158_0) (fun hHeld => ?_); refine with_tabW thermionlaw04_awake.tab3 thermionlaw04_awake.bits3 (fun HT_ HW_ => ?_)
     generalize w44.drew = w45 at HO147 HO150 HO154 HB HL158_0 HR158_0 hx158_0 hHeld ⊢
     refine pure_ (i := 0) (N := some 15) (v := ?_) (a' := ?_) #[true, false, false, false, false, false, false, false, false, false, false, false, false, false, false, false, false, false, false, false, false, false, false, false, false, false] rfl rfl (any_of HT_.out (by kernel_rfl)) (fun _ _ _ h => h) (Or.inl ⟨by rfl, ?_⟩) ?_ ?_
     rotate_left
     ·intro w'
      go_simp
      with_reducible rfl
     rotate_left
     ·simp only [Act.put, List.setIfInBounds_toArray, List.set_cons_zero, List.set_cons_succ, i64_w, i32_w]
      rfl
     refine pure_ (i := 1) (N := some 16) (v := ?_) (a' := ?_) #[true, true, false, false, false, false, false, false, false, false, false, false, false, false, false, false, false, false, false, false, false, false, false, false, false, false] rfl rfl (any_of HT_.out (by kernel_rfl)) (fun _ _ _ h => h) (Or.inl ⟨by rfl, ?_⟩) ?_ ?_
     rotate_left
     ·intro w'
      go_simp
      with_reducible rfl
     rotate_left
     ·simp only [Act.put, List.setIfInBounds_toArray, List.set_cons_zero, List.set_cons_succ, i64_w, i32_w]
      rfl
     refine pure_ (i := 2) (N := some 17) (v := ?_) (a' := ?_) #[true, true, true, false, false, false, false, false, false, false, false, false, false, false, false, false, false, false, false, false, false, false, false, false, false, false] rfl rfl (any_of HT_.out (by kernel_rfl)) (fun _ _ _ h => h) (Or.inl ⟨by rfl, ?_⟩) ?_ ?_
     rotate_left
     ·intro w'
      go_simp
      with_reducible rfl
     rotate_left
     ·simp only [Act.put, List.setIfInBounds_toArray, List.set_cons_zero, List.set_cons_succ, i64_w, i32_w]
      rfl
     refine pure_ (i := 3) (N := some 18) (v := ?_) (a' := ?_) #[true, true, true, true, false, false, false, false, false, false, false, false, false, false, false, false, false, false, false, false, false, false, false, false, false, false] rfl rfl (any_of HT_.out (by kernel_rfl)) (fun _ _ _ h => h) (Or.inl ⟨by rfl, ?_⟩) ?_ ?_
     rotate_left
     ·intro w'
      go_simp
      with_reducible rfl
     rotate_left
     ·simp only [Act.put, List.setIfInBounds_toArray, List.set_cons_zero, List.set_cons_succ, i64_w, i32_w]
      rfl
     refine pure_ (i := 4) (N := some 19) (v := ?_) (a' := ?_) #[true, true, true, true, true, false, false, false, false, false, false, false, false, false, false, false, false, false, false, false, false, false, false, false, false, false] rfl rfl (any_of HT_.out (by kernel_rfl)) (fun _ _ _ h => h) (Or.inl ⟨by rfl, ?_⟩) ?_ ?_
     rotate_left
     ·intro w'
      go_simp
      with_reducible rfl
     rotate_left
     ·simp only [Act.put, List.setIfInBounds_toArray, List.set_cons_zero, List.set_cons_succ, i64_w, i32_w]
      rfl
     refine pure_ (i := 5) (N := some 20) (v := ?_) (a' := ?_) #[true, true, true, true, true, true, false, false, false, false, false, false, false, false, false, false, false, false, false, false, false, false, false, false, false, false] rfl rfl (any_of HT_.out (by kernel_rfl)) (fun _ _ _ h => h) (Or.inl ⟨by rfl, ?_⟩) ?_ ?_
     rotate_left
     ·intro w'
      go_simp
      with_reducible rfl
     rotate_left
     ·simp only [Act.put, List.setIfInBounds_toArray, List.set_cons_zero, List.set_cons_succ, i64_w, i32_w]
      rfl
     refine pure_ (i := 6) (N := some 21) (v := ?_) (a' := ?_) #[true, true, true, true, true, true, true, false, false, false, false, false, false, false, false, false, false, false, false, false, false, false, false, false, false, false] rfl rfl (any_of HT_.out (by kernel_rfl)) (fun _ _ _ h => h) (Or.inl ⟨by rfl, ?_⟩) ?_ ?_
     rotate_left
     ·intro w'
      go_simp
      with_reducible rfl
     rotate_left
     ·simp only [Act.put, List.setIfInBounds_toArray, List.set_cons_zero, List.set_cons_succ, i64_w, i32_w]
      rfl
     refine pure_ (i := 7) (N := some 22) (v := ?_) (a' := ?_) #[true, true, true, true, true, true, true, true, false, false, false, false, false, false, false, false, false, false, false, false, false, false, false, false, false, false] rfl rfl (any_of HT_.out (by kernel_rfl)) (fun _ _ _ h => h) (Or.inl ⟨by rfl, ?_⟩) ?_ ?_
     rotate_left
     ·intro w'
      go_simp
      with_reducible rfl
     rotate_left
     ·simp only [Act.put, List.setIfInBounds_toArray, List.set_cons_zero, List.set_cons_succ, i64_w, i32_w]
      rfl
     refine pure_ (i := 8) (N := some 23) (v := ?_) (a' := ?_) #[true, true, true, true, true, true, true, true, true, false, false, false, false, false, false, false, false, false, false, false, false, false, false, false, false, false] rfl rfl (any_of HT_.out (by kernel_rfl)) (fun _ _ _ h => h) (Or.inl ⟨by rfl, ?_⟩) ?_ ?_
     rotate_left
     ·intro w'
      go_simp
      with_reducible rfl
     rotate_left
     ·simp only [Act.put, List.setIfInBounds_toArray, List.set_cons_zero, List.set_cons_succ, i64_w, i32_w]
      rfl
     refine pure_ (i := 9) (N := some 24) (v := ?_) (a' := ?_) #[true, true, true, true, true, true, true, true, true, true, false, false, false, false, false, false, false, false, false, false, false, false, false, false, false, false] rfl rfl (any_of HT_.out (by kernel_rfl)) (fun _ _ _ h => h) (Or.inl ⟨by rfl, ?_⟩) ?_ ?_
     rotate_left
     ·intro w'
      go_simp
      with_reducible rfl
     rotate_left
     ·simp only [Act.put, List.setIfInBounds_toArray, List.set_cons_zero, List.set_cons_succ, i64_w, i32_w]
      rfl
     refine pure_ (i := 11) (N := some 26) (v := ?_) (a' := ?_) #[true, true, true, true, true, true, true, true, true, true, false, true, false, false, false, false, false, false, false, false, false, false, false, false, false, false] rfl rfl (any_of HT_.out (by kernel_rfl)) (fun _ _ _ h => h) (Or.inl ⟨by rfl, ?_⟩) ?_ ?_
     rotate_left
     ·intro w'
      go_simp
      with_reducible rfl
     rotate_left
     ·simp only [Act.put, List.setIfInBounds_toArray, List.set_cons_zero, List.set_cons_succ, i64_w, i32_w]
      rfl
     refine take_ (i := 10) (N := some 25) (v := ?_) (a' := ?_) #[true, true, true, true, true, true, true, true, true, true, true, true, false, false, false, false, false, false, false, false, false, false, false, false, false, false] rfl rfl (take_ofW HT_.out HW_.out (by kernel_rfl)) (fun _ _ _ h => h) (Or.inl ⟨by rfl, ?_⟩) hHeld ?_ ?_
     rotate_left
     ·intro w' s0
      go_simp
      with_reducible rfl
     rotate_left
     ·simp only [Act.put, List.setIfInBounds_toArray, List.set_cons_zero, List.set_cons_succ, i64_w, i32_w]
      rfl
     refine one_ (i := 12) (N := some 27) #[true, true, true, true, true, true, true, true, true, true, true, true, true, false, false, false, false, false, false, false, false, false, false, false, false, false] rfl rfl (one_of HT_.out (by kernel_rfl)) (by decide) (fun K hK => ?_)
     refine goes_ Try.func52 (by kernel_rfl) rfl #[.int .i64 10, .int .i64 12] (by rfl) rfl rfl (by (try simp only [List.map_toArray, List.map_cons, List.map_nil]); first | done | rfl | (simp only [List.length_drop, List.length_take]; rfl)) ?_
     with_reducible refine (thermionlaw04_of.calls 10 12 t159 t160 _ A8.out).mono ?_
     rintro e w47 ⟨rfl, hb⟩
     have HS0_ := (hb.cell (World.block_lt_of_cell? _ _ (hHeld))).trans (hHeld)
     refine ⟨_, rfl, ?_⟩
     have n0_ := Aside0.mk (Kd.R_below (by (with_reducible repeat (first | apply Kd.R_alloc | apply Kd.R_drewN | apply Kd.R_drew)); exact HO147.out) hb)
     have n1_ := Aside0.mk (Kd.N_below (by (with_reducible repeat (first | apply Kd.N_alloc | apply Kd.N_drewN | apply Kd.N_drew)); exact HO150.out) hb)
     have n2_ := Aside0.mk (Kd.N_below (by (with_reducible repeat (first | apply Kd.N_alloc | apply Kd.N_drewN | apply Kd.N_drew)); exact HO154.out) hb)
     have n3_ := Aside0.mk (Kd.V_below (by (with_reducible repeat (first | apply Kd.V_alloc | apply Kd.V_drewN | apply Kd.V_drew)); exact HL158_0.out) hb)
     have n4_ := Aside0.mk (Kd.C_below (by repeat (first | (with_reducible exact HR158_0.out) | (with_reducible refine Kd.C_alloc ?_ _) | (with_reducible refine Kd.C_drewN ?_ _) | (with_reducible refine Kd.C_drew ?_) | exact HR158_0.out)) hb)
     have n5_ := Aside0.mk (below_step (by repeat (first | (with_reducible first | exact HB.out | apply below_alloc | apply pw_below_drewN | apply below_drew1) | exact HB.out)) hb)
     clear HO147
     clear HO150
     clear HO154
     clear HL158_0
     clear HR158_0
     clear HB
     have HO147 := n0_
     have HO150 := n1_
     have HO154 := n2_
     have HL158_0 := n3_
     have HR158_0 := n4_
     have HB := n5_
     clear n0_ n1_ n2_ n3_ n4_ n5_
     (try clear hb)
     (try clear hb2)
     (try clear hk)
     (try clear hi)
     refine hK.out _ _ (HS0_) (fun hHeld => ?_)
     clear hK K
     refine norm_ (a' := ?_) ?_ ?_
     rotate_left
     ·show Act.put _ (some 27) _ = _
      simp only [Act.put, List.setIfInBounds_toArray, List.set_cons_zero, List.set_cons_succ, i64_w, i32_w]
      rfl
     refine one_ (i := 13) (N := some 28) #[true, true, true, true, true, true, true, true, true, true, true, true, true, true, false, false, false, false, false, false, false, false, false, false, false, false] rfl rfl (one_of HT_.out (by kernel_rfl)) (by decide) (fun K hK => ?_)
     refine goes_ Try.func52 (by kernel_rfl) rfl #[.int .i64 17, .int .i64 18] (by rfl) rfl rfl (by (try simp only [List.map_toArray, List.map_cons, List.map_nil]); first | done | rfl | (simp only [List.length_drop, List.length_take]; rfl)) ?_
     with_reducible refine (thermionlaw04_of.calls 17 18 t161 t162 _ A9.out).mono ?_
     rintro e w48 ⟨rfl, hb⟩
     have HS0_ := (hb.cell (World.block_lt_of_cell? _ _ (hHeld))).trans (hHeld)
     refine ⟨_, rfl, ?_⟩
     have n0_ := Aside0.mk (Kd.R_below (by (with_reducible repeat (first | apply Kd.R_alloc | apply Kd.R_drewN | apply Kd.R_drew)); exact HO147.out) hb)
     have n1_ := Aside0.mk (Kd.N_below (by (with_reducible repeat (first | apply Kd.N_alloc | apply Kd.N_drewN | apply Kd.N_drew)); exact HO150.out) hb)
     have n2_ := Aside0.mk (Kd.N_below (by (with_reducible repeat (first | apply Kd.N_alloc | apply Kd.N_drewN | apply Kd.N_drew)); exact HO154.out) hb)
     have n3_ := Aside0.mk (Kd.V_below (by (with_reducible repeat (first | apply Kd.V_alloc | apply Kd.V_drewN | apply Kd.V_drew)); exact HL158_0.out) hb)
     have n4_ := Aside0.mk (Kd.C_below (by repeat (first | (with_reducible exact HR158_0.out) | (with_reducible refine Kd.C_alloc ?_ _) | (with_reducible refine Kd.C_drewN ?_ _) | (with_reducible refine Kd.C_drew ?_) | exact HR158_0.out)) hb)
     have n5_ := Aside0.mk (below_step (by repeat (first | (with_reducible first | exact HB.out | apply below_alloc | apply pw_below_drewN | apply below_drew1) | exact HB.out)) hb)
     clear HO147
     clear HO150
     clear HO154
     clear HL158_0
     clear HR158_0
     clear HB
     have HO147 := n0_
     have HO150 := n1_
     have HO154 := n2_
     have HL158_0 := n3_
     have HR158_0 := n4_
     have HB := n5_
     clear n0_ n1_ n2_ n3_ n4_ n5_
     (try clear hb)
     (try clear hb2)
     (try clear hk)
     (try clear hi)
     refine hK.out _ _ (HS0_) (fun hHeld => ?_)
     clear hK K
     refine norm_ (a' := ?_) ?_ ?_
     rotate_left
     ·show Act.put _ (some 28) _ = _
      simp only [Act.put, List.setIfInBounds_toArray, List.set_cons_zero, List.set_cons_succ, i64_w, i32_w]
      rfl
     refine one_ (i := 14) (N := some 29) #[true, true, true, true, true, true, true, true, true, true, true, true, true, true, true, false, false, false, false, false, false, false, false, false, false, false] rfl rfl (one_of HT_.out (by kernel_rfl)) (by decide) (fun K hK => ?_)
     refine Kd.R_lit_step k32 _ 32 ?hg (N := 29) ?hd (xs := ([(⟨0, 0⟩ : S32), (⟨t159, t160⟩ : S32), (⟨t161, t162⟩ : S32)] : List (S32))) (inner := [.int .i64 0, .int .i64 0, .int .i64 t159, .int .i64 t160, .int .i64 t161, .int .i64 t162]) (ok := fun _ => True) (okp := fun _ => True) ?hr ?hp (fun _ hk => hk) trivial (Below.refl _ _) (Nat.le_refl _) (by simp) ?_; (case hd => rfl); (case hg => rfl); (case hr => first | (go_simp; done) | (go_simp; rfl)); (case hp => exact (Reps.c2 (show Kd.M k32 _ _ _ (⟨0, 0⟩ : S32) [.int .i64 0, .int .i64 0] from (k32_mkM _ _ _ (⟨0, 0⟩ : S32) )) (Reps.c2 (show Kd.M k32 _ _ _ (⟨t159, t160⟩ : S32) [.int .i64 t159, .int .i64 t160] from (k32_mkM _ _ _ (⟨t159, t160⟩ : S32) )) (Reps.c2 (show Kd.M k32 _ _ _ (⟨t161, t162⟩ : S32) [.int .i64 t161, .int .i64 t162] from (k32_mkM _ _ _ (⟨t161, t162⟩ : S32) )) (Reps.none _ _)))))
     intro v164 w49 ho50 hb hg_ hnew_
     have HS0_ := (hb.cell (World.block_lt_of_cell? _ _ (hHeld))).trans (hHeld)
     clear hg_ hnew_
     (first | rw [← Ny163.out] at ho50 | (simp only [Int.reduceToNat] at ho50; rw [← Ny163.out] at ho50))
     have n0_ := Aside0.mk (Kd.R_below (by (with_reducible repeat (first | apply Kd.R_alloc | apply Kd.R_drewN | apply Kd.R_drew)); exact HO147.out) hb)
     have n1_ := Aside0.mk (Kd.N_elder' (by (with_reducible repeat (first | apply Kd.N_alloc | apply Kd.N_drewN | apply Kd.N_drew)); exact HO150.out) (Kd.R_base ho50) hb)
     have n2_ := Aside0.mk (Kd.N_elder' (by (with_reducible repeat (first | apply Kd.N_alloc | apply Kd.N_drewN | apply Kd.N_drew)); exact HO154.out) (Kd.R_base ho50) hb)
     have n3_ := Aside0.mk (Kd.V_elder' (by (with_reducible repeat (first | apply Kd.V_alloc | apply Kd.V_drewN | apply Kd.V_drew)); exact HL158_0.out) (Kd.R_base ho50) hb)
     have n4_ := Aside0.mk (Kd.R_lower ho50 (below_size (by repeat (first | (with_reducible first | exact HB.out | apply below_alloc | apply pw_below_drewN | apply below_drew1) | exact HB.out))))
     have n5_ := Aside0.mk (Kd.C_below (by repeat (first | (with_reducible exact HR158_0.out) | (with_reducible refine Kd.C_alloc ?_ _) | (with_reducible refine Kd.C_drewN ?_ _) | (with_reducible refine Kd.C_drew ?_) | exact HR158_0.out)) hb)
     have n6_ := Aside0.mk (below_step (by repeat (first | (with_reducible first | exact HB.out | apply below_alloc | apply pw_below_drewN | apply below_drew1) | exact HB.out)) hb)
     clear HO147
     clear HO150
     clear HO154
     clear HL158_0
     clear HR158_0
     clear HB
     have HO147 := n0_
     have HO150 := n1_
     have HO154 := n2_
     have HL158_0 := n3_
     have HO165 := n4_
     have HR158_0 := n5_
     have HB := n6_
     clear n0_ n1_ n2_ n3_ n4_ n5_ n6_
     clear hb ho50
     obtain ⟨Ao51, co51, eo51⟩ := Kd.R_slice HO165.out
     (first | subst eo51 | (injection eo51 with f1_ f2_ f3_; have f4_ := f1_.symm; have f5_ := f3_.symm; clear f1_ f2_ f3_; subst f4_; subst f5_))
     refine hK.out _ _ (HS0_) (fun hHeld => ?_)
     clear hK K
     refine norm_ (a' := ?_) ?_ ?_
     rotate_left
     ·show Act.put _ (some 29) _ = _
      simp only [Act.put, List.setIfInBounds_toArray, List.set_cons_zero, List.set_cons_succ, i64_w, i32_w]
      rfl
     refine one_ (i := 15) (N := some 30) #[true, true, true, true, true, true, true, true, true, true, true, true, true, true, true, true, false, false, false, false, false, false, false, false, false, false] rfl rfl (one_of HT_.out (by kernel_rfl)) (by decide) (fun K hK => ?_)
     refine goes_ Try.func88 (by kernel_rfl) rfl #[.slice A158_0 (rd_L6 t148 0).length c158_0, .slice Ao51 y163.length co51] (by rfl) rfl rfl (by (try simp only [List.map_toArray, List.map_cons, List.map_nil]); first | done | rfl | (simp only [List.length_drop, List.length_take]; rfl)) ?_
     with_reducible refine (thermionkit_SameRanges.calls k _ _ (rd_L6 t148 0) _ _ y163 false _ ?side1 ?side2 ?side3 ?side4 A10.out).mono ?_
     (case side1 => repeat (first | exact (by repeat (first | (with_reducible exact HR158_0.out) | (with_reducible refine Kd.C_alloc ?_ _) | (with_reducible refine Kd.C_drewN ?_ _) | (with_reducible refine Kd.C_drew ?_) | exact HR158_0.out)) | (with_reducible refine Kd.C_alloc ?_ _) | (with_reducible refine Kd.C_drewN ?_ _) | (with_reducible refine Kd.C_drew ?_)))
     (case side2 => exact HC158_0.out)
     (case side3 => repeat (first | exact (Kd.R_reads' HO165.out).2.2 | (with_reducible refine Kd.C_alloc ?_ _) | (with_reducible refine Kd.C_drewN ?_ _) | (with_reducible refine Kd.C_drew ?_)))
     (case side4 => exact (Kd.R_reads' HO165.out).2.1)
     rintro e w' ⟨rfl, ⟨nd, rfl⟩⟩
     refine ⟨_, rfl, ?_⟩
     refine hK.out _ _ (hHeld) (fun hHeld => ?_)
     clear hK K
     refine norm_ (a' := ?_) ?_ ?_
     rotate_left
     ·show Act.put _ (some 30) _ = _
      simp only [Act.put, List.setIfInBounds_toArray, List.set_cons_zero, List.set_cons_succ, i64_w, i32_w]
      rfl
     refine pure_ (i := 16) (N := some 31) (v := ?_) (a' := ?_) #[true, true, true, true, true, true, true, true, true, true, true, true, true, true, true, true, true, false, false, false, false, false, false, false, false, false] rfl rfl (any_of HT_.out (by kernel_rfl)) (fun _ _ _ h => h) (Or.inl ⟨by rfl, ?_⟩) ?_ ?_
     rotate_left
     ·intro w'
      go_simp
      with_reducible rfl
     rotate_left
     ·simp only [Act.put, List.setIfInBounds_toArray, List.set_cons_zero, List.set_cons_succ, i64_w, i32_w]
      rfl
     refine pure_ (i := 17) (N := some 32) (v := ?_) (a' := ?_) #[true, true, true, true, true, true, true, true, true, true, true, true, true, true, true, true, true, true, false, false, false, false, false, false, false, false] rfl rfl (any_of HT_.out (by kernel_rfl)) (fun _ _ _ h => h) (Or.inl ⟨by rfl, ?_⟩) ?_ ?_
     rotate_left
     ·intro w'
      go_simp
      with_reducible rfl
     rotate_left
     ·simp only [Act.put, List.setIfInBounds_toArray, List.set_cons_zero, List.set_cons_succ, i64_w, i32_w]
      rfl
     refine pure_ (i := 18) (N := some 33) (v := undef) (a' := ?_) #[true, true, true, true, true, true, true, true, true, true, true, true, true, true, true, true, true, true, true, false, false, false, false, false, false, false] rfl rfl (any_of HT_.out (by kernel_rfl)) (fun _ _ _ h => h) (Or.inr ⟨by rfl, rfl⟩) ?_ ?_
     rotate_left
     ·simp only [Act.put, List.setIfInBounds_toArray, List.set_cons_zero, List.set_cons_succ, i64_w, i32_w]
      rfl
     refine pure_ (i := 19) (N := some 34) (v := undef) (a' := ?_) #[true, true, true, true, true, true, true, true, true, true, true, true, true, true, true, true, true, true, true, true, false, false, false, false, false, false] rfl rfl (any_of HT_.out (by kernel_rfl)) (fun _ _ _ h => h) (Or.inr ⟨by rfl, rfl⟩) ?_ ?_
     rotate_left
     ·simp only [Act.put, List.setIfInBounds_toArray, List.set_cons_zero, List.set_cons_succ, i64_w, i32_w]
      rfl
     refine pure_ (i := 20) (N := some 35) (v := ?_) (a' := ?_) #[true, true, true, true, true, true, true, true, true, true, true, true, true, true, true, true, true, true, true, true, true, false, false, false, false, false] rfl rfl (any_of HT_.out (by kernel_rfl)) (fun _ _ _ h => h) (Or.inl ⟨by rfl, ?_⟩) ?_ ?_
     rotate_left
     ·intro w'
      go_simp
      with_reducible rfl
     rotate_left
     ·simp only [Act.put, List.setIfInBounds_toArray, List.set_cons_zero, List.set_cons_succ, i64_w, i32_w]
      rfl
     refine pure_ (i := 21) (N := some 36) (v := ?_) (a' := ?_) #[true, true, true, true, true, true, true, true, true, true, true, true, true, true, true, true, true, true, true, true, true, true, false, false, false, false] rfl rfl (any_of HT_.out (by kernel_rfl)) (fun _ _ _ h => h) (Or.inl ⟨by rfl, ?_⟩) ?_ ?_
     rotate_left
     ·intro w'
      go_simp
      with_reducible rfl
     rotate_left
     ·simp only [Act.put, List.setIfInBounds_toArray, List.set_cons_zero, List.set_cons_succ, i64_w, i32_w]
      rfl
     refine pure_ (i := 22) (N := some 37) (v := undef) (a' := ?_) #[true, true, true, true, true, true, true, true, true, true, true, true, true, true, true, true, true, true, true, true, true, true, true, false, false, false] rfl rfl (any_of HT_.out (by kernel_rfl)) (fun _ _ _ h => h) (Or.inr ⟨by rfl, rfl⟩) ?_ ?_
     rotate_left
     ·simp only [Act.put, List.setIfInBounds_toArray, List.set_cons_zero, List.set_cons_succ, i64_w, i32_w]
      rfl
     refine pure_ (i := 23) (N := some 38) (v := undef) (a' := ?_) #[true, true, true, true, true, true, true, true, true, true, true, true, true, true, true, true, true, true, true, true, true, true, true, true, false, false] rfl rfl (any_of HT_.out (by kernel_rfl)) (fun _ _ _ h => h) (Or.inr ⟨by rfl, rfl⟩) ?_ ?_
     rotate_left
     ·simp only [Act.put, List.setIfInBounds_toArray, List.set_cons_zero, List.set_cons_succ, i64_w, i32_w]
      rfl
     refine pure_ (i := 24) (N := some 39) (v := ?_) (a' := ?_) #[true, true, true, true, true, true, true, true, true, true, true, true, true, true, true, true, true, true, true, true, true, true, true, true, true, false] rfl rfl (any_of HT_.out (by kernel_rfl)) (fun _ _ _ h => h) (Or.inl ⟨by rfl, ?_⟩) ?_ ?_
     rotate_left
     ·intro w'
      go_simp
      with_reducible rfl
     rotate_left
     ·simp only [Act.put, List.setIfInBounds_toArray, List.set_cons_zero, List.set_cons_succ, i64_w, i32_w]
      rfl
     refine pure_ (i := 25) (N := some 0) (v := ?_) (a' := ?_) #[true, true, true, true, true, true, true, true, true, true, true, true, true, true, true, true, true, true, true, true, true, true, true, true, true, true] rfl rfl (any_of HT_.out (by kernel_rfl)) (fun _ _ _ h => h) (Or.inl ⟨by rfl, ?_⟩) ?_ ?_
     rotate_left
     ·intro w'
      go_simp
      with_reducible rfl
     rotate_left
     ·simp only [Act.put, List.setIfInBounds_toArray, List.set_cons_zero, List.set_cons_succ, i64_w, i32_w]
      rfl
     refine done_ (done_of HT_.out (by kernel_rfl)) ?_
     try go_wp2
     go_ret
     exact ⟨by first | rfl | (simp [errW_none, errW_some] <;> rfl) | (simp [*, errW_none, errW_some] <;> rfl), by repeat (first | (with_reducible first | exact HB.out | apply below_alloc | apply pw_below_drewN | apply below_drew1) | exact HB.out)⟩
   ·rw [if_neg c7] at H
    exact absurd H (by simp)
  ·rw [if_neg c6] at H
   have c6b0 : ((t148.length : Int) == 3) = false := beq_eq_false_iff_ne.mpr c6
   have c6b1 : ((t148.length : Int) != 3) = true := bne_iff_ne.mpr c6
   obtain rfl := Option.some.inj H
   go_enter Try.func21, Try.ntmps21
   try go_wp2_with (first | ((with_reducible refine gate_callee (f := 87) rfl ?_); refine goesL_ (some 6) rfl rfl Try.func87 (by kernel_rfl) rfl #[] rfl (by (try simp only [List.map_toArray, List.map_cons, List.map_nil]); first | done | rfl | (simp only [List.length_drop, List.length_take]; rfl)) ?_; (with_reducible refine (thermionlaw04_chain.calls  t144 t145 _ A1.out).mono ?_); rintro e w52 ⟨v146, rfl, ho0, hb⟩; refine ⟨_, rfl, ?_⟩; have n0_ := Aside0.mk (Kd.R_lower ho0 (below_size (by repeat (first | (with_reducible first | exact HB.out | apply below_alloc | apply pw_below_drewN | apply below_drew1) | exact HB.out)))); have n1_ := Aside0.mk (below_step (by repeat (first | (with_reducible first | exact HB.out | apply below_alloc | apply pw_below_drewN | apply below_drew1) | exact HB.out)) hb); clear HB; have HO147 := n0_; have HB := n1_; clear n0_ n1_; (try clear hb); (try clear hb2); (try clear hk); (try clear hi); (try clear ho0); obtain ⟨Ao53, co53, eo53⟩ := Kd.R_slice HO147.out; subst eo53) | ((with_reducible refine gate_callee (f := 24) rfl ?_); refine goesL_ (some 7) rfl rfl Try.func24 (by kernel_rfl) rfl #[.agg #[.int .i64 t144, .slice Ao53 t145.length co53]] rfl (by (try simp only [List.map_toArray, List.map_cons, List.map_nil]); first | done | rfl | (simp only [List.length_drop, List.length_take]; rfl)) ?_; (with_reducible refine (mount_Tight.calls t144 _ _ t145 t148 t151 _ ?side1 ?side2 A2.out).mono ?_); (case side1 => repeat (first | exact (Kd.R_reads' HO147.out).2.2 | (with_reducible refine Kd.C_alloc ?_ _) | (with_reducible refine Kd.C_drewN ?_ _) | (with_reducible refine Kd.C_drew ?_))); (case side2 => exact (Kd.R_reads' HO147.out).2.1); rintro e w54 ⟨v149, rfl, ho0, hb⟩; refine ⟨_, rfl, ?_⟩; have n0_ := Aside0.mk (Kd.R_below (by (with_reducible repeat (first | apply Kd.R_alloc | apply Kd.R_drewN | apply Kd.R_drew)); exact HO147.out) hb); have n1_ := Aside0.mk (Kd.N_lower (Kd.N_mono (ok' := fun k_ => some k_ ≠ (.slice Ao53 t145.length co53 : Value).ownBlock) (Kd.S_N (Kd.S_bound ho0)) (fun k_ hk_ => (Kd.fresh' (Kd.R_lt (by (with_reducible repeat (first | apply Kd.R_alloc | apply Kd.R_drewN | apply Kd.R_drew)); exact HO147.out)) k_ hk_.2.1))) (below_size (by repeat (first | (with_reducible first | exact HB.out | apply below_alloc | apply pw_below_drewN | apply below_drew1) | exact HB.out)))); have n2_ := Aside0.mk (below_step (by repeat (first | (with_reducible first | exact HB.out | apply below_alloc | apply pw_below_drewN | apply below_drew1) | exact HB.out)) hb); clear HO147; clear HB; have HO147 := n0_; have HO150 := n1_; have HB := n2_; clear n0_ n1_ n2_; (try clear hb); (try clear hb2); (try clear hk); (try clear hi); (try clear ho0)) | ((with_reducible refine gate_callee (f := 59) rfl ?_); refine goesL_ (some 11) rfl rfl Try.func59 (by kernel_rfl) rfl #[] rfl (by (try simp only [List.map_toArray, List.map_cons, List.map_nil]); first | done | rfl | (simp only [List.length_drop, List.length_take]; rfl)) ?_; (with_reducible refine (thermionlaw04_kit.calls  t152 t155 _ A3.out).mono ?_); rintro e w55 ⟨v153, rfl, ho0, hb⟩; refine ⟨_, rfl, ?_⟩; have n0_ := Aside0.mk (Kd.R_below (by (with_reducible repeat (first | apply Kd.R_alloc | apply Kd.R_drewN | apply Kd.R_drew)); exact HO147.out) hb); have n1_ := Aside0.mk (Kd.N_elder' (by (with_reducible repeat (first | apply Kd.N_alloc | apply Kd.N_drewN | apply Kd.N_drew)); exact HO150.out) (Kd.N_base ho0) hb); have n2_ := Aside0.mk (Kd.N_lower (Kd.N_mono (ok' := fun k_ => some k_ ≠ (.slice Ao53 t145.length co53 : Value).ownBlock ∧ some k_ ≠ (v149 : Value).ownBlock) ho0 (fun k_ hk_ => ⟨(Kd.fresh' (Kd.R_lt (by (with_reducible repeat (first | apply Kd.R_alloc | apply Kd.R_drewN | apply Kd.R_drew)); exact HO147.out)) k_ hk_), (Kd.fresh' (Kd.N_lt (by (with_reducible repeat (first | apply Kd.N_alloc | apply Kd.N_drewN | apply Kd.N_drew)); exact HO150.out)) k_ hk_)⟩)) (below_size (by repeat (first | (with_reducible first | exact HB.out | apply below_alloc | apply pw_below_drewN | apply below_drew1) | exact HB.out)))); have n3_ := Aside0.mk (below_step (by repeat (first | (with_reducible first | exact HB.out | apply below_alloc | apply pw_below_drewN | apply below_drew1) | exact HB.out)) hb); clear HO147; clear HO150; clear HB; have HO147 := n0_; have HO150 := n1_; have HO154 := n2_; have HB := n3_; clear n0_ n1_ n2_ n3_; (try clear hb); (try clear hb2); (try clear hk); (try clear hi); (try clear ho0); obtain ⟨Ao56, co56, eo56⟩ := Kd.N_slice HO154.out; subst eo56) | ((with_reducible refine gate_callee (f := 30) rfl ?_); refine goesL_ (some 12) rfl rfl Try.func30 (by kernel_rfl) rfl #[.agg #[.slice Ao56 t152.length co56, .int .i64 t155]] rfl (by (try simp only [List.map_toArray, List.map_cons, List.map_nil]); first | done | rfl | (simp only [List.length_drop, List.length_take]; rfl)) ?_; (with_reducible refine (mount_Orders.calls _ _ t152 t155 t156 t157 _ ?side1 ?side2 A4.out).mono ?_); (case side1 => repeat (first | exact (Kd.N_reads' HO154.out).2.2 | (with_reducible refine Kd.C_alloc ?_ _) | (with_reducible refine Kd.C_drewN ?_ _) | (with_reducible refine Kd.C_drew ?_))); (case side2 => exact (Kd.N_reads' HO154.out).2.1); rintro e w57 ⟨rfl, hb⟩; refine ⟨_, rfl, ?_⟩; have n0_ := Aside0.mk (Kd.R_below (by (with_reducible repeat (first | apply Kd.R_alloc | apply Kd.R_drewN | apply Kd.R_drew)); exact HO147.out) hb); have n1_ := Aside0.mk (Kd.N_below (by (with_reducible repeat (first | apply Kd.N_alloc | apply Kd.N_drewN | apply Kd.N_drew)); exact HO150.out) hb); have n2_ := Aside0.mk (Kd.N_below (by (with_reducible repeat (first | apply Kd.N_alloc | apply Kd.N_drewN | apply Kd.N_drew)); exact HO154.out) hb); have n3_ := Aside0.mk (below_step (by repeat (first | (with_reducible first | exact HB.out | apply below_alloc | apply pw_below_drewN | apply below_drew1) | exact HB.out)) hb); clear HO147; clear HO150; clear HO154; clear HB; have HO147 := n0_; have HO150 := n1_; have HO154 := n2_; have HB := n3_; clear n0_ n1_ n2_ n3_; (try clear hb); (try clear hb2); (try clear hk); (try clear hi)))
   have n0_ := Aside0.mk (Kd.R_drew HO147.out)
   have n1_ := Aside0.mk (Kd.N_drew HO150.out)
   have n2_ := Aside0.mk (Kd.N_drew HO154.out)
   have n3_ := Aside0.mk (below_drew1 HB.out)
   clear HO147
   clear HO150
   clear HO154
   clear HB
   have HO147 := n0_
   have HO150 := n1_
   have HO154 := n2_
   have HB := n3_
   clear n0_ n1_ n2_ n3_
   obtain ⟨Ao59, co59, eo59⟩ := Kd.N_slice HO150.out
   (first | subst eo59 | (injection eo59 with f1_ f2_ f3_; have f4_ := f1_.symm; have f5_ := f3_.symm; clear f1_ f2_ f3_; subst f4_; subst f5_))
   refine start_ (n := 26) (S := fun w' => True) (ds := []) #[false, false, false, false, false, false, false, false, false, false, false, false, false, false, false, false, false, false, false, false, false, false, false, false, false, false] (by kernel_rfl) rfl rfl trivial (fun hHeld => ?_); refine with_tabW thermionlaw04_awake.tab3 thermionlaw04_awake.bits3 (fun HT_ HW_ => ?_)
   generalize w57.drew = w58 at HO147 HO150 HO154 HB hHeld ⊢
   refine pure_ (i := 0) (N := some 15) (v := ?_) (a' := ?_) #[true, false, false, false, false, false, false, false, false, false, false, false, false, false, false, false, false, false, false, false, false, false, false, false, false, false] rfl rfl (any_of HT_.out (by kernel_rfl)) (fun _ _ _ h => h) (Or.inl ⟨by rfl, ?_⟩) ?_ ?_
   rotate_left
   ·intro w'
    go_simp
    with_reducible rfl
   rotate_left
   ·simp only [Act.put, List.setIfInBounds_toArray, List.set_cons_zero, List.set_cons_succ, i64_w, i32_w]
    rfl
   refine pure_ (i := 1) (N := some 16) (v := ?_) (a' := ?_) #[true, true, false, false, false, false, false, false, false, false, false, false, false, false, false, false, false, false, false, false, false, false, false, false, false, false] rfl rfl (any_of HT_.out (by kernel_rfl)) (fun _ _ _ h => h) (Or.inl ⟨by rfl, ?_⟩) ?_ ?_
   rotate_left
   ·intro w'
    go_simp
    with_reducible rfl
   rotate_left
   ·simp only [Act.put, List.setIfInBounds_toArray, List.set_cons_zero, List.set_cons_succ, i64_w, i32_w]
    rfl
   refine pure_ (i := 2) (N := some 17) (v := ?_) (a' := ?_) #[true, true, true, false, false, false, false, false, false, false, false, false, false, false, false, false, false, false, false, false, false, false, false, false, false, false] rfl rfl (any_of HT_.out (by kernel_rfl)) (fun _ _ _ h => h) (Or.inl ⟨by rfl, ?_⟩) ?_ ?_
   rotate_left
   ·intro w'
    go_simp
    with_reducible rfl
   rotate_left
   ·simp only [Act.put, List.setIfInBounds_toArray, List.set_cons_zero, List.set_cons_succ, i64_w, i32_w]
    rfl
   refine pure_ (i := 3) (N := some 18) (v := ?_) (a' := ?_) #[true, true, true, true, false, false, false, false, false, false, false, false, false, false, false, false, false, false, false, false, false, false, false, false, false, false] rfl rfl (any_of HT_.out (by kernel_rfl)) (fun _ _ _ h => h) (Or.inl ⟨by rfl, ?_⟩) ?_ ?_
   rotate_left
   ·intro w'
    go_simp
    with_reducible rfl
   rotate_left
   ·simp only [Act.put, List.setIfInBounds_toArray, List.set_cons_zero, List.set_cons_succ, i64_w, i32_w]
    rfl
   refine pure_ (i := 4) (N := some 19) (v := ?_) (a' := ?_) #[true, true, true, true, true, false, false, false, false, false, false, false, false, false, false, false, false, false, false, false, false, false, false, false, false, false] rfl rfl (any_of HT_.out (by kernel_rfl)) (fun _ _ _ h => h) (Or.inl ⟨by rfl, ?_⟩) ?_ ?_
   rotate_left
   ·intro w'
    go_simp
    with_reducible rfl
   rotate_left
   ·simp only [Act.put, List.setIfInBounds_toArray, List.set_cons_zero, List.set_cons_succ, i64_w, i32_w]
    rfl
   refine pure_ (i := 5) (N := some 20) (v := ?_) (a' := ?_) #[true, true, true, true, true, true, false, false, false, false, false, false, false, false, false, false, false, false, false, false, false, false, false, false, false, false] rfl rfl (any_of HT_.out (by kernel_rfl)) (fun _ _ _ h => h) (Or.inl ⟨by rfl, ?_⟩) ?_ ?_
   rotate_left
   ·intro w'
    go_simp
    with_reducible rfl
   rotate_left
   ·simp only [Act.put, List.setIfInBounds_toArray, List.set_cons_zero, List.set_cons_succ, i64_w, i32_w]
    rfl
   refine pure_ (i := 6) (N := some 21) (v := ?_) (a' := ?_) #[true, true, true, true, true, true, true, false, false, false, false, false, false, false, false, false, false, false, false, false, false, false, false, false, false, false] rfl rfl (any_of HT_.out (by kernel_rfl)) (fun _ _ _ h => h) (Or.inl ⟨by rfl, ?_⟩) ?_ ?_
   rotate_left
   ·intro w'
    go_simp
    with_reducible rfl
   rotate_left
   ·simp only [Act.put, List.setIfInBounds_toArray, List.set_cons_zero, List.set_cons_succ, i64_w, i32_w]
    rfl
   refine pure_ (i := 7) (N := some 22) (v := ?_) (a' := ?_) #[true, true, true, true, true, true, true, true, false, false, false, false, false, false, false, false, false, false, false, false, false, false, false, false, false, false] rfl rfl (any_of HT_.out (by kernel_rfl)) (fun _ _ _ h => h) (Or.inl ⟨by rfl, ?_⟩) ?_ ?_
   rotate_left
   ·intro w'
    go_simp
    with_reducible rfl
   rotate_left
   ·simp only [Act.put, List.setIfInBounds_toArray, List.set_cons_zero, List.set_cons_succ, i64_w, i32_w]
    rfl
   refine pure_ (i := 8) (N := some 23) (v := undef) (a' := ?_) #[true, true, true, true, true, true, true, true, true, false, false, false, false, false, false, false, false, false, false, false, false, false, false, false, false, false] rfl rfl (any_of HT_.out (by kernel_rfl)) (fun _ _ _ h => h) (Or.inr ⟨by rfl, rfl⟩) ?_ ?_
   rotate_left
   ·simp only [Act.put, List.setIfInBounds_toArray, List.set_cons_zero, List.set_cons_succ, i64_w, i32_w]
    rfl
   refine pure_ (i := 9) (N := some 24) (v := undef) (a' := ?_) #[true, true, true, true, true, true, true, true, true, true, false, false, false, false, false, false, false, false, false, false, false, false, false, false, false, false] rfl rfl (any_of HT_.out (by kernel_rfl)) (fun _ _ _ h => h) (Or.inr ⟨by rfl, rfl⟩) ?_ ?_
   rotate_left
   ·simp only [Act.put, List.setIfInBounds_toArray, List.set_cons_zero, List.set_cons_succ, i64_w, i32_w]
    rfl
   refine pure_ (i := 10) (N := some 25) (v := undef) (a' := ?_) #[true, true, true, true, true, true, true, true, true, true, true, false, false, false, false, false, false, false, false, false, false, false, false, false, false, false] rfl rfl (any_of HT_.out (by kernel_rfl)) (fun _ _ _ h => h) (Or.inr ⟨by rfl, rfl⟩) ?_ ?_
   rotate_left
   ·simp only [Act.put, List.setIfInBounds_toArray, List.set_cons_zero, List.set_cons_succ, i64_w, i32_w]
    rfl
   refine pure_ (i := 11) (N := some 26) (v := undef) (a' := ?_) #[true, true, true, true, true, true, true, true, true, true, true, true, false, false, false, false, false, false, false, false, false, false, false, false, false, false] rfl rfl (any_of HT_.out (by kernel_rfl)) (fun _ _ _ h => h) (Or.inr ⟨by rfl, rfl⟩) ?_ ?_
   rotate_left
   ·simp only [Act.put, List.setIfInBounds_toArray, List.set_cons_zero, List.set_cons_succ, i64_w, i32_w]
    rfl
   refine pure_ (i := 12) (N := some 27) (v := undef) (a' := ?_) #[true, true, true, true, true, true, true, true, true, true, true, true, true, false, false, false, false, false, false, false, false, false, false, false, false, false] rfl rfl (any_of HT_.out (by kernel_rfl)) (fun _ _ _ h => h) (Or.inr ⟨by rfl, rfl⟩) ?_ ?_
   rotate_left
   ·simp only [Act.put, List.setIfInBounds_toArray, List.set_cons_zero, List.set_cons_succ, i64_w, i32_w]
    rfl
   refine pure_ (i := 13) (N := some 28) (v := undef) (a' := ?_) #[true, true, true, true, true, true, true, true, true, true, true, true, true, true, false, false, false, false, false, false, false, false, false, false, false, false] rfl rfl (any_of HT_.out (by kernel_rfl)) (fun _ _ _ h => h) (Or.inr ⟨by rfl, rfl⟩) ?_ ?_
   rotate_left
   ·simp only [Act.put, List.setIfInBounds_toArray, List.set_cons_zero, List.set_cons_succ, i64_w, i32_w]
    rfl
   refine pure_ (i := 14) (N := some 29) (v := undef) (a' := ?_) #[true, true, true, true, true, true, true, true, true, true, true, true, true, true, true, false, false, false, false, false, false, false, false, false, false, false] rfl rfl (any_of HT_.out (by kernel_rfl)) (fun _ _ _ h => h) (Or.inr ⟨by rfl, rfl⟩) ?_ ?_
   rotate_left
   ·simp only [Act.put, List.setIfInBounds_toArray, List.set_cons_zero, List.set_cons_succ, i64_w, i32_w]
    rfl
   refine pure_ (i := 15) (N := some 30) (v := undef) (a' := ?_) #[true, true, true, true, true, true, true, true, true, true, true, true, true, true, true, true, false, false, false, false, false, false, false, false, false, false] rfl rfl (any_of HT_.out (by kernel_rfl)) (fun _ _ _ h => h) (Or.inr ⟨by rfl, rfl⟩) ?_ ?_
   rotate_left
   ·simp only [Act.put, List.setIfInBounds_toArray, List.set_cons_zero, List.set_cons_succ, i64_w, i32_w]
    rfl
   refine pure_ (i := 16) (N := some 31) (v := ?_) (a' := ?_) #[true, true, true, true, true, true, true, true, true, true, true, true, true, true, true, true, true, false, false, false, false, false, false, false, false, false] rfl rfl (any_of HT_.out (by kernel_rfl)) (fun _ _ _ h => h) (Or.inl ⟨by rfl, ?_⟩) ?_ ?_
   rotate_left
   ·intro w'
    go_simp
    with_reducible rfl
   rotate_left
   ·simp only [Act.put, List.setIfInBounds_toArray, List.set_cons_zero, List.set_cons_succ, i64_w, i32_w]
    rfl
   refine pure_ (i := 17) (N := some 32) (v := ?_) (a' := ?_) #[true, true, true, true, true, true, true, true, true, true, true, true, true, true, true, true, true, true, false, false, false, false, false, false, false, false] rfl rfl (any_of HT_.out (by kernel_rfl)) (fun _ _ _ h => h) (Or.inl ⟨by rfl, ?_⟩) ?_ ?_
   rotate_left
   ·intro w'
    go_simp
    with_reducible rfl
   rotate_left
   ·simp only [Act.put, List.setIfInBounds_toArray, List.set_cons_zero, List.set_cons_succ, i64_w, i32_w]
    rfl
   refine pure_ (i := 18) (N := some 33) (v := undef) (a' := ?_) #[true, true, true, true, true, true, true, true, true, true, true, true, true, true, true, true, true, true, true, false, false, false, false, false, false, false] rfl rfl (any_of HT_.out (by kernel_rfl)) (fun _ _ _ h => h) (Or.inr ⟨by rfl, rfl⟩) ?_ ?_
   rotate_left
   ·simp only [Act.put, List.setIfInBounds_toArray, List.set_cons_zero, List.set_cons_succ, i64_w, i32_w]
    rfl
   refine pure_ (i := 19) (N := some 34) (v := undef) (a' := ?_) #[true, true, true, true, true, true, true, true, true, true, true, true, true, true, true, true, true, true, true, true, false, false, false, false, false, false] rfl rfl (any_of HT_.out (by kernel_rfl)) (fun _ _ _ h => h) (Or.inr ⟨by rfl, rfl⟩) ?_ ?_
   rotate_left
   ·simp only [Act.put, List.setIfInBounds_toArray, List.set_cons_zero, List.set_cons_succ, i64_w, i32_w]
    rfl
   refine pure_ (i := 20) (N := some 35) (v := ?_) (a' := ?_) #[true, true, true, true, true, true, true, true, true, true, true, true, true, true, true, true, true, true, true, true, true, false, false, false, false, false] rfl rfl (any_of HT_.out (by kernel_rfl)) (fun _ _ _ h => h) (Or.inl ⟨by rfl, ?_⟩) ?_ ?_
   rotate_left
   ·intro w'
    go_simp
    with_reducible rfl
   rotate_left
   ·simp only [Act.put, List.setIfInBounds_toArray, List.set_cons_zero, List.set_cons_succ, i64_w, i32_w]
    rfl
   refine pure_ (i := 21) (N := some 36) (v := ?_) (a' := ?_) #[true, true, true, true, true, true, true, true, true, true, true, true, true, true, true, true, true, true, true, true, true, true, false, false, false, false] rfl rfl (any_of HT_.out (by kernel_rfl)) (fun _ _ _ h => h) (Or.inl ⟨by rfl, ?_⟩) ?_ ?_
   rotate_left
   ·intro w'
    go_simp
    with_reducible rfl
   rotate_left
   ·simp only [Act.put, List.setIfInBounds_toArray, List.set_cons_zero, List.set_cons_succ, i64_w, i32_w]
    rfl
   refine pure_ (i := 22) (N := some 37) (v := undef) (a' := ?_) #[true, true, true, true, true, true, true, true, true, true, true, true, true, true, true, true, true, true, true, true, true, true, true, false, false, false] rfl rfl (any_of HT_.out (by kernel_rfl)) (fun _ _ _ h => h) (Or.inr ⟨by rfl, rfl⟩) ?_ ?_
   rotate_left
   ·simp only [Act.put, List.setIfInBounds_toArray, List.set_cons_zero, List.set_cons_succ, i64_w, i32_w]
    rfl
   refine pure_ (i := 23) (N := some 38) (v := undef) (a' := ?_) #[true, true, true, true, true, true, true, true, true, true, true, true, true, true, true, true, true, true, true, true, true, true, true, true, false, false] rfl rfl (any_of HT_.out (by kernel_rfl)) (fun _ _ _ h => h) (Or.inr ⟨by rfl, rfl⟩) ?_ ?_
   rotate_left
   ·simp only [Act.put, List.setIfInBounds_toArray, List.set_cons_zero, List.set_cons_succ, i64_w, i32_w]
    rfl
   refine pure_ (i := 24) (N := some 39) (v := ?_) (a' := ?_) #[true, true, true, true, true, true, true, true, true, true, true, true, true, true, true, true, true, true, true, true, true, true, true, true, true, false] rfl rfl (any_of HT_.out (by kernel_rfl)) (fun _ _ _ h => h) (Or.inl ⟨by rfl, ?_⟩) ?_ ?_
   rotate_left
   ·intro w'
    go_simp
    with_reducible rfl
   rotate_left
   ·simp only [Act.put, List.setIfInBounds_toArray, List.set_cons_zero, List.set_cons_succ, i64_w, i32_w]
    rfl
   refine pure_ (i := 25) (N := some 0) (v := ?_) (a' := ?_) #[true, true, true, true, true, true, true, true, true, true, true, true, true, true, true, true, true, true, true, true, true, true, true, true, true, true] rfl rfl (any_of HT_.out (by kernel_rfl)) (fun _ _ _ h => h) (Or.inl ⟨by rfl, ?_⟩) ?_ ?_
   rotate_left
   ·intro w'
    go_simp
    with_reducible rfl
   rotate_left
   ·simp only [Act.put, List.setIfInBounds_toArray, List.set_cons_zero, List.set_cons_succ, i64_w, i32_w]
    rfl
   refine done_ (done_of HT_.out (by kernel_rfl)) ?_
   try go_wp2
   go_ret
   exact ⟨by first | rfl | (simp [errW_none, errW_some] <;> rfl) | (simp [*, errW_none, errW_some] <;> rfl), by repeat (first | (with_reducible first | exact HB.out | apply below_alloc | apply pw_below_drewN | apply below_drew1) | exact HB.out)⟩
 ·rw [if_neg c5] at H
  have c5b0 : (t151 == 0) = false := beq_eq_false_iff_ne.mpr c5
  have c5b1 : (t151 != 0) = true := bne_iff_ne.mpr c5
  obtain rfl := Option.some.inj H
  go_enter Try.func21, Try.ntmps21
  try go_wp2_with (first | ((with_reducible refine gate_callee (f := 87) rfl ?_); refine goesL_ (some 6) rfl rfl Try.func87 (by kernel_rfl) rfl #[] rfl (by (try simp only [List.map_toArray, List.map_cons, List.map_nil]); first | done | rfl | (simp only [List.length_drop, List.length_take]; rfl)) ?_; (with_reducible refine (thermionlaw04_chain.calls  t144 t145 _ A1.out).mono ?_); rintro e w60 ⟨v146, rfl, ho0, hb⟩; refine ⟨_, rfl, ?_⟩; have n0_ := Aside0.mk (Kd.R_lower ho0 (below_size (by repeat (first | (with_reducible first | exact HB.out | apply below_alloc | apply pw_below_drewN | apply below_drew1) | exact HB.out)))); have n1_ := Aside0.mk (below_step (by repeat (first | (with_reducible first | exact HB.out | apply below_alloc | apply pw_below_drewN | apply below_drew1) | exact HB.out)) hb); clear HB; have HO147 := n0_; have HB := n1_; clear n0_ n1_; (try clear hb); (try clear hb2); (try clear hk); (try clear hi); (try clear ho0); obtain ⟨Ao61, co61, eo61⟩ := Kd.R_slice HO147.out; subst eo61) | ((with_reducible refine gate_callee (f := 24) rfl ?_); refine goesL_ (some 7) rfl rfl Try.func24 (by kernel_rfl) rfl #[.agg #[.int .i64 t144, .slice Ao61 t145.length co61]] rfl (by (try simp only [List.map_toArray, List.map_cons, List.map_nil]); first | done | rfl | (simp only [List.length_drop, List.length_take]; rfl)) ?_; (with_reducible refine (mount_Tight.calls t144 _ _ t145 t148 t151 _ ?side1 ?side2 A2.out).mono ?_); (case side1 => repeat (first | exact (Kd.R_reads' HO147.out).2.2 | (with_reducible refine Kd.C_alloc ?_ _) | (with_reducible refine Kd.C_drewN ?_ _) | (with_reducible refine Kd.C_drew ?_))); (case side2 => exact (Kd.R_reads' HO147.out).2.1); rintro e w62 ⟨v149, rfl, ho0, hb⟩; refine ⟨_, rfl, ?_⟩; have n0_ := Aside0.mk (Kd.R_below (by (with_reducible repeat (first | apply Kd.R_alloc | apply Kd.R_drewN | apply Kd.R_drew)); exact HO147.out) hb); have n1_ := Aside0.mk (Kd.N_lower (Kd.N_mono (ok' := fun k_ => some k_ ≠ (.slice Ao61 t145.length co61 : Value).ownBlock) (Kd.S_N (Kd.S_bound ho0)) (fun k_ hk_ => (Kd.fresh' (Kd.R_lt (by (with_reducible repeat (first | apply Kd.R_alloc | apply Kd.R_drewN | apply Kd.R_drew)); exact HO147.out)) k_ hk_.2.1))) (below_size (by repeat (first | (with_reducible first | exact HB.out | apply below_alloc | apply pw_below_drewN | apply below_drew1) | exact HB.out)))); have n2_ := Aside0.mk (below_step (by repeat (first | (with_reducible first | exact HB.out | apply below_alloc | apply pw_below_drewN | apply below_drew1) | exact HB.out)) hb); clear HO147; clear HB; have HO147 := n0_; have HO150 := n1_; have HB := n2_; clear n0_ n1_ n2_; (try clear hb); (try clear hb2); (try clear hk); (try clear hi); (try clear ho0)) | ((with_reducible refine gate_callee (f := 59) rfl ?_); refine goesL_ (some 11) rfl rfl Try.func59 (by kernel_rfl) rfl #[] rfl (by (try simp only [List.map_toArray, List.map_cons, List.map_nil]); first | done | rfl | (simp only [List.length_drop, List.length_take]; rfl)) ?_; (with_reducible refine (thermionlaw04_kit.calls  t152 t155 _ A3.out).mono ?_); rintro e w63 ⟨v153, rfl, ho0, hb⟩; refine ⟨_, rfl, ?_⟩; have n0_ := Aside0.mk (Kd.R_below (by (with_reducible repeat (first | apply Kd.R_alloc | apply Kd.R_drewN | apply Kd.R_drew)); exact HO147.out) hb); have n1_ := Aside0.mk (Kd.N_elder' (by (with_reducible repeat (first | apply Kd.N_alloc | apply Kd.N_drewN | apply Kd.N_drew)); exact HO150.out) (Kd.N_base ho0) hb); have n2_ := Aside0.mk (Kd.N_lower (Kd.N_mono (ok' := fun k_ => some k_ ≠ (.slice Ao61 t145.length co61 : Value).ownBlock ∧ some k_ ≠ (v149 : Value).ownBlock) ho0 (fun k_ hk_ => ⟨(Kd.fresh' (Kd.R_lt (by (with_reducible repeat (first | apply Kd.R_alloc | apply Kd.R_drewN | apply Kd.R_drew)); exact HO147.out)) k_ hk_), (Kd.fresh' (Kd.N_lt (by (with_reducible repeat (first | apply Kd.N_alloc | apply Kd.N_drewN | apply Kd.N_drew)); exact HO150.out)) k_ hk_)⟩)) (below_size (by repeat (first | (with_reducible first | exact HB.out | apply below_alloc | apply pw_below_drewN | apply below_drew1) | exact HB.out)))); have n3_ := Aside0.mk (below_step (by repeat (first | (with_reducible first | exact HB.out | apply below_alloc | apply pw_below_drewN | apply below_drew1) | exact HB.out)) hb); clear HO147; clear HO150; clear HB; have HO147 := n0_; have HO150 := n1_; have HO154 := n2_; have HB := n3_; clear n0_ n1_ n2_ n3_; (try clear hb); (try clear hb2); (try clear hk); (try clear hi); (try clear ho0); obtain ⟨Ao64, co64, eo64⟩ := Kd.N_slice HO154.out; subst eo64) | ((with_reducible refine gate_callee (f := 30) rfl ?_); refine goesL_ (some 12) rfl rfl Try.func30 (by kernel_rfl) rfl #[.agg #[.slice Ao64 t152.length co64, .int .i64 t155]] rfl (by (try simp only [List.map_toArray, List.map_cons, List.map_nil]); first | done | rfl | (simp only [List.length_drop, List.length_take]; rfl)) ?_; (with_reducible refine (mount_Orders.calls _ _ t152 t155 t156 t157 _ ?side1 ?side2 A4.out).mono ?_); (case side1 => repeat (first | exact (Kd.N_reads' HO154.out).2.2 | (with_reducible refine Kd.C_alloc ?_ _) | (with_reducible refine Kd.C_drewN ?_ _) | (with_reducible refine Kd.C_drew ?_))); (case side2 => exact (Kd.N_reads' HO154.out).2.1); rintro e w65 ⟨rfl, hb⟩; refine ⟨_, rfl, ?_⟩; have n0_ := Aside0.mk (Kd.R_below (by (with_reducible repeat (first | apply Kd.R_alloc | apply Kd.R_drewN | apply Kd.R_drew)); exact HO147.out) hb); have n1_ := Aside0.mk (Kd.N_below (by (with_reducible repeat (first | apply Kd.N_alloc | apply Kd.N_drewN | apply Kd.N_drew)); exact HO150.out) hb); have n2_ := Aside0.mk (Kd.N_below (by (with_reducible repeat (first | apply Kd.N_alloc | apply Kd.N_drewN | apply Kd.N_drew)); exact HO154.out) hb); have n3_ := Aside0.mk (below_step (by repeat (first | (with_reducible first | exact HB.out | apply below_alloc | apply pw_below_drewN | apply below_drew1) | exact HB.out)) hb); clear HO147; clear HO150; clear HO154; clear HB; have HO147 := n0_; have HO150 := n1_; have HO154 := n2_; have HB := n3_; clear n0_ n1_ n2_ n3_; (try clear hb); (try clear hb2); (try clear hk); (try clear hi)))
  have n0_ := Aside0.mk (Kd.R_drew HO147.out)
  have n1_ := Aside0.mk (Kd.N_drew HO150.out)
  have n2_ := Aside0.mk (Kd.N_drew HO154.out)
  have n3_ := Aside0.mk (below_drew1 HB.out)
  clear HO147
  clear HO150
  clear HO154
  clear HB
  have HO147 := n0_
  have HO150 := n1_
  have HO154 := n2_
  have HB := n3_
  clear n0_ n1_ n2_ n3_
  refine start_ (n := 26) (S := fun w' => True) (ds := []) #[false, false, false, false, false, false, false, false, false, false, false, false, false, false, false, false, false, false, false, false, false, false, false, false, false, false] (by kernel_rfl) rfl rfl trivial (fun hHeld => ?_); refine with_tabW thermionlaw04_awake.tab3 thermionlaw04_awake.bits3 (fun HT_ HW_ => ?_)
  generalize w65.drew = w66 at HO147 HO150 HO154 HB hHeld ⊢
  refine pure_ (i := 0) (N := some 15) (v := ?_) (a' := ?_) #[true, false, false, false, false, false, false, false, false, false, false, false, false, false, false, false, false, false, false, false, false, false, false, false, false, false] rfl rfl (any_of HT_.out (by kernel_rfl)) (fun _ _ _ h => h) (Or.inl ⟨by rfl, ?_⟩) ?_ ?_
  rotate_left
  ·intro w'
   go_simp
   with_reducible rfl
  rotate_left
  ·simp only [Act.put, List.setIfInBounds_toArray, List.set_cons_zero, List.set_cons_succ, i64_w, i32_w]
   rfl
  refine pure_ (i := 1) (N := some 16) (v := ?_) (a' := ?_) #[true, true, false, false, false, false, false, false, false, false, false, false, false, false, false, false, false, false, false, false, false, false, false, false, false, false] rfl rfl (any_of HT_.out (by kernel_rfl)) (fun _ _ _ h => h) (Or.inl ⟨by rfl, ?_⟩) ?_ ?_
  rotate_left
  ·intro w'
   go_simp
   with_reducible rfl
  rotate_left
  ·simp only [Act.put, List.setIfInBounds_toArray, List.set_cons_zero, List.set_cons_succ, i64_w, i32_w]
   rfl
  refine pure_ (i := 2) (N := some 17) (v := ?_) (a' := ?_) #[true, true, true, false, false, false, false, false, false, false, false, false, false, false, false, false, false, false, false, false, false, false, false, false, false, false] rfl rfl (any_of HT_.out (by kernel_rfl)) (fun _ _ _ h => h) (Or.inl ⟨by rfl, ?_⟩) ?_ ?_
  rotate_left
  ·intro w'
   go_simp
   with_reducible rfl
  rotate_left
  ·simp only [Act.put, List.setIfInBounds_toArray, List.set_cons_zero, List.set_cons_succ, i64_w, i32_w]
   rfl
  refine pure_ (i := 3) (N := some 18) (v := undef) (a' := ?_) #[true, true, true, true, false, false, false, false, false, false, false, false, false, false, false, false, false, false, false, false, false, false, false, false, false, false] rfl rfl (any_of HT_.out (by kernel_rfl)) (fun _ _ _ h => h) (Or.inr ⟨by rfl, rfl⟩) ?_ ?_
  rotate_left
  ·simp only [Act.put, List.setIfInBounds_toArray, List.set_cons_zero, List.set_cons_succ, i64_w, i32_w]
   rfl
  refine pure_ (i := 4) (N := some 19) (v := undef) (a' := ?_) #[true, true, true, true, true, false, false, false, false, false, false, false, false, false, false, false, false, false, false, false, false, false, false, false, false, false] rfl rfl (any_of HT_.out (by kernel_rfl)) (fun _ _ _ h => h) (Or.inr ⟨by rfl, rfl⟩) ?_ ?_
  rotate_left
  ·simp only [Act.put, List.setIfInBounds_toArray, List.set_cons_zero, List.set_cons_succ, i64_w, i32_w]
   rfl
  refine pure_ (i := 5) (N := some 20) (v := undef) (a' := ?_) #[true, true, true, true, true, true, false, false, false, false, false, false, false, false, false, false, false, false, false, false, false, false, false, false, false, false] rfl rfl (any_of HT_.out (by kernel_rfl)) (fun _ _ _ h => h) (Or.inr ⟨by rfl, rfl⟩) ?_ ?_
  rotate_left
  ·simp only [Act.put, List.setIfInBounds_toArray, List.set_cons_zero, List.set_cons_succ, i64_w, i32_w]
   rfl
  refine pure_ (i := 6) (N := some 21) (v := ?_) (a' := ?_) #[true, true, true, true, true, true, true, false, false, false, false, false, false, false, false, false, false, false, false, false, false, false, false, false, false, false] rfl rfl (any_of HT_.out (by kernel_rfl)) (fun _ _ _ h => h) (Or.inl ⟨by rfl, ?_⟩) ?_ ?_
  rotate_left
  ·intro w'
   go_simp
   with_reducible rfl
  rotate_left
  ·simp only [Act.put, List.setIfInBounds_toArray, List.set_cons_zero, List.set_cons_succ, i64_w, i32_w]
   rfl
  refine pure_ (i := 7) (N := some 22) (v := ?_) (a' := ?_) #[true, true, true, true, true, true, true, true, false, false, false, false, false, false, false, false, false, false, false, false, false, false, false, false, false, false] rfl rfl (any_of HT_.out (by kernel_rfl)) (fun _ _ _ h => h) (Or.inl ⟨by rfl, ?_⟩) ?_ ?_
  rotate_left
  ·intro w'
   go_simp
   with_reducible rfl
  rotate_left
  ·simp only [Act.put, List.setIfInBounds_toArray, List.set_cons_zero, List.set_cons_succ, i64_w, i32_w]
   rfl
  refine pure_ (i := 8) (N := some 23) (v := undef) (a' := ?_) #[true, true, true, true, true, true, true, true, true, false, false, false, false, false, false, false, false, false, false, false, false, false, false, false, false, false] rfl rfl (any_of HT_.out (by kernel_rfl)) (fun _ _ _ h => h) (Or.inr ⟨by rfl, rfl⟩) ?_ ?_
  rotate_left
  ·simp only [Act.put, List.setIfInBounds_toArray, List.set_cons_zero, List.set_cons_succ, i64_w, i32_w]
   rfl
  refine pure_ (i := 9) (N := some 24) (v := undef) (a' := ?_) #[true, true, true, true, true, true, true, true, true, true, false, false, false, false, false, false, false, false, false, false, false, false, false, false, false, false] rfl rfl (any_of HT_.out (by kernel_rfl)) (fun _ _ _ h => h) (Or.inr ⟨by rfl, rfl⟩) ?_ ?_
  rotate_left
  ·simp only [Act.put, List.setIfInBounds_toArray, List.set_cons_zero, List.set_cons_succ, i64_w, i32_w]
   rfl
  refine pure_ (i := 10) (N := some 25) (v := undef) (a' := ?_) #[true, true, true, true, true, true, true, true, true, true, true, false, false, false, false, false, false, false, false, false, false, false, false, false, false, false] rfl rfl (any_of HT_.out (by kernel_rfl)) (fun _ _ _ h => h) (Or.inr ⟨by rfl, rfl⟩) ?_ ?_
  rotate_left
  ·simp only [Act.put, List.setIfInBounds_toArray, List.set_cons_zero, List.set_cons_succ, i64_w, i32_w]
   rfl
  refine pure_ (i := 11) (N := some 26) (v := undef) (a' := ?_) #[true, true, true, true, true, true, true, true, true, true, true, true, false, false, false, false, false, false, false, false, false, false, false, false, false, false] rfl rfl (any_of HT_.out (by kernel_rfl)) (fun _ _ _ h => h) (Or.inr ⟨by rfl, rfl⟩) ?_ ?_
  rotate_left
  ·simp only [Act.put, List.setIfInBounds_toArray, List.set_cons_zero, List.set_cons_succ, i64_w, i32_w]
   rfl
  refine pure_ (i := 12) (N := some 27) (v := undef) (a' := ?_) #[true, true, true, true, true, true, true, true, true, true, true, true, true, false, false, false, false, false, false, false, false, false, false, false, false, false] rfl rfl (any_of HT_.out (by kernel_rfl)) (fun _ _ _ h => h) (Or.inr ⟨by rfl, rfl⟩) ?_ ?_
  rotate_left
  ·simp only [Act.put, List.setIfInBounds_toArray, List.set_cons_zero, List.set_cons_succ, i64_w, i32_w]
   rfl
  refine pure_ (i := 13) (N := some 28) (v := undef) (a' := ?_) #[true, true, true, true, true, true, true, true, true, true, true, true, true, true, false, false, false, false, false, false, false, false, false, false, false, false] rfl rfl (any_of HT_.out (by kernel_rfl)) (fun _ _ _ h => h) (Or.inr ⟨by rfl, rfl⟩) ?_ ?_
  rotate_left
  ·simp only [Act.put, List.setIfInBounds_toArray, List.set_cons_zero, List.set_cons_succ, i64_w, i32_w]
   rfl
  refine pure_ (i := 14) (N := some 29) (v := undef) (a' := ?_) #[true, true, true, true, true, true, true, true, true, true, true, true, true, true, true, false, false, false, false, false, false, false, false, false, false, false] rfl rfl (any_of HT_.out (by kernel_rfl)) (fun _ _ _ h => h) (Or.inr ⟨by rfl, rfl⟩) ?_ ?_
  rotate_left
  ·simp only [Act.put, List.setIfInBounds_toArray, List.set_cons_zero, List.set_cons_succ, i64_w, i32_w]
   rfl
  refine pure_ (i := 15) (N := some 30) (v := undef) (a' := ?_) #[true, true, true, true, true, true, true, true, true, true, true, true, true, true, true, true, false, false, false, false, false, false, false, false, false, false] rfl rfl (any_of HT_.out (by kernel_rfl)) (fun _ _ _ h => h) (Or.inr ⟨by rfl, rfl⟩) ?_ ?_
  rotate_left
  ·simp only [Act.put, List.setIfInBounds_toArray, List.set_cons_zero, List.set_cons_succ, i64_w, i32_w]
   rfl
  refine pure_ (i := 16) (N := some 31) (v := ?_) (a' := ?_) #[true, true, true, true, true, true, true, true, true, true, true, true, true, true, true, true, true, false, false, false, false, false, false, false, false, false] rfl rfl (any_of HT_.out (by kernel_rfl)) (fun _ _ _ h => h) (Or.inl ⟨by rfl, ?_⟩) ?_ ?_
  rotate_left
  ·intro w'
   go_simp
   with_reducible rfl
  rotate_left
  ·simp only [Act.put, List.setIfInBounds_toArray, List.set_cons_zero, List.set_cons_succ, i64_w, i32_w]
   rfl
  refine pure_ (i := 17) (N := some 32) (v := ?_) (a' := ?_) #[true, true, true, true, true, true, true, true, true, true, true, true, true, true, true, true, true, true, false, false, false, false, false, false, false, false] rfl rfl (any_of HT_.out (by kernel_rfl)) (fun _ _ _ h => h) (Or.inl ⟨by rfl, ?_⟩) ?_ ?_
  rotate_left
  ·intro w'
   go_simp
   with_reducible rfl
  rotate_left
  ·simp only [Act.put, List.setIfInBounds_toArray, List.set_cons_zero, List.set_cons_succ, i64_w, i32_w]
   rfl
  refine pure_ (i := 18) (N := some 33) (v := undef) (a' := ?_) #[true, true, true, true, true, true, true, true, true, true, true, true, true, true, true, true, true, true, true, false, false, false, false, false, false, false] rfl rfl (any_of HT_.out (by kernel_rfl)) (fun _ _ _ h => h) (Or.inr ⟨by rfl, rfl⟩) ?_ ?_
  rotate_left
  ·simp only [Act.put, List.setIfInBounds_toArray, List.set_cons_zero, List.set_cons_succ, i64_w, i32_w]
   rfl
  refine pure_ (i := 19) (N := some 34) (v := undef) (a' := ?_) #[true, true, true, true, true, true, true, true, true, true, true, true, true, true, true, true, true, true, true, true, false, false, false, false, false, false] rfl rfl (any_of HT_.out (by kernel_rfl)) (fun _ _ _ h => h) (Or.inr ⟨by rfl, rfl⟩) ?_ ?_
  rotate_left
  ·simp only [Act.put, List.setIfInBounds_toArray, List.set_cons_zero, List.set_cons_succ, i64_w, i32_w]
   rfl
  refine pure_ (i := 20) (N := some 35) (v := ?_) (a' := ?_) #[true, true, true, true, true, true, true, true, true, true, true, true, true, true, true, true, true, true, true, true, true, false, false, false, false, false] rfl rfl (any_of HT_.out (by kernel_rfl)) (fun _ _ _ h => h) (Or.inl ⟨by rfl, ?_⟩) ?_ ?_
  rotate_left
  ·intro w'
   go_simp
   with_reducible rfl
  rotate_left
  ·simp only [Act.put, List.setIfInBounds_toArray, List.set_cons_zero, List.set_cons_succ, i64_w, i32_w]
   rfl
  refine pure_ (i := 21) (N := some 36) (v := ?_) (a' := ?_) #[true, true, true, true, true, true, true, true, true, true, true, true, true, true, true, true, true, true, true, true, true, true, false, false, false, false] rfl rfl (any_of HT_.out (by kernel_rfl)) (fun _ _ _ h => h) (Or.inl ⟨by rfl, ?_⟩) ?_ ?_
  rotate_left
  ·intro w'
   go_simp
   with_reducible rfl
  rotate_left
  ·simp only [Act.put, List.setIfInBounds_toArray, List.set_cons_zero, List.set_cons_succ, i64_w, i32_w]
   rfl
  refine pure_ (i := 22) (N := some 37) (v := undef) (a' := ?_) #[true, true, true, true, true, true, true, true, true, true, true, true, true, true, true, true, true, true, true, true, true, true, true, false, false, false] rfl rfl (any_of HT_.out (by kernel_rfl)) (fun _ _ _ h => h) (Or.inr ⟨by rfl, rfl⟩) ?_ ?_
  rotate_left
  ·simp only [Act.put, List.setIfInBounds_toArray, List.set_cons_zero, List.set_cons_succ, i64_w, i32_w]
   rfl
  refine pure_ (i := 23) (N := some 38) (v := undef) (a' := ?_) #[true, true, true, true, true, true, true, true, true, true, true, true, true, true, true, true, true, true, true, true, true, true, true, true, false, false] rfl rfl (any_of HT_.out (by kernel_rfl)) (fun _ _ _ h => h) (Or.inr ⟨by rfl, rfl⟩) ?_ ?_
  rotate_left
  ·simp only [Act.put, List.setIfInBounds_toArray, List.set_cons_zero, List.set_cons_succ, i64_w, i32_w]
   rfl
  refine pure_ (i := 24) (N := some 39) (v := ?_) (a' := ?_) #[true, true, true, true, true, true, true, true, true, true, true, true, true, true, true, true, true, true, true, true, true, true, true, true, true, false] rfl rfl (any_of HT_.out (by kernel_rfl)) (fun _ _ _ h => h) (Or.inl ⟨by rfl, ?_⟩) ?_ ?_
  rotate_left
  ·intro w'
   go_simp
   with_reducible rfl
  rotate_left
  ·simp only [Act.put, List.setIfInBounds_toArray, List.set_cons_zero, List.set_cons_succ, i64_w, i32_w]
   rfl
  refine pure_ (i := 25) (N := some 0) (v := ?_) (a' := ?_) #[true, true, true, true, true, true, true, true, true, true, true, true, true, true, true, true, true, true, true, true, true, true, true, true, true, true] rfl rfl (any_of HT_.out (by kernel_rfl)) (fun _ _ _ h => h) (Or.inl ⟨by rfl, ?_⟩) ?_ ?_
  rotate_left
  ·intro w'
   go_simp
   with_reducible rfl
  rotate_left
  ·simp only [Act.put, List.setIfInBounds_toArray, List.set_cons_zero, List.set_cons_succ, i64_w, i32_w]
   rfl
  refine done_ (done_of HT_.out (by kernel_rfl)) ?_
  try go_wp2
  go_ret
  exact ⟨by first | rfl | (simp [errW_none, errW_some] <;> rfl) | (simp [*, errW_none, errW_some] <;> rfl), by repeat (first | (with_reducible first | exact HB.out | apply below_alloc | apply pw_below_drewN | apply below_drew1) | exact HB.out)⟩

end Go.Proofs.Ytbcfphoheijmdaa.Print
end

section
/- The chapter's examples that every statement of this layer asks: their values. -/
namespace Go.Proofs.Ytbcfphoheijmdaa.Print
open Go.RowKit Go.Proofs.YtbcfphoheijmdaaW.PrintWords
theorem awake_true : thermionlaw04_awake.f 8 = some true := by kernel_rfl
end Go.Proofs.Ytbcfphoheijmdaa.Print
end

section
/- The ways over ever more points, in plain Lean: when no point comes behind itself, the table that is left bounds all positions, and each bound is reached by some. -/
namespace Go.Proofs.Ytbcfphoheijmdaa.Floyd

/-- What bounds nothing. -/
def far : Int := 1099511627776
/-- One step: the ways over m. -/
def ov (T : Nat → Nat → Int) (m : Nat) : Nat → Nat → Int := fun a b => if T a m < far ∧ T m b < far then min (T a b) (T a m + T m b) else T a b
/-- The table behind the ways over the first k points. -/
def st (E : Nat → Nat → Int) : Nat → Nat → Nat → Int
  | 0 => E
  | k + 1 => ov (st E k) k

theorem ov_le (T : Nat → Nat → Int) (m a b : Nat) : ov T m a b ≤ T a b := by unfold ov; split <;> omega
theorem ov_way (T : Nat → Nat → Int) (m a b : Nat) (h1 : T a m < far) (h2 : T m b < far) : ov T m a b ≤ T a m + T m b := by unfold ov; rw [if_pos ⟨h1, h2⟩]; omega
theorem ov_cases (T : Nat → Nat → Int) (m a b : Nat) : ov T m a b = T a b ∨ (T a m < far ∧ T m b < far ∧ ov T m a b = T a m + T m b) := by
  unfold ov
  split
  · rename_i h
    rcases Int.le_total (T a b) (T a m + T m b) with q | q
    · left; omega
    · right; exact ⟨h.1, h.2, by omega⟩
  · left; rfl
theorem st_succ (E : Nat → Nat → Int) (k a b : Nat) : st E (k + 1) a b = ov (st E k) k a b := rfl
theorem st_le (E : Nat → Nat → Int) (k a b : Nat) : st E k a b ≤ E a b := by
  induction k with
  | zero => exact Int.le_refl _
  | succ k ih => exact Int.le_trans (ov_le _ _ _ _) ih
theorem st_mono (E : Nat → Nat → Int) (k d a b : Nat) : st E (k + d) a b ≤ st E k a b := by
  induction d with
  | zero => exact Int.le_refl _
  | succ d ih => exact Int.le_trans (ov_le _ _ _ _) ih

/-- Positions that keep to a table. -/
def PKeeps (n : Nat) (E : Nat → Nat → Int) (x : Nat → Int) : Prop := ∀ a b, a < n → b < n → E a b < far → x b - x a ≤ E a b
theorem PKeeps.ov {n : Nat} {T : Nat → Nat → Int} {x : Nat → Int} (h : PKeeps n T x) (m : Nat) (hm : m < n) : PKeeps n (Floyd.ov T m) x := by
  intro a b ha hb hf
  rcases ov_cases T m a b with q | ⟨q1, q2, q3⟩
  · rw [q] at hf ⊢; exact h a b ha hb hf
  · rw [q3]; have := h a m ha hm q1; have := h m b hm hb q2; omega
theorem PKeeps.st {n : Nat} {E : Nat → Nat → Int} {x : Nat → Int} (h : PKeeps n E x) (k : Nat) (hk : k ≤ n) : PKeeps n (Floyd.st E k) x := by
  induction k with
  | zero => exact h
  | succ k ih => exact (ih (by omega)).ov k (by omega)

/-- Ways along edges; the list has the points between. -/
inductive PWay (E : Nat → Nat → Int) : List Nat → Nat → Nat → Int → Prop
  | edge (a b : Nat) : E a b < far → PWay E [] a b (E a b)
  | cons (a v b : Nat) (l : List Nat) (c : Int) : E a v < far → PWay E l v b c → PWay E (v :: l) a b (E a v + c)
theorem PWay.split {E : Nat → Nat → Int} : ∀ (l1 : List Nat) {l2 : List Nat} {m a b : Nat} {c : Int}, PWay E (l1 ++ m :: l2) a b c → ∃ c1 c2, PWay E l1 a m c1 ∧ PWay E l2 m b c2 ∧ c = c1 + c2
  | [], l2, m, a, b, c, h => by
    cases h with
    | cons _ _ _ _ c' hf hw => exact ⟨_, c', .edge _ _ hf, hw, rfl⟩
  | v :: l1, l2, m, a, b, c, h => by
    cases h with
    | cons _ _ _ _ c' hf hw =>
      obtain ⟨c1, c2, h1, h2, rfl⟩ := PWay.split l1 hw
      exact ⟨_, c2, .cons _ _ _ _ _ hf h1, h2, by omega⟩
theorem PWay.join {E : Nat → Nat → Int} : ∀ {l1 l2 : List Nat} {m a b : Nat} {c1 c2 : Int}, PWay E l1 a m c1 → PWay E l2 m b c2 → ∃ c, PWay E (l1 ++ m :: l2) a b c
  | [], l2, m, a, b, c1, c2, h1, h2 => by
    cases h1 with
    | edge _ _ hf => exact ⟨_, .cons _ _ _ _ _ hf h2⟩
  | v :: l1, l2, m, a, b, c1, c2, h1, h2 => by
    cases h1 with
    | cons _ _ _ _ c' hf hw =>
      obtain ⟨c, h⟩ := PWay.join hw h2
      exact ⟨_, .cons _ _ _ _ _ hf h⟩
theorem PWay.bound {E : Nat → Nat → Int} {n : Nat} {M : Int} (hM : ∀ a b, a < n → b < n → E a b < far → E a b ≤ M) : ∀ {l : List Nat} {a b : Nat} {c : Int}, PWay E l a b c → a < n → b < n → (∀ v, v ∈ l → v < n) → c ≤ ((l.length : Int) + 1) * M
  | [], a, b, c, h, ha, hb, _ => by
    cases h with
    | edge _ _ hf => have := hM a b ha hb hf; simpa using this
  | v :: l, a, b, c, h, ha, hb, hl => by
    cases h with
    | cons _ _ _ _ c' hf hw =>
      have h1 := hM a v ha (hl v (by simp)) hf
      have h2 := PWay.bound hM hw (hl v (by simp)) hb (fun x hx => hl x (by simp [hx]))
      have : ((((v :: l).length : Nat) : Int) + 1) * M = M + ((l.length : Int) + 1) * M := by
        rw [List.length_cons]
        have : (((l.length + 1 : Nat) : Int) + 1) = 1 + ((l.length : Int) + 1) := by omega
        rw [this, Int.add_mul, Int.one_mul]
      omega
theorem PWay.short {E : Nat → Nat → Int} : ∀ {l : List Nat} {a b : Nat} {c : Int}, PWay E l a b c → ∃ l' c', PWay E l' a b c' ∧ l'.Nodup ∧ ∀ v, v ∈ l' → v ∈ l
  | [], a, b, c, h => ⟨[], c, h, by simp, by simp⟩
  | v :: l, a, b, c, h => by
    cases h with
    | cons _ _ _ _ c' hf hw =>
      obtain ⟨l', c2, h1, h2, h3⟩ := PWay.short hw
      by_cases q : v ∈ l'
      · obtain ⟨x, y, rfl⟩ := List.append_of_mem q
        obtain ⟨d1, d2, g1, g2, _⟩ := PWay.split x h1
        rw [List.nodup_append] at h2
        refine ⟨v :: y, _, .cons _ _ _ _ _ hf g2, h2.2.1, ?_⟩
        intro u hu
        rcases List.mem_cons.1 hu with r | r
        · rw [r]; simp
        · exact List.mem_cons_of_mem _ (h3 u (by simp [r]))
      · exact ⟨v :: l', _, .cons _ _ _ _ _ hf h1, List.nodup_cons.2 ⟨q, h2⟩, fun u hu => by
          rcases List.mem_cons.1 hu with r | r
          · rw [r]; simp
          · exact List.mem_cons_of_mem _ (h3 u r)⟩
theorem len_le : ∀ (k : Nat) (l : List Nat), l.Nodup → (∀ v, v ∈ l → v < k) → l.length ≤ k
  | 0, l, _, h => by
    cases l with
    | nil => simp
    | cons v l => exact absurd (h v (by simp)) (by omega)
  | k + 1, l, hn, h => by
    by_cases q : k ∈ l
    · obtain ⟨x, y, rfl⟩ := List.append_of_mem q
      rw [List.nodup_append] at hn
      have hy := List.nodup_cons.1 hn.2.1
      have : (x ++ y).length ≤ k := by
        apply len_le k
        · rw [List.nodup_append]
          exact ⟨hn.1, hy.2, fun a ha b hb => hn.2.2 a ha b (by simp [hb])⟩
        · intro v hv
          have h1 : v < k + 1 := h v (by simp at hv ⊢; rcases hv with r | r <;> simp [r])
          have h2 : v ≠ k := by
            rintro rfl
            rcases List.mem_append.1 hv with r | r
            · exact hn.2.2 v r v (by simp) rfl
            · exact hy.1 r
          omega
      simp at this ⊢
      omega
    · have := len_le k l hn (fun v hv => by
        have h1 := h v hv
        have h2 : v ≠ k := by rintro rfl; exact q hv
        omega)
      omega

/-- What the first table of a chain is like. -/
structure TFine (n : Nat) (E : Nat → Nat → Int) : Prop where
  small : n ≤ 24
  diag : ∀ a, a < n → E a a = 0
  top : ∀ a b, E a b ≤ far
  most : ∀ a b, a < n → b < n → E a b < far → E a b ≤ 1000000

theorem mul_small {k n : Nat} (h : k ≤ n) (hn : n ≤ 24) : ((k : Int) + 1) * 1000000 ≤ 25000000 := by omega
/-- A short way bounds the table. -/
theorem TFine.complete {n : Nat} {E : Nat → Nat → Int} (F : TFine n E) : ∀ (k : Nat), k ≤ n → ∀ {l : List Nat} {a b : Nat} {c : Int}, PWay E l a b c → a < n → b < n → l.Nodup → (∀ v, v ∈ l → v < k) → st E k a b ≤ c
  | 0, _, l, a, b, c, h, _, _, _, hl => by
    cases h with
    | edge _ _ _ => exact Int.le_refl _
    | cons _ v _ _ _ _ _ => exact absurd (hl v (by simp)) (by omega)
  | k + 1, hk, l, a, b, c, h, ha, hb, hn, hl => by
    by_cases q : k ∈ l
    · obtain ⟨x, y, rfl⟩ := List.append_of_mem q
      obtain ⟨c1, c2, g1, g2, rfl⟩ := PWay.split x h
      rw [List.nodup_append] at hn
      have hy := List.nodup_cons.1 hn.2.1
      have hx1 : ∀ v, v ∈ x → v < k := fun v hv => by
        have h1 := hl v (by simp [hv])
        have h2 : v ≠ k := by rintro rfl; exact hn.2.2 v hv v (by simp) rfl
        omega
      have hy1 : ∀ v, v ∈ y → v < k := fun v hv => by
        have h1 := hl v (by simp [hv])
        have h2 : v ≠ k := by rintro rfl; exact hy.1 hv
        omega
      have i1 := F.complete k (by omega) g1 ha (by omega) hn.1 hx1
      have i2 := F.complete k (by omega) g2 (by omega) hb hy.2 hy1
      have b1 := PWay.bound F.most g1 ha (by omega) (fun v hv => by have := hx1 v hv; omega)
      have b2 := PWay.bound F.most g2 (by omega) hb (fun v hv => by have := hy1 v hv; omega)
      have l1 := len_le k x hn.1 hx1
      have l2 := len_le k y hy.2 hy1
      have m1 := mul_small (k := x.length) (n := n) (by omega) F.small
      have m2 := mul_small (k := y.length) (n := n) (by omega) F.small
      have := ov_way (st E k) k a b (by unfold far; omega) (by unfold far; omega)
      rw [st_succ]
      omega
    · have := F.complete k (by omega) h ha hb hn (fun v hv => by
        have h1 := hl v hv
        have h2 : v ≠ k := by rintro rfl; exact q hv
        omega)
      exact Int.le_trans (ov_le _ _ _ _) this
theorem st_way {E : Nat → Nat → Int} : ∀ (k : Nat) {a b : Nat}, st E k a b < far → ∃ l c, PWay E l a b c ∧ ∀ v, v ∈ l → v < k
  | 0, a, b, h => ⟨[], _, .edge a b h, by simp⟩
  | k + 1, a, b, h => by
    rw [st_succ] at h
    rcases ov_cases (st E k) k a b with q | ⟨q1, q2, _⟩
    · rw [q] at h
      obtain ⟨l, c, h1, h2⟩ := st_way k h
      exact ⟨l, c, h1, fun v hv => by have := h2 v hv; omega⟩
    · obtain ⟨l1, c1, h1, h2⟩ := st_way k q1
      obtain ⟨l2, c2, g1, g2⟩ := st_way k q2
      obtain ⟨c, hc⟩ := PWay.join h1 g1
      refine ⟨_, c, hc, fun v hv => ?_⟩
      rcases List.mem_append.1 hv with r | r
      · have := h2 v r; omega
      · rcases List.mem_cons.1 r with r | r
        · omega
        · have := g2 v r; omega
theorem TFine.upper {n : Nat} {E : Nat → Nat → Int} (F : TFine n E) {k a b : Nat} (hk : k ≤ n) (ha : a < n) (hb : b < n) (h : st E k a b < far) : st E k a b ≤ 25000000 := by
  obtain ⟨l, c, h1, h2⟩ := st_way k h
  obtain ⟨l', c', g1, g2, g3⟩ := h1.short
  have h4 : ∀ v, v ∈ l' → v < k := fun v hv => h2 v (g3 v hv)
  have i := F.complete k hk g1 ha hb g2 h4
  have b1 := PWay.bound F.most g1 ha hb (fun v hv => by have := h4 v hv; omega)
  have l1 := len_le k l' g2 h4
  have m1 := mul_small (k := l'.length) (n := n) (by omega) F.small
  omega
/-- No point has come behind itself in the first k steps. -/
def PCalm (n : Nat) (E : Nat → Nat → Int) (k : Nat) : Prop := ∀ j, j < k → ∀ a, a < n → 0 ≤ st E (j + 1) a a
theorem TFine.self {n : Nat} {E : Nat → Nat → Int} (F : TFine n E) : ∀ {k : Nat}, PCalm n E k → ∀ a, a < n → st E k a a = 0
  | 0, _, a, ha => F.diag a ha
  | k + 1, h, a, ha => by
    have h1 := h k (by omega) a ha
    have h2 := st_le E (k + 1) a a
    rw [F.diag a ha] at h2
    omega
theorem TFine.closed {n : Nat} {E : Nat → Nat → Int} (F : TFine n E) : ∀ {k : Nat}, k ≤ n → PCalm n E k → ∀ a b j, a < n → b < n → j < k → st E k a j < far → st E k j b < far → st E k a b ≤ st E k a j + st E k j b
  | 0, _, _, a, b, j, _, _, hj, _, _ => absurd hj (by omega)
  | k + 1, hk, hc, a, b, j, ha, hb, hj, h1, h2 => by
    have hck : PCalm n E k := fun i hi => hc i (by omega)
    have hself := F.self hck k (by omega)
    have IH := F.closed (k := k) (by omega) hck
    -- row and column k stay
    have hrow : ∀ v, st E (k + 1) k v = st E k k v := fun v => by
      rw [st_succ]
      rcases ov_cases (st E k) k k v with q | ⟨q1, q2, q3⟩
      · exact q
      · rw [q3, hself]; omega
    have hcol : ∀ v, st E (k + 1) v k = st E k v k := fun v => by
      rw [st_succ]
      rcases ov_cases (st E k) k v k with q | ⟨q1, q2, q3⟩
      · exact q
      · rw [q3, hself]; omega
    by_cases q : j = k
    · subst q
      rw [hcol] at h1 ⊢
      rw [hrow] at h2 ⊢
      exact ov_way _ _ _ _ h1 h2
    · have hj' : j < k := by omega
      have hjn : j < n := by omega
      have up : ∀ {x y : Nat}, x < n → y < n → st E k x y < far → st E k x y ≤ 25000000 := fun hx hy h => F.upper (by omega) hx hy h
      rw [st_succ] at h1 h2 ⊢
      rw [st_succ E k a j, st_succ E k j b]
      have hkn : k < n := by omega
      rcases ov_cases (st E k) k a j with p | ⟨p1, p2, p3⟩ <;> rcases ov_cases (st E k) k j b with r | ⟨r1, r2, r3⟩
      · rw [p] at h1 ⊢; rw [r] at h2 ⊢
        exact Int.le_trans (ov_le _ _ _ _) (IH a b j ha hb hj' h1 h2)
      · rw [p] at h1 ⊢; rw [r3]
        have u1 := up ha hjn h1; have u2 := up hjn hkn r1
        have c1 := IH a k j ha hkn hj' h1 r1
        have := ov_way (st E k) k a b (by unfold far; omega) r2
        omega
      · rw [p3]; rw [r] at h2 ⊢
        have u1 := up hkn hjn p2; have u2 := up hjn hb h2
        have c1 := IH k b j hkn hb hj' p2 h2
        have := ov_way (st E k) k a b p1 (by unfold far; omega)
        omega
      · rw [p3, r3]
        have c1 := IH k k j hkn hkn hj' p2 r1
        rw [hself] at c1
        have := ov_way (st E k) k a b p1 r2
        omega
/-- The bounds are reached: the positions from a point on keep to the first table. -/
theorem TFine.reached {n : Nat} {E : Nat → Nat → Int} (F : TFine n E) (hc : PCalm n E n) (hall : ∀ a b, a < n → b < n → st E n a b < far) (a : Nat) (ha : a < n) : PKeeps n E (fun b => st E n a b) := by
  intro i j hi hj hf
  have h1 := F.closed (Nat.le_refl _) hc a j i ha hj hi (hall a i ha hi) (hall i j hi hj)
  have h2 := st_le E n i j
  show st E n a j - st E n a i ≤ E i j
  omega
theorem TFine.whole {n : Nat} {E : Nat → Nat → Int} (F : TFine n E) {l : List Nat} {a b : Nat} {c : Int} (h : PWay E l a b c) (ha : a < n) (hb : b < n) (hl : ∀ v, v ∈ l → v < n) : st E n a b < far := by
  obtain ⟨l', c', g1, g2, g3⟩ := h.short
  have h4 : ∀ v, v ∈ l' → v < n := fun v hv => hl v (g3 v hv)
  have i := F.complete n (Nat.le_refl _) g1 ha hb g2 h4
  have b1 := PWay.bound F.most g1 ha hb h4
  have l1 := len_le n l' g2 h4
  have m1 := mul_small (k := l'.length) (n := n) l1 F.small
  unfold far
  omega
/-- A clash: nothing keeps to the table. -/
theorem clash_none {n : Nat} {E : Nat → Nat → Int} {k a : Nat} (hk : k ≤ n) (ha : a < n) (h : st E k a a < 0) (x : Nat → Int) : ¬ PKeeps n E x := fun hx => by
  have := hx.st k hk a a ha ha (by unfold far; omega)
  omega
end Go.Proofs.Ytbcfphoheijmdaa.Floyd
end

section
/- What a tight table says of positions: each range is that of all positions that keep to the links, and both its ends are reached. -/
namespace Go.Proofs.Ytbcfphoheijmdaa.Print
open Go.RowKit Go.Proofs.YtbcfphoheijmdaaW.PrintWords Go.Proofs.YtbcfphoheijmdaaW.PrintLast Go.Proofs.YtbcfphoheijmdaaW.PrintMore Go.Proofs.Ytbcfphoheijmdaa Go.Proofs.Ytbcfphoheijmdaa.H
set_option linter.unusedVariables false
set_option linter.unusedSimpArgs false

theorem getD_map_range24 {i : Nat} (hi : i < 24) : ((List.range 24).map (fun (i : Nat) => (i : Int))).getD i 0 = i := by
  simp [List.getD_eq_getElem?_getD, hi]
open Floyd

def tf (T : List Int) : Nat → Nat → Int := fun a b => T.getD (a * 24 + b) 0
/-- Positions (of points by number) that keep to links. -/
def FitsL (L : List S35) (x : Nat → Int) : Prop := ∀ l, l ∈ L → l.f2.f0 ≤ x l.f1.toNat - x l.f0.toNat ∧ x l.f1.toNat - x l.f0.toNat ≤ l.f2.f1

theorem linkStep_tf {T : List Int} {l : S35} (hT : T.length = 576) {P : Int} (hP : P ≤ 24) (hl : linkErr P l = 0) {a b : Nat} (ha : a < 24) (hb : b < 24) :
    tf (linkStep T l) a b = if a = l.f0.toNat ∧ b = l.f1.toNat then mn (tf T a b) l.f2.f1 else if a = l.f1.toNat ∧ b = l.f0.toNat then mn (tf T a b) (-l.f2.f0) else tf T a b := by
  obtain ⟨h1, h2, h3, h4, h5, h6, h7, h8⟩ := linkErr_ok hl
  generalize hf : l.f0.toNat = f
  generalize ht : l.f1.toNat = t
  have hf2 : f < 24 := by omega
  have ht2 : t < 24 := by omega
  have hne : f ≠ t := by omega
  unfold linkStep tf
  simp only [hf, ht]
  by_cases q1 : a = f ∧ b = t
  · obtain ⟨rfl, rfl⟩ := q1
    rw [if_pos ⟨rfl, rfl⟩, H.getD_set_ne (by omega), H.getD_set_eq (by omega)]
  · rw [if_neg q1]
    by_cases q2 : a = t ∧ b = f
    · obtain ⟨rfl, rfl⟩ := q2
      rw [if_pos ⟨rfl, rfl⟩, H.getD_set_eq (by rw [List.length_set]; omega), H.getD_set_ne (by omega)]
    · rw [if_neg q2, H.getD_set_ne (by omega), H.getD_set_ne (by omega)]
theorem linkStep_le {T : List Int} {l : S35} (hT : T.length = 576) {P : Int} (hP : P ≤ 24) (hl : linkErr P l = 0) {a b : Nat} (ha : a < 24) (hb : b < 24) : tf (linkStep T l) a b ≤ tf T a b := by
  rw [linkStep_tf hT hP hl ha hb]
  have := mn_le (tf T a b) l.f2.f1
  have := mn_le (tf T a b) (-l.f2.f0)
  repeat' split
  all_goals omega
theorem links_le {P : Int} (hP : P ≤ 24) {a b : Nat} (ha : a < 24) (hb : b < 24) : ∀ (L : List S35) (T : List Int), T.length = 576 → (∀ l, l ∈ L → linkErr P l = 0) → tf (L.foldl linkStep T) a b ≤ tf T a b
  | [], T, _, _ => Int.le_refl _
  | l :: L, T, hT, h => Int.le_trans (links_le hP ha hb L _ (by rw [linkStep_length]; exact hT) (fun l' h' => h l' (by simp [h']))) (linkStep_le hT hP (h l (by simp)) ha hb)
theorem links_edge {P : Int} (hP : P ≤ 24) : ∀ (L : List S35) (T : List Int), T.length = 576 → (∀ l, l ∈ L → linkErr P l = 0) → ∀ l, l ∈ L → tf (L.foldl linkStep T) l.f0.toNat l.f1.toNat ≤ l.f2.f1 ∧ tf (L.foldl linkStep T) l.f1.toNat l.f0.toNat ≤ -l.f2.f0
  | [], _, _, _, l, hl => by simp at hl
  | l' :: L, T, hT, h, l, hl => by
    have hT' : (linkStep T l').length = 576 := by rw [linkStep_length]; exact hT
    have hL : ∀ l, l ∈ L → linkErr P l = 0 := fun l' h' => h l' (by simp [h'])
    rcases List.mem_cons.1 hl with rfl | hm
    · have hok := linkErr_ok (h l (by simp))
      have a1 : l.f0.toNat < 24 := by omega
      have a2 : l.f1.toNat < 24 := by omega
      have e1 := links_le hP a1 a2 L _ hT' hL
      have e2 := links_le hP a2 a1 L _ hT' hL
      rw [linkStep_tf hT hP (h l (by simp)) a1 a2, if_pos ⟨rfl, rfl⟩] at e1
      rw [linkStep_tf hT hP (h l (by simp)) a2 a1, if_neg (by omega), if_pos ⟨rfl, rfl⟩] at e2
      have := mn_le (tf T l.f0.toNat l.f1.toNat) l.f2.f1
      have := mn_le (tf T l.f1.toNat l.f0.toNat) (-l.f2.f0)
      rw [List.foldl_cons]
      omega
    · rw [List.foldl_cons]
      exact links_edge hP L _ hT' hL l hm
theorem links_fine {P : Int} (hP : P ≤ 24) : ∀ (L : List S35) (T : List Int), T.length = 576 → (∀ l, l ∈ L → linkErr P l = 0) → ((∀ a, a < 24 → tf T a a = 0) ∧ (∀ a b, a < 24 → b < 24 → tf T a b < far → tf T a b ≤ 1000000)) →
    (∀ a, a < 24 → tf (L.foldl linkStep T) a a = 0) ∧ (∀ a b, a < 24 → b < 24 → tf (L.foldl linkStep T) a b < far → tf (L.foldl linkStep T) a b ≤ 1000000)
  | [], T, _, _, h => h
  | l :: L, T, hT, h, hh => by
    rw [List.foldl_cons]
    apply links_fine hP L _ (by rw [linkStep_length]; exact hT) (fun l' h' => h l' (by simp [h']))
    have hl := h l (by simp)
    have hok := linkErr_ok hl
    constructor
    · intro a ha
      rw [linkStep_tf hT hP hl ha ha, if_neg (by omega), if_neg (by omega)]
      exact hh.1 a ha
    · intro a b ha hb
      rw [linkStep_tf hT hP hl ha hb]
      have h1 := hh.2 a b ha hb
      have := mn_le (tf T a b) l.f2.f1
      have := mn_le (tf T a b) (-l.f2.f0)
      repeat' split
      · intro q; omega
      · intro q; omega
      · exact h1
theorem links_keep {P : Int} {n : Nat} (hP : P = n) (hn : n ≤ 24) (x : Nat → Int) : ∀ (L : List S35) (T : List Int), T.length = 576 → (∀ l, l ∈ L → linkErr P l = 0) → (PKeeps n (tf (L.foldl linkStep T)) x ↔ PKeeps n (tf T) x ∧ FitsL L x)
  | [], T, _, _ => ⟨fun h => ⟨h, fun l hl => by simp at hl⟩, fun h => h.1⟩
  | l :: L, T, hT, h => by
    have hl := h l (by simp)
    have hok := linkErr_ok hl
    have hP' : P ≤ 24 := by omega
    rw [List.foldl_cons, links_keep hP hn x L _ (by rw [linkStep_length]; exact hT) (fun l' h' => h l' (by simp [h']))]
    have hf : l.f0.toNat < n := by omega
    have ht : l.f1.toNat < n := by omega
    have key : PKeeps n (tf (linkStep T l)) x ↔ PKeeps n (tf T) x ∧ (l.f2.f0 ≤ x l.f1.toNat - x l.f0.toNat ∧ x l.f1.toNat - x l.f0.toNat ≤ l.f2.f1) := by
      constructor
      · intro hk
        refine ⟨fun a b ha hb hfar => ?_, ?_⟩
        · have h1 := linkStep_le hT hP' hl (a := a) (b := b) (by omega) (by omega)
          have := hk a b ha hb (by omega)
          omega
        · have e1 := linkStep_tf hT hP' hl (a := l.f0.toNat) (b := l.f1.toNat) (by omega) (by omega)
          have e2 := linkStep_tf hT hP' hl (a := l.f1.toNat) (b := l.f0.toNat) (by omega) (by omega)
          rw [if_pos ⟨rfl, rfl⟩] at e1
          rw [if_neg (by omega), if_pos ⟨rfl, rfl⟩] at e2
          have m1 := mn_le (tf T l.f0.toNat l.f1.toNat) l.f2.f1
          have m2 := mn_le (tf T l.f1.toNat l.f0.toNat) (-l.f2.f0)
          have k1 := hk _ _ hf ht (by unfold far; omega)
          have k2 := hk _ _ ht hf (by unfold far; omega)
          omega
      · rintro ⟨hk, hg⟩ a b ha hb
        rw [linkStep_tf hT hP' hl (by omega) (by omega)]
        have h1 := hk a b ha hb
        have m1 := mn_le (tf T a b) l.f2.f1
        have m2 := mn_le (tf T a b) (-l.f2.f0)
        split
        · rename_i q
          obtain ⟨rfl, rfl⟩ := q
          intro hfar
          rcases m1.2.2 with r | r
          · rw [r] at hfar ⊢; exact h1 hfar
          · rw [r]; omega
        · split
          · rename_i q
            obtain ⟨rfl, rfl⟩ := q
            intro hfar
            rcases m2.2.2 with r | r
            · rw [r] at hfar ⊢; exact h1 hfar
            · rw [r]; omega
          · exact h1
    rw [key]
    unfold FitsL
    constructor
    · rintro ⟨⟨h1, h2⟩, h3⟩
      refine ⟨h1, fun l' hl' => ?_⟩
      rcases List.mem_cons.1 hl' with rfl | hm
      · exact h2
      · exact h3 l' hm
    · rintro ⟨h1, h2⟩
      exact ⟨⟨h1, h2 l (by simp)⟩, fun l' hl' => h2 l' (by simp [hl'])⟩
theorem base_tf {a b : Nat} (ha : a < 24) (hb : b < 24) : tf baseTab a b = if a = b then 0 else far := by
  unfold tf baseTab far
  rw [getD_map_range, if_pos (by omega)]
  have h1 : (a * 24 + b) / 24 = a := by omega
  have h2 : (a * 24 + b) % 24 = b := by omega
  rw [h1, h2]
/-- The first table of a valid chain. -/
theorem init_fine {n : Nat} {L : List S35} (hn : n ≤ 24) (h : ∀ l, l ∈ L → linkErr n l = 0) : TFine n (tf (initTab L)) := by
  have := links_fine (P := n) (by omega) L baseTab baseTab_length h ⟨fun a ha => by rw [base_tf ha ha, if_pos rfl], fun a b ha hb => by
    rw [base_tf ha hb]; unfold far; split <;> intro q <;> omega⟩
  refine ⟨hn, fun a ha => this.1 a (by omega), fun a b => ?_, fun a b ha hb => this.2 a b (by omega) (by omega)⟩
  have := (Small.init (P := n) L h) (a * 24 + b)
  unfold far tf
  exact this.2
theorem init_keep {n : Nat} {L : List S35} (hn : n ≤ 24) (h : ∀ l, l ∈ L → linkErr n l = 0) (x : Nat → Int) : PKeeps n (tf (initTab L)) x ↔ FitsL L x := by
  unfold initTab
  rw [links_keep rfl hn x L baseTab baseTab_length h]
  constructor
  · exact fun h => h.2
  · refine fun h => ⟨fun a b ha hb => ?_, h⟩
    rw [base_tf (by omega) (by omega)]
    split
    · rename_i q; subst q; intro _; omega
    · intro q; omega

/-- There is a way by links. -/
def Lk (n : Nat) (E : Nat → Nat → Int) (a b : Nat) : Prop := ∃ l c, PWay E l a b c ∧ ∀ v, v ∈ l → v < n
theorem Lk.trans {n : Nat} {E : Nat → Nat → Int} {a m b : Nat} (hm : m < n) (h1 : Lk n E a m) (h2 : Lk n E m b) : Lk n E a b := by
  obtain ⟨l1, c1, p1, p2⟩ := h1
  obtain ⟨l2, c2, q1, q2⟩ := h2
  obtain ⟨c, hc⟩ := PWay.join p1 q1
  refine ⟨_, c, hc, fun v hv => ?_⟩
  rcases List.mem_append.1 hv with r | r
  · exact p2 v r
  · rcases List.mem_cons.1 r with r | r
    · omega
    · exact q2 v r
theorem rootStep_get {R : List Int} {l : S35} {i : Nat} (hi : i < R.length) : (rootStep R l).getD i 0 = rootVal (R.getD l.f0.toNat 0) (R.getD l.f1.toNat 0) (R.getD i 0) := by
  simp [rootStep, List.getD_eq_getElem?_getD, hi]
theorem roots_lk {n : Nat} {E : Nat → Nat → Int} (hn : n ≤ 24) (hE : ∀ a, a < 24 → Lk n E a a) : ∀ (L : List S35) (R : List Int), R.length = 24 → (∀ l, l ∈ L → l.f0.toNat < n ∧ l.f1.toNat < n ∧ Lk n E l.f0.toNat l.f1.toNat ∧ Lk n E l.f1.toNat l.f0.toNat) →
    (∀ i j, i < 24 → j < 24 → R.getD i 0 = R.getD j 0 → Lk n E i j) → ∀ i j, i < 24 → j < 24 → (L.foldl rootStep R).getD i 0 = (L.foldl rootStep R).getD j 0 → Lk n E i j
  | [], R, _, _, h => h
  | l :: L, R, hR, hL, h => by
    rw [List.foldl_cons]
    apply roots_lk hn hE L _ (by simp [rootStep, hR]) (fun l' h' => hL l' (by simp [h']))
    intro i j hi hj e
    rw [rootStep_get (by omega), rootStep_get (by omega)] at e
    obtain ⟨hf, ht, hft, htf⟩ := hL l (by simp)
    have m := mn_le (R.getD l.f0.toNat 0) (R.getD l.f1.toNat 0)
    have to1 : ∀ k, k < 24 → (R.getD k 0 = R.getD l.f0.toNat 0 ∨ R.getD k 0 = R.getD l.f1.toNat 0) → Lk n E k l.f0.toNat := fun k hk q => by
      rcases q with q | q
      · exact h k _ hk (by omega) q
      · exact (h k _ hk (by omega) q).trans ht htf
    have fro1 : ∀ k, k < 24 → (R.getD k 0 = R.getD l.f0.toNat 0 ∨ R.getD k 0 = R.getD l.f1.toNat 0) → Lk n E l.f0.toNat k := fun k hk q => by
      rcases q with q | q
      · exact h _ k (by omega) hk q.symm
      · exact hft.trans ht (h _ k (by omega) hk q.symm)
    unfold rootVal at e
    split at e
    · rename_i q1
      split at e
      · rename_i q2
        exact (to1 i hi q1).trans hf (fro1 j hj q2)
      · rename_i q2
        exact absurd (by omega) q2
    · rename_i q1
      split at e
      · exact absurd (by omega) q1
      · exact h i j hi hj e
theorem chain_roots {n : Nat} {L : List S35} (h : chainErr n L = 0) : ∀ i, i < n → (rootsOf L).getD i 0 = 0 := by
  obtain ⟨h1, h2, h3, h4⟩ := chainErr_ok h
  have hroots : ((rootsOf L).take n).all (· == 0) = true := by
    unfold chainErr at h
    rw [if_neg (by omega), if_neg (by omega)] at h
    split at h
    · rename_i l hl
      have := h4 l (List.mem_of_find?_eq_some hl)
      have := List.find?_some hl
      simp_all
    · split at h
      · rename_i q; rwa [Int.toNat_natCast] at q
      · omega
  have hz : ∀ i, i < n → (rootsOf L).getD i 0 = 0 := fun i hi => by
    have hlen := rootsOf_length L
    have := List.all_eq_true.1 hroots ((rootsOf L)[i]) (List.mem_iff_getElem.2 ⟨i, by rw [List.length_take]; omega, by rw [List.getElem_take]⟩)
    rw [List.getD_eq_getElem?_getD, List.getElem?_eq_getElem (by omega)]
    simpa using this
  exact hz
theorem chain_lk {n : Nat} {L : List S35} (h : chainErr n L = 0) : ∀ i j, i < n → j < n → Lk n (tf (initTab L)) i j := by
  obtain ⟨h1, h2, h3, h4⟩ := chainErr_ok h
  have hn : n ≤ 24 := by omega
  have F := links_fine (P := n) (by omega) L baseTab baseTab_length h4 ⟨fun a ha => by rw [base_tf ha ha, if_pos rfl], fun a b ha hb => by
    rw [base_tf ha hb]; unfold far; split <;> intro q <;> omega⟩
  have hz := chain_roots h
  intro i j hi hj
  refine roots_lk (n := n) (E := tf (initTab L)) hn (fun a ha => ⟨[], _, .edge a a (by show tf (initTab L) a a < far; rw [show tf (initTab L) a a = 0 from F.1 a ha]; decide), by simp⟩) L ((List.range 24).map (fun (i : Nat) => (i : Int))) (by simp) (fun l hl => ?_) (fun i j hi hj e => ?_) i j (by omega) (by omega) ((hz i hi).trans (hz j hj).symm)
  · have hok := linkErr_ok (h4 l hl)
    have he := links_edge (P := n) (by omega) L baseTab baseTab_length h4 l hl
    refine ⟨by omega, by omega, ⟨[], _, .edge _ _ ?_, by simp⟩, ⟨[], _, .edge _ _ ?_, by simp⟩⟩
    · unfold far; show tf (L.foldl linkStep baseTab) _ _ < _; omega
    · unfold far; show tf (L.foldl linkStep baseTab) _ _ < _; omega
  · rw [getD_map_range24 hi, getD_map_range24 hj] at e
    have : i = j := by omega
    subst this
    exact ⟨[], _, .edge i i (by show tf (initTab L) i i < far; rw [show tf (initTab L) i i = 0 from F.1 i hi]; decide), by simp⟩

theorem over_tf {T : List Int} {m n a b : Nat} (ha : a < n) (hb : b < n) (hn : n ≤ 24) : tf (overTab T m n) a b = ov (tf T) m a b := by
  unfold tf ov
  rw [overTab_get T m n a b ha hb hn]
  rfl
theorem floyd_st {n : Nat} {E : Nat → Nat → Int} (hn : n ≤ 24) : ∀ (k m : Nat) (T : List Int), m + k = n → (∀ a b, a < n → b < n → tf T a b = st E m a b) →
    ((floyd n k m T).2 = 0 ∧ (∀ a b, a < n → b < n → tf (floyd n k m T).1 a b = st E n a b) ∧ ∀ j, m ≤ j → j < n → ∀ a, a < n → 0 ≤ st E (j + 1) a a) ∨ ((floyd n k m T).2 = 12 ∧ ∃ j, j < n ∧ ∃ a, a < n ∧ st E (j + 1) a a < 0)
  | 0, m, T, hm, h => by
    left
    have : m = n := by omega
    subst this
    exact ⟨rfl, h, fun j h1 h2 => by omega⟩
  | k + 1, m, T, hm, h => by
    have hov : ∀ a b, a < n → b < n → tf (overTab T m n) a b = st E (m + 1) a b := fun a b ha hb => by
      rw [over_tf ha hb hn, st_succ]
      unfold ov
      rw [h a m ha (by omega), h m b (by omega) hb, h a b ha hb]
    by_cases q : negDiag n (overTab T m n) = true
    · right
      rw [floyd_neg q]
      unfold negDiag at q
      rw [List.any_eq_true] at q
      obtain ⟨a, ha, hq⟩ := q
      have ha' : a < n := by simpa using ha
      refine ⟨rfl, m, by omega, a, ha', ?_⟩
      rw [← hov a a ha' ha']
      simpa [tf] using hq
    · have q' : negDiag n (overTab T m n) = false := by simpa using q
      rw [floyd_next q']
      rcases floyd_st hn k (m + 1) (overTab T m n) (by omega) hov with ⟨h1, h2, h3⟩ | h1
      · left
        refine ⟨h1, h2, fun j hj1 hj2 a ha => ?_⟩
        by_cases e : j = m
        · subst e
          rw [← hov a a ha ha]
          unfold negDiag at q'
          rw [List.any_eq_false] at q'
          have := q' a (by simpa using ha)
          unfold tf
          simpa using this
        · exact h3 j (by omega) hj2 a ha
      · right; exact h1
/-- What a tight table says. -/
structure TightIs (n : Nat) (L : List S35) (T : List Int) : Prop where
  bound : ∀ x, FitsL L x → ∀ a b, a < n → b < n → x b - x a ≤ tf T a b
  reach : ∀ a, a < n → FitsL L (tf T a)
  self : ∀ a, a < n → tf T a a = 0
theorem tight_sem {n : Nat} {L : List S35} (h : chainErr n L = 0) : ((tightOf n L).2 = 0 ∧ TightIs n L (tightOf n L).1) ∨ ((tightOf n L).2 = 12 ∧ ∀ x, ¬ FitsL L x) := by
  obtain ⟨h1, h2, h3, h4⟩ := chainErr_ok h
  have hn : n ≤ 24 := by omega
  have F := init_fine hn h4
  unfold tightOf
  rw [if_pos h, Int.toNat_natCast]
  rcases floyd_st hn n 0 (initTab L) (by omega) (fun a b _ _ => rfl) with ⟨g1, g2, g3⟩ | ⟨g1, j, hj, a, ha, hneg⟩
  · left
    have hcalm : PCalm n (tf (initTab L)) n := fun j hj a ha => g3 j (by omega) hj a ha
    have hall : ∀ a b, a < n → b < n → st (tf (initTab L)) n a b < far := fun a b ha hb => by
      obtain ⟨l, c, hw, hl⟩ := chain_lk h a b ha hb
      exact F.whole hw ha hb hl
    refine ⟨g1, ⟨fun x hx a b ha hb => ?_, fun a ha => ?_, fun a ha => ?_⟩⟩
    · rw [g2 a b ha hb]
      exact ((init_keep hn h4 x).2 hx).st n (Nat.le_refl _) a b ha hb (hall a b ha hb)
    · have := (init_keep hn h4 _).1 (F.reached hcalm hall a ha)
      intro l hl
      have hok := linkErr_ok (h4 l hl)
      rw [g2 a _ ha (by omega), g2 a _ ha (by omega)]
      exact this l hl
    · rw [g2 a a ha ha]
      exact F.self hcalm a ha
  · right
    refine ⟨g1, fun x hx => ?_⟩
    exact clash_none (k := j + 1) (by omega) ha hneg x ((init_keep hn h4 x).2 hx)
theorem TightIs.tri {n : Nat} {L : List S35} {T : List Int} (h : TightIs n L T) {a m b : Nat} (ha : a < n) (hm : m < n) (hb : b < n) : tf T a b ≤ tf T a m + tf T m b := by
  have := h.bound _ (h.reach a ha) m b hm hb
  omega
theorem TightIs.edge {n : Nat} {L : List S35} {T : List Int} (h : TightIs n L T) {l : S35} (hl : l ∈ L) (h1 : l.f0.toNat < n) (h2 : l.f1.toNat < n) : tf T l.f0.toNat l.f1.toNat ≤ l.f2.f1 ∧ tf T l.f1.toNat l.f0.toNat ≤ -l.f2.f0 := by
  have a1 := h.reach _ h1 l hl
  have a2 := h.reach _ h2 l hl
  have s1 := h.self _ h1
  have s2 := h.self _ h2
  omega
/-- The near positions. -/
theorem TightIs.near {n : Nat} {L : List S35} {T : List Int} (h : TightIs n L T) (hL : ∀ l, l ∈ L → l.f0.toNat < n ∧ l.f1.toNat < n) {a : Nat} (ha : a < n) : FitsL L (fun i => -(tf T i a)) := by
  intro l hl
  obtain ⟨h1, h2⟩ := hL l hl
  have e := h.edge hl h1 h2
  have t1 := h.tri h1 h2 ha
  have t2 := h.tri h2 h1 ha
  simp only []
  omega
theorem FitsL.low {L : List S35} {x y : Nat → Int} (hx : FitsL L x) (hy : FitsL L y) : FitsL L (fun i => min (x i) (y i)) := by
  intro l hl
  have := hx l hl
  have := hy l hl
  simp only []
  omega
theorem FitsL.shift {L : List S35} {x : Nat → Int} (hx : FitsL L x) (s : Int) : FitsL L (fun i => x i + s) := by
  intro l hl
  have := hx l hl
  simp only []
  omega
/-- Each number of a tight range is met by some positions. -/
theorem TightIs.mid {n : Nat} {L : List S35} {T : List Int} (h : TightIs n L T) (hL : ∀ l, l ∈ L → l.f0.toNat < n ∧ l.f1.toNat < n) {a b : Nat} (ha : a < n) (hb : b < n) {v : Int} (h1 : -(tf T b a) ≤ v) (h2 : v ≤ tf T a b) : ∃ x, FitsL L x ∧ x b - x a = v := by
  refine ⟨_, ((h.near hL ha).shift (v + tf T b a)).low (h.reach a ha), ?_⟩
  have := h.self a ha
  show min (-(tf T b a) + (v + tf T b a)) (tf T a b) - min (-(tf T a a) + (v + tf T b a)) (tf T a a) = v
  omega
theorem TightIs.order {n : Nat} {L : List S35} {T : List Int} (h : TightIs n L T) {a b : Nat} (ha : a < n) (hb : b < n) : -(tf T b a) ≤ tf T a b := by
  have := h.tri ha hb ha
  have := h.self a ha
  omega
theorem TightIs.mono {n : Nat} {L M : List S35} {T U : List Int} (h : TightIs n L T) (g : TightIs n M U) (hs : ∀ x, FitsL M x → FitsL L x) {a b : Nat} (ha : a < n) (hb : b < n) : tf U a b ≤ tf T a b := by
  have := h.bound _ (hs _ (g.reach a ha)) a b ha hb
  have := g.self a ha
  omega
theorem FitsL.snoc {L : List S35} {l : S35} {x : Nat → Int} : FitsL (L ++ [l]) x ↔ FitsL L x ∧ (l.f2.f0 ≤ x l.f1.toNat - x l.f0.toNat ∧ x l.f1.toNat - x l.f0.toNat ≤ l.f2.f1) := by
  unfold FitsL
  constructor
  · intro h
    exact ⟨fun l' hl' => h l' (by simp [hl']), h l (by simp)⟩
  · rintro ⟨h1, h2⟩ l' hl'
    rcases List.mem_append.1 hl' with q | q
    · exact h1 l' q
    · have : l' = l := by simpa using q
      rw [this]; exact h2
end Go.Proofs.Ytbcfphoheijmdaa.Print
end

section
/- What the Go function thermionkit_Dice_One does, as a Lean function, and that its call does so. Printed by a program of this work out of the translation. -/
namespace Go.Proofs.Ytbcfphoheijmdaa.Print
open Go.RowKit Go.Proofs.YtbcfphoheijmdaaW.PrintWords Go.Proofs.YtbcfphoheijmdaaW.PrintLast Go.Proofs.YtbcfphoheijmdaaW.PrintMore
attribute [local go_sem] max2_int min2_int max_two min_two max_three min_three max_four min_four
set_option linter.unusedVariables false
set_option linter.unusedSimpArgs false

/-! ### thermionkit_Dice_One: function 35 -/
def thermionkit_Dice_One.f (s0_0 : Int) (a1 : Int) : Option (Bool × Int) := (thermionkit_Dice_Upto.f s0_0 a1).bind fun bt103 => (some ((bt103.1 == 0), bt103.2))
set_option maxHeartbeats 8000000 in
set_option maxRecDepth 100000 in
theorem thermionkit_Dice_One.calls (g : Nat) (s0_0 : Int) (a1 : Int) (r1 : Bool) (r2 : Int) (w0 w : World) (hI : IsS118 w0 w g s0_0) (hB : Below w0.heap.size w0 w) (h : thermionkit_Dice_One.f s0_0 a1 = some (r1, r2)) :
  Calls Try.prog 35 #[.pointer (some ⟨g, 0, none⟩), .int .i64 a1] w fun e w' => e = .returned (.bool r1) ∧ IsS118 w0 w' g r2 ∧ Below w0.heap.size w0 w' ∧ KeepBut w w' g none := by
 have HI0 := Aside0.mk hI
 have HK := Aside0.mk (KeepBut.refl w g none)
 have HL := Aside0.mk hB.size
 clear hI
 have HW0 := Aside0.mk hB.size
 have HB := Aside0.mk hB
 clear hB
 have H : ((thermionkit_Dice_Upto.f s0_0 a1).bind fun bt103 => (some ((bt103.1 == 0), bt103.2))) = some (r1, r2) := h
 clear h
 replace H := Option.bind_eq_some_iff.mp H
 obtain ⟨⟨t103, t104⟩, A30, H⟩ := H
 replace H : (some ((t103 == 0), t104)) = some (r1, r2) := H
 have A3 := Aside0.mk A30
 clear A30
 simp only [Option.some.injEq, Prod.mk.injEq] at H
 obtain ⟨rfl, rfl⟩ := H
 go_enter Try.func35, Try.ntmps35
 go_wp2_with (first | ((with_reducible refine gate_callee (f := 43) rfl ?_); refine goesL_ (some 7) rfl rfl Try.func43 (by kernel_rfl) rfl #[.pointer (some ⟨g, 0, none⟩), .int .i64 a1] rfl (by (try simp only [List.map_toArray, List.map_cons, List.map_nil]); first | done | rfl | (simp only [List.length_drop, List.length_take]; rfl)) ?_; (with_reducible refine (thermionkit_Dice_Upto.calls g s0_0 a1 t103 t104 w0 _ ?side1 ?side2 A3.out).mono ?_); (case side1 => repeat (first | (with_reducible first | exact HI0.out | apply IsS118.alloc | apply IsS118.drewN | apply IsS118.drew | apply IsS118.set_0) | exact HI0.out)); (case side2 => repeat (first | (with_reducible first | exact HB.out | apply below_alloc | apply pw_below_drewN | apply below_drew1 | refine below_set ?_ (IsS118.ge HI0.out)) | exact HB.out)); rintro e w4 ⟨rfl, hi, hb, hk⟩; refine ⟨_, rfl, ?_⟩; have n0_ := Aside0.mk (KeepBut.trans (by repeat (first | (with_reducible first | exact HK.out | apply KeepBut.set_ | apply keep_drewN | apply keep_drew | apply keep_alloc) | exact HK.out)) hk (.inl rfl)); have n1_ := Aside0.mk (hb); have n2_ := Aside0.mk (hi); clear HK; clear HB; clear HI0; have HK := n0_; have HB := n1_; have HI0 := n2_; clear n0_ n1_ n2_; (try clear hb); (try clear hb2); (try clear hk); (try clear hi)))
 go_ret
 exact ⟨by first | rfl | (simp [errW_none, errW_some] <;> rfl) | (simp [*, errW_none, errW_some] <;> rfl), by repeat (first | (with_reducible first | exact HI0.out | apply IsS118.alloc | apply IsS118.drewN | apply IsS118.drew | apply IsS118.set_0) | exact HI0.out), by repeat (first | (with_reducible first | exact HB.out | apply below_alloc | apply pw_below_drewN | apply below_drew1 | refine below_set ?_ (IsS118.ge HI0.out)) | exact HB.out), by repeat (first | (with_reducible first | exact HK.out | apply KeepBut.set_ | apply keep_drewN | apply keep_drew | apply keep_alloc) | exact HK.out)⟩

end Go.Proofs.Ytbcfphoheijmdaa.Print
end

section
/- Plain laws: what the dice deal. -/
namespace Go.Proofs.Ytbcfphoheijmdaa.Print
open Go.RowKit Go.Proofs.YtbcfphoheijmdaaW.PrintWords Go.Proofs.YtbcfphoheijmdaaW.PrintLast Go.Proofs.YtbcfphoheijmdaaW.PrintMore Go.Proofs.Ytbcfphoheijmdaa.H
set_option linter.unusedVariables false
set_option linter.unusedSimpArgs false

theorem u64_nonneg (x : Int) : 0 ≤ IntKind.u64.wrap x := by
  simp only [IntKind.wrap, IntKind.signed, IntKind.bits]
  simp
  omega
theorem next_two (s : Int) : ∃ v, thermionkit_Dice_next.f s = some (v, nextWord s) ∧ 0 ≤ v := ⟨_, rfl, by unfold Go.bits; exact u64_nonneg _⟩
theorem upto_eq (s n : Int) (h1 : 1 ≤ n) (h2 : n ≤ 9223372036854775807) : ∃ r, thermionkit_Dice_Upto.f s n = some (r, nextWord s) ∧ 0 ≤ r ∧ r < n := by
  obtain ⟨v, hv, h0⟩ := next_two s
  have hw : IntKind.u64.wrap n = n := by
    simp only [IntKind.wrap, IntKind.signed, IntKind.bits]
    simp
    omega
  have ht : Int.tmod v n = v % n := Int.tmod_eq_emod_of_nonneg h0
  have hm0 := Int.emod_nonneg v (show n ≠ 0 by omega)
  have hm1 := Int.emod_lt_of_pos v (show 0 < n by omega)
  refine ⟨v % n, ?_, hm0, hm1⟩
  unfold thermionkit_Dice_Upto.f
  rw [hv]
  simp only [Option.bind_some]
  rw [if_neg (by omega), hw, if_neg (by omega), ht, IntWalk.wrap64_in _ (by omega)]
theorem upto_zero (s n : Int) (h1 : n < 1) : thermionkit_Dice_Upto.f s n = some (0, nextWord s) := by
  obtain ⟨v, hv, h0⟩ := next_two s
  unfold thermionkit_Dice_Upto.f
  rw [hv]
  simp only [Option.bind_some]
  rw [if_pos h1]
theorem one_eq (s n : Int) (h1 : 1 ≤ n) (h2 : n ≤ 9223372036854775807) : ∃ b, thermionkit_Dice_One.f s n = some (b, nextWord s) := by
  obtain ⟨r, hr, _, _⟩ := upto_eq s n h1 h2
  unfold thermionkit_Dice_One.f
  rw [hr]
  exact ⟨_, rfl⟩
theorem between_eq (s a b : Int) (h : a ≤ b) (h1 : -4611686018427387904 ≤ a) (h2 : b ≤ 4611686018427387902) : ∃ r, thermionkit_Dice_Between.f s a b = some (r, nextWord s) ∧ a ≤ r ∧ r ≤ b := by
  unfold thermionkit_Dice_Between.f
  rw [IntWalk.wrap64_in (b - a) (by omega), IntWalk.wrap64_in (b - a + 1) (by omega)]
  obtain ⟨r, hr, h3, h4⟩ := upto_eq s (b - a + 1) (by omega) (by omega)
  rw [hr]
  refine ⟨a + r, ?_, by omega, by omega⟩
  simp only [Option.bind_some]
  rw [IntWalk.wrap64_in _ (by omega)]
end Go.Proofs.Ytbcfphoheijmdaa.Print
end

section
/- ChainOf as a Lean function; it makes valid chains. -/
namespace Go.Proofs.Ytbcfphoheijmdaa.Print
open Go.RowKit Go.Proofs.YtbcfphoheijmdaaW.PrintWords Go.Proofs.YtbcfphoheijmdaaW.PrintLast Go.Proofs.YtbcfphoheijmdaaW.PrintMore Go.Proofs.Ytbcfphoheijmdaa.H
set_option linter.unusedVariables false
set_option linter.unusedSimpArgs false

@[irreducible] def upV (s n : Int) : Int := ((thermionkit_Dice_Upto.f s n).getD (0, 0)).1
@[irreducible] def betV (s a b : Int) : Int := ((thermionkit_Dice_Between.f s a b).getD (0, 0)).1
@[irreducible] def oneV (s n : Int) : Bool := ((thermionkit_Dice_One.f s n).getD (false, 0)).1
theorem up_eq (s n : Int) (h1 : 1 ≤ n) (h2 : n ≤ 9223372036854775807) : thermionkit_Dice_Upto.f s n = some (upV s n, nextWord s) ∧ 0 ≤ upV s n ∧ upV s n < n := by
  obtain ⟨r, hr, h3, h4⟩ := upto_eq s n h1 h2
  have e : upV s n = r := by unfold upV; rw [hr]; rfl
  rw [e]
  exact ⟨hr, h3, h4⟩
theorem bet_eq (s a b : Int) (h : a ≤ b) (h1 : -4611686018427387904 ≤ a) (h2 : b ≤ 4611686018427387902) : thermionkit_Dice_Between.f s a b = some (betV s a b, nextWord s) ∧ a ≤ betV s a b ∧ betV s a b ≤ b := by
  obtain ⟨r, hr, h3, h4⟩ := between_eq s a b h h1 h2
  have e : betV s a b = r := by unfold betV; rw [hr]; rfl
  rw [e]
  exact ⟨hr, h3, h4⟩
theorem one_eq2 (s n : Int) (h1 : 1 ≤ n) (h2 : n ≤ 9223372036854775807) : thermionkit_Dice_One.f s n = some (oneV s n, nextWord s) := by
  obtain ⟨r, hr⟩ := one_eq s n h1 h2
  have e : oneV s n = r := by unfold oneV; rw [hr]; rfl
  rw [e]
  exact hr

/-- Where the first points stand, and the dice's word behind them. -/
def atsTo (s : Int) : Nat → List Int × Int
  | 0 => ([0], s)
  | i + 1 => ((atsTo s i).1 ++ [betV (atsTo s i).2 (-30) 30], nextWord (atsTo s i).2)
def next3 (s : Int) : Int := nextWord (nextWord (nextWord s))
def addRange (gap wide s : Int) : S32 :=
  if oneV (nextWord (nextWord s)) 40 = true then ⟨gap + 1, gap + 2⟩ else ⟨gap - upV s (wide + 1), max (gap - upV s (wide + 1) + wide - upV (nextWord s) (wide + 1)) gap⟩
def addLink (A : List Int) (wide s a b : Int) : S35 := ⟨a, b, addRange (A.getD b.toNat 0 - A.getD a.toNat 0) wide s⟩
/-- The links of the first points, each to one before it. -/
def treeTo (A : List Int) (wide s : Int) : Nat → List S35 × Int
  | 0 => ([], s)
  | i + 1 => ((treeTo A wide s i).1 ++ [if oneV (nextWord (treeTo A wide s i).2) 2 = true then addLink A wide (nextWord (nextWord (treeTo A wide s i).2)) (upV (treeTo A wide s i).2 (i + 1 : Nat)) (i + 1 : Nat) else addLink A wide (nextWord (nextWord (treeTo A wide s i).2)) (i + 1 : Nat) (upV (treeTo A wide s i).2 (i + 1 : Nat))], next3 (nextWord (nextWord (treeTo A wide s i).2)))
/-- Further links. -/
def moreTo (A : List Int) (wide P s : Int) : Nat → List S35 × Int
  | 0 => ([], s)
  | j + 1 => ((moreTo A wide P s j).1 ++ [addLink A wide (nextWord (nextWord (moreTo A wide P s j).2)) (upV (moreTo A wide P s j).2 P) (Int.tmod (upV (moreTo A wide P s j).2 P + betV (nextWord (moreTo A wide P s j).2) 1 (P - 1)) P)], next3 (nextWord (nextWord (moreTo A wide P s j).2)))
def chPoints (s points : Int) : Int := betV s 1 points
def chAts (s points : Int) : List Int × Int := atsTo (nextWord s) ((chPoints s points).toNat - 1)
def chTree (s points wide : Int) : List S35 × Int := treeTo (chAts s points).1 wide (chAts s points).2 ((chPoints s points).toNat - 1)
def chMany (s points wide : Int) : Nat := if 1 < chPoints s points then (upV (chTree s points wide).2 4).toNat else 0
def chMore (s points wide : Int) : List S35 × Int := moreTo (chAts s points).1 wide (chPoints s points) (nextWord (chTree s points wide).2) (chMany s points wide)
def thermionkit_ChainOf.f (s0_0 : Int) (a1 : Int) (a2 : Int) : Option (Int × (List (S35)) × Int) :=
  if 1 ≤ a1 ∧ a1 ≤ 24 ∧ 0 ≤ a2 ∧ a2 ≤ 1000 then some (chPoints s0_0 a1, (chTree s0_0 a1 a2).1 ++ (chMore s0_0 a1 a2).1, (chMore s0_0 a1 a2).2) else none

theorem atsTo_length (s : Int) : ∀ i, (atsTo s i).1.length = i + 1
  | 0 => rfl
  | i + 1 => by rw [atsTo]; simp [atsTo_length s i]
theorem small_snoc {A : List Int} {z : Int} (hb : -30 ≤ z ∧ z ≤ 30) (h : ∀ j, -30 ≤ A.getD j 0 ∧ A.getD j 0 ≤ 30) (j : Nat) : -30 ≤ (A ++ [z]).getD j 0 ∧ (A ++ [z]).getD j 0 ≤ 30 := by
  rw [List.getD_eq_getElem?_getD, List.getElem?_append]
  split
  · rw [← List.getD_eq_getElem?_getD]; exact h j
  · by_cases q : j - A.length = 0
    · rw [q]; simpa using hb
    · rw [List.getElem?_eq_none (by simp; omega)]; simp
theorem atsTo_small (s : Int) (i : Nat) : ∀ j, -30 ≤ (atsTo s i).1.getD j 0 ∧ (atsTo s i).1.getD j 0 ≤ 30 := by
  induction i with
  | zero =>
    intro j
    rw [atsTo]
    cases j with
    | zero => simp
    | succ j => simp
  | succ i ih =>
    rw [atsTo]
    exact small_snoc (bet_eq (atsTo s i).2 (-30) 30 (by omega) (by omega) (by omega)).2 ih
/-- The gap of a link that is made. -/
theorem addRange_ok (gap wide s : Int) (hg : -60 ≤ gap ∧ gap ≤ 60) (hw : 0 ≤ wide ∧ wide ≤ 1000) : (addRange gap wide s).f0 ≤ (addRange gap wide s).f1 ∧ -2000 ≤ (addRange gap wide s).f0 ∧ (addRange gap wide s).f1 ≤ 2000 := by
  have h1 := up_eq s (wide + 1) (by omega) (by omega)
  have h2 := up_eq (nextWord s) (wide + 1) (by omega) (by omega)
  unfold addRange
  split
  · simp only []; omega
  · simp only []; omega
theorem addLink_ok (A : List Int) (hA : ∀ j, -30 ≤ A.getD j 0 ∧ A.getD j 0 ≤ 30) (wide s a b P : Int) (hw : 0 ≤ wide ∧ wide ≤ 1000) (ha : 0 ≤ a ∧ a < P) (hb : 0 ≤ b ∧ b < P) (hab : a ≠ b) : linkErr P (addLink A wide s a b) = 0 := by
  have h1 := hA a.toNat
  have h2 := hA b.toNat
  have h3 := addRange_ok (A.getD b.toNat 0 - A.getD a.toNat 0) wide s (by omega) hw
  unfold linkErr addLink
  simp only []
  rw [if_neg (by omega), if_neg (by omega), if_neg (by omega), if_neg (by omega)]
theorem treeTo_length (A : List Int) (wide s : Int) : ∀ i, (treeTo A wide s i).1.length = i
  | 0 => rfl
  | i + 1 => by rw [treeTo]; simp [treeTo_length A wide s i]
theorem moreTo_length (A : List Int) (wide P s : Int) : ∀ i, (moreTo A wide P s i).1.length = i
  | 0 => rfl
  | i + 1 => by rw [moreTo]; simp [moreTo_length A wide P s i]
/-- The roots behind a link of a point that stands alone to one that hangs together with point 0. -/
theorem tree_root {R : List Int} {n i : Nat} {l : S35} (hi : i < 24) (hR : R.length = 24) (h0 : ∀ j, j < 24 → R.getD j 0 = if j < i then 0 else (j : Int)) (hl : (l.f0.toNat < i ∧ l.f1.toNat = i) ∨ (l.f0.toNat = i ∧ l.f1.toNat < i)) :
    ∀ j, j < 24 → (rootStep R l).getD j 0 = if j < i + 1 then 0 else (j : Int) := by
  intro j hj
  rw [rootStep_get (by omega), h0 j hj]
  have hf := h0 l.f0.toNat (by omega)
  have ht := h0 l.f1.toNat (by omega)
  have m1 := mn_le 0 (i : Int)
  have m2 := mn_le (i : Int) 0
  rcases hl with ⟨a1, a2⟩ | ⟨a1, a2⟩
  · rw [if_pos a1] at hf
    have ht2 : R.getD l.f1.toNat 0 = (i : Int) := by rw [ht, if_neg (by omega), a2]
    rw [hf, ht2]
    unfold rootVal
    by_cases q : j < i
    · rw [if_pos q, if_pos (Or.inl rfl), if_pos (by omega)]; omega
    · rw [if_neg q]
      by_cases q2 : j = i
      · subst q2; rw [if_pos (Or.inr rfl), if_pos (by omega)]; omega
      · rw [if_neg (by omega), if_neg (by omega)]
  · rw [if_pos a2] at ht
    have hf2 : R.getD l.f0.toNat 0 = (i : Int) := by rw [hf, if_neg (by omega), a1]
    rw [hf2, ht]
    unfold rootVal
    by_cases q : j < i
    · rw [if_pos q, if_pos (Or.inr rfl), if_pos (by omega)]; omega
    · rw [if_neg q]
      by_cases q2 : j = i
      · subst q2; rw [if_pos (Or.inl rfl), if_pos (by omega)]; omega
      · rw [if_neg (by omega), if_neg (by omega)]
theorem more_root {R : List Int} {l : S35} (hR : R.length = 24) (hf : l.f0.toNat < 24) (ht : l.f1.toNat < 24) (h1 : R.getD l.f0.toNat 0 = 0) (h2 : R.getD l.f1.toNat 0 = 0) : ∀ j, j < 24 → (rootStep R l).getD j 0 = R.getD j 0 := by
  intro j hj
  rw [rootStep_get (by omega), h1, h2]
  unfold rootVal
  have := mn_le 0 0
  split <;> omega
theorem tree_facts (A : List Int) (hA : ∀ j, -30 ≤ A.getD j 0 ∧ A.getD j 0 ≤ 30) (wide s : Int) (hw : 0 ≤ wide ∧ wide ≤ 1000) (P : Nat) (hP : P ≤ 24) : ∀ i, i < P → (∀ l, l ∈ (treeTo A wide s i).1 → linkErr P l = 0) ∧ ∀ j, j < 24 → (rootsOf (treeTo A wide s i).1).getD j 0 = if j < i + 1 then 0 else (j : Int)
  | 0, h => ⟨fun l hl => by simp [treeTo] at hl, fun j hj => by
      unfold treeTo rootsOf
      rw [List.foldl_nil, getD_map_range24 hj]
      split <;> omega⟩
  | i + 1, h => by
    have ih := tree_facts A hA wide s hw P hP i (by omega)
    have hu := up_eq (treeTo A wide s i).2 (i + 1 : Nat) (by omega) (by omega)
    rw [treeTo]
    simp only []
    generalize hx : (if oneV (nextWord (treeTo A wide s i).2) 2 = true then addLink A wide (nextWord (nextWord (treeTo A wide s i).2)) (upV (treeTo A wide s i).2 (i + 1 : Nat)) (i + 1 : Nat) else addLink A wide (nextWord (nextWord (treeTo A wide s i).2)) (i + 1 : Nat) (upV (treeTo A wide s i).2 (i + 1 : Nat))) = l
    have hl : linkErr P l = 0 ∧ ((l.f0.toNat < i + 1 ∧ l.f1.toNat = i + 1) ∨ (l.f0.toNat = i + 1 ∧ l.f1.toNat < i + 1)) := by
      rw [← hx]
      split
      · exact ⟨addLink_ok A hA wide _ _ _ _ hw (by omega) (by omega) (by omega), by left; unfold addLink; simp only []; omega⟩
      · exact ⟨addLink_ok A hA wide _ _ _ _ hw (by omega) (by omega) (by omega), by right; unfold addLink; simp only []; omega⟩
    refine ⟨fun l' hl' => ?_, ?_⟩
    · rcases List.mem_append.1 hl' with q | q
      · exact ih.1 l' q
      · rw [List.mem_singleton.1 q]; exact hl.1
    · rw [rootsOf_snoc]
      exact tree_root (n := P) (by omega) (rootsOf_length _) ih.2 hl.2
theorem rootsOf_append (L : List S35) (l : S35) (M : List S35) : rootsOf (L ++ (M ++ [l])) = rootStep (rootsOf (L ++ M)) l := by rw [← List.append_assoc, rootsOf_snoc]
theorem more_facts (A : List Int) (hA : ∀ j, -30 ≤ A.getD j 0 ∧ A.getD j 0 ≤ 30) (wide s : Int) (hw : 0 ≤ wide ∧ wide ≤ 1000) (P : Nat) (hP : P ≤ 24) (h2 : 2 ≤ P) (L : List S35) (hL : ∀ j, j < P → (rootsOf L).getD j 0 = 0) : ∀ i, (∀ l, l ∈ (moreTo A wide P s i).1 → linkErr P l = 0) ∧ ∀ j, j < P → (rootsOf (L ++ (moreTo A wide P s i).1)).getD j 0 = 0
  | 0 => ⟨fun l hl => by simp [moreTo] at hl, fun j hj => by simpa [moreTo] using hL j hj⟩
  | i + 1 => by
    have ih := more_facts A hA wide s hw P hP h2 L hL i
    have hu := up_eq (moreTo A wide P s i).2 P (by omega) (by omega)
    have hb := bet_eq (nextWord (moreTo A wide P s i).2) 1 ((P : Int) - 1) (by omega) (by omega) (by omega)
    rw [moreTo]
    simp only []
    generalize upV (moreTo A wide P s i).2 P = a at hu
    generalize betV (nextWord (moreTo A wide P s i).2) 1 ((P : Int) - 1) = b at hb
    have hm : Int.tmod (a + b) P = (a + b) % P := Int.tmod_eq_emod_of_nonneg (by omega)
    have hm0 := Int.emod_nonneg (a + b) (show (P : Int) ≠ 0 by omega)
    have hm1 := Int.emod_lt_of_pos (a + b) (show 0 < (P : Int) by omega)
    have hne : a ≠ (a + b) % P := by
      by_cases q : a + b < P
      · rw [Int.emod_eq_of_lt (by omega) q]; omega
      · have : (a + b) % P = a + b - P := by
          rw [← Int.sub_emod_right, Int.emod_eq_of_lt (by omega) (by omega)]
        omega
    rw [hm]
    generalize (a + b) % (P : Int) = c at hm0 hm1 hne
    have hl := addLink_ok A hA wide (nextWord (nextWord (moreTo A wide P s i).2)) a c P hw (by omega) (by omega) hne
    refine ⟨fun l' hl' => ?_, fun j hj => ?_⟩
    · rcases List.mem_append.1 hl' with q | q
      · exact ih.1 l' q
      · rw [List.mem_singleton.1 q]; exact hl
    · rw [rootsOf_append]
      have e1 : (addLink A wide (nextWord (nextWord (moreTo A wide P s i).2)) a c).f0.toNat = a.toNat := rfl
      have e2 : (addLink A wide (nextWord (nextWord (moreTo A wide P s i).2)) a c).f1.toNat = c.toNat := rfl
      rw [more_root (rootsOf_length _) (by rw [e1]; omega) (by rw [e2]; omega) (by rw [e1]; exact ih.2 _ (by omega)) (by rw [e2]; exact ih.2 _ (by omega)) j (by omega)]
      exact ih.2 j hj
/-- ChainOf makes valid chains. -/
theorem chainOf_fine {s points wide : Int} (hp : 1 ≤ points ∧ points ≤ 24) (hw : 0 ≤ wide ∧ wide ≤ 1000) : ∃ P L s', thermionkit_ChainOf.f s points wide = some (P, L, s') ∧ 1 ≤ P ∧ P ≤ points ∧ L.length ≤ 26 ∧ chainErr P L = 0 := by
  refine ⟨_, _, _, by unfold thermionkit_ChainOf.f; rw [if_pos ⟨hp.1, hp.2, hw.1, hw.2⟩], ?_⟩
  have hb := bet_eq s 1 points hp.1 (by omega) (by omega)
  have hP : chPoints s points = betV s 1 points := rfl
  obtain ⟨P, hPP⟩ : ∃ P : Nat, chPoints s points = P := ⟨(chPoints s points).toNat, by omega⟩
  have hA : ∀ j, -30 ≤ (chAts s points).1.getD j 0 ∧ (chAts s points).1.getD j 0 ≤ 30 := fun j => atsTo_small _ _ j
  have ht := tree_facts (chAts s points).1 hA wide (chAts s points).2 hw P (by omega) (P - 1) (by omega)
  have hte : treeTo (chAts s points).1 wide (chAts s points).2 (P - 1) = chTree s points wide := by unfold chTree; rw [hPP]; rfl
  rw [hte] at ht
  have hroot : ∀ j, j < P → (rootsOf (chTree s points wide).1).getD j 0 = 0 := fun j hj => by rw [ht.2 j (by omega), if_pos (by omega)]
  have hmore : (∀ l, l ∈ (chMore s points wide).1 → linkErr P l = 0) ∧ (∀ j, j < P → (rootsOf ((chTree s points wide).1 ++ (chMore s points wide).1)).getD j 0 = 0) ∧ (chMore s points wide).1.length ≤ 3 := by
    have hu := up_eq (chTree s points wide).2 4 (by omega) (by omega)
    by_cases q : 1 < chPoints s points
    · have := more_facts (chAts s points).1 hA wide (nextWord (chTree s points wide).2) hw P (by omega) (by omega) (chTree s points wide).1 hroot (chMany s points wide)
      have e : moreTo (chAts s points).1 wide P (nextWord (chTree s points wide).2) (chMany s points wide) = chMore s points wide := by unfold chMore; rw [hPP]
      rw [e] at this
      refine ⟨this.1, this.2, ?_⟩
      unfold chMore
      rw [moreTo_length]
      unfold chMany
      split <;> omega
    · have e : (chMore s points wide).1 = [] := by
        unfold chMore chMany
        rw [if_neg q]
        rfl
      rw [e, List.append_nil]
      exact ⟨fun l hl => by simp at hl, hroot, by simp⟩
  have hlen : (chTree s points wide).1.length = P - 1 := by rw [← hte, treeTo_length]
  refine ⟨by omega, by omega, by rw [List.length_append]; omega, ?_⟩
  rw [hPP]
  have hall : ∀ l, l ∈ (chTree s points wide).1 ++ (chMore s points wide).1 → linkErr P l = 0 := fun l hl => by
    rcases List.mem_append.1 hl with q | q
    · exact ht.1 l q
    · exact hmore.1 l q
  unfold chainErr
  rw [if_neg (by omega), if_neg (by rw [List.length_append]; omega)]
  have hn : ((chTree s points wide).1 ++ (chMore s points wide).1).find? (fun l => linkErr P l != 0) = none := by
    rw [List.find?_eq_none]
    intro l hl
    simp [hall l hl]
  rw [hn]
  simp only []
  rw [if_pos (roots_all hmore.2.1 (by rw [rootsOf_length]; omega))]
end Go.Proofs.Ytbcfphoheijmdaa.Print
end

section
/- Plain laws: tables of tight ranges, compared; the chapter's examples; remainders and ranges that the dice deal. -/
namespace Go.Proofs.Ytbcfphoheijmdaa.Print
open Go.RowKit Go.Proofs.YtbcfphoheijmdaaW.PrintWords Go.Proofs.YtbcfphoheijmdaaW.PrintLast Go.Proofs.YtbcfphoheijmdaaW.PrintMore Go.Proofs.Ytbcfphoheijmdaa.H
set_option linter.unusedVariables false
set_option linter.unusedSimpArgs false

theorem fuel_up {α : Type} {f : Nat → Option α} (hm : ∀ k, LeO (f k) (f (k + 1))) {k : Nat} {r : α} (h : f k = some r) : ∀ m, k ≤ m → f m = some r := by
  intro m hkm
  induction m with
  | zero => rw [show k = 0 by omega] at h; exact h
  | succ m ih =>
    by_cases e : k = m + 1
    · rw [← e]; exact h
    · exact hm m r (ih (by omega))
theorem awake_up {k : Nat} (h : 8 ≤ k) : thermionlaw04_awake.f k = some true := fuel_up thermionlaw04_awake.mono awake_true k h
theorem rowsOf_len (n : Nat) (T : List Int) : (rowsOf n T).length = n := by simp [rowsOf]
theorem rowsOf_row (n : Nat) (T : List Int) (a : Nat) (ha : a < n) : rd_L6 (rowsOf n T) (a : Int) = (List.range n).map (fun b => spanOf T a b) := by
  simp [rd_L6, rowsOf, List.getD_eq_getElem?_getD, ha]
theorem row_get (n : Nat) (T : List Int) (a b : Nat) (hb : b < n) : rd_T32 ((List.range n).map (fun b => spanOf T a b)) (b : Int) = spanOf T a b := by
  simp [rd_T32, List.getD_eq_getElem?_getD, hb]
theorem wrap_one (i : Nat) (h : i ≤ 1000000) : wrap64 ((i : Int) + 1) = ((i + 1 : Nat) : Int) := by rw [IntWalk.wrap64_in _ (by omega)]; omega
theorem square_at (n : Nat) (T : List Int) (hn : n ≤ 24) : ∀ (d i : Nat), i + d = n → thermionlaw04_square.l0 (d + 1) (rowsOf n T) n i = some true
  | 0, i, h => by
    have : i = n := by omega
    subst this
    rw [thermionlaw04_square.l0, if_neg (by rw [rowsOf_len]; omega), rowsOf_len]
    simp
  | d + 1, i, h => by
    rw [thermionlaw04_square.l0, if_pos (by rw [rowsOf_len]; omega), if_pos (by omega), rowsOf_row _ _ _ (by omega), if_pos (by simp), wrap_one _ (by omega)]
    exact square_at n T hn d (i + 1) (by omega)
theorem square_rows (n : Nat) (T : List Int) (hn : n ≤ 24) {k : Nat} (hk : 25 ≤ k) : thermionlaw04_square.f k (rowsOf n T) n = some true :=
  fuel_up (thermionlaw04_square.mono _ _) (k := n + 1) (square_at n T hn n 0 (by omega)) k (by omega)
theorem ranges_at (n : Nat) (f g : Nat → S32) (hn : n ≤ 24) : ∀ (d i : Nat), i + d = n → ∃ b, thermionkit_SameRanges.l0 (d + 1) ((List.range n).map f) ((List.range n).map g) i = some b ∧ (b = true ↔ ∀ j, i ≤ j → j < n → f j = g j)
  | 0, i, h => by
    refine ⟨true, ?_, ⟨fun _ j h1 h2 => by omega, fun _ => rfl⟩⟩
    rw [thermionkit_SameRanges.l0, if_neg (by simp; omega)]
  | d + 1, i, h => by
    obtain ⟨b, hb, hq⟩ := ranges_at n f g hn d (i + 1) (by omega)
    have e1 : rd_T32 ((List.range n).map f) (i : Int) = f i := by simp [rd_T32, List.getD_eq_getElem?_getD, show i < n by omega]
    have e2 : rd_T32 ((List.range n).map g) (i : Int) = g i := by simp [rd_T32, List.getD_eq_getElem?_getD, show i < n by omega]
    rw [thermionkit_SameRanges.l0, if_pos (by simp; omega), if_pos (by omega), if_pos (by simp; omega), e1, e2, wrap_one _ (by omega)]
    by_cases q : f i = g i
    · rw [if_neg (by rw [q]; simp)]
      refine ⟨b, hb, hq.trans ⟨fun h j h1 h2 => ?_, fun h j h1 h2 => h j (by omega) h2⟩⟩
      by_cases e : j = i
      · rw [e]; exact q
      · exact h j (by omega) h2
    · refine ⟨false, ?_, ⟨fun h => by simp at h, fun h => absurd (h i (by omega) (by omega)) q⟩⟩
      rw [if_pos]
      have : ¬ ((f i).f0 = (g i).f0 ∧ (f i).f1 = (g i).f1) := fun h => q (by cases hf : f i; cases hg : g i; rw [hf, hg] at h; simp only [] at h; rw [h.1, h.2])
      by_cases q0 : (f i).f0 = (g i).f0
      · have q1 : (f i).f1 ≠ (g i).f1 := fun e => this ⟨q0, e⟩
        simp [q0, q1]
      · simp [q0]
theorem ranges_eq (n : Nat) (f g : Nat → S32) (hn : n ≤ 24) {k : Nat} (hk : 25 ≤ k) : ∃ b, thermionkit_SameRanges.f k ((List.range n).map f) ((List.range n).map g) = some b ∧ (b = true ↔ ∀ j, j < n → f j = g j) := by
  obtain ⟨b, hb, hq⟩ := ranges_at n f g hn n 0 (by omega)
  refine ⟨b, fuel_up (thermionkit_SameRanges.mono _ _) (k := n + 1) ?_ k (by omega), hq.trans ⟨fun h j hj => h j (by omega) hj, fun h j _ hj => h j hj⟩⟩
  unfold thermionkit_SameRanges.f
  rw [if_pos (by simp)]
  exact hb
theorem same_at (n : Nat) (T U : List Int) (hn : n ≤ 24) : ∀ (d i : Nat), i + d = n → ∃ b, thermionlaw04_sameTight.l0 (d + 26) (rowsOf n T) (rowsOf n U) i = some b ∧ (b = true ↔ ∀ a, i ≤ a → a < n → ∀ c, c < n → spanOf T a c = spanOf U a c)
  | 0, i, h => by
    refine ⟨true, ?_, ⟨fun _ j h1 h2 => by omega, fun _ => rfl⟩⟩
    rw [thermionlaw04_sameTight.l0, if_neg (by rw [rowsOf_len]; omega)]
  | d + 1, i, h => by
    obtain ⟨b, hb, hq⟩ := same_at n T U hn d (i + 1) (by omega)
    obtain ⟨c, hc, hr⟩ := ranges_eq n (fun c => spanOf T i c) (fun c => spanOf U i c) hn (k := d + 26) (by omega)
    rw [show d + 1 + 26 = (d + 26) + 1 by omega, thermionlaw04_sameTight.l0, if_pos (by rw [rowsOf_len]; omega), if_pos (by omega), if_pos (by rw [rowsOf_len]; omega), rowsOf_row _ _ _ (by omega), rowsOf_row _ _ _ (by omega), hc, Option.bind_some]
    cases c with
    | false =>
      refine ⟨false, by rw [if_neg (by simp)], ⟨fun h => by simp at h, fun h => ?_⟩⟩
      exact hr.2 (fun j hj => h i (by omega) (by omega) j hj)
    | true =>
      rw [if_pos rfl, wrap_one _ (by omega)]
      refine ⟨b, hb, hq.trans ⟨fun h a h1 h2 c hcn => ?_, fun h a h1 h2 c hcn => h a (by omega) h2 c hcn⟩⟩
      by_cases e : a = i
      · subst e; exact hr.1 rfl c hcn
      · exact h a (by omega) h2 c hcn
theorem same_rows (n : Nat) (T U : List Int) (hn : n ≤ 24) {k : Nat} (hk : 50 ≤ k) : ∃ b, thermionlaw04_sameTight.f k (rowsOf n T) (rowsOf n U) = some b ∧ (b = true ↔ ∀ a, a < n → ∀ c, c < n → spanOf T a c = spanOf U a c) := by
  obtain ⟨b, hb, hq⟩ := same_at n T U hn n 0 (by omega)
  refine ⟨b, fuel_up (thermionlaw04_sameTight.mono _ _) (k := n + 26) ?_ k (by omega), hq.trans ⟨fun h a ha => h a (by omega) ha, fun h a _ ha => h a ha⟩⟩
  unfold thermionlaw04_sameTight.f
  rw [if_pos (by rw [rowsOf_len, rowsOf_len])]
  exact hb
theorem within_eq (a b : S32) : thermionkit_Within.f a.f0 a.f1 b.f0 b.f1 = some (decide (b.f0 ≤ a.f0 ∧ a.f1 ≤ b.f1)) := by
  unfold thermionkit_Within.f
  by_cases q : a.f0 ≥ b.f0
  · rw [if_pos q]; simp [show b.f0 ≤ a.f0 from q]
  · rw [if_neg q]; simp [show ¬ b.f0 ≤ a.f0 from q]
theorem mod_eq (a m : Int) (h1 : 1 ≤ m) (h2 : m ≤ 1000000) : ∃ r, thermionkit_Mod.f a m = some r ∧ 0 ≤ r ∧ r < m := by
  unfold thermionkit_Mod.f
  rw [if_neg (by omega), if_neg (by omega)]
  have b1 : -m < Int.tmod a m := Int.lt_tmod_of_pos a (by omega)
  have b2 : Int.tmod a m < m := Int.tmod_lt_of_pos a (by omega)
  by_cases q : Int.tmod a m < 0
  · rw [if_pos q, IntWalk.wrap64_in _ (by omega)]
    exact ⟨_, rfl, by omega, by omega⟩
  · rw [if_neg q]
    exact ⟨_, rfl, by omega, by omega⟩
theorem range_eq (s a b : Int) (h : a ≤ b) (h1 : -1000000 ≤ a) (h2 : b ≤ 1000000) : ∃ x y t, thermionkit_Dice_Range.f s a b = some (x, y, t) ∧ a ≤ x ∧ x ≤ y ∧ y ≤ b := by
  have p1 := bet_eq s a b h (by omega) (by omega)
  have p2 := bet_eq (nextWord s) a b h (by omega) (by omega)
  unfold thermionkit_Dice_Range.f
  rw [p1.1, Option.bind_some, p2.1, Option.bind_some]
  refine ⟨_, _, _, rfl, ?_⟩
  unfold mn mx
  simp only []
  refine ⟨?_, ?_, ?_⟩
  · split <;> omega
  · split <;> split <;> omega
  · split <;> omega
theorem chainErr_snoc {n : Nat} {L : List S35} {l : S35} (h : chainErr n L = 0) (hl : L.length < 80) (he : linkErr n l = 0) : chainErr n (L ++ [l]) = 0 := by
  obtain ⟨h1, h2, h3, h4⟩ := chainErr_ok h
  have hok := linkErr_ok he
  have hroots : ∀ i, i < n → (rootsOf L).getD i 0 = 0 := chain_roots h
  unfold chainErr
  rw [if_neg (by omega), if_neg (by rw [List.length_append]; simp; omega)]
  have hn : (L ++ [l]).find? (fun l => linkErr n l != 0) = none := by
    rw [List.find?_eq_none]
    intro l' hl'
    rcases List.mem_append.1 hl' with q | q
    · simp [h4 l' q]
    · rw [List.mem_singleton.1 q]; simp [he]
  rw [hn]
  simp only []
  rw [if_pos (roots_all (fun j hj => ?_) (by rw [rootsOf_length]; omega))]
  rw [rootsOf_snoc, more_root (rootsOf_length _) (by omega) (by omega) (hroots _ (by omega)) (hroots _ (by omega)) j (by omega)]
  exact hroots j hj
end Go.Proofs.Ytbcfphoheijmdaa.Print
end

section
/- Ask: what links say of a chain, as a Lean function, and that the Go function's call gives it. -/
namespace Go.Proofs.Ytbcfphoheijmdaa.Print
open Go.RowKit Go.Proofs.YtbcfphoheijmdaaW.PrintWords Go.Proofs.YtbcfphoheijmdaaW.PrintLast Go.Proofs.YtbcfphoheijmdaaW.PrintMore Go.Proofs.Ytbcfphoheijmdaa.H
attribute [local go_sem] max2_int min2_int max_two min_two max_three min_three max_four min_four
attribute [local go_sem ↓] Go.wp_at_zero Go.wp_at_succ
set_option linter.unusedVariables false
set_option linter.unusedSimpArgs false

/-- What a range says about lying within another one. -/
def verdictOf (r g : S32) : Int := if g.f0 ≤ r.f0 ∧ r.f1 ≤ g.f1 then 1 else if r.f1 < g.f0 ∨ g.f1 < r.f0 then 2 else 3
/-- What the first links say. -/
def saysTo (T : List Int) (l : List S35) (i : Nat) : List Int := (l.take i).map (fun x => verdictOf (spanOf T x.f0.toNat x.f1.toNat) x.f2)
def askRes (P : Int) (L l : List S35) : List Int × Int :=
  if (tightOf P L).2 = 0 then (match l.find? (fun x => linkErr P x != 0) with | some x => ([], linkErr P x) | none => (saysTo (tightOf P L).1 l l.length, 0)) else ([], (tightOf P L).2)
def mount_Ask.f (a0_0 : Int) (l0_1 : List (S35)) (l1 : List (S35)) : Option (List Int × Int) := if l1.length ≤ 1000000 then some (askRes a0_0 l0_1 l1) else none
theorem aside_iff (p : Prop) : Aside0 p ↔ p := ⟨fun h => h.out, Aside0.mk⟩
theorem saysTo_length (T : List Int) (l : List S35) (i : Nat) : (saysTo T l i).length ≤ i := by simp [saysTo]; omega
theorem saysTo_next (T : List Int) (l : List S35) (i : Nat) (h : i < l.length) : saysTo T l (i + 1) = saysTo T l i ++ [verdictOf (spanOf T (l[i]).f0.toNat (l[i]).f1.toNat) (l[i]).f2] := by
  unfold saysTo
  rw [take_at _ _ h, List.map_append]
  rfl
set_option maxHeartbeats 3200000 in
set_option maxRecDepth 100000 in
theorem mount_Ask.calls (a0_0 : Int) (A0_1 : Option Addr) (c0_1 : Nat) (l0_1 : List (S35)) (A1 : Option Addr) (c1 : Nat) (l1 : List (S35)) (r1 : List Int) (r2 : Int) (w : World) (hr0_1 : Kd.C k35 w A0_1 l0_1.length l0_1) (hc0_1 : l0_1.length ≤ c0_1) (hr1 : Kd.C k35 w A1 l1.length l1) (hc1 : l1.length ≤ c1) (h : mount_Ask.f a0_0 l0_1 l1 = some (r1, r2)) :
    Calls Try.prog 25 #[.agg #[.int .i64 a0_0, .slice A0_1 l0_1.length c0_1], .slice A1 l1.length c1] w fun e w' => ∃ v0_ : Value, e = .returned (.tuple #[v0_, .int .i64 r2]) ∧ Kd.R (Kd.int .i64) 3 w' w.heap.size (fun _ => True) v0_ r1 ∧ Below w.heap.size w w' := by
  unfold mount_Ask.f at h
  have hlen : l1.length ≤ 1000000 := by
    by_cases q : l1.length ≤ 1000000
    · exact q
    · rw [if_neg q] at h; simp at h
  rw [if_pos hlen] at h
  have HF := Aside0.mk (Option.some.inj h)
  have HR := Aside0.mk hr0_1
  have HR1 := Aside0.mk hr1
  have HM := Aside0.mk (Mem.start w)
  clear h hr0_1 hr1
  have hu27 := Try.underlying27
  have hu35 := Try.underlying35
  have hu32 := Try.underlying32
  have HTC := Aside0.mk (fun W hW => tight_calls a0_0 A0_1 c0_1 l0_1 W hW hc0_1)
  have HLT : Aside0 ((tightOf a0_0 l0_1).1.length = 576) := ⟨by
    by_cases hc : chainErr a0_0 l0_1 = 0
    · unfold tightOf; rw [if_pos hc]; exact (floyd_small (n := a0_0.toNat) a0_0.toNat 0 (initTab l0_1) (by have := chainErr_ok hc; omega) (Small.init _ (chainErr_ok hc).2.2.2) (initTab_length _)).2
    · unfold tightOf; rw [if_neg hc]; simp⟩
  by_cases t1 : (tightOf a0_0 l0_1).2 = 0
  rotate_left
  · have HF2 : Aside0 (r1 = [] ∧ r2 = (tightOf a0_0 l0_1).2) := ⟨by have := HF.out; unfold askRes at this; rw [if_neg t1] at this; exact ⟨(congrArg Prod.fst this).symm, (congrArg Prod.snd this).symm⟩⟩
    generalize (tightOf a0_0 l0_1).2 = E at t1 HTC HF2
    generalize (tightOf a0_0 l0_1).1 = T at HTC HLT
    have t2 : (E != 0) = true := by simpa using t1
    clear t1
    go_enter Try.func25, Try.ntmps25
    go_wp2_with (first
      | ((with_reducible refine gate_dst (N := 2) rfl ?_); refine ev_box HM.out rfl 27 (.tmp 0) rfl (cs := #[.int .i64 a0_0, .slice A0_1 l0_1.length c0_1]) rfl ?_; intro g1 w1 hm1 hq1; clear hq1; have HM1 := Aside0.mk hm1; clear hm1 HM)
      | ((with_reducible refine gate_dst (N := 15) rfl ?_); refine ev_load HM1.out.head rfl 27 (.tmp 2) rfl rfl _ Try.underlying27 rfl (n := 2) (by kernel_rfl) rfl ?_)
      | (go_at_call 89; refine (HTC.out _ (Kd.C_below HR.out HM1.out.below)).mono ?_; rintro e w' ⟨rfl, hd⟩; have HM2 := Aside0.mk (HM1.out.step hd); clear hd HM1)
      | ((with_reducible refine gate_dst (N := 6) rfl ?_); refine ev_new HM2.out rfl 125 rfl info125 ?_; intro g3 w3 hm3 hq1; clear hq1; have HM3 := Aside0.mk hm3; clear hm3 HM2)
      | (refine ev_store HM3.out rfl 125 (.tmp 6) (.tmp 17) rfl rfl rfl size125 (by simp) (size_nums HLT.out) (one_nums _) ?_; intro w5 hm5 hq1; clear hq1; have HM5 := Aside0.mk hm5; clear hm5 HM3))
    go_ret2
    exact ⟨.slice none 0 0, by rw [HF2.out.2]; rfl, by rw [HF2.out.1]; exact Kd.R_nil _ _ _ _ _, HM5.out.below⟩
  obtain ⟨hce, _, hsm⟩ := tightOf_small t1
  have HOK := Aside0.mk (chainErr_ok hce)
  have HF2 : Aside0 ((r1, r2) = (match l1.find? (fun x => linkErr a0_0 x != 0) with | some x => ([], linkErr a0_0 x) | none => (saysTo (tightOf a0_0 l0_1).1 l1 l1.length, 0))) := ⟨by have := HF.out; unfold askRes at this; rw [if_pos t1] at this; exact this.symm⟩
  have HORD : Aside0 (∀ a b, a < a0_0.toNat → b < a0_0.toNat → (spanOf (tightOf a0_0 l0_1).1 a b).f0 ≤ (spanOf (tightOf a0_0 l0_1).1 a b).f1) := ⟨by
    have hP : ((a0_0.toNat : Nat) : Int) = a0_0 := by have := HOK.out; omega
    have hce' : chainErr (a0_0.toNat : Nat) l0_1 = 0 := by rw [hP]; exact hce
    have ht := tight_sem hce'
    rw [hP] at ht
    rcases ht with ⟨_, ht⟩ | ⟨ht, _⟩
    · exact fun a b ha hb => ht.order ha hb
    · rw [t1] at ht; exact absurd ht (by decide)⟩
  rw [t1] at HTC
  have HBD := Aside0.mk (hsm.wide (bnd_le 24 (by omega)).2)
  clear t1 hce hsm HF
  generalize (tightOf a0_0 l0_1).1 = T at HTC HLT HF2 HBD HORD
  obtain ⟨n, rfl⟩ : ∃ n : Nat, a0_0 = n := ⟨a0_0.toNat, by have := HOK.out; omega⟩
  have hn1 : 1 ≤ n := by have := HOK.out.1; omega
  have hn2 : n ≤ 24 := by have := HOK.out.2.1; omega
  clear HOK
  go_enter Try.func25, Try.ntmps25
  go_wp2_with (first
    | ((with_reducible refine gate_dst (N := 2) rfl ?_); refine ev_box HM.out rfl 27 (.tmp 0) rfl (cs := #[.int .i64 (n : Int), .slice A0_1 l0_1.length c0_1]) rfl ?_; intro g1 w1 hm1 hq1; clear hq1; have HM1 := Aside0.mk hm1; clear hm1 HM)
    | ((with_reducible refine gate_dst (N := 15) rfl ?_); refine ev_load HM1.out.head rfl 27 (.tmp 2) rfl rfl _ Try.underlying27 rfl (n := 2) (by kernel_rfl) rfl ?_)
    | (go_at_call 89; refine (HTC.out _ (Kd.C_below HR.out HM1.out.below)).mono ?_; rintro e w' ⟨rfl, hd⟩; have HM2 := Aside0.mk (HM1.out.step hd); clear hd HM1)
    | ((with_reducible refine gate_dst (N := 6) rfl ?_); refine ev_new HM2.out rfl 125 rfl info125 ?_; intro g3 w3 hm3 hq1; clear hq1; have HM3 := Aside0.mk hm3; clear hm3 HM2)
    | (refine ev_store HM3.out rfl 125 (.tmp 6) (.tmp 17) rfl rfl rfl size125 (by simp) (size_nums HLT.out) (one_nums _) ?_; intro w5 hm5 hq1; clear hq1; have HM5 := Aside0.mk hm5; clear hm5 HM3))
  go_loopg [8, 24] l1.length (fun k v8 v24 w' => ∃ (i : Nat), v24 = .int .i64 i ∧ Aside0 (i + k = l1.length) ∧ Aside0 ((Kd.int .i64).R 3 w' w.heap.size (fun _ => True) v8 (saysTo T l1 i)) ∧ Aside0 (OkTo (n : Int) l1 i) ∧ Aside0 (Mem w w' [(g3, (nums .i64 T).toArray, 125), (g1, #[.int .i64 (n : Int), .slice A0_1 l0_1.length c0_1], 27)]))
  case atStart => exact ⟨0, rfl, ⟨by omega⟩, ⟨Kd.R_nil _ _ _ _ _⟩, ⟨OkTo.start _ _⟩, HM5⟩
  case round =>
    clear HM5
    obtain ⟨i, rfl, HK, HO, HOKT, HM5⟩ := hrel
    have HN0 := Aside0.mk (Mem.start wr)
    by_cases hi : i < l1.length
    · obtain ⟨ad, e0, x0, x1, x2, x3⟩ := at35 (Kd.C_below HR1.out HM5.out.below) i hi
      have HX := Aside0.mk (show l1[i] = l1[i] from rfl)
      have HE := checkLink_eq (n : Int) l1[i] (by omega) (by omega)
      have HNX := Aside0.mk (saysTo_next T l1 i hi)
      generalize hX : l1[i] = X at x0 x1 x2 x3 HE HNX
      have HXX := Aside0.mk hX
      clear hX HX
      cases e0
      have hk1 : (0 : Int) ≤ (i : Int) := by omega
      have hk2 : (i : Int) < (l1.length : Int) := by omega
      have HE2 := Aside0.mk HE
      clear HE
      by_cases tE : linkErr (n : Int) X = 0
      · have HOK := Aside0.mk (HOKT.out.next hi (by rw [HXX.out]; exact tE))
        rw [tE] at HE2
        obtain ⟨q1, q2, q3, q4, q5, q6, _⟩ := linkErr_ok tE
        have q7 := HORD.out X.f0.toNat X.f1.toNat (by omega) (by omega)
        clear tE
        have HSP := Aside0.mk (fun W => span_calls T X.f0.toNat X.f1.toNat HLT.out (by omega) (by omega) HBD.out W)
        have p1 : (X.f0.toNat : Int) = X.f0 := by omega
        have p2 : (X.f1.toNat : Int) = X.f1 := by omega
        rw [p1, p2] at HSP
        clear p1 p2
        generalize hS : spanOf T X.f0.toNat X.f1.toNat = S at HSP HNX q7
        clear hS
        have HLE := Aside0.mk (saysTo_length T l1 i)
        have hV : verdictOf S X.f2 = if X.f2.f0 ≤ S.f0 ∧ S.f1 ≤ X.f2.f1 then 1 else if S.f1 < X.f2.f0 ∨ X.f2.f1 < S.f0 then 2 else 3 := rfl
        generalize hvv : verdictOf S X.f2 = V at hV HNX
        clear hvv
        have HVV := Aside0.mk hV
        clear hV
        obtain ⟨F, Tt, ⟨XL, XH⟩⟩ := X
        obtain ⟨SL, SH⟩ := S
        simp only [] at x0 x1 x2 x3 HE2 q1 q2 q3 q4 q5 q6 q7 HSP HNX HVV
        have hcase : (XL ≤ SL ∧ SH ≤ XH ∧ Aside0 (V = 1)) ∨ (XL ≤ SL ∧ XH < SH ∧ XL ≤ SH ∧ XH < SL ∧ Aside0 (V = 2)) ∨ (XL ≤ SL ∧ XH < SH ∧ XL ≤ SH ∧ SL ≤ XH ∧ Aside0 (V = 3)) ∨ (SL < XL ∧ SH < XL ∧ Aside0 (V = 2)) ∨ (SL < XL ∧ XL ≤ SH ∧ SL ≤ XH ∧ Aside0 (V = 3)) := by
          rw [HVV.out]
          simp only [aside_iff]
          by_cases v1 : XL ≤ SL
          · by_cases v2 : SH ≤ XH
            · left; exact ⟨v1, v2, by rw [if_pos ⟨v1, v2⟩]⟩
            · right
              by_cases v4 : XH < SL
              · left; exact ⟨v1, by omega, by omega, v4, by rw [if_neg (by omega), if_pos (Or.inr v4)]⟩
              · right; left; exact ⟨v1, by omega, by omega, by omega, by rw [if_neg (by omega), if_neg (by omega)]⟩
          · right; right; right
            by_cases v3 : SH < XL
            · left; exact ⟨by omega, v3, by rw [if_neg (by omega), if_pos (Or.inl v3)]⟩
            · right; exact ⟨by omega, by omega, by omega, by rw [if_neg (by omega), if_neg (by omega)]⟩
        clear HVV
        have HSZ := Aside0.mk (show (l1.length : Int) ≤ 1000000 by omega)
        go_wp2_with (first
          | ((with_reducible refine gate_dst (N := 10) rfl ?_); refine ev_new HN0.out rfl 35 rfl info35 ?_; intro g4 w6 hm6 hq1; clear hq1; have HN6 := Aside0.mk hm6; clear hm6)
          | (refine ev_store HN6.out rfl 35 (.tmp 10) (.tmp 27) rfl rfl (cs := #[.int .i64 F, .int .i64 Tt, .int .i64 XL, .int .i64 XH]) rfl size35 rfl rfl (by simp [Value.oneCell']) ?_; intro w7 hm7 hq1; clear hq1; have HN7 := Aside0.mk hm7; clear hm7 HN6; have c0 : w7.cell? ⟨g1, 0, none⟩ = some (.int .i64 (n : Int)) := (blk_cell (HM5.out.step HN7.out.below).second 0).trans rfl)
          | ((with_reducible refine gate_dst (N := 30) rfl ?_); refine ev_load HN7.out.head rfl 35 (.tmp 10) rfl rfl _ Try.underlying35 rfl size35 rfl ?_)
          | (go_at_call 91; refine (mount_checkLink.calls _ _ _ _ _ _ _ _ HE2.out).mono ?_; rintro e w8 ⟨rfl, hd⟩; have HN8 := Aside0.mk (HN7.out.step hd); clear hd HN7; have d0 : w8.cell? ⟨g4, 0, none⟩ = some (.int .i64 F) := (HN8.out.cell 0).trans rfl; have d1 : w8.cell? ⟨g4, 1, none⟩ = some (.int .i64 Tt) := (HN8.out.cell 1).trans rfl)
          | ((with_reducible refine gate_dst (N := 35) rfl ?_); refine ev_load (HM5.out.step HN8.out.below).head rfl 125 (.tmp 6) rfl rfl _ Try.underlying125 rfl (n := 576) size125 (size_nums HLT.out) ?_)
          | (go_at_call 90; refine (HSP.out _).mono ?_; rintro e w9 ⟨rfl, hd⟩; have HN9 := Aside0.mk (HN8.out.step hd); clear hd HN8)
          | ((with_reducible refine gate_dst (N := 13) rfl ?_); refine ev_new HN9.out rfl 32 rfl info32a ?_; intro g5 w10 hm10 hq1; clear hq1; have HN10 := Aside0.mk hm10; clear hm10 HN9)
          | (refine ev_store HN10.out rfl 32 (.tmp 13) (.tmp 40) rfl rfl (cs := #[.int .i64 SL, .int .i64 SH]) rfl size32 rfl rfl (by simp [Value.oneCell']) ?_; intro w11 hm11 hq1; clear hq1; have HN11 := Aside0.mk hm11; clear hm11 HN10; have e0 : w11.cell? ⟨g5, 0, none⟩ = some (.int .i64 SL) := (HN11.out.cell 0).trans rfl; have e1 : w11.cell? ⟨g5, 1, none⟩ = some (.int .i64 SH) := (HN11.out.cell 1).trans rfl; have e2 : w11.cell? ⟨g4, 2, none⟩ = some (.int .i64 XL) := (blk_cell HN11.out.second 2).trans rfl; have e3 : w11.cell? ⟨g4, 3, none⟩ = some (.int .i64 XH) := (blk_cell HN11.out.second 3).trans rfl; have HR11 := Aside0.mk (Kd.R_below HO.out HN11.out.below); have HM11 := Aside0.mk (HM5.out.step HN11.out.below); clear d0 d1 c0 x0 x1 x2 x3; rcases hcase with ⟨v1, v2, ⟨rfl⟩⟩ | ⟨v1, v2, v3, v4, ⟨rfl⟩⟩ | ⟨v1, v2, v3, v4, ⟨rfl⟩⟩ | ⟨v1, v2, ⟨rfl⟩⟩ | ⟨v1, v2, v3, ⟨rfl⟩⟩)
          | ((with_reducible refine gate_dst (N := 74) rfl ?_); refine Kd.R_append (Kd.int .i64) (w0 := w) w.heap.size rfl (.tmp 71) (.tmp 73) 22 3 (.int .i64 0) 8 rfl Try.underlying22 info3 rfl (by decide) (by omega) u8 (saysTo T l1 i) 1 [.int .i64 1] (fun _ => True) (fun _ => False) rfl rfl rfl (fun _ hk => hk.elim) (fun _ _ => trivial) HR11.out HM11.out.below HM11.out.below.size (by have := HLE.out; omega) ?_; intro v1_ w12 hR12 hB12 hg12 hat12; have HR12 := Aside0.mk hR12; have HM12 := Aside0.mk (HM11.out.grownR HR11.out hg12 (by simp)); clear hR12 hB12 hg12 hat12)
          | ((with_reducible refine gate_dst (N := 74) rfl ?_); refine Kd.R_append (Kd.int .i64) (w0 := w) w.heap.size rfl (.tmp 71) (.tmp 73) 22 3 (.int .i64 0) 8 rfl Try.underlying22 info3 rfl (by decide) (by omega) u8 (saysTo T l1 i) 2 [.int .i64 2] (fun _ => True) (fun _ => False) rfl rfl rfl (fun _ hk => hk.elim) (fun _ _ => trivial) HR11.out HM11.out.below HM11.out.below.size (by have := HLE.out; omega) ?_; intro v1_ w12 hR12 hB12 hg12 hat12; have HR12 := Aside0.mk hR12; have HM12 := Aside0.mk (HM11.out.grownR HR11.out hg12 (by simp)); clear hR12 hB12 hg12 hat12)
          | ((with_reducible refine gate_dst (N := 74) rfl ?_); refine Kd.R_append (Kd.int .i64) (w0 := w) w.heap.size rfl (.tmp 71) (.tmp 73) 22 3 (.int .i64 0) 8 rfl Try.underlying22 info3 rfl (by decide) (by omega) u8 (saysTo T l1 i) 3 [.int .i64 3] (fun _ => True) (fun _ => False) rfl rfl rfl (fun _ hk => hk.elim) (fun _ _ => trivial) HR11.out HM11.out.below HM11.out.below.size (by have := HLE.out; omega) ?_; intro v1_ w12 hR12 hB12 hg12 hat12; have HR12 := Aside0.mk hR12; have HM12 := Aside0.mk (HM11.out.grownR HR11.out hg12 (by simp)); clear hR12 hB12 hg12 hat12))
        all_goals (
          go_roundg (l1.length - (i + 1))
          case measure => have := HK.out; omega
          case rel => exact ⟨i + 1, by go_num, ⟨by omega⟩, ⟨by rw [HNX.out]; exact HR12.out⟩, HOK, HM12⟩)
      · have HFD := Aside0.mk (HOKT.out.find hi (by rw [HXX.out]; exact tE))
        have HF3 : Aside0 (r1 = [] ∧ r2 = linkErr (n : Int) X) := ⟨by have := HF2.out; rw [HFD.out, HXX.out] at this; exact ⟨congrArg Prod.fst this, congrArg Prod.snd this⟩⟩
        generalize hEE : linkErr (n : Int) X = E at tE HE2 HF3
        clear hEE
        have tE2 : (E != 0) = true := by simpa using tE
        clear tE
        obtain ⟨F, Tt, ⟨XL, XH⟩⟩ := X
        simp only [] at x0 x1 x2 x3 HE2
        go_wp2_with (first
          | ((with_reducible refine gate_dst (N := 10) rfl ?_); refine ev_new HN0.out rfl 35 rfl info35 ?_; intro g4 w6 hm6 hq1; clear hq1; have HN6 := Aside0.mk hm6; clear hm6)
          | (refine ev_store HN6.out rfl 35 (.tmp 10) (.tmp 27) rfl rfl (cs := #[.int .i64 F, .int .i64 Tt, .int .i64 XL, .int .i64 XH]) rfl size35 rfl rfl (by simp [Value.oneCell']) ?_; intro w7 hm7 hq1; clear hq1; have HN7 := Aside0.mk hm7; clear hm7 HN6; have c0 : w7.cell? ⟨g1, 0, none⟩ = some (.int .i64 (n : Int)) := (blk_cell (HM5.out.step HN7.out.below).second 0).trans rfl)
          | ((with_reducible refine gate_dst (N := 30) rfl ?_); refine ev_load HN7.out.head rfl 35 (.tmp 10) rfl rfl _ Try.underlying35 rfl size35 rfl ?_)
          | (go_at_call 91; refine (mount_checkLink.calls _ _ _ _ _ _ _ _ HE2.out).mono ?_; rintro e w8 ⟨rfl, hd⟩; have HN8 := Aside0.mk (HN7.out.step hd); clear hd HN7))
        go_ret2
        exact ⟨.slice none 0 0, by rw [HF3.out.2]; rfl, by rw [HF3.out.1]; exact Kd.R_nil _ _ _ _ _, (HM5.out.step HN8.out.below).below⟩
    · have hi2 : i = l1.length := by have := HK.out; omega
      have HF3 : Aside0 (r1 = saysTo T l1 i ∧ r2 = 0) := ⟨by
        subst hi2
        have := HF2.out
        rw [HOKT.out.none] at this
        exact ⟨congrArg Prod.fst this, congrArg Prod.snd this⟩⟩
      go_wp2_with fail
      go_ret2
      exact ⟨_, by rw [HF3.out.2]; rfl, by rw [HF3.out.1]; exact HO.out, HM5.out.below⟩
end Go.Proofs.Ytbcfphoheijmdaa.Print
end

section
/- Plain law of MountNarrower: what one link more does to tight tables. -/
namespace Go.Proofs.Ytbcfphoheijmdaa.Print
open Go.RowKit Go.Proofs.YtbcfphoheijmdaaW.PrintWords Go.Proofs.YtbcfphoheijmdaaW.PrintLast Go.Proofs.YtbcfphoheijmdaaW.PrintMore Go.Proofs.Ytbcfphoheijmdaa.H
set_option linter.unusedVariables false
set_option linter.unusedSimpArgs false

/-- The ranges with one link more lie in those without it. -/
def Inside (n : Nat) (T U : List Int) : Prop := ∀ a b, a < n → b < n → (spanOf T a b).f0 ≤ (spanOf U a b).f0 ∧ (spanOf U a b).f1 ≤ (spanOf T a b).f1
def AllSame (n : Nat) (T U : List Int) : Prop := ∀ a, a < n → ∀ c, c < n → spanOf T a c = spanOf U a c
theorem narrow_facts {n : Nat} {L : List S35} {l : S35} (hn : 1 ≤ n) (hc : chainErr n L = 0) (hm : chainErr n (L ++ [l]) = 0) (hl : linkErr n l = 0) :
    ((tightOf n L).2 = 12 ∧ (tightOf n (L ++ [l])).2 = 12) ∨
    ((tightOf n L).2 = 0 ∧ verdictOf (spanOf (tightOf n L).1 l.f0.toNat l.f1.toNat) l.f2 = 2 ∧ (tightOf n (L ++ [l])).2 = 12) ∨
    ((tightOf n L).2 = 0 ∧ verdictOf (spanOf (tightOf n L).1 l.f0.toNat l.f1.toNat) l.f2 = 1 ∧ (tightOf n (L ++ [l])).2 = 0 ∧ AllSame n (tightOf n L).1 (tightOf n (L ++ [l])).1 ∧ Inside n (tightOf n L).1 (tightOf n (L ++ [l])).1) ∨
    ((tightOf n L).2 = 0 ∧ verdictOf (spanOf (tightOf n L).1 l.f0.toNat l.f1.toNat) l.f2 = 3 ∧ (tightOf n (L ++ [l])).2 = 0 ∧ ¬ AllSame n (tightOf n L).1 (tightOf n (L ++ [l])).1 ∧ Inside n (tightOf n L).1 (tightOf n (L ++ [l])).1) := by
  have hok := linkErr_ok hl
  have hf : l.f0.toNat < n := by omega
  have ht : l.f1.toNat < n := by omega
  have hL : ∀ l', l' ∈ L → l'.f0.toNat < n ∧ l'.f1.toNat < n := fun l' h' => by
    have := linkErr_ok ((chainErr_ok hc).2.2.2 l' h')
    omega
  have sem1 := tight_sem hc
  have sem2 := tight_sem hm
  generalize (tightOf n L).1 = T at sem1 ⊢
  generalize (tightOf n L).2 = e1 at sem1 ⊢
  generalize (tightOf n (L ++ [l])).1 = U at sem2 ⊢
  generalize (tightOf n (L ++ [l])).2 = e2 at sem2 ⊢
  rcases sem1 with ⟨rfl, h1⟩ | ⟨rfl, h1⟩
  · right
    have hs0 : (spanOf T l.f0.toNat l.f1.toNat).f0 = -(tf T l.f1.toNat l.f0.toNat) := rfl
    have hs1 : (spanOf T l.f0.toNat l.f1.toNat).f1 = tf T l.f0.toNat l.f1.toNat := rfl
    have hord := h1.order hf ht
    unfold verdictOf
    rw [hs0, hs1]
    by_cases v1 : l.f2.f0 ≤ -(tf T l.f1.toNat l.f0.toNat) ∧ tf T l.f0.toNat l.f1.toNat ≤ l.f2.f1
    · right; left
      rw [if_pos v1]
      have hfit : ∀ x, FitsL L x → FitsL (L ++ [l]) x := fun x hx => by
        have b1 := h1.bound x hx _ _ hf ht
        have b2 := h1.bound x hx _ _ ht hf
        exact FitsL.snoc.2 ⟨hx, by omega⟩
      rcases sem2 with ⟨rfl, h2⟩ | ⟨rfl, h2⟩
      · have hsame : ∀ a b, a < n → b < n → tf U a b = tf T a b := fun a b ha hb => by
          have m1 := h1.mono h2 (fun x hx => (FitsL.snoc.1 hx).1) ha hb
          have m2 := h2.mono h1 hfit ha hb
          omega
        refine ⟨rfl, rfl, rfl, fun a ha c hcn => ?_, fun a b ha hb => ?_⟩
        · have e1 := hsame a c ha hcn
          have e2 := hsame c a hcn ha
          unfold tf at e1 e2
          unfold spanOf
          rw [e1, e2]
        · have e1 := hsame a b ha hb
          have e2 := hsame b a hb ha
          unfold tf at e1 e2
          unfold spanOf
          rw [e1, e2]
          exact ⟨Int.le_refl _, Int.le_refl _⟩
      · exact absurd (hfit _ (h1.reach 0 (by omega))) (h2 _)
    · rw [if_neg v1]
      by_cases v2 : tf T l.f0.toNat l.f1.toNat < l.f2.f0 ∨ l.f2.f1 < -(tf T l.f1.toNat l.f0.toNat)
      · left
        rw [if_pos v2]
        refine ⟨rfl, rfl, ?_⟩
        rcases sem2 with ⟨rfl, h2⟩ | ⟨rfl, h2⟩
        · exfalso
          have hx := FitsL.snoc.1 (h2.reach 0 (by omega))
          have b1 := h1.bound _ hx.1 _ _ hf ht
          have b2 := h1.bound _ hx.1 _ _ ht hf
          have := hx.2
          omega
        · rfl
      · right; right
        rw [if_neg v2]
        rcases sem2 with ⟨rfl, h2⟩ | ⟨rfl, h2⟩
        · refine ⟨rfl, rfl, rfl, fun hall => ?_, fun a b ha hb => ?_⟩
          · have e := hall _ hf _ ht
            have e0 : -(tf T l.f1.toNat l.f0.toNat) = -(tf U l.f1.toNat l.f0.toNat) := congrArg S32.f0 e
            have e1 : tf T l.f0.toNat l.f1.toNat = tf U l.f0.toNat l.f1.toNat := congrArg S32.f1 e
            have := h2.edge (l := l) (by simp) hf ht
            omega
          · have m1 := h1.mono h2 (fun x hx => (FitsL.snoc.1 hx).1) ha hb
            have m2 := h1.mono h2 (fun x hx => (FitsL.snoc.1 hx).1) hb ha
            unfold tf at m1 m2
            unfold spanOf
            simp only []
            omega
        · exfalso
          obtain ⟨x, hx, hv⟩ := h1.mid hL hf ht (v := max (-(tf T l.f1.toNat l.f0.toNat)) l.f2.f0) (by omega) (by omega)
          exact h2 x (FitsL.snoc.2 ⟨hx, by omega⟩)
  · left
    refine ⟨rfl, ?_⟩
    rcases sem2 with ⟨rfl, h2⟩ | ⟨rfl, h2⟩
    · exact absurd (FitsL.snoc.1 (h2.reach 0 (by omega))).1 (h1 _)
    · rfl
end Go.Proofs.Ytbcfphoheijmdaa.Print
end

section
/- ChainOf's inner function: the link that it adds. -/
namespace Go.Proofs.Ytbcfphoheijmdaa.Print
open Go.RowKit Go.Proofs.YtbcfphoheijmdaaW.PrintWords Go.Proofs.YtbcfphoheijmdaaW.PrintLast Go.Proofs.YtbcfphoheijmdaaW.PrintMore Go.Proofs.Ytbcfphoheijmdaa.H
attribute [local go_sem] max2_int min2_int max_two min_two max_three min_three max_four min_four
attribute [local go_sem ↓] Go.wp_at_zero Go.wp_at_succ
set_option linter.unusedVariables false
set_option linter.unusedSimpArgs false

/-- ChainOf's variables: the chain, the positions, how wide, the dice; what else it holds. -/
structure CO (w0 w W : World) (g ga gd gw gc : Nat) (s : Int) (A : List Int) (wide P : Int) (va vl : Value) (L : List S35) (l : List (Nat × Array Value × TypeId)) : Prop where
  mem : Mem w0 W ((gc, #[.int .i64 P, vl], 27) :: (ga, #[va], 22) :: (gw, #[.int .i64 wide], 3) :: (gd, #[.pointer (some ⟨g, 0, none⟩)], 23) :: (g, #[.int .u64 s], 118) :: l)
  keep : KeepBut w W g none
  base : w0.heap.size ≤ w.heap.size
  glt : g < w.heap.size
  big : w.heap.size ≤ gc ∧ w.heap.size ≤ ga ∧ w.heap.size ≤ gw ∧ w.heap.size ≤ gd
  ra : (Kd.int .i64).R 3 W w.heap.size (fun k => k ≠ gw) va A
  rl : k35.R 35 W w.heap.size (fun _ => True) vl L
  types : ∀ p, p ∈ l → p.2.2 ≠ 35 ∧ p.2.2 ≠ 3 ∧ w.heap.size ≤ p.1
theorem e35 {q : Nat} (hq : q ∈ 35 :: k35.E) : q = 35 := by
  have : k35.E = [] := rfl
  rw [this] at hq
  simpa using hq
namespace CO
variable {w0 w W W1 : World} {g ga gd gw gc : Nat} {s s1 : Int} {A : List Int} {wide P x : Int} {va vl v1 : Value} {L : List S35} {y : S35} {l : List (Nat × Array Value × TypeId)}
theorem later (h : CO w0 w W g ga gd gw gc s A wide P va vl L l) (hb : Below W.heap.size W W1) : CO w0 w W1 g ga gd gw gc s A wide P va vl L l :=
  ⟨h.mem.step hb, h.keep.trans (KeepBut.of_below hb g none) (.inl rfl), h.base, h.glt, h.big, Kd.R_below h.ra hb, Kd.R_below h.rl hb, h.types⟩
theorem drewN (h : CO w0 w W g ga gd gw gc s A wide P va vl L l) (n : Nat) : CO w0 w (W.drewN n) g ga gd gw gc s A wide P va vl L l := h.later (pw_below_drewN (Below.refl _ _) n)
theorem drew (h : CO w0 w W g ga gd gw gc s A wide P va vl L l) : CO w0 w W.drew g ga gd gw gc s A wide P va vl L l := h.later (below_drew1 (Below.refl _ _))
theorem cellL (h : CO w0 w W g ga gd gw gc s A wide P va vl L l) : W.cell? ⟨gc, 1, none⟩ = some vl := (h.mem.cell 1).trans rfl
theorem cellP (h : CO w0 w W g ga gd gw gc s A wide P va vl L l) : W.cell? ⟨gc, 0, none⟩ = some (.int .i64 P) := (h.mem.cell 0).trans rfl
theorem cellA (h : CO w0 w W g ga gd gw gc s A wide P va vl L l) : W.cell? ⟨ga, 0, none⟩ = some va := (blk_cell h.mem.second 0).trans rfl
theorem cellW (h : CO w0 w W g ga gd gw gc s A wide P va vl L l) : W.cell? ⟨gw, 0, none⟩ = some (.int .i64 wide) := (blk_cell h.mem.third 0).trans rfl
theorem cellD (h : CO w0 w W g ga gd gw gc s A wide P va vl L l) : W.cell? ⟨gd, 0, none⟩ = some (.pointer (some ⟨g, 0, none⟩)) := (blk_cell (h.mem.blk (gd, #[.pointer (some ⟨g, 0, none⟩)], 23) (by simp)) 0).trans rfl
theorem frozenL (h : CO w0 w W g ga gd gw gc s A wide P va vl L l) (i : Nat) : W.frozen? ⟨gc, i, none⟩ = false := h.mem.frozen i
theorem frozenA (h : CO w0 w W g ga gd gw gc s A wide P va vl L l) (i : Nat) : W.frozen? ⟨ga, i, none⟩ = false := blk_frozen h.mem.second i
theorem below (h : CO w0 w W g ga gd gw gc s A wide P va vl L l) : Below w0.heap.size w0 W := h.mem.below
theorem isS (h : CO w0 w W g ga gd gw gc s A wide P va vl L l) : IsS118 w0 W g s := ⟨h.mem.blk (g, #[.int .u64 s], 118) (by simp), h.mem.ge (g, #[.int .u64 s], 118) (by simp)⟩
theorem dice (h : CO w0 w W g ga gd gw gc s A wide P va vl L l) (hI : IsS118 w0 W1 g s1) (hB : Below w0.heap.size w0 W1) (hK : KeepBut W W1 g none) : CO w0 w W1 g ga gd gw gc s1 A wide P va vl L l := by
  have ha := h.mem.apart
  have hother : ∀ p, p ∈ ((gc, #[.int .i64 P, vl], 27) :: (ga, #[va], 22) :: (gw, #[.int .i64 wide], 3) :: (gd, #[.pointer (some ⟨g, 0, none⟩)], 23) :: (g, #[.int .u64 s], 118) :: l : List (Nat × Array Value × TypeId)) → p.1 ≠ g → W1.heap[p.1]? = some (.cells p.2.1 p.2.2 (0, 0)) := fun p hp hne => by
    have hb := h.mem.blk p hp
    exact (hK.2 p.1 (blk_lt hb) hne (by simp)).trans hb
  simp only [List.pairwise_cons, List.mem_cons, forall_eq_or_imp] at ha
  obtain ⟨⟨n1, n2, n3, n4, n5⟩, ⟨m1, m2, m3, m4⟩, ⟨k1, k2, k3⟩, ⟨j1, j2⟩, i1, i2⟩ := ha
  refine ⟨⟨hB, fun p hp => ?_, fun p hp => ?_, ?_⟩, h.keep.trans hK (.inl rfl), h.base, h.glt, h.big, ?_, ?_, h.types⟩
  · simp only [List.mem_cons] at hp
    rcases hp with rfl | rfl | rfl | rfl | rfl | hp
    · exact hother (gc, #[.int .i64 P, vl], 27) (by simp) n4
    · exact hother (ga, #[va], 22) (by simp) m3
    · exact hother (gw, #[.int .i64 wide], 3) (by simp) k2
    · exact hother (gd, #[.pointer (some ⟨g, 0, none⟩)], 23) (by simp) j1
    · exact hI.1
    · exact hother p (by simp [hp]) (fun e => i1 p hp e.symm)
  · simp only [List.mem_cons] at hp
    rcases hp with rfl | rfl | rfl | rfl | rfl | hp
    · exact h.mem.ge (gc, #[.int .i64 P, vl], 27) (by simp)
    · exact h.mem.ge (ga, #[va], 22) (by simp)
    · exact h.mem.ge (gw, #[.int .i64 wide], 3) (by simp)
    · exact h.mem.ge (gd, #[.pointer (some ⟨g, 0, none⟩)], 23) (by simp)
    · exact hI.2
    · exact h.mem.ge p (by simp [hp])
  · simp only [List.pairwise_cons, List.mem_cons, forall_eq_or_imp]
    exact ⟨⟨n1, n2, n3, n4, n5⟩, ⟨m1, m2, m3, m4⟩, ⟨k1, k2, k3⟩, ⟨j1, j2⟩, i1, i2⟩
  · exact Kd.R_mono (Kd.R_keep (Kd.R_bound h.ra) hK (fun k hk => by have := h.glt; have := hk.2.1; omega)) (fun _ hk => hk.1)
  · exact Kd.R_mono (Kd.R_keep (Kd.R_bound h.rl) hK (fun k hk => by have := h.glt; have := hk.2.1; omega)) (fun _ hk => hk.1)
theorem keep_set {w W : World} {g gc i : Nat} {v : Value} (h : KeepBut w W g none) (hc : w.heap.size ≤ gc) : KeepBut w (W.setCell ⟨gc, i, none⟩ v) g none :=
  ⟨by rw [World.size_setCell]; exact h.1, fun k hk h1 h2 => (Below.heap_setCell W ⟨gc, i, none⟩ v k (by show k ≠ gc; omega)).trans (h.2 k hk h1 h2)⟩
theorem grownMem (h : CO w0 w W g ga gd gw gc s A wide P va vl L l) (hg : W.grownBy W1 vl.ownBlock) : Mem w0 W1 ((gc, #[.int .i64 P, vl], 27) :: (ga, #[va], 22) :: (gw, #[.int .i64 wide], 3) :: (gd, #[.pointer (some ⟨g, 0, none⟩)], 23) :: (g, #[.int .u64 s], 118) :: l) :=
  h.mem.grown hg (fun k hk => Nat.le_trans h.base (Kd.R_base h.rl k hk)) (fun p hp => by
    refine Kd.R_ne h.rl (h.mem.blk p hp) ?_
    simp only [List.mem_cons] at hp
    rcases hp with rfl | rfl | rfl | rfl | rfl | hp
    · show (35 : Nat) ≠ 27; decide
    · show (35 : Nat) ≠ 22; decide
    · show (35 : Nat) ≠ 3; decide
    · show (35 : Nat) ≠ 23; decide
    · show (35 : Nat) ≠ 118; decide
    · exact (h.types p hp).1.symm)
theorem push (h : CO w0 w W g ga gd gw gc s A wide P va vl L l) (hg : W.grownBy W1 vl.ownBlock) (hR : k35.R 35 W1 w.heap.size (fun _ => True) v1 (L ++ [y])) : CO w0 w (W1.setCell ⟨gc, 1, none⟩ v1) g ga gd gw gc s A wide P va v1 (L ++ [y]) l := by
  have hm := h.grownMem hg
  have hk : KeepBut w W1 g none := by
    refine ⟨Nat.le_trans h.keep.1 hg.size, fun i hi h1 h2 => ?_⟩
    have := h.keep.2 i hi h1 h2
    rw [← this]
    refine hg.block i (Nat.lt_of_lt_of_le hi h.keep.1) (fun e => ?_)
    have := Kd.R_base h.rl i e.symm
    omega
  have hra := Kd.R_mono (Kd.R_grown (Kd.R_bound h.ra) hg (fun k hk => by
    obtain ⟨_, _, _, q, hq, cells, hc⟩ := hk
    have : q = 3 := by simpa [Kd.int, Kd.scalar] using hq
    subst this
    exact Kd.R_ne h.rl hc (by decide))) (fun _ hk => hk.1)
  refine ⟨hm.put 1 v1 rfl, keep_set hk h.big.1, h.base, h.glt, h.big, Kd.R_set hra hm.head (fun q hq => ?_) 1 v1, Kd.R_set hR hm.head (fun q hq => ?_) 1 v1, h.types⟩
  · have : q = 3 := by simpa [Kd.int, Kd.scalar] using hq
    subst this
    decide
  · have : q = 35 := e35 hq
    subst this
    decide
theorem grownMemA (h : CO w0 w W g ga gd gw gc s A wide P va vl L l) (hg : W.grownBy W1 va.ownBlock) : Mem w0 W1 ((gc, #[.int .i64 P, vl], 27) :: (ga, #[va], 22) :: (gw, #[.int .i64 wide], 3) :: (gd, #[.pointer (some ⟨g, 0, none⟩)], 23) :: (g, #[.int .u64 s], 118) :: l) :=
  h.mem.grown hg (fun k hk => Nat.le_trans h.base (Kd.R_base h.ra k hk)) (fun p hp => by
    by_cases e : p.1 = gw
    · intro q
      exact h.ra.1 p.1 q.symm e
    refine Kd.R_ne h.ra (h.mem.blk p hp) ?_
    simp only [List.mem_cons] at hp
    rcases hp with rfl | rfl | rfl | rfl | rfl | hp
    · show (3 : Nat) ≠ 27; decide
    · show (3 : Nat) ≠ 22; decide
    · exact absurd rfl e
    · show (3 : Nat) ≠ 23; decide
    · show (3 : Nat) ≠ 118; decide
    · exact (h.types p hp).2.1.symm)
theorem pushA (h : CO w0 w W g ga gd gw gc s A wide P va vl L l) (hg : W.grownBy W1 va.ownBlock) (hR : (Kd.int .i64).R 3 W1 w.heap.size (fun k => k ≠ gw) v1 (A ++ [x])) : CO w0 w (W1.setCell ⟨ga, 0, none⟩ v1) g ga gd gw gc s (A ++ [x]) wide P v1 vl L l := by
  have hm := h.grownMemA hg
  have hk : KeepBut w W1 g none := by
    refine ⟨Nat.le_trans h.keep.1 hg.size, fun i hi h1 h2 => ?_⟩
    have := h.keep.2 i hi h1 h2
    rw [← this]
    refine hg.block i (Nat.lt_of_lt_of_le hi h.keep.1) (fun e => ?_)
    have := Kd.R_base h.ra i e.symm
    omega
  have hrl := Kd.R_mono (Kd.R_grown (Kd.R_bound h.rl) hg (fun k hk => by
    obtain ⟨_, _, _, q, hq, cells, hc⟩ := hk
    have : q = 35 := e35 hq
    subst this
    exact Kd.R_ne h.ra hc (by decide))) (fun _ hk => hk.1)
  have hsw := (hm.swap.put 0 v1 (cs' := #[v1]) rfl).swap
  refine ⟨hsw, keep_set hk h.big.2.1, h.base, h.glt, h.big, Kd.R_set hR hm.second (fun q hq => ?_) 0 v1, Kd.R_set hrl hm.second (fun q hq => ?_) 0 v1, h.types⟩
  · have : q = 3 := by simpa [Kd.int, Kd.scalar] using hq
    subst this
    decide
  · have : q = 35 := e35 hq
    subst this
    decide
theorem perm {w W : World} {l l' : List (Nat × Array Value × TypeId)} (h : Mem w W l) (hp : l.Perm l') : Mem w W l' :=
  ⟨h.below, fun p hq => h.blk p (hp.mem_iff.2 hq), fun p hq => h.ge p (hp.mem_iff.2 hq), (hp.pairwise_iff (fun hab => Ne.symm hab)).1 h.apart⟩
theorem addl (h : CO w0 w W g ga gd gw gc s A wide P va vl L l) {g5 t : Nat} {cs : Array Value} (hm : Mem W W1 [(g5, cs, t)]) (ht : t ≠ 35 ∧ t ≠ 3) : CO w0 w W1 g ga gd gw gc s A wide P va vl L ((g5, cs, t) :: l) := by
  have hl := h.later hm.below
  have h5 := hm.geh
  refine ⟨?_, hl.keep, h.base, h.glt, h.big, hl.ra, hl.rl, fun p hp => ?_⟩
  · have hall : Mem w0 W1 ((g5, cs, t) :: (gc, #[.int .i64 P, vl], 27) :: (ga, #[va], 22) :: (gw, #[.int .i64 wide], 3) :: (gd, #[.pointer (some ⟨g, 0, none⟩)], 23) :: (g, #[.int .u64 s], 118) :: l) := by
      refine ⟨hl.mem.below, fun p hp => ?_, fun p hp => ?_, .cons (fun p hp => ?_) hl.mem.apart⟩
      · rcases List.mem_cons.1 hp with rfl | hp
        · exact hm.head
        · exact hl.mem.blk p hp
      · rcases List.mem_cons.1 hp with rfl | hp
        · exact Nat.le_trans h.mem.below.size h5
        · exact hl.mem.ge p hp
      · have := blk_lt (h.mem.blk p hp)
        show g5 ≠ p.1
        omega
    refine perm hall ?_
    exact (List.perm_middle (l₁ := ([(gc, #[Value.int .i64 P, vl], 27), (ga, #[va], 22), (gw, #[Value.int .i64 wide], 3), (gd, #[Value.pointer (some ⟨g, 0, none⟩)], 23), (g, #[Value.int .u64 s], 118)] : List (Nat × Array Value × TypeId)))).symm
  · rcases List.mem_cons.1 hp with rfl | hp
    · exact ⟨ht.1, ht.2, Nat.le_trans h.keep.1 h5⟩
    · exact h.types p hp
theorem headl {p : Nat × Array Value × TypeId} (h : CO w0 w W g ga gd gw gc s A wide P va vl L (p :: l)) : Mem w0 W (p :: (gc, #[.int .i64 P, vl], 27) :: (ga, #[va], 22) :: (gw, #[.int .i64 wide], 3) :: (gd, #[.pointer (some ⟨g, 0, none⟩)], 23) :: (g, #[.int .u64 s], 118) :: l) :=
  perm h.mem (List.perm_middle (l₁ := ([(gc, #[Value.int .i64 P, vl], 27), (ga, #[va], 22), (gw, #[Value.int .i64 wide], 3), (gd, #[Value.pointer (some ⟨g, 0, none⟩)], 23), (g, #[Value.int .u64 s], 118)] : List (Nat × Array Value × TypeId))))
theorem dropl {p : Nat × Array Value × TypeId} (h : CO w0 w W g ga gd gw gc s A wide P va vl L (p :: l)) : CO w0 w W g ga gd gw gc s A wide P va vl L l :=
  ⟨h.headl.drop, h.keep, h.base, h.glt, h.big, h.ra, h.rl, fun q hq => h.types q (List.mem_cons_of_mem _ hq)⟩
/-- The block at the list's head is written. -/
theorem setl {g5 t : Nat} {cs cs' : Array Value} (h : CO w0 w W g ga gd gw gc s A wide P va vl L ((g5, cs, t) :: l)) (hm : Mem w0 W1 ((g5, cs', t) :: (gc, #[.int .i64 P, vl], 27) :: (ga, #[va], 22) :: (gw, #[.int .i64 wide], 3) :: (gd, #[.pointer (some ⟨g, 0, none⟩)], 23) :: (g, #[.int .u64 s], 118) :: l)) (hs : W1.heap.size = W.heap.size) (hk : ∀ k, k ≠ g5 → W1.heap[k]? = W.heap[k]?) :
    CO w0 w W1 g ga gd gw gc s A wide P va vl L ((g5, cs', t) :: l) := by
  have ht := h.types (g5, cs, t) (by simp)
  refine ⟨perm hm (List.perm_middle (l₁ := ([(gc, #[Value.int .i64 P, vl], 27), (ga, #[va], 22), (gw, #[Value.int .i64 wide], 3), (gd, #[Value.pointer (some ⟨g, 0, none⟩)], 23), (g, #[Value.int .u64 s], 118)] : List (Nat × Array Value × TypeId)))).symm, ⟨by rw [hs]; exact h.keep.1, fun i hi h1 h2 => (hk i (by have := ht.2.2; show i ≠ g5; omega)).trans (h.keep.2 i hi h1 h2)⟩, h.base, h.glt, h.big, ?_, ?_, fun p hp => ?_⟩
  · refine Kd.R_mono (Kd.R_step (Kd.R_types h.ra h.headl.head (fun q hq => ?_)) (fun k hk2 _ => hk k hk2.2)) (fun _ hk => hk.1)
    have : q = 3 := by simpa [Kd.int, Kd.scalar] using hq
    subst this
    exact ht.2.1.symm
  · refine Kd.R_mono (Kd.R_step (Kd.R_types h.rl h.headl.head (fun q hq => ?_)) (fun k hk2 _ => hk k hk2.2)) (fun _ hk => hk.1)
    have : q = 35 := e35 hq
    subst this
    exact ht.1.symm
  · rcases List.mem_cons.1 hp with rfl | hp
    · exact ht
    · exact h.types p (List.mem_cons_of_mem _ hp)
theorem putl {g5 t i : Nat} {cs cs' : Array Value} {v : Value} (h : CO w0 w W g ga gd gw gc s A wide P va vl L ((g5, cs, t) :: l)) (e : cs.setIfInBounds i v = cs') : CO w0 w (W.setCell ⟨g5, i, none⟩ v) g ga gd gw gc s A wide P va vl L ((g5, cs', t) :: l) :=
  h.setl (h.headl.put i v e) (World.size_setCell _ _ _) (fun k hk => Below.heap_setCell W ⟨g5, i, none⟩ v k hk)
end CO
section
variable {P : Program} {ops : Array Oper} {rest : List Oper} {o : Oper} {a : Act} {Q : Exit → Act → World → Prop} {w W : World} {l : List (Nat × Array Value × TypeId)}
/-- A whole struct is stored; the world behind it is named. -/
theorem ev_storeW {g : Nat} {old cs : Array Value} {t : TypeId} (hm : Mem w W ((g, old, t) :: l)) (hgd : o.guard = none) (ty : TypeId) (x y : Operand) (ho : o.op = .store ty x y)
    (hx : a.eval x = .pointer (some ⟨g, 0, none⟩)) (hy : a.eval y = .agg cs) {n : Nat} (hi : (P.info? ty).map (·.size) = some n) (hold : old.size = n) (hs : cs.size = n) (h1 : cs.all (·.oneCell') = true)
    (h : Mem w (W.setRow g cs) ((g, cs, t) :: l) → wpList P ops Q rest (a.put o.dst undef) (W.setRow g cs)) : wpList P ops Q (o :: rest) a W :=
  wpList_plain hgd fun _ hK => wp_store_row ty x y ho g cs hx hy t old hm.head (by rw [hi, hs]) (by rw [hold, hs]) h1 (hK _ _ (h (hm.row cs)))
end
set_option maxHeartbeats 3200000 in
set_option maxRecDepth 100000 in
theorem add_calls {w0 w W : World} {g ga gd gw gc : Nat} {s : Int} {A : List Int} {wide P : Int} {va vl : Value} {L : List S35} {l : List (Nat × Array Value × TypeId)} (h : CO w0 w W g ga gd gw gc s A wide P va vl L l) (hA : ∀ j, -30 ≤ A.getD j 0 ∧ A.getD j 0 ≤ 30) (hw : 0 ≤ wide ∧ wide ≤ 1000) (a b : Nat) (ha : a < A.length) (hb : b < A.length) (hL : L.length ≤ 1000) :
    Calls Try.prog 86 #[.int .i64 a, .int .i64 b, .pointer (some ⟨ga, 0, none⟩), .pointer (some ⟨gd, 0, none⟩), .pointer (some ⟨gw, 0, none⟩), .pointer (some ⟨gc, 0, none⟩)] W fun e W' => e = .returned (.tuple #[]) ∧ ∃ vl', CO w0 w W' g ga gd gw gc (next3 s) A wide P va vl' (L ++ [addLink A wide s a b]) l := by
  obtain ⟨Aa, na, rfl, hna, hCA⟩ := Kd.R_reads h.ra
  obtain ⟨ad, e0, x1⟩ := cell_int hCA b hb
  obtain ⟨_, e1, x0⟩ := cell_int hCA a ha
  cases e0
  cases e1
  have HH := Aside0.mk h
  have hX := hA b
  have hY := hA a
  have HAL : Aside0 (addLink A wide s a b = ⟨(a : Int), (b : Int), addRange (A.getD b 0 - A.getD a 0) wide s⟩) := ⟨by unfold addLink; rw [Int.toNat_natCast, Int.toNat_natCast]⟩
  generalize A.getD b 0 = X at x1 hX HAL
  generalize A.getD a 0 = Y at x0 hY HAL
  have cA := h.cellA
  have cW := h.cellW
  have cD := h.cellD
  clear h hCA hA
  have hu1 := up_eq s (wide + 1) (by omega) (by omega)
  have hu2 := up_eq (nextWord s) (wide + 1) (by omega) (by omega)
  have ho := one_eq2 (nextWord (nextWord s)) 40 (by omega) (by omega)
  have HAR : Aside0 (addRange (X - Y) wide s = if oneV (nextWord (nextWord s)) 40 = true then ⟨X - Y + 1, X - Y + 2⟩ else ⟨X - Y - upV s (wide + 1), max (X - Y - upV s (wide + 1) + wide - upV (nextWord s) (wide + 1)) (X - Y)⟩) := ⟨rfl⟩
  generalize upV s (wide + 1) = u1 at hu1 HAR
  generalize upV (nextWord s) (wide + 1) = u2 at hu2 HAR
  generalize oneV (nextWord (nextWord s)) 40 = on at ho HAR
  have HU1 := Aside0.mk hu1.1
  have HU2 := Aside0.mk hu2.1
  have HON := Aside0.mk ho
  have hb1 := hu1.2
  have hb2 := hu2.2
  clear hu1 hu2 ho
  have i1 : (0 : Int) ≤ (a : Int) := by omega
  have i2 : (a : Int) < (A.length : Int) := by omega
  have i3 : (0 : Int) ≤ (b : Int) := by omega
  have i4 : (b : Int) < (A.length : Int) := by omega
  have n1 : IntKind.i64.wrap (X - Y) = X - Y := IntWalk.i64_in _ (by omega)
  have n2 : IntKind.i64.wrap (wide + 1) = wide + 1 := IntWalk.i64_in _ (by omega)
  have n3 : IntKind.i64.wrap (X - Y - u1) = X - Y - u1 := IntWalk.i64_in _ (by omega)
  have n4 : IntKind.i64.wrap (X - Y - u1 + wide) = X - Y - u1 + wide := IntWalk.i64_in _ (by omega)
  have n5 : IntKind.i64.wrap (X - Y - u1 + wide - u2) = X - Y - u1 + wide - u2 := IntWalk.i64_in _ (by omega)
  have n6 : IntKind.i64.wrap (X - Y + 1) = X - Y + 1 := IntWalk.i64_in _ (by omega)
  have n7 : IntKind.i64.wrap (X - Y + 2) = X - Y + 2 := IntWalk.i64_in _ (by omega)
  have hu32 := Try.underlying32
  go_enter Try.func86, Try.ntmps86
  go_wp2_with fail
  go_quiet (fail)
  clear x0 x1 cA
  have HH1 := Aside0.mk (HH.out.drewN nq)
  have dW := HH1.out.cellW
  have dD := HH1.out.cellD
  go_wp2_with (first
    | (go_at_call 43; refine (thermionkit_Dice_Upto.calls g s (wide + 1) u1 (nextWord s) w0 _ HH1.out.isS HH1.out.below HU1.out).mono ?_; rintro e w2 ⟨rfl, hI2, hB2, hK2⟩; have HH2 := Aside0.mk (HH1.out.dice hI2 hB2 hK2); have HN2 := Aside0.mk (Mem.start w2); have d2W := HH2.out.cellW; have d2D := HH2.out.cellD; clear hI2 hB2 hK2 HH1 dW dD HU1)
    | ((with_reducible refine gate_dst (N := 10) rfl ?_); refine ev_new HN2.out rfl 32 rfl info32a ?_; intro g5 w3 hm3 hq1; clear hq1; have HN3 := Aside0.mk hm3; clear hm3 HN2 d2W)
    | (refine ev_store HN3.out rfl 32 (.tmp 10) (.tmp 30) rfl rfl (cs := #[.int .i64 (X - Y - u1), .int .i64 (X - Y - u1 + wide)]) rfl size32 rfl rfl (by simp [Value.oneCell']) ?_; intro w4 hm4 hq1; clear hq1; have HN4 := Aside0.mk hm4; clear hm4 HN3))
  have HH4 := Aside0.mk ((HH2.out.addl HN4.out ⟨by decide, by decide⟩).drew)
  clear HH2 HN4 d2D
  refine wp_region_noPanic ?_
  refine H.wp_region_T [10] (S := fun w' => w'.cell? ⟨g5, 1, none⟩ = some (.int .i64 (X - Y - u1 + wide)) ∧ w'.cell? ⟨gd, 0, none⟩ = some (.pointer (some ⟨g, 0, none⟩)) ∧ w'.cell? ⟨gw, 0, none⟩ = some (.int .i64 wide)) (by kernel_rfl) ⟨(HH4.out.headl.cell 1).trans rfl, HH4.out.cellD, HH4.out.cellW⟩ (fun hHeld => ?_)
  refine H.wpAnyT_takeY (i := 0) (v := .pointer (some ⟨g5, 1, none⟩)) rfl (by decide) (by kernel_rfl) (by kernel_rfl) (by kernel_rfl) (fun _ _ _ h => h) (Or.inl ⟨by rfl, ?_⟩) hHeld ?_
  · (intro w_ hSw; go_simp; try rfl)
  try simp only [Act.put, List.setIfInBounds_toArray, List.set_cons_zero, List.set_cons_succ]
  refine H.wpAnyT_take (i := 1) (v := .int .i64 (X - Y - u1 + wide)) rfl (by decide) (by kernel_rfl) (by kernel_rfl) (by kernel_rfl) (by kernel_rfl) (fun _ _ _ h => h) (Or.inl ⟨by rfl, ?_⟩) hHeld ?_
  · (intro w_ hSw; (try dsimp only at hSw); obtain ⟨q1, q2, q3⟩ := hSw; go_simp; try rfl)
  try simp only [Act.put, List.setIfInBounds_toArray, List.set_cons_zero, List.set_cons_succ]
  refine H.wpAnyT_take (i := 2) (v := .pointer (some ⟨g, 0, none⟩)) rfl (by decide) (by kernel_rfl) (by kernel_rfl) (by kernel_rfl) (by kernel_rfl) (fun _ _ _ h => h) (Or.inl ⟨by rfl, ?_⟩) hHeld ?_
  · (intro w_ hSw; (try dsimp only at hSw); obtain ⟨q1, q2, q3⟩ := hSw; go_simp; try rfl)
  try simp only [Act.put, List.setIfInBounds_toArray, List.set_cons_zero, List.set_cons_succ]
  refine H.wpAnyT_take (i := 3) (v := .int .i64 wide) rfl (by decide) (by kernel_rfl) (by kernel_rfl) (by kernel_rfl) (by kernel_rfl) (fun _ _ _ h => h) (Or.inl ⟨by rfl, ?_⟩) hHeld ?_
  · (intro w_ hSw; (try dsimp only at hSw); obtain ⟨q1, q2, q3⟩ := hSw; go_simp; try rfl)
  try simp only [Act.put, List.setIfInBounds_toArray, List.set_cons_zero, List.set_cons_succ]
  refine H.wpAnyT_takeY (i := 4) (v := .int .i64 (wide + 1)) rfl (by decide) (by kernel_rfl) (by kernel_rfl) (by kernel_rfl) (fun _ _ _ h => h) (Or.inl ⟨by rfl, ?_⟩) hHeld ?_
  · (intro w_ hSw; go_simp; try rfl)
  try simp only [Act.put, List.setIfInBounds_toArray, List.set_cons_zero, List.set_cons_succ]
  refine H.wpAnyT_takeY (i := 7) (v := .int .i64 (X - Y)) rfl (by decide) (by kernel_rfl) (by kernel_rfl) (by kernel_rfl) (fun _ _ _ h => h) (Or.inl ⟨by rfl, ?_⟩) hHeld ?_
  · (intro w_ hSw; go_simp; try rfl)
  try simp only [Act.put, List.setIfInBounds_toArray, List.set_cons_zero, List.set_cons_succ]
  refine H.wpAnyT_ready (rs := [5]) (by kernel_rfl) (by simp) ?_
  refine H.AllT.cons (i := 5) rfl (by decide) (fun K hK => ?_) H.AllT.nil
  go_simp
  go_at_call 43
  refine (thermionkit_Dice_Upto.calls g (nextWord s) (wide + 1) u2 (nextWord (nextWord s)) w0 _ HH4.out.isS HH4.out.below HU2.out).mono ?_
  rintro e w5 ⟨rfl, hI5, hB5, hK5⟩
  have HH5 := Aside0.mk (HH4.out.dice hI5 hB5 hK5)
  clear hI5 hB5 hK5
  refine hK.out _ _ ⟨(HH5.out.headl.cell 1).trans rfl, HH5.out.cellD, HH5.out.cellW⟩ (fun hHeld => ?_)
  clear hK K
  try simp only [Act.put, List.setIfInBounds_toArray, List.set_cons_zero, List.set_cons_succ]
  refine H.wpAnyT_takeY (i := 6) (v := .int .i64 (X - Y - u1 + wide - u2)) rfl (by decide) (by kernel_rfl) (by kernel_rfl) (by kernel_rfl) (fun _ _ _ h => h) (Or.inl ⟨by rfl, ?_⟩) hHeld ?_
  · (intro w_ hSw; go_simp; try rfl)
  try simp only [Act.put, List.setIfInBounds_toArray, List.set_cons_zero, List.set_cons_succ]
  refine H.wpAnyT_takeY (i := 8) (v := .int .i64 (if X - Y - u1 + wide - u2 < X - Y then X - Y else X - Y - u1 + wide - u2)) rfl (by decide) (by kernel_rfl) (by kernel_rfl) (by kernel_rfl) (fun _ _ _ h => h) (Or.inl ⟨by rfl, ?_⟩) hHeld ?_
  · (intro w_ hSw; go_simp; try rfl)
  try simp only [Act.put, List.setIfInBounds_toArray, List.set_cons_zero, List.set_cons_succ]
  refine H.wpAnyT_takeY (i := 9) (v := .pointer (some ⟨g5, 1, none⟩)) rfl (by decide) (by kernel_rfl) (by kernel_rfl) (by kernel_rfl) (fun _ _ _ h => h) (Or.inl ⟨by rfl, ?_⟩) hHeld ?_
  · (intro w_ hSw; go_simp; try rfl)
  try simp only [Act.put, List.setIfInBounds_toArray, List.set_cons_zero, List.set_cons_succ]
  have s5 := hHeld.1
  have f5 : w5.frozen? ⟨g5, 1, none⟩ = false := HH5.out.headl.frozen 1
  refine H.wpAnyT_ready (rs := [10]) (by kernel_rfl) (by simp) ?_
  refine H.AllT.last (i := 10) rfl (by decide) (fun K hK => ?_) H.AllT.nil
  go_simp
  refine hK.out _ _ ?_
  clear hK K s5 f5 hHeld
  try simp only [Act.put, List.setIfInBounds_toArray, List.set_cons_zero, List.set_cons_succ]
  refine wpAny_done (by kernel_rfl) ?_ _
  refine NoPanic.normal ?_
  have HMX : Aside0 ((if X - Y - u1 + wide - u2 < X - Y then X - Y else X - Y - u1 + wide - u2) = max (X - Y - u1 + wide - u2) (X - Y)) := ⟨by split <;> omega⟩
  generalize (if X - Y - u1 + wide - u2 < X - Y then X - Y else X - Y - u1 + wide - u2) = M at HMX ⊢
  have HH6 : Aside0 (CO w0 w (w5.setCell ⟨g5, 1, none⟩ (.int .i64 M)) g ga gd gw gc (nextWord (nextWord s)) A wide P (.slice (some ad) A.length na) vl L ((g5, #[.int .i64 (X - Y - u1), .int .i64 M], 32) :: l)) := ⟨HH5.out.putl rfl⟩
  clear HH5 HH4
  generalize (w5.setCell ⟨g5, 1, none⟩ (.int .i64 M)) = w6 at HH6 ⊢
  have d6 := HH6.out.cellD
  cases on with
  | false =>
    have HAL2 : Aside0 (addLink A wide s a b = ⟨(a : Int), (b : Int), ⟨X - Y - u1, M⟩⟩) := ⟨by rw [HAL.out, HAR.out, if_neg (by simp), HMX.out]⟩
    clear HAL HAR HMX
    go_wp2_with (first
      | (go_at_call 35; refine (thermionkit_Dice_One.calls g (nextWord (nextWord s)) 40 false (nextWord (nextWord (nextWord s))) w0 _ HH6.out.isS HH6.out.below HON.out).mono ?_; rintro e w7 ⟨rfl, hI7, hB7, hK7⟩; have HH8 := Aside0.mk (HH6.out.dice hI7 hB7 hK7); have d8 := HH8.out.cellL; clear hI7 hB7 hK7 HH6 d6 HON)
      | ((with_reducible refine gate_dst (N := 52) rfl ?_); refine ev_load HH8.out.headl.head rfl 32 (.tmp 10) rfl rfl _ Try.underlying32 rfl size32 rfl ?_)
      | ((with_reducible refine gate_dst (N := 55) rfl ?_); refine Kd.R_append k35 (w0 := w7) w.heap.size rfl (.tmp 49) (.tmp 54) 25 35 _ _ rfl Try.underlying25 info35 rfl (by decide) (by omega) vl L ⟨(a : Int), (b : Int), ⟨X - Y - u1, M⟩⟩ [.int .i64 (a : Int), .int .i64 (b : Int), .int .i64 (X - Y - u1), .int .i64 M] (fun _ => True) (fun _ => False) rfl rfl (k35_mkM _ _ _ _) (fun _ hk => hk.elim) (fun _ _ => trivial) HH8.out.rl (Below.refl _ _) HH8.out.keep.1 (by omega) ?_; intro v1 w9 hR9 hB9 hg9 hat9; obtain ⟨A1, n1, he1⟩ := Kd.R_slice hR9; subst he1; rw [List.length_append, List.length_singleton] at hR9; have HH9 := Aside0.mk (HH8.out.push hg9 hR9); have s9 : w9.cell? ⟨gc, 1, none⟩ = some vl := (blk_cell (HH8.out.grownMem hg9).head 1).trans rfl; have f9 : w9.frozen? ⟨gc, 1, none⟩ = false := blk_frozen (HH8.out.grownMem hg9).head 1; clear hR9 hB9 hg9 hat9))
    refine bodyPost_end (results_none rfl _ _ _) rfl ⟨rfl, .slice A1 (L.length + 1) n1, ?_⟩
    rw [HAL2.out]
    exact HH9.out.dropl
  | true =>
    have HAL2 : Aside0 (addLink A wide s a b = ⟨(a : Int), (b : Int), ⟨X - Y + 1, X - Y + 2⟩⟩) := ⟨by rw [HAL.out, HAR.out, if_pos rfl]⟩
    clear HAL HAR HMX
    go_wp2_with (first
      | (go_at_call 35; refine (thermionkit_Dice_One.calls g (nextWord (nextWord s)) 40 true (nextWord (nextWord (nextWord s))) w0 _ HH6.out.isS HH6.out.below HON.out).mono ?_; rintro e w7 ⟨rfl, hI7, hB7, hK7⟩; have HH8 := Aside0.mk (HH6.out.dice hI7 hB7 hK7); have HH7 := Aside0.mk HH8.out; clear HH8 hI7 hB7 hK7 HH6 d6 HON)
      | (refine ev_storeW HH7.out.headl rfl 32 (.tmp 10) (.tmp 47) rfl rfl (cs := #[.int .i64 (X - Y + 1), .int .i64 (X - Y + 2)]) rfl size32 rfl rfl (by simp [Value.oneCell']) ?_; intro hm7; have HH8 := Aside0.mk (HH7.out.setl hm7 (size_setRow _ _ _) (fun k hk => setRow_other _ _ _ _ hk)); clear hm7 HH7; generalize (w7.setRow g5 #[.int .i64 (X - Y + 1), .int .i64 (X - Y + 2)]) = w8 at HH8 ⊢; have d8 := HH8.out.cellL)
      | ((with_reducible refine gate_dst (N := 52) rfl ?_); refine ev_load HH8.out.headl.head rfl 32 (.tmp 10) rfl rfl _ Try.underlying32 rfl size32 rfl ?_)
      | ((with_reducible refine gate_dst (N := 55) rfl ?_); refine Kd.R_append k35 (w0 := w8) w.heap.size rfl (.tmp 49) (.tmp 54) 25 35 _ _ rfl Try.underlying25 info35 rfl (by decide) (by omega) vl L ⟨(a : Int), (b : Int), ⟨X - Y + 1, X - Y + 2⟩⟩ [.int .i64 (a : Int), .int .i64 (b : Int), .int .i64 (X - Y + 1), .int .i64 (X - Y + 2)] (fun _ => True) (fun _ => False) rfl rfl (k35_mkM _ _ _ _) (fun _ hk => hk.elim) (fun _ _ => trivial) HH8.out.rl (Below.refl _ _) HH8.out.keep.1 (by omega) ?_; intro v1 w9 hR9 hB9 hg9 hat9; obtain ⟨A1, n1, he1⟩ := Kd.R_slice hR9; subst he1; rw [List.length_append, List.length_singleton] at hR9; have HH9 := Aside0.mk (HH8.out.push hg9 hR9); have s9 : w9.cell? ⟨gc, 1, none⟩ = some vl := (blk_cell (HH8.out.grownMem hg9).head 1).trans rfl; have f9 : w9.frozen? ⟨gc, 1, none⟩ = false := blk_frozen (HH8.out.grownMem hg9).head 1; clear hR9 hB9 hg9 hat9))
    refine bodyPost_end (results_none rfl _ _ _) rfl ⟨rfl, .slice A1 (L.length + 1) n1, ?_⟩
    rw [HAL2.out]
    exact HH9.out.dropl
end Go.Proofs.Ytbcfphoheijmdaa.Print
end
