/- Part 7 of the texts of a claim about Ytbcfphoheijmdaa, put together by a program of this work: what the Go functions do, and that their calls do so. -/
import Derived.Test.YtbcfphoheijmdaaMT3
import Derived.Test.YtbcfphoheijmdaaMT6
import Derived.Test.YtbcfphoheijmdaaMT4
import Derived.Maps.Own
import Derived.Maps.OwnOps
import Derived.Maps.OwnSet
import Derived.Maps.Ext
import Derived.Maps.RangeWalk
import Derived.KernelRfl
import Derived.Test.YtbcfphoheijmdaaMT5
section
/- What the Go function thermionlaw04_chain does, as a Lean function, and that its call does so. Printed by a program of this work out of the translation. -/
namespace Go.Proofs.Ytbcfphoheijmdaa.Print
open Go.RowKit Go.Proofs.YtbcfphoheijmdaaW.PrintWords Go.Proofs.YtbcfphoheijmdaaW.PrintLast Go.Proofs.YtbcfphoheijmdaaW.PrintMore
attribute [local go_sem] max2_int min2_int max_two min_two max_three min_three max_four min_four
set_option linter.unusedVariables false
set_option linter.unusedSimpArgs false

/-! ### thermionlaw04_chain: function 87 -/
def thermionlaw04_chain.f  : Option (Int × (List (S35))) := (thermionlaw04_link.f 0 1 10 12).bind fun bt127 => ((thermionlaw04_link.f 1 2 5 8).bind fun bt131 => ((thermionlaw04_link.f 0 2 17 18).bind fun bt135 => (some (3, (([(⟨bt127.1, bt127.2.1, (⟨bt127.2.2.1, bt127.2.2.2⟩ : S32)⟩ : S35), (⟨bt131.1, bt131.2.1, (⟨bt131.2.2.1, bt131.2.2.2⟩ : S32)⟩ : S35), (⟨bt135.1, bt135.2.1, (⟨bt135.2.2.1, bt135.2.2.2⟩ : S32)⟩ : S35)] : List (S35)))))))
set_option maxHeartbeats 8000000 in
set_option maxRecDepth 100000 in
theorem thermionlaw04_chain.calls  (r1 : Int) (r2 : List (S35)) (w : World) (h : thermionlaw04_chain.f  = some (r1, r2)) :
  Calls Try.prog 87 #[] w fun e w' => ∃ v1_ : Value, e = .returned (.agg #[.int .i64 r1, v1_]) ∧ Kd.R k35 35 w' w.heap.size (fun _ => True) v1_ r2 ∧ Below w.heap.size w w' := by
 have hu27 := Try.underlying27
 have HB := Aside0.mk (Below.refl w.heap.size w)
 have H : ((thermionlaw04_link.f 0 1 10 12).bind fun bt127 => ((thermionlaw04_link.f 1 2 5 8).bind fun bt131 => ((thermionlaw04_link.f 0 2 17 18).bind fun bt135 => (some (3, (([(⟨bt127.1, bt127.2.1, (⟨bt127.2.2.1, bt127.2.2.2⟩ : S32)⟩ : S35), (⟨bt131.1, bt131.2.1, (⟨bt131.2.2.1, bt131.2.2.2⟩ : S32)⟩ : S35), (⟨bt135.1, bt135.2.1, (⟨bt135.2.2.1, bt135.2.2.2⟩ : S32)⟩ : S35)] : List (S35)))))))) = some (r1, r2) := h
 clear h
 replace H := Option.bind_eq_some_iff.mp H
 obtain ⟨⟨t127, t128, t129, t130⟩, A10, H⟩ := H
 replace H : ((thermionlaw04_link.f 1 2 5 8).bind fun bt131 => ((thermionlaw04_link.f 0 2 17 18).bind fun bt135 => (some (3, (([(⟨t127, t128, (⟨t129, t130⟩ : S32)⟩ : S35), (⟨bt131.1, bt131.2.1, (⟨bt131.2.2.1, bt131.2.2.2⟩ : S32)⟩ : S35), (⟨bt135.1, bt135.2.1, (⟨bt135.2.2.1, bt135.2.2.2⟩ : S32)⟩ : S35)] : List (S35))))))) = some (r1, r2) := H
 have A1 := Aside0.mk A10
 clear A10
 replace H := Option.bind_eq_some_iff.mp H
 obtain ⟨⟨t131, t132, t133, t134⟩, A20, H⟩ := H
 replace H : ((thermionlaw04_link.f 0 2 17 18).bind fun bt135 => (some (3, (([(⟨t127, t128, (⟨t129, t130⟩ : S32)⟩ : S35), (⟨t131, t132, (⟨t133, t134⟩ : S32)⟩ : S35), (⟨bt135.1, bt135.2.1, (⟨bt135.2.2.1, bt135.2.2.2⟩ : S32)⟩ : S35)] : List (S35)))))) = some (r1, r2) := H
 have A2 := Aside0.mk A20
 clear A20
 replace H := Option.bind_eq_some_iff.mp H
 obtain ⟨⟨t135, t136, t137, t138⟩, A30, H⟩ := H
 replace H : (some (3, (([(⟨t127, t128, (⟨t129, t130⟩ : S32)⟩ : S35), (⟨t131, t132, (⟨t133, t134⟩ : S32)⟩ : S35), (⟨t135, t136, (⟨t137, t138⟩ : S32)⟩ : S35)] : List (S35))))) = some (r1, r2) := H
 have A3 := Aside0.mk A30
 clear A30
 obtain ⟨y139, hy139⟩ : ∃ y_ : List (S35), y_ = (([(⟨t127, t128, (⟨t129, t130⟩ : S32)⟩ : S35), (⟨t131, t132, (⟨t133, t134⟩ : S32)⟩ : S35), (⟨t135, t136, (⟨t137, t138⟩ : S32)⟩ : S35)] : List (S35))) := ⟨_, rfl⟩
 replace H : (some (3, y139)) = some (r1, r2) := by first | (rw [hy139]; with_reducible exact H) | (have H2_ := (Option.bind_some _ _).symm.trans H; rw [hy139]; with_reducible exact H2_) | (have H2_ := (Option.bind_some _ _).symm.trans H; with_reducible exact H2_) | with_reducible exact H | (rw [hy139]; exact H) | exact H
 have Ny139 := Aside0.mk hy139
 clear hy139
 simp only [Option.some.injEq, Prod.mk.injEq] at H
 obtain ⟨rfl, rfl⟩ := H
 go_enter Try.func87, Try.ntmps87
 go_wp2_with (first | ((with_reducible refine gate_dst (N := 0) rfl ?_); refine box_event ?hg (N := 0) ?hd (cs := #[.int .i64 0, .slice none 0 0]) (t := 27) ?hr ?_; (case hd => rfl); (case hg => rfl); (case hr => first | (go_simp; done) | (go_simp; rfl)); intro gb126 hg w4 hbox hb; have n0_ := Aside0.mk (below_step (by repeat (first | (with_reducible first | exact HB.out | apply below_alloc | apply pw_below_drewN | apply below_drew1) | exact HB.out)) hb); have n1_ := Aside0.mk (hbox); have n2_ := Aside0.mk ((by rw [hg]; exact (below_size (by repeat (first | (with_reducible first | exact HB.out | apply below_alloc | apply pw_below_drewN | apply below_drew1) | exact HB.out))) : w.heap.size ≤ gb126)); have n3_ := Aside0.mk ((by rw [hg]; exact (below_size (by repeat (first | (with_reducible first | exact HB.out | apply below_alloc | apply pw_below_drewN | apply below_drew1) | exact HB.out))) : w.heap.size ≤ gb126)); clear HB; have HB := n0_; have BK126 := n1_; have GW126 := n2_; have GE126 := n3_; clear n0_ n1_ n2_ n3_; clear hb hbox hg) | ((with_reducible refine gate_callee (f := 58) rfl ?_); refine goesL_ (some 1) rfl rfl Try.func58 (by kernel_rfl) rfl #[.int .i64 0, .int .i64 1, .int .i64 10, .int .i64 12] rfl (by (try simp only [List.map_toArray, List.map_cons, List.map_nil]); first | done | rfl | (simp only [List.length_drop, List.length_take]; rfl)) ?_; (with_reducible refine (thermionlaw04_link.calls 0 1 10 12 t127 t128 t129 t130 _ A1.out).mono ?_); rintro e w5 ⟨rfl, hb⟩; refine ⟨_, rfl, ?_⟩; have n0_ := Aside0.mk (blk_below (g := gb126) (o := .cells #[.int .i64 0, .slice none 0 0] 27 (0, 0)) (by (with_reducible repeat (first | refine blk_drewN ?_ _ | refine blk_drew ?_ | refine blk_alloc ?_ _)); exact BK126.out) hb); have n1_ := Aside0.mk (below_step (by repeat (first | (with_reducible first | exact HB.out | apply below_alloc | apply pw_below_drewN | apply below_drew1 | refine below_set ?_ GE126.out) | exact HB.out)) hb); clear BK126; clear HB; have BK126 := n0_; have HB := n1_; clear n0_ n1_; (try clear hb); (try clear hb2); (try clear hk); (try clear hi)) | ((with_reducible refine gate_callee (f := 58) rfl ?_); refine goesL_ (some 2) rfl rfl Try.func58 (by kernel_rfl) rfl #[.int .i64 1, .int .i64 2, .int .i64 5, .int .i64 8] rfl (by (try simp only [List.map_toArray, List.map_cons, List.map_nil]); first | done | rfl | (simp only [List.length_drop, List.length_take]; rfl)) ?_; (with_reducible refine (thermionlaw04_link.calls 1 2 5 8 t131 t132 t133 t134 _ A2.out).mono ?_); rintro e w6 ⟨rfl, hb⟩; refine ⟨_, rfl, ?_⟩; have n0_ := Aside0.mk (blk_below (g := gb126) (o := .cells #[.int .i64 0, .slice none 0 0] 27 (0, 0)) (by (with_reducible repeat (first | refine blk_drewN ?_ _ | refine blk_drew ?_ | refine blk_alloc ?_ _)); exact BK126.out) hb); have n1_ := Aside0.mk (below_step (by repeat (first | (with_reducible first | exact HB.out | apply below_alloc | apply pw_below_drewN | apply below_drew1 | refine below_set ?_ GE126.out) | exact HB.out)) hb); clear BK126; clear HB; have BK126 := n0_; have HB := n1_; clear n0_ n1_; (try clear hb); (try clear hb2); (try clear hk); (try clear hi)) | ((with_reducible refine gate_callee (f := 58) rfl ?_); refine goesL_ (some 3) rfl rfl Try.func58 (by kernel_rfl) rfl #[.int .i64 0, .int .i64 2, .int .i64 17, .int .i64 18] rfl (by (try simp only [List.map_toArray, List.map_cons, List.map_nil]); first | done | rfl | (simp only [List.length_drop, List.length_take]; rfl)) ?_; (with_reducible refine (thermionlaw04_link.calls 0 2 17 18 t135 t136 t137 t138 _ A3.out).mono ?_); rintro e w7 ⟨rfl, hb⟩; refine ⟨_, rfl, ?_⟩; have n0_ := Aside0.mk (blk_below (g := gb126) (o := .cells #[.int .i64 0, .slice none 0 0] 27 (0, 0)) (by (with_reducible repeat (first | refine blk_drewN ?_ _ | refine blk_drew ?_ | refine blk_alloc ?_ _)); exact BK126.out) hb); have n1_ := Aside0.mk (below_step (by repeat (first | (with_reducible first | exact HB.out | apply below_alloc | apply pw_below_drewN | apply below_drew1 | refine below_set ?_ GE126.out) | exact HB.out)) hb); clear BK126; clear HB; have BK126 := n0_; have HB := n1_; clear n0_ n1_; (try clear hb); (try clear hb2); (try clear hk); (try clear hi)) | ((with_reducible refine gate_dst (N := 4) rfl ?_); refine Kd.R_lit k35 _ 35 ?hg (N := 4) ?hd (xs := ([(⟨t127, t128, (⟨t129, t130⟩ : S32)⟩ : S35), (⟨t131, t132, (⟨t133, t134⟩ : S32)⟩ : S35), (⟨t135, t136, (⟨t137, t138⟩ : S32)⟩ : S35)] : List (S35))) (inner := [.int .i64 t127, .int .i64 t128, .int .i64 t129, .int .i64 t130, .int .i64 t131, .int .i64 t132, .int .i64 t133, .int .i64 t134, .int .i64 t135, .int .i64 t136, .int .i64 t137, .int .i64 t138]) (ok := fun _ => True) (okp := fun _ => True) ?hr ?hp (fun _ hk => hk) trivial (Below.refl _ _) (Nat.le_refl _) (by simp) ?_; (case hd => rfl); (case hg => rfl); (case hr => first | (go_simp; done) | (go_simp; rfl)); (case hp => exact (Reps.c4 (show Kd.M k35 _ _ _ (⟨t127, t128, (⟨t129, t130⟩ : S32)⟩ : S35) [.int .i64 t127, .int .i64 t128, .int .i64 t129, .int .i64 t130] from (k35_mkM _ _ _ (⟨t127, t128, (⟨t129, t130⟩ : S32)⟩ : S35) )) (Reps.c4 (show Kd.M k35 _ _ _ (⟨t131, t132, (⟨t133, t134⟩ : S32)⟩ : S35) [.int .i64 t131, .int .i64 t132, .int .i64 t133, .int .i64 t134] from (k35_mkM _ _ _ (⟨t131, t132, (⟨t133, t134⟩ : S32)⟩ : S35) )) (Reps.c4 (show Kd.M k35 _ _ _ (⟨t135, t136, (⟨t137, t138⟩ : S32)⟩ : S35) [.int .i64 t135, .int .i64 t136, .int .i64 t137, .int .i64 t138] from (k35_mkM _ _ _ (⟨t135, t136, (⟨t137, t138⟩ : S32)⟩ : S35) )) (Reps.none _ _))))); intro v140 w8 ho9 hb hg_ hnew_; clear hg_ hnew_; (first | rw [← Ny139.out] at ho9 | (simp only [Int.reduceToNat] at ho9; rw [← Ny139.out] at ho9)); have n0_ := Aside0.mk (Kd.R_lower ho9 (below_size (by repeat (first | (with_reducible first | exact HB.out | apply below_alloc | apply pw_below_drewN | apply below_drew1 | refine below_set ?_ GE126.out) | exact HB.out)))); have n1_ := Aside0.mk (blk_below (g := gb126) (o := .cells #[.int .i64 0, .slice none 0 0] 27 (0, 0)) (by (with_reducible repeat (first | refine blk_drewN ?_ _ | refine blk_drew ?_ | refine blk_alloc ?_ _)); exact BK126.out) hb); have n2_ := Aside0.mk (below_step (by repeat (first | (with_reducible first | exact HB.out | apply below_alloc | apply pw_below_drewN | apply below_drew1 | refine below_set ?_ GE126.out) | exact HB.out)) hb); clear BK126; clear HB; have HO141 := n0_; have BK126 := n1_; have HB := n2_; clear n0_ n1_ n2_; clear hb ho9; obtain ⟨Ao10, co10, eo10⟩ := Kd.R_slice HO141.out; subst eo10; have hcz11_0 : w8.cell? ⟨gb126, 0, none⟩ = some (.int .i64 0) := (blk_cell BK126.out 0).trans rfl; have hcz11_1 : w8.cell? ⟨gb126, 1, none⟩ = some (.slice none 0 0) := (blk_cell BK126.out 1).trans rfl; have hfz11_0 := blk_frozen BK126.out 0; have hfz11_1 := blk_frozen BK126.out 1))
 refine bodyPost_ret (results_cell_row rfl _ _ gb126 27 #[.int .i64 3, .slice Ao10 y139.length co10] (0, 0) _ rfl (by (with_reducible repeat (first | refine blk_drewN ?_ _ | refine blk_drew ?_ | refine blk_alloc ?_ _)); refine blk_put (cs := #[.int .i64 3, .slice none 0 0]) ?_ 1 _ rfl; (with_reducible repeat (first | refine blk_drewN ?_ _ | refine blk_drew ?_ | refine blk_alloc ?_ _)); refine blk_put (cs := #[.int .i64 0, .slice none 0 0]) ?_ 0 _ rfl; (with_reducible repeat (first | refine blk_drewN ?_ _ | refine blk_drew ?_ | refine blk_alloc ?_ _)); exact BK126.out) Try.underlying27 rfl (by kernel_rfl)) rfl ?_
 exact ⟨_, by first | rfl | (simp [errW_none, errW_some] <;> rfl) | (simp [*, errW_none, errW_some] <;> rfl), by (with_reducible repeat (first | apply Kd.R_alloc | apply Kd.R_drewN | apply Kd.R_drew)); exact Kd.R_mono (Kd.R_far (p := ⟨gb126, 1, none⟩) (Kd.R_far (p := ⟨gb126, 0, none⟩) (Kd.R_types HO141.out BK126.out (by decide)) (fun _ hk => hk.2) (.int .i64 3)) (fun _ hk => hk.2) (.slice Ao10 y139.length co10)) (fun _ hk => trivial), by repeat (first | (with_reducible first | exact HB.out | apply below_alloc | apply pw_below_drewN | apply below_drew1 | refine below_set ?_ GE126.out) | exact HB.out)⟩

end Go.Proofs.Ytbcfphoheijmdaa.Print
end

section
/- What the Go function mount_set_with does, as a Lean function, and that its call does so. Printed by a program of this work out of the translation. -/
namespace Go.Proofs.Ytbcfphoheijmdaa.Print
open Go.RowKit Go.Proofs.YtbcfphoheijmdaaW.PrintWords Go.Proofs.YtbcfphoheijmdaaW.PrintLast Go.Proofs.YtbcfphoheijmdaaW.PrintMore
attribute [local go_sem] max2_int min2_int max_two min_two max_three min_three max_four min_four
set_option linter.unusedVariables false
set_option linter.unusedSimpArgs false

/-! ### mount_set_with: function 100 -/
def mount_set_with.f (a0 : Int) (a1 : Int) : Option (Int) := if 0 ≤ a1 then (some (Go.bits .or .u32 a0 (shl .u32 1 a1))) else (none)
set_option maxHeartbeats 8000000 in
set_option maxRecDepth 100000 in
theorem mount_set_with.calls (a0 : Int) (a1 : Int) (r : Int) (w : World) (h : mount_set_with.f a0 a1 = some r) :
  Calls Try.prog 100 #[.int .u32 a0, .int .i64 a1] w fun e w' => e = .returned (.int .u32 r) ∧ Drawn0 w w' := by
 have H : (if 0 ≤ a1 then (some (Go.bits .or .u32 a0 (shl .u32 1 a1))) else (none)) = some r := h
 clear h
 by_cases c3 : 0 ≤ a1
 ·rw [if_pos c3] at H
  have c3b0 := eq_true c3
  have c3b1 : decide (0 ≤ a1) = true := decide_eq_true c3
  clear c3
  obtain ⟨ji4, hji4⟩ : ∃ j_ : Int, (shl .u32 1 a1) = j_ := ⟨_, rfl⟩
  replace H : (some (Go.bits .or .u32 a0 (ji4))) = some r := by first | (rw [hji4] at H; exact H) | (simp only [hji4] at H ⊢; exact H)
  have hji4_ : (IntKind.u32.wrap (1 * 2 ^ min a1.toNat 32)) = ji4 := hji4
  have hji4z : a1 ≤ 32 → (IntKind.u32.wrap (1 * 2 ^ a1.toNat)) = ji4 := shl_small hji4
  have hji4u : (IntKind.u32.wrap (2 ^ min a1.toNat 32)) = ji4 := by have h_ := hji4_; rw [Int.one_mul] at h_; exact h_
  have hji4v : a1 ≤ 32 → (IntKind.u32.wrap (2 ^ a1.toNat)) = ji4 := fun hle_ => by have h_ := hji4z hle_; rw [Int.one_mul] at h_; exact h_
  obtain rfl := Option.some.inj H
  go_enter Try.func100, Try.ntmps100
  go_wp2
  go_ret
  exact ⟨by first | rfl | (simp; done) | (simp only [← hji4] <;> (first | rfl | simp)) | (simp [*]; done), by repeat (first | exact Drawn0.refl _ | apply Drawn0.step)⟩
 ·rw [if_neg c3] at H
  exact absurd H (by simp)

end Go.Proofs.Ytbcfphoheijmdaa.Print
end

section
/- What the Go function mount_setOf does, as a Lean function, and that its call does so. Printed by a program of this work out of the translation. -/
namespace Go.Proofs.Ytbcfphoheijmdaa.Print
open Go.RowKit Go.Proofs.YtbcfphoheijmdaaW.PrintWords Go.Proofs.YtbcfphoheijmdaaW.PrintLast Go.Proofs.YtbcfphoheijmdaaW.PrintMore
attribute [local go_sem] max2_int min2_int max_two min_two max_three min_three max_four min_four
set_option linter.unusedVariables false
set_option linter.unusedSimpArgs false

/-! ### mount_setOf: function 134 -/
def mount_setOf.l0 : Nat → Int → List Int → Int → Int → Option (Int)
 | 0, _, _, _, _ => none
 | k + 1, x3, x6, x7, x8 => if x8 < x7 then (if 0 ≤ x8 then (if x8 < (x6.length : Int) then ((mount_set_with.f x3 (rd x6 x8)).bind fun t111 => (mount_setOf.l0 k t111 x6 x7 (wrap64 (x8 + 1)))) else (none)) else (none)) else (some x3)
def mount_setOf.f (k : Nat) (l0 : List Int) : Option (Int) := mount_setOf.l0 k 0 l0 (l0.length : Int) 0
theorem mount_setOf.mono_l : ∀ k, (∀ y0 y1 y2 y3, LeO (mount_setOf.l0 k y0 y1 y2 y3) (mount_setOf.l0 (k + 1) y0 y1 y2 y3))
 | 0 => fun _ _ _ _ r h => by simp [mount_setOf.l0] at h
 | k + 1 => by
  have ih0 := mount_setOf.mono_l k
  ·intro y0 y1 y2 y3
   unfold mount_setOf.l0
   repeat' first
   | (with_reducible exact ih0 _ _ _ _)
   | (with_reducible exact LeO.refl _)
   | (with_reducible exact LeO.none _)
   | (with_reducible refine LeO.ite ?_ ?_)
   | (with_reducible refine LeO.bind ?_ (fun _ => ?_))
   | exact ih0 _ _ _ _
   | exact LeO.none _
   | refine LeO.ite ?_ ?_
   | refine LeO.bind ?_ (fun _ => ?_)
theorem mount_setOf.mono : ∀ a0 k, LeO (mount_setOf.f k a0) (mount_setOf.f (k + 1) a0) := by
 intro a0 k
 have ih0 := mount_setOf.mono_l k
 unfold mount_setOf.f
 repeat' first
   | (with_reducible exact ih0 _ _ _ _)
   | (with_reducible exact LeO.refl _)
   | (with_reducible exact LeO.none _)
   | (with_reducible refine LeO.ite ?_ ?_)
   | (with_reducible refine LeO.bind ?_ (fun _ => ?_))
   | exact ih0 _ _ _ _
   | exact LeO.none _
   | refine LeO.ite ?_ ?_
   | refine LeO.bind ?_ (fun _ => ?_)
set_option maxHeartbeats 8000000 in
set_option maxRecDepth 100000 in
theorem mount_setOf.calls (k : Nat) (A0 : Option Addr) (c0 : Nat) (l0 : List Int) (r : Int) (w : World) (hr0 : Kd.C (Kd.int .i64) w A0 l0.length l0) (hc0 : l0.length ≤ c0) (h : mount_setOf.f k l0 = some r) :
  Calls Try.prog 134 #[.slice A0 l0.length c0] w fun e w' => e = .returned (.int .u32 r) ∧ Drawn0 w w' := by
 have HR0 := Aside0.mk hr0
 have HC0 := Aside0.mk hc0
 clear hr0 hc0
 have H : (mount_setOf.l0 k 0 l0 (l0.length : Int) 0) = some r := h
 clear h
 have H' := Aside0.mk H
 clear H
 go_enter Try.func134, Try.ntmps134
 go_wp2
 go_loopg [3, 8] k (fun kq v3 v8 w' => ∃ (x3_1 : Int) (x8_1 : Int), v3 = .int .u32 x3_1 ∧ v8 = .int .i64 x8_1 ∧ Aside0 (mount_setOf.l0 kq x3_1 l0 (l0.length : Int) x8_1 = some r) ∧ Aside0 (kq ≤ k) ∧ Drawn0 w w')
 case atStart => exact ⟨(0), (0), (by first | rfl | (simp; done) | (simp [*]; done)), (by first | rfl | (simp; done) | (simp [*]; done)), H', ⟨Nat.le_refl _⟩, by repeat (first | exact Drawn0.refl _ | apply Drawn0.step)⟩
 case round =>
  clear H'
  try clear c1
  obtain ⟨x3_1, x8_1, rfl, rfl, HA, HK1, ⟨m1, rfl⟩⟩ := hrel
  cases gk with
  | zero => exact absurd HA.out (by simp [mount_setOf.l0])
  | succ k1 =>
   have H := HA.out
   clear HA
   simp only [mount_setOf.l0] at H
   by_cases c2 : x8_1 < (l0.length : Int)
   ·rw [if_pos c2] at H
    have c2b0 : decide (x8_1 < (l0.length : Int)) = true := decide_eq_true c2
    clear c2
    by_cases c3 : 0 ≤ x8_1
    ·rw [if_pos c3] at H
     have c3b0 : decide (0 ≤ x8_1) = true := decide_eq_true c3
     clear c3
     by_cases c4 : x8_1 < (l0.length : Int)
     ·rw [if_pos c4] at H
      have c4b0 : decide (x8_1 < (l0.length : Int)) = true := decide_eq_true c4
      clear c4
      replace H := Option.bind_eq_some_iff.mp H
      obtain ⟨t111, A50, H⟩ := H
      replace H : (mount_setOf.l0 k1 t111 l0 (l0.length : Int) (wrap64 (x8_1 + 1))) = some r := H
      have A5 := Aside0.mk A50
      clear A50
      have H' := Aside0.mk H
      clear H
      have p110 : 0 ≤ (x8_1 : Int) := of_decide_eq_true (by first | (with_reducible assumption) | assumption)
      have q110 : x8_1 < (l0.length : Int) := of_decide_eq_true (by first | (with_reducible assumption) | assumption)
      obtain ⟨ad110, e110, hx110_0⟩ := Kd.at_int HR0.out x8_1 p110 q110
      cases e110
      replace p110 := eq_true p110
      replace q110 := eq_true q110
      go_wp2_with (first | ((with_reducible refine gate_callee (f := 100) rfl ?_); refine goesL_ (some 14) rfl rfl Try.func100 (by kernel_rfl) rfl #[.int .u32 x3_1, .int .i64 (rd l0 x8_1)] rfl (by (try simp only [List.map_toArray, List.map_cons, List.map_nil]); first | done | rfl | (simp only [List.length_drop, List.length_take]; rfl)) ?_; (with_reducible refine (mount_set_with.calls x3_1 (rd l0 x8_1) t111 _ A5.out).mono ?_); rintro e w' ⟨rfl, ⟨nd, rfl⟩⟩; refine ⟨_, rfl, ?_⟩))
      go_roundg k1
      case measure => have := HK1.out; omega
      case rel => exact ⟨(t111), (wrap64 (x8_1 + 1)), (by first | rfl | (simp; done) | (simp [*]; done)), (by first | rfl | (simp; done) | (simp [*]; done)), H', ⟨by have := HK1.out; omega⟩, by repeat (first | exact Drawn0.refl _ | apply Drawn0.step)⟩
     ·rw [if_neg c4] at H
      exact absurd H (by simp)
    ·rw [if_neg c3] at H
     exact absurd H (by simp)
   ·rw [if_neg c2] at H
    have c2b0 : decide (x8_1 < (l0.length : Int)) = false := decide_eq_false c2
    clear c2
    obtain rfl := Option.some.inj H
    go_wp2
    go_ret
    exact ⟨by first | rfl | (simp; done) | (simp [*]; done), by repeat (first | exact Drawn0.refl _ | apply Drawn0.step)⟩

end Go.Proofs.Ytbcfphoheijmdaa.Print
end

section
/- What the Go function mount_set_has does, as a Lean function, and that its call does so. Printed by a program of this work out of the translation. -/
namespace Go.Proofs.Ytbcfphoheijmdaa.Print
open Go.RowKit Go.Proofs.YtbcfphoheijmdaaW.PrintWords Go.Proofs.YtbcfphoheijmdaaW.PrintLast Go.Proofs.YtbcfphoheijmdaaW.PrintMore
attribute [local go_sem] max2_int min2_int max_two min_two max_three min_three max_four min_four
set_option linter.unusedVariables false
set_option linter.unusedSimpArgs false

/-! ### mount_set_has: function 135 -/
def mount_set_has.f (a0 : Int) (a1 : Int) : Option (Bool) := if 0 ≤ a1 then (some ((Go.bits .and .u32 (shr .u32 a0 a1) 1) == 1)) else (none)
set_option maxHeartbeats 8000000 in
set_option maxRecDepth 100000 in
theorem mount_set_has.calls (a0 : Int) (a1 : Int) (r : Bool) (w : World) (h : mount_set_has.f a0 a1 = some r) :
  Calls Try.prog 135 #[.int .u32 a0, .int .i64 a1] w fun e w' => e = .returned (.bool r) ∧ Drawn0 w w' := by
 have H : (if 0 ≤ a1 then (some ((Go.bits .and .u32 (shr .u32 a0 a1) 1) == 1)) else (none)) = some r := h
 clear h
 by_cases c3 : 0 ≤ a1
 ·rw [if_pos c3] at H
  have c3b0 := eq_true c3
  have c3b1 : decide (0 ≤ a1) = true := decide_eq_true c3
  clear c3
  obtain ⟨ji4, hji4⟩ : ∃ j_ : Int, (shr .u32 a0 a1) = j_ := ⟨_, rfl⟩
  replace H : (some ((Go.bits .and .u32 (ji4) 1) == 1)) = some r := by first | (rw [hji4] at H; exact H) | (simp only [hji4] at H ⊢; exact H)
  have hji4_ : (a0 / 2 ^ min a1.toNat 32) = ji4 := hji4
  have hji4z : a1 ≤ 32 → (a0 / 2 ^ a1.toNat) = ji4 := shr_small hji4
  obtain rfl := Option.some.inj H
  go_enter Try.func135, Try.ntmps135
  go_wp2
  go_ret
  exact ⟨by first | rfl | (simp; done) | (simp only [← hji4] <;> (first | rfl | simp)) | (simp [*]; done), by repeat (first | exact Drawn0.refl _ | apply Drawn0.step)⟩
 ·rw [if_neg c3] at H
  exact absurd H (by simp)

end Go.Proofs.Ytbcfphoheijmdaa.Print
end

section
/- What the Go function thermionref04_in does, as a Lean function, and that its call does so. Printed by a program of this work out of the translation. -/
namespace Go.Proofs.Ytbcfphoheijmdaa.Print
open Go.RowKit Go.Proofs.YtbcfphoheijmdaaW.PrintWords Go.Proofs.YtbcfphoheijmdaaW.PrintLast Go.Proofs.YtbcfphoheijmdaaW.PrintMore
attribute [local go_sem] max2_int min2_int max_two min_two max_three min_three max_four min_four
set_option linter.unusedVariables false
set_option linter.unusedSimpArgs false

/-! ### thermionref04_in: function 136 -/
def thermionref04_in.f (a0 : Int) (a1 : Int) : Option (Bool) := if 0 ≤ a1 then (some ((Go.bits .and .i64 (shr .i64 a0 a1) 1) == 1)) else (none)
set_option maxHeartbeats 8000000 in
set_option maxRecDepth 100000 in
theorem thermionref04_in.calls (a0 : Int) (a1 : Int) (r : Bool) (w : World) (h : thermionref04_in.f a0 a1 = some r) :
  Calls Try.prog 136 #[.int .i64 a0, .int .i64 a1] w fun e w' => e = .returned (.bool r) ∧ Drawn0 w w' := by
 have H : (if 0 ≤ a1 then (some ((Go.bits .and .i64 (shr .i64 a0 a1) 1) == 1)) else (none)) = some r := h
 clear h
 by_cases c3 : 0 ≤ a1
 ·rw [if_pos c3] at H
  have c3b0 := eq_true c3
  have c3b1 : decide (0 ≤ a1) = true := decide_eq_true c3
  clear c3
  obtain ⟨ji4, hji4⟩ : ∃ j_ : Int, (shr .i64 a0 a1) = j_ := ⟨_, rfl⟩
  replace H : (some ((Go.bits .and .i64 (ji4) 1) == 1)) = some r := by first | (rw [hji4] at H; exact H) | (simp only [hji4] at H ⊢; exact H)
  have hji4_ : (a0 / 2 ^ min a1.toNat 64) = ji4 := hji4
  have hji4z : a1 ≤ 64 → (a0 / 2 ^ a1.toNat) = ji4 := shr_small hji4
  obtain rfl := Option.some.inj H
  go_enter Try.func136, Try.ntmps136
  go_wp2
  go_ret
  exact ⟨by first | rfl | (simp; done) | (simp only [← hji4] <;> (first | rfl | simp)) | (simp [*]; done), by repeat (first | exact Drawn0.refl _ | apply Drawn0.step)⟩
 ·rw [if_neg c3] at H
  exact absurd H (by simp)

end Go.Proofs.Ytbcfphoheijmdaa.Print
end

section
/- Sets of parts as bits of a natural number: what the program's operations on them come to. -/
namespace Go.Proofs.Ytbcfphoheijmdaa.Print
open Go.RowKit Go.Proofs.YtbcfphoheijmdaaW.PrintWords Go.Proofs.YtbcfphoheijmdaaW.PrintLast Go.Proofs.YtbcfphoheijmdaaW.PrintMore Go.Proofs.Ytbcfphoheijmdaa.H
set_option linter.unusedVariables false
set_option linter.unusedSimpArgs false

theorem wrap_u32 {a : Nat} (h : a < 2 ^ 32) : IntKind.u32.wrap (a : Int) = (a : Int) := by
  simp [IntKind.wrap, IntKind.signed, IntKind.bits]
  omega
theorem ofInt_u32 (a : Nat) : (BitVec.ofInt IntKind.u32.bits (a : Int)).toNat = a % 2 ^ 32 := by
  rw [BitVec.toNat_ofInt]
  show ((a : Int) % ((2 ^ 32 : Nat) : Int)).toNat = _
  omega
theorem and_u32 {a b : Nat} (ha : a < 2 ^ 32) (hb : b < 2 ^ 32) : Go.bits .and .u32 (a : Int) (b : Int) = ((a &&& b : Nat) : Int) := by
  unfold Go.bits
  simp only
  rw [BitVec.toNat_and, ofInt_u32, ofInt_u32, Nat.mod_eq_of_lt ha, Nat.mod_eq_of_lt hb]
  exact wrap_u32 (Nat.lt_of_le_of_lt Nat.and_le_left ha)
theorem or_u32 {a b : Nat} (ha : a < 2 ^ 32) (hb : b < 2 ^ 32) : Go.bits .or .u32 (a : Int) (b : Int) = ((a ||| b : Nat) : Int) := by
  unfold Go.bits
  simp only
  rw [BitVec.toNat_or, ofInt_u32, ofInt_u32, Nat.mod_eq_of_lt ha, Nat.mod_eq_of_lt hb]
  exact wrap_u32 (Nat.or_lt_two_pow ha hb)
theorem shl_u32 {p : Nat} (hp : p < 32) : shl .u32 1 (p : Int) = ((2 ^ p : Nat) : Int) := by
  have h2 : (2 : Nat) ^ p < 2 ^ 32 := Nat.pow_lt_pow_right (by omega) hp
  have e : min ((p : Int).toNat) 32 = p := by omega
  show IntKind.u32.wrap (1 * 2 ^ min ((p : Int).toNat) 32) = _
  rw [e, Int.one_mul]
  have := wrap_u32 h2
  rw [Int.natCast_pow] at this ⊢
  exact this
theorem with_u32 {s p : Nat} (hs : s < 2 ^ 32) (hp : p < 32) : mount_set_with.f (s : Int) (p : Int) = some ((s ||| 2 ^ p : Nat) : Int) := by
  have h2 : (2 : Nat) ^ p < 2 ^ 32 := Nat.pow_lt_pow_right (by omega) hp
  unfold mount_set_with.f
  rw [if_pos (by omega), shl_u32 hp, or_u32 hs h2]
theorem shr_u32 {s p : Nat} (hp : p < 32) : shr .u32 (s : Int) (p : Int) = ((s / 2 ^ p : Nat) : Int) := by
  show (s : Int) / 2 ^ min ((p : Int).toNat) 32 = _
  have e : min ((p : Int).toNat) 32 = p := by omega
  rw [e, Int.natCast_ediv, Int.natCast_pow]
  rfl
theorem has_u32 {s p : Nat} (hs : s < 2 ^ 32) (hp : p < 32) : mount_set_has.f (s : Int) (p : Int) = some (s.testBit p) := by
  unfold mount_set_has.f
  rw [if_pos (by omega), shr_u32 hp]
  have h1 : s / 2 ^ p < 2 ^ 32 := Nat.lt_of_le_of_lt (Nat.div_le_self _ _) hs
  have := and_u32 h1 (b := 1) (by omega)
  rw [show ((1 : Nat) : Int) = 1 from rfl] at this
  rw [this, Nat.testBit_eq_decide_div_mod_eq]
  rw [Nat.and_one_is_mod]
  congr 1
  by_cases q : s / 2 ^ p % 2 = 1
  · rw [q]; simp
  · rw [decide_eq_false q]
    have : s / 2 ^ p % 2 = 0 := by omega
    rw [this]; rfl
/-- The set of some parts. -/
def setN (l : List Int) : Nat := l.foldl (fun s p => s ||| 2 ^ p.toNat) 0
theorem setN_lt {n : Nat} (l : List Int) (h : ∀ p, p ∈ l → 0 ≤ p ∧ p < n) : setN l < 2 ^ n := by
  have : ∀ (l : List Int) (s : Nat), s < 2 ^ n → (∀ p, p ∈ l → 0 ≤ p ∧ p < n) → l.foldl (fun s p => s ||| 2 ^ p.toNat) s < 2 ^ n := by
    intro l
    induction l with
    | nil => intro s hs _; exact hs
    | cons a l ih =>
      intro s hs h
      refine ih _ (Nat.or_lt_two_pow hs (Nat.pow_lt_pow_right (by omega) (by have := h a (by simp); omega))) (fun p hp => h p (by simp [hp]))
  exact this l 0 (Nat.two_pow_pos n) h
theorem testBit_with (s p q : Nat) : (s ||| 2 ^ p).testBit q = (s.testBit q || decide (p = q)) := by
  rw [Nat.testBit_or, Nat.testBit_two_pow]
theorem setOf_at (l : List Int) (h : ∀ p, p ∈ l → 0 ≤ p ∧ p < 32) (hl : l.length ≤ 2 ^ 62) : ∀ (k i s : Nat), i + k = l.length + 1 → 0 < k → s < 2 ^ 32 → mount_setOf.l0 k (s : Int) l (l.length : Int) (i : Int) = some (((l.drop i).foldl (fun s p => s ||| 2 ^ p.toNat) s : Nat) : Int) := by
  intro k
  induction k with
  | zero => intro i s _ h0 _; omega
  | succ k ih =>
    intro i s hk _ hs
    unfold mount_setOf.l0
    by_cases hi : i < l.length
    · have e0 : rd l (i : Int) = l[i] := by simp [rd, hi]
      have hp := h l[i] (List.getElem_mem _)
      obtain ⟨p, hpe⟩ : ∃ p : Nat, l[i] = (p : Int) := ⟨l[i].toNat, by omega⟩
      rw [if_pos (by omega), if_pos (by omega), if_pos (by omega), e0, hpe, with_u32 hs (by omega)]
      have hw : wrap64 ((i : Int) + 1) = ((i + 1 : Nat) : Int) := by unfold wrap64; omega
      simp only [Option.bind_some]
      rw [hw, ih (i + 1) _ (by omega) (by omega) (Nat.or_lt_two_pow hs (Nat.pow_lt_pow_right (by omega) (by omega))), List.drop_eq_getElem_cons hi, List.foldl_cons, hpe]
      rfl
    · rw [if_neg (by omega), List.drop_eq_nil_of_le (by omega)]
      rfl
theorem setOf_eq (l : List Int) (h : ∀ p, p ∈ l → 0 ≤ p ∧ p < 32) (hl : l.length ≤ 2 ^ 62) : mount_setOf.f (l.length + 1) l = some ((setN l : Nat) : Int) :=
  setOf_at l h hl (l.length + 1) 0 0 (by omega) (by omega) (by omega)
end Go.Proofs.Ytbcfphoheijmdaa.Print
end

section
/- The work of a kit in memory, and the parts that may go in: what they are, and that the Go function's call gives them. -/
namespace Go.Proofs.Ytbcfphoheijmdaa.Print
open Go.RowKit Go.Proofs.YtbcfphoheijmdaaW.PrintWords Go.Proofs.YtbcfphoheijmdaaW.PrintLast Go.Proofs.YtbcfphoheijmdaaW.PrintMore Go.Proofs.Ytbcfphoheijmdaa.H
attribute [local go_sem] max2_int min2_int max_two min_two max_three min_three max_four min_four
attribute [local go_sem ↓] Go.wp_at_zero Go.wp_at_succ
set_option linter.unusedVariables false
set_option linter.unusedSimpArgs false

def needsN (L : List S57) (p : Nat) : Nat := setN (L.getD p z57).f0
def barsN (L : List S57) (p : Nat) : Nat := setN (L.getD p z57).f1
/-- May part p go into state s? -/
def canGo (L : List S57) (s p : Nat) : Bool := !(s.testBit p) && (s &&& needsN L p == needsN L p) && (s &&& barsN L p == 0)
def partsTo (L : List S57) (s : Nat) (is : Nat → Bool) (i : Nat) : List Nat := (List.range i).filter (fun p => canGo L s p && is p)
def partsOf (L : List S57) (s : Nat) (is : Nat → Bool) : List Nat := partsTo L s is L.length
def ints (l : List Nat) : List Int := l.map (fun (p : Nat) => (p : Int))
theorem partsTo_next (L : List S57) (s : Nat) (is : Nat → Bool) (i : Nat) : partsTo L s is (i + 1) = partsTo L s is i ++ (if canGo L s i && is i then [i] else []) := by
  unfold partsTo
  rw [List.range_succ, List.filter_append]
  congr 1
  rw [List.filter_cons, List.filter_nil]
theorem partsTo_length (L : List S57) (s : Nat) (is : Nat → Bool) (i : Nat) : (partsTo L s is i).length ≤ i := by
  unfold partsTo
  exact Nat.le_trans (List.length_filter_le _ _) (by simp)
/-- The sets of the first i parts. -/
def setsTo (L : List S57) (f : S57 → List Int) (i : Nat) : List Int := (List.range i).map (fun p => ((setN (f (L.getD p z57)) : Nat) : Int))
/-- A kit that is valid enough for its work. -/
structure Fine (L : List S57) : Prop where
  short : L.length ≤ 14
  needs : ∀ p, p < L.length → ∀ x, x ∈ (L.getD p z57).f0 → 0 ≤ x ∧ x < L.length
  bars : ∀ p, p < L.length → ∀ x, x ∈ (L.getD p z57).f1 → 0 ≤ x ∧ x < L.length
theorem Fine.needs_lt {L : List S57} (h : Fine L) {p : Nat} (hp : p < L.length) : needsN L p < 2 ^ L.length := setN_lt _ (fun x hx => h.needs p hp x hx)
theorem Fine.bars_lt {L : List S57} (h : Fine L) {p : Nat} (hp : p < L.length) : barsN L p < 2 ^ L.length := setN_lt _ (fun x hx => h.bars p hp x hx)
theorem Fine.small {L : List S57} (h : Fine L) : 2 ^ L.length ≤ 2 ^ 14 := Nat.pow_le_pow_right (by omega) h.short
/-- The work of a kit, at block wb; its map is at block mb. -/
structure Work (w0 W : World) (wb mb : Nat) (L : List S57) (c : Int) (A0 : Option Addr) (c0 : Nat) (vn vb : Value) : Prop where
  blk : W.heap[wb]? = some (.cells #[.slice A0 L.length c0, .int .i64 c, vn, vb, .int .u32 ((2 ^ L.length - 1 : Nat) : Int), .map (some mb)] 158 (0, 0))
  needs : (Kd.int .u32).R 133 W w0.heap.size (fun k => k ≠ wb ∧ k ≠ mb) vn (setsTo L S57.f0 L.length)
  bars : (Kd.int .u32).R 133 W w0.heap.size (fun k => k ≠ wb ∧ k ≠ mb) vb (setsTo L S57.f1 L.length)
  ne : wb ≠ mb
  gew : w0.heap.size ≤ wb
  gem : w0.heap.size ≤ mb
  below : Below w0.heap.size w0 W
namespace Work
variable {w0 W W1 : World} {wb mb : Nat} {L : List S57} {c : Int} {A0 : Option Addr} {c0 : Nat} {vn vb : Value}
theorem grown (h : Work w0 W wb mb L c A0 c0 vn vb) (hg : W.grownBy W1 (some mb)) : Work w0 W1 wb mb L c A0 c0 vn vb :=
  ⟨blk_grown h.blk hg (by intro e; exact h.ne (Option.some.inj e)), Kd.R_grown h.needs hg (fun k hk e => hk.2 (Option.some.inj e)), Kd.R_grown h.bars hg (fun k hk e => hk.2 (Option.some.inj e)), h.ne, h.gew, h.gem, h.below.grown hg h.below.size (fun k hk => by rw [← Option.some.inj hk]; exact h.gem)⟩
theorem later (h : Work w0 W wb mb L c A0 c0 vn vb) (hb : Below W.heap.size W W1) : Work w0 W1 wb mb L c A0 c0 vn vb :=
  ⟨blk_below h.blk hb, Kd.R_below h.needs hb, Kd.R_below h.bars hb, h.ne, h.gew, h.gem, below_step h.below hb⟩
theorem lt (h : Work w0 W wb mb L c A0 c0 vn vb) : wb < W.heap.size := blk_lt h.blk
/-- The cells that the work of a part reads. -/
theorem at_ (h : Work w0 W wb mb L c A0 c0 vn vb) {p : Nat} (hp : p < L.length) : ∃ an cn ab cb, vn = .slice (some an) L.length cn ∧ vb = .slice (some ab) L.length cb ∧ W.cell? (an.add p) = some (.int .u32 ((needsN L p : Nat) : Int)) ∧ W.cell? (ab.add p) = some (.int .u32 ((barsN L p : Nat) : Int)) := by
  have key : ∀ (v : Value) (f : S57 → List Int), (Kd.int .u32).R 133 W w0.heap.size (fun k => k ≠ wb ∧ k ≠ mb) v (setsTo L f L.length) → ∃ a cc, v = .slice (some a) L.length cc ∧ W.cell? (a.add p) = some (.int .u32 ((setN (f (L.getD p z57)) : Nat) : Int)) := by
    intro v f hR
    obtain ⟨A, cc, he, hl, hC⟩ := Kd.R_reads hR
    have e1 : (setsTo L f L.length).length = L.length := by simp [setsTo]
    have := Kd.at_int hC (p : Int) (by omega) (by rw [e1]; omega)
    obtain ⟨ad, ea, hc⟩ := this
    refine ⟨ad, cc, by rw [he, ea, e1], ?_⟩
    rw [Int.toNat_natCast] at hc
    rw [hc]
    simp [rd, setsTo, hp]
  obtain ⟨an, cn, e1, h1⟩ := key vn S57.f0 h.needs
  obtain ⟨ab, cb, e2, h2⟩ := key vb S57.f1 h.bars
  exact ⟨an, cn, ab, cb, e1, e2, h1, h2⟩
theorem cell_n (h : Work w0 W wb mb L c A0 c0 vn vb) {p : Nat} (hp : p < L.length) {N cn : Nat} {an : Addr} (hN : needsN L p = N) (e : vn = .slice (some an) L.length cn) : W.cell? (an.add p) = some (.int .u32 (N : Int)) := by
  obtain ⟨an', cn', ab, cb, e1, _, h1, _⟩ := h.at_ hp
  rw [e] at e1
  injection e1 with q1 _ _
  injection q1 with q1
  rw [q1, h1, hN]
theorem cell_b (h : Work w0 W wb mb L c A0 c0 vn vb) {p : Nat} (hp : p < L.length) {B cb : Nat} {ab : Addr} (hB : barsN L p = B) (e : vb = .slice (some ab) L.length cb) : W.cell? (ab.add p) = some (.int .u32 (B : Int)) := by
  obtain ⟨an', cn', ab', cb', _, e1, _, h1⟩ := h.at_ hp
  rw [e] at e1
  injection e1 with q1 _ _
  injection q1 with q1
  rw [q1, h1, hB]
end Work
theorem grown_below {W W1 : World} (h : Below W.heap.size W W1) : W.grownBy W1 none := ⟨h.os, h.tape, h.output, h.size, fun k hk _ => h.block k hk⟩
theorem drawn_some {W W1 : World} (h : Drawn0 W W1) : ∃ m, W1 = W.drewN m := by
  obtain ⟨m, rfl⟩ := h
  exact ⟨m, rfl⟩
theorem has_quiet {s p : Int} {r : Bool} (h : mount_set_has.f s p = some r) {W : World} {n : Nat} : Calls Try.prog 135 #[.int .u32 s, .int .i64 p] (W.drewN n) fun e w'' => e = .returned (.bool r) ∧ ∃ m, w'' = W.drewN m :=
  Calls.quiet_of ((mount_set_has.calls s p r _ h).mono fun e w7 hh => ⟨hh.1, drawn_some hh.2⟩)
set_option maxHeartbeats 3200000 in
set_option maxRecDepth 100000 in
theorem parts_calls {w0 w : World} {wb mb : Nat} {L : List S57} {c : Int} {A0 : Option Addr} {c0 : Nat} {vn vb : Value} (hF : Fine L) (s : Nat) (hs : s < 2 ^ L.length) (id : Nat) (cap : Array Value) (is : Nat → Bool) (I : World → Prop)
    (hent : ∀ args W, Sem.run Try.prog (callFunc id args) W = .ok (.enter id args) W)
    (hW : Work w0 w wb mb L c A0 c0 vn vb) (hmw : mb < w.heap.size) (hI : I w) (hgrow : ∀ W W1 row, I W → W.grownBy W1 row → (∀ j, row = some j → w.heap.size ≤ j) → I W1)
    (hcall : ∀ p W, p < L.length → canGo L s p = true → I W → Work w0 W wb mb L c A0 c0 vn vb → Calls Try.prog id (#[.int .i64 (p : Int)] ++ cap) W fun e w' => e = .returned (.bool (is p)) ∧ I w' ∧ W.grownBy w' (some mb)) :
    Calls Try.prog 95 #[.pointer (some ⟨wb, 0, none⟩), .int .u32 (s : Int), .func (.func id) #[] cap] w fun e w' => ∃ v, e = .returned v ∧ (Kd.int .i64).R 3 w' w0.heap.size (fun k => w.heap.size ≤ k) v (ints (partsOf L s is)) ∧ I w' ∧ w.grownBy w' (some mb) ∧ Work w0 w' wb mb L c A0 c0 vn vb := by
  have HW := Aside0.mk hW
  have HI := Aside0.mk hI
  have HMW := Aside0.mk hmw
  have HG := Aside0.mk hgrow
  have HC := Aside0.mk hcall
  clear hW hI hgrow hcall hmw
  have h14 := hF.short
  have hs32 : s < 2 ^ 32 := by have := hF.small; omega
  have c0_ : w.cell? ⟨wb, 0, none⟩ = some (.slice A0 L.length c0) := (blk_cell HW.out.blk 0).trans rfl
  have hu158 := Try.underlying158
  go_enter Try.func95, Try.ntmps95
  go_wp2_with fail
  clear c0_
  go_loopg [7, 15] L.length (fun k v7 v15 w' => ∃ (i : Nat), v15 = .int .i64 i ∧ Aside0 (i + k = L.length) ∧ Aside0 ((Kd.int .i64).R 3 w' w0.heap.size (fun k => w.heap.size ≤ k) v7 (ints (partsTo L s is i))) ∧ Aside0 (I w' ∧ w.grownBy w' (some mb) ∧ Work w0 w' wb mb L c A0 c0 vn vb))
  case atStart => exact ⟨0, rfl, ⟨by omega⟩, ⟨Kd.R_nil _ _ _ _ _⟩, ⟨HI.out, World.grownBy.refl _ _, HW.out⟩⟩
  case round =>
    obtain ⟨i, rfl, HK, HR, HJ⟩ := hrel
    by_cases hi : i < L.length
    · obtain ⟨an, cn, ab, cb, rfl, rfl, n1, n2⟩ := HJ.out.2.2.at_ hi
      have i1 : (0 : Int) ≤ (i : Int) := by omega
      have i2 : (i : Int) < (L.length : Int) := by omega
      have d1 : wr.cell? ⟨wb, 1 + 1, none⟩ = some (.slice (some an) L.length cn) := (blk_cell HJ.out.2.2.blk 2).trans rfl
      have d2 : wr.cell? ⟨wb, 1 + 1 + 1, none⟩ = some (.slice (some ab) L.length cb) := (blk_cell HJ.out.2.2.blk 3).trans rfl
      have eh := has_u32 (s := s) (p := i) hs32 (by omega)
      have b1 : needsN L i < 2 ^ 32 := by have := hF.needs_lt hi; have := hF.small; omega
      have b2 : barsN L i < 2 ^ 32 := by have := hF.bars_lt hi; have := hF.small; omega
      have a1 := and_u32 hs32 b1
      have a2 := and_u32 hs32 b2
      generalize hN : needsN L i = N at n1 a1
      generalize hB : barsN L i = B at n2 a2
      have HCG : Aside0 (canGo L s i = (!(s.testBit i) && (s &&& N == N) && (s &&& B == 0))) := ⟨by rw [← hN, ← hB]; rfl⟩
      clear b1 b2
      have HN := Aside0.mk hN
      have HBB := Aside0.mk hB
      clear hN hB
      by_cases th : s.testBit i = true
      · have HNX : Aside0 (partsTo L s is (i + 1) = partsTo L s is i) := ⟨by rw [partsTo_next, HCG.out]; simp [th]⟩
        have HIW := Aside0.mk HJ.out.1
        rw [th] at eh
        clear th
        go_wp2_with fail
        go_quiet (exact has_quiet eh)
        have HB7 : Aside0 (Below wr.heap.size wr (wr.drewN nq)) := ⟨pw_below_drewN (Below.refl _ _) _⟩
        have HJ8 : Aside0 (w.grownBy (wr.drewN nq) (some mb)) := ⟨HJ.out.2.1.andThen (row' := none) (grown_below HB7.out) (by simp)⟩
        go_wp2_with fail
        go_roundg (L.length - (i + 1))
        case measure => have := HK.out; omega
        case rel => exact ⟨i + 1, by go_num, ⟨by omega⟩, ⟨by rw [HNX.out]; exact Kd.R_below HR.out HB7.out⟩, ⟨HG.out _ _ none HIW.out (grown_below HB7.out) (by simp), HJ8.out, HW.out.grown HJ8.out⟩⟩
      · by_cases tn : s &&& N = N
        · by_cases tb : s &&& B = 0
          · have tn1 : (((s &&& N : Nat) : Int) == (N : Int)) = true := by rw [tn]; simp
            have tb1 : (((s &&& B : Nat) : Int) == 0) = true := by rw [tb]; rfl
            have HCT : Aside0 (canGo L s i = true) := ⟨by rw [HCG.out]; simp [th, tn, tb]⟩
            rw [show s.testBit i = false by simpa using th] at eh
            clear th tn tb
            generalize hb : is i = b
            have HB := Aside0.mk hb
            clear hb
            have hfun : ∀ W, I W → Work w0 W wb mb L c A0 c0 (.slice (some an) L.length cn) (.slice (some ab) L.length cb) → Calls Try.prog id (#[.int .i64 (i : Int)] ++ cap) W fun e w' => e = .returned (.bool b) ∧ I w' ∧ W.grownBy w' (some mb) := fun W hI hW => by rw [← HB.out]; exact HC.out i W hi HCT.out hI hW
            have HFUN := Aside0.mk hfun
            clear hfun
            have HX := Aside0.mk HJ.out.2.2
            have HIW := Aside0.mk HJ.out.1
            go_wp2_with fail
            go_region_held3 (fun w' => w'.cell? ⟨wb, 2, none⟩ = some (.slice (some an) L.length cn) ∧ w'.cell? ⟨wb, 3, none⟩ = some (.slice (some ab) L.length cb) ∧ w'.cell? (an.add i) = some (.int .u32 (N : Int)) ∧ w'.cell? (ab.add i) = some (.int .u32 (B : Int))) (first | exact ⟨d1, d2, n1, n2⟩ | exact ⟨k1, k2, k3, k4⟩ | exact ⟨m1, m2, m3, m4⟩) (first
              | (go_at_call 135; refine (mount_set_has.calls _ _ _ _ eh).mono ?_; rintro e w7 ⟨rfl, hd7⟩; have HB7 : Aside0 (Below wr.heap.size wr w7) := ⟨below_step (below_drew1 (Below.refl _ _)) hd7.below⟩; have k1 := cell_later hd7.below (W := w7) d1; have k2 := cell_later hd7.below (W := w7) d2; have k3 := cell_later hd7.below (W := w7) n1; have k4 := cell_later hd7.below (W := w7) n2; clear eh hd7)
              | (refine (HFUN.out _ (HG.out _ _ none HIW.out (grown_below HB7.out) (by simp)) (HX.out.later HB7.out)).mono ?_; rintro e w8 ⟨rfl, hI8, hg8⟩; have HI8 := Aside0.mk hI8; have HG8 := Aside0.mk hg8; have HX8 := Aside0.mk ((HX.out.later HB7.out).grown hg8); have m1 : w8.cell? ⟨wb, 2, none⟩ = some (.slice (some an) L.length cn) := (blk_cell HX8.out.blk 2).trans rfl; have m2 : w8.cell? ⟨wb, 3, none⟩ = some (.slice (some ab) L.length cb) := (blk_cell HX8.out.blk 3).trans rfl; have m3 := HX8.out.cell_n hi HN.out rfl; have m4 := HX8.out.cell_b hi HBB.out rfl; clear hI8 hg8))
            have HJ8 : Aside0 (w.grownBy w8 (some mb)) := ⟨(HJ.out.2.1.andThen (row' := none) (grown_below HB7.out) (by simp)).andThen HG8.out (fun j hj => .inr hj)⟩
            have HR8 : Aside0 ((Kd.int .i64).R 3 w8 w0.heap.size (fun k => w.heap.size ≤ k) u7 (ints (partsTo L s is i))) := ⟨by
              have h1 := Kd.R_below HR.out HB7.out
              have h2 : (Kd.int .i64).R 3 w7 w0.heap.size (fun k => w.heap.size ≤ k ∧ k ≠ mb) u7 (ints (partsTo L s is i)) := Kd.R_mono (Kd.R_bound h1) (fun k hk => ⟨hk.1, by have := HMW.out; omega⟩)
              exact Kd.R_mono (Kd.R_grown h2 HG8.out (fun k hk e => hk.2 (Option.some.inj e))) (fun k hk => hk.1)⟩
            cases b
            · have HNX : Aside0 (partsTo L s is (i + 1) = partsTo L s is i) := ⟨by rw [partsTo_next, HB.out, Bool.and_false, if_neg (by simp), List.append_nil]⟩
              go_wp2_with fail
              go_roundg (L.length - (i + 1))
              case measure => have := HK.out; omega
              case rel => exact ⟨i + 1, by go_num, ⟨by omega⟩, ⟨by rw [HNX.out]; exact HR8.out⟩, ⟨HI8.out, HJ8.out, HX8.out⟩⟩
            · have HNX : Aside0 (partsTo L s is (i + 1) = partsTo L s is i ++ [i]) := ⟨by rw [partsTo_next, HB.out, HCT.out]; rfl⟩
              have HLE := Aside0.mk (partsTo_length L s is i)
              go_wp2_with (first
                | (refine Kd.R_append (Kd.int .i64) (w0 := w0) w0.heap.size rfl (.tmp 58) (.tmp 60) 22 3 (.int .i64 0) 8 rfl Try.underlying22 info3 rfl (by decide) (by omega) u7 (ints (partsTo L s is i)) (i : Int) [.int .i64 (i : Int)] (fun k => w.heap.size ≤ k) (fun _ => False) rfl rfl rfl (fun _ hk => hk.elim) (fun k hk => Nat.le_trans HJ8.out.size hk) HR8.out HX8.out.below HX8.out.below.size (by have := HLE.out; simp only [ints, List.length_map]; omega) ?_; intro v1 w9 hR9 hB9 hg9 hat9; have HR9 := Aside0.mk hR9; have HG9 := Aside0.mk hg9; clear hR9 hB9 hg9 hat9))
              have HOB : Aside0 (∀ j, u7.ownBlock = some j → w.heap.size ≤ j) := ⟨fun j hj => HR8.out.1 j hj⟩
              go_roundg (L.length - (i + 1))
              case measure => have := HK.out; omega
              case rel => exact ⟨i + 1, by go_num, ⟨by omega⟩, ⟨by rw [HNX.out]; simpa [ints] using HR9.out⟩, ⟨HG.out _ _ _ HI8.out HG9.out HOB.out, HJ8.out.andThen HG9.out (fun j hj => .inl (HOB.out j hj)), HW.out.grown (HJ8.out.andThen HG9.out (fun j hj => .inl (HOB.out j hj)))⟩⟩
          · have tn1 : (((s &&& N : Nat) : Int) == (N : Int)) = true := by rw [tn]; simp
            have tb1 : (((s &&& B : Nat) : Int) == 0) = false := by simp; omega
            have HNX : Aside0 (partsTo L s is (i + 1) = partsTo L s is i) := ⟨by rw [partsTo_next, HCG.out]; simp [th, tn, tb]⟩
            have HIW := Aside0.mk HJ.out.1
            rw [show s.testBit i = false by simpa using th] at eh
            clear th tn tb
            go_wp2_with fail
            go_quiet (exact has_quiet eh)
            have HB7 : Aside0 (Below wr.heap.size wr (wr.drewN nq)) := ⟨pw_below_drewN (Below.refl _ _) _⟩
            have HJ8 : Aside0 (w.grownBy (wr.drewN nq) (some mb)) := ⟨HJ.out.2.1.andThen (row' := none) (grown_below HB7.out) (by simp)⟩
            go_wp2_with fail
            go_roundg (L.length - (i + 1))
            case measure => have := HK.out; omega
            case rel => exact ⟨i + 1, by go_num, ⟨by omega⟩, ⟨by rw [HNX.out]; exact Kd.R_below HR.out HB7.out⟩, ⟨HG.out _ _ none HIW.out (grown_below HB7.out) (by simp), HJ8.out, HW.out.grown HJ8.out⟩⟩
        · have tn1 : (((s &&& N : Nat) : Int) == (N : Int)) = false := by simp; omega
          have HNX : Aside0 (partsTo L s is (i + 1) = partsTo L s is i) := ⟨by rw [partsTo_next, HCG.out]; simp [th, tn]⟩
          have HIW := Aside0.mk HJ.out.1
          rw [show s.testBit i = false by simpa using th] at eh
          clear th tn
          go_wp2_with fail
          go_quiet (exact has_quiet eh)
          have HB7 : Aside0 (Below wr.heap.size wr (wr.drewN nq)) := ⟨pw_below_drewN (Below.refl _ _) _⟩
          have HJ8 : Aside0 (w.grownBy (wr.drewN nq) (some mb)) := ⟨HJ.out.2.1.andThen (row' := none) (grown_below HB7.out) (by simp)⟩
          go_wp2_with fail
          go_roundg (L.length - (i + 1))
          case measure => have := HK.out; omega
          case rel => exact ⟨i + 1, by go_num, ⟨by omega⟩, ⟨by rw [HNX.out]; exact Kd.R_below HR.out HB7.out⟩, ⟨HG.out _ _ none HIW.out (grown_below HB7.out) (by simp), HJ8.out, HW.out.grown HJ8.out⟩⟩
    · have HPE : Aside0 (partsTo L s is i = partsOf L s is) := ⟨by have := HK.out; rw [show i = L.length by omega]; rfl⟩
      go_wp2_with fail
      go_ret
      exact ⟨_, rfl, by rw [← HPE.out]; exact HR.out, HJ.out.1, HJ.out.2.1, HJ.out.2.2⟩
end Go.Proofs.Ytbcfphoheijmdaa.Print
end

section
/- What the work of a kit remembers: a map from states to numbers. -/
namespace Go.Proofs.Ytbcfphoheijmdaa.Print
open Go.RowKit Go.Proofs.YtbcfphoheijmdaaW.PrintWords Go.Proofs.YtbcfphoheijmdaaW.PrintLast Go.Proofs.YtbcfphoheijmdaaW.PrintMore Go.Proofs.Ytbcfphoheijmdaa.H
open Go.Maps (Keyed)
set_option linter.unusedVariables false
set_option linter.unusedSimpArgs false

/-- Numbers that differ and are all less than N are at most N. -/
theorem few (N : Nat) : ∀ (l : List Nat), l.Pairwise (· ≠ ·) → (∀ x, x ∈ l → x < N) → l.length ≤ N := by
  induction N with
  | zero =>
    intro l _ h
    cases l with
    | nil => simp
    | cons a l => have := h a (by simp); omega
  | succ N ih =>
    intro l hp h
    by_cases hm : N ∈ l
    · obtain ⟨s, t, rfl⟩ := List.append_of_mem hm
      rw [List.pairwise_append, List.pairwise_cons] at hp
      have := ih (s ++ t) (by rw [List.pairwise_append]; exact ⟨hp.1, hp.2.1.2, fun a ha b hb => hp.2.2 a ha b (by simp [hb])⟩) (fun x hx => by
        have h1 : x < N + 1 := h x (by rcases List.mem_append.1 hx with q | q <;> simp [q])
        have h2 : x ≠ N := by
          rcases List.mem_append.1 hx with q | q
          · exact hp.2.2 x q N (by simp)
          · exact (hp.2.1.1 x q).symm
        omega)
      simp only [List.length_append, List.length_cons] at this ⊢
      omega
    · have := ih l hp (fun x hx => by
        have h1 := h x hx
        have h2 : x ≠ N := fun e => hm (e ▸ hx)
        omega)
      omega
theorem mem_insert_iff {H : Type} (x y : Lit × DataW H) : ∀ l : List (Lit × DataW H), y ∈ DataW.insert x l ↔ y = x ∨ y ∈ l := by
  intro l
  induction l with
  | nil => simp [DataW.insert]
  | cons a l ih =>
    unfold DataW.insert
    split
    · simp
    · simp only [List.mem_cons, ih]
      constructor
      · rintro (h | h | h) <;> simp [h]
      · rintro (h | h | h) <;> simp [h]
/-- What is remembered of each state is its number. -/
def MemoD (D : DataW Unit) (val : Nat → Int) : Prop := ∃ l, D = .map l ∧ l.Pairwise (fun p q => p.1 ≠ q.1) ∧ ∀ p, p ∈ l → ∃ s : Nat, s < 2 ^ 32 ∧ p = (.int .u32 (s : Int), .lit (.int .i64 (val s)))
def Memo (W : World) (mb : Nat) (val : Nat → Int) : Prop := ∃ n D, n < 2 ^ 33 ∧ W.ownsMap Try.prog 133 (plainElem (H := Unit) Try.prog 3) mb n D ∧ MemoD D val
theorem keyed133 : Keyed Try.prog 133 := Go.Maps.int_keyed Try.underlying133
theorem wf_u32 {s : Nat} (h : s < 2 ^ 32) : (Lit.int .u32 (s : Int)).wf = true := by
  have := wrap_u32 h
  simp [Lit.wf, IntKind.min, IntKind.max, IntKind.signed, IntKind.bits]
  omega
theorem key_u32 {s : Nat} (h : s < 2 ^ 32) : keyOf Try.prog 133 (.int .u32 (s : Int)) = some (.int .u32 (s : Int)) := Go.Maps.keyOf_int_mk Try.underlying133 (wf_u32 h)
theorem wf_i64 {v : Int} (h1 : -9223372036854775808 ≤ v) (h2 : v ≤ 9223372036854775807) : (Lit.int .i64 v).wf = true := by
  simp [Lit.wf, IntKind.min, IntKind.max, IntKind.signed, IntKind.bits]
  omega
theorem MemoD.few {D : DataW Unit} {val : Nat → Int} (h : MemoD D val) : Maps.size D ≤ 2 ^ 32 := by
  obtain ⟨l, rfl, hp, hk⟩ := h
  show l.length ≤ 2 ^ 32
  have := Print.few (2 ^ 32) (l.map (fun p => match p.1 with | .int _ a => a.toNat | _ => 0)) (by
    rw [List.pairwise_map]
    refine List.Pairwise.imp_of_mem ?_ hp
    intro a b ha hb hne e
    obtain ⟨s, _, rfl⟩ := hk a ha
    obtain ⟨t, _, rfl⟩ := hk b hb
    simp only [Int.toNat_natCast] at e
    exact hne (by rw [e])) (fun x hx => by
    obtain ⟨p, hp, rfl⟩ := List.mem_map.1 hx
    obtain ⟨s, hs, rfl⟩ := hk p hp
    simpa using hs)
  simpa using this
theorem own_tight {W : World} {mb n : Nat} {D : DataW Unit} (h : W.ownsMap Try.prog 133 (plainElem (H := Unit) Try.prog 3) mb n D) : W.ownsMap Try.prog 133 (plainElem (H := Unit) Try.prog 3) mb (Maps.size D) D := by
  obtain ⟨es, clock, hb, F, _, rfl⟩ := h
  exact ⟨es, clock, hb, F, by rw [Maps.size_eq, length_read]; exact Nat.le_refl _, rfl⟩
theorem Memo.made (W : World) (val : Nat → Int) : Memo (W.alloc (.map #[] 0)) W.heap.size val :=
  ⟨0, _, by omega, World.ownsMap_made _ _ _ _, [], rfl, .nil, by simp⟩
theorem Memo.kept {W W1 : World} {mb : Nat} {val : Nat → Int} {row : Option Nat} (h : Memo W mb val) (hg : W.grownBy W1 row) (hne : some mb ≠ row) : Memo W1 mb val := by
  obtain ⟨n, D, hn, ho, hD⟩ := h
  exact ⟨n, D, hn, ho.kept hg hne, hD⟩
theorem Memo.later {W W1 : World} {mb : Nat} {val : Nat → Int} (h : Memo W mb val) (hb : Below W.heap.size W W1) : Memo W1 mb val := h.kept (grown_below hb) (by simp)
theorem MemoD.look {D : DataW Unit} {val : Nat → Int} (h : MemoD D val) {s : Nat} (hh : Maps.has D (.int .u32 (s : Int)) = true) : D.atKey (.int .u32 (s : Int)) (.lit (.int .i64 0)) = .lit (.int .i64 (val s)) := by
  obtain ⟨l, rfl, hp, hk⟩ := h
  rw [Maps.has_eq, List.any_eq_true] at hh
  obtain ⟨p, hp1, hp2⟩ := hh
  obtain ⟨t, ht, rfl⟩ := hk p hp1
  have e := WideAt.sameKey_eq hp2
  have e2 : t = s := by injection e with _ q; omega
  subst e2
  exact WideAt.atKey_mem _ trivial hp hp1
theorem MemoD.put {D : DataW Unit} {val : Nat → Int} (h : MemoD D val) {s : Nat} (hs : s < 2 ^ 32) : MemoD (D.put (.int .u32 (s : Int)) (.lit (.int .i64 (val s)))) val := by
  obtain ⟨l, rfl, hp, hk⟩ := h
  obtain ⟨es, e1, e2⟩ := Maps.Tidy.put (D := DataW.map l) ⟨l, rfl, hp⟩ (k := .int .u32 (s : Int)) trivial (.lit (.int .i64 (val s)))
  refine ⟨es, e1, e2, fun p hpm => ?_⟩
  have e3 : es = DataW.insert (.int .u32 (s : Int), .lit (.int .i64 (val s))) (l.filter fun p => !p.1.sameKey (.int .u32 (s : Int))) := by
    have : DataW.map _ = DataW.map es := e1
    injection this with q
    exact q.symm
  rw [e3, mem_insert_iff] at hpm
  rcases hpm with rfl | hpm
  · exact ⟨s, hs, rfl⟩
  · exact hk p (List.mem_filter.1 hpm).1
/-- What the walk takes at a look-up, and at a store. -/
theorem Memo.open_ {W : World} {mb : Nat} {val : Nat → Int} (h : Memo W mb val) : ∃ n D, n < maxLen ∧ W.ownsMap Try.prog 133 (plainElem (H := Unit) Try.prog 3) mb n D ∧ MemoD D val := by
  obtain ⟨n, D, hn, ho, hD⟩ := h
  exact ⟨n, D, by unfold maxLen; omega, ho, hD⟩
theorem Memo.close {W : World} {mb n : Nat} {val : Nat → Int} {D : DataW Unit} (ho : W.ownsMap Try.prog 133 (plainElem (H := Unit) Try.prog 3) mb n D) (hD : MemoD D val) : Memo W mb val :=
  ⟨Maps.size D, D, Nat.lt_of_le_of_lt hD.few (by omega), own_tight ho, hD⟩
theorem zero3 (w : World) : (zeroValue 3).run Try.prog w = .ok (.int .i64 0) w := by
  obtain ⟨i, hi1, hi2, _, _⟩ := info_parts info3
  simp [zeroValue, typeInfo, hi1, hi2]
end Go.Proofs.Ytbcfphoheijmdaa.Print
end

section
/- In how many orders all parts of a kit go in. -/
namespace Go.Proofs.Ytbcfphoheijmdaa.Print
open Go.RowKit Go.Proofs.YtbcfphoheijmdaaW.PrintWords Go.Proofs.YtbcfphoheijmdaaW.PrintLast Go.Proofs.YtbcfphoheijmdaaW.PrintMore Go.Proofs.Ytbcfphoheijmdaa.H
attribute [local go_sem] max2_int min2_int max_two min_two max_three min_three max_four min_four
attribute [local go_sem ↓] Go.wp_at_zero Go.wp_at_succ
set_option linter.unusedVariables false
set_option linter.unusedSimpArgs false

/-- How many parts are missing? -/
def missing (n s : Nat) : Nat := ((List.range n).filter (fun p => !s.testBit p)).length
def ways (L : List S57) : Nat → Nat → Int
  | 0, s => if s = 2 ^ L.length - 1 then 1 else 0
  | k + 1, s => if s = 2 ^ L.length - 1 then 1 else (partsOf L s (fun _ => true)).foldl (fun a p => wrap64 (a + ways L k (s ||| 2 ^ p))) 0
/-- In how many orders all other parts can go into state s. -/
def waysOf (L : List S57) (s : Nat) : Int := ways L (missing L.length s) s
theorem missing_with {n s p : Nat} (hp : p < n) (hs : s.testBit p = false) : missing n (s ||| 2 ^ p) + 1 = missing n s := by
  unfold missing
  have key : ∀ l : List Nat, l.Pairwise (· ≠ ·) → p ∈ l → (l.filter (fun q => !(s ||| 2 ^ p).testBit q)).length + 1 = (l.filter (fun q => !s.testBit q)).length := by
    intro l
    induction l with
    | nil => intro _ h; simp at h
    | cons a l ih =>
      intro hl hm
      rw [List.pairwise_cons] at hl
      rw [List.filter_cons, List.filter_cons, testBit_with]
      by_cases e : p = a
      · subst e
        rw [hs]
        have same : ∀ m : List Nat, (∀ q, q ∈ m → p ≠ q) → m.filter (fun q => !(s ||| 2 ^ p).testBit q) = m.filter (fun q => !s.testBit q) := by
          intro m hm
          apply List.filter_congr
          intro q hq
          rw [testBit_with, decide_eq_false (hm q hq), Bool.or_false]
        rw [same l hl.1]
        simp
      · have hm2 : p ∈ l := by simpa [e] using hm
        have := ih hl.2 hm2
        rw [decide_eq_false e, Bool.or_false]
        split
        · simp only [List.length_cons]; omega
        · exact this
  refine key (List.range n) ?_ (List.mem_range.2 hp)
  exact List.Pairwise.imp (fun h => Nat.ne_of_lt h) List.pairwise_lt_range
theorem partsOf_mem {L : List S57} {s : Nat} {is : Nat → Bool} {p : Nat} (h : p ∈ partsOf L s is) : p < L.length ∧ s.testBit p = false ∧ canGo L s p = true ∧ is p = true := by
  unfold partsOf partsTo at h
  rw [List.mem_filter, List.mem_range] at h
  obtain ⟨h1, h2⟩ := h
  rw [Bool.and_eq_true] at h2
  have h3 := h2.1
  unfold canGo at h3
  rw [Bool.and_eq_true, Bool.and_eq_true] at h3
  exact ⟨h1, by simpa using h3.1.1, h2.1, h2.2⟩
theorem waysOf_all (L : List S57) : waysOf L (2 ^ L.length - 1) = 1 := by
  unfold waysOf
  cases missing L.length (2 ^ L.length - 1) <;> simp [ways]
/-- The sum over some parts. -/
def sumW (L : List S57) (s : Nat) (l : List Nat) : Int := l.foldl (fun a p => wrap64 (a + waysOf L (s ||| 2 ^ p))) 0
theorem sumW_snoc (L : List S57) (s : Nat) (l : List Nat) (p : Nat) : sumW L s (l ++ [p]) = wrap64 (sumW L s l + waysOf L (s ||| 2 ^ p)) := by simp [sumW]
theorem waysOf_step {L : List S57} {s : Nat} (h : s ≠ 2 ^ L.length - 1) : waysOf L s = sumW L s (partsOf L s (fun _ => true)) := by
  unfold waysOf
  cases hm : missing L.length s with
  | zero =>
    rw [ways, if_neg h]
    have : partsOf L s (fun _ => true) = [] := by
      cases hq : partsOf L s (fun _ => true) with
      | nil => rfl
      | cons p l =>
        have := partsOf_mem (L := L) (s := s) (is := fun _ => true) (p := p) (by rw [hq]; simp)
        have := missing_with this.1 this.2.1
        omega
    rw [this]
    rfl
  | succ k =>
    rw [ways, if_neg h]
    unfold sumW
    have key : ∀ (l : List Nat) (a : Int), (∀ p, p ∈ l → missing L.length (s ||| 2 ^ p) = k) → l.foldl (fun a p => wrap64 (a + ways L k (s ||| 2 ^ p))) a = l.foldl (fun a p => wrap64 (a + waysOf L (s ||| 2 ^ p))) a := by
      intro l
      induction l with
      | nil => intro a _; rfl
      | cons p l ih =>
        intro a h
        rw [List.foldl_cons, List.foldl_cons, ih _ (fun q hq => h q (by simp [hq]))]
        unfold waysOf
        rw [h p (by simp)]
    refine key _ _ (fun p hp => ?_)
    have h1 := partsOf_mem hp
    have := missing_with h1.1 h1.2.1
    omega
theorem wrap64_in (x : Int) : -9223372036854775808 ≤ wrap64 x ∧ wrap64 x ≤ 9223372036854775807 := by unfold wrap64; omega
theorem sumW_in (L : List S57) (s : Nat) (l : List Nat) : -9223372036854775808 ≤ sumW L s l ∧ sumW L s l ≤ 9223372036854775807 := by
  rcases List.eq_nil_or_concat l with rfl | ⟨m, p, rfl⟩
  · unfold sumW; simp
  · rw [List.concat_eq_append, sumW_snoc]; exact wrap64_in _
theorem with_lt {L : List S57} {s p : Nat} (hs : s < 2 ^ L.length) (hp : p < L.length) : s ||| 2 ^ p < 2 ^ L.length := Nat.or_lt_two_pow hs (Nat.pow_lt_pow_right (by omega) hp)
end Go.Proofs.Ytbcfphoheijmdaa.Print
end

section
/- orders: that the Go function's call counts the orders. -/
namespace Go.Proofs.Ytbcfphoheijmdaa.Print
open Go.RowKit Go.Proofs.YtbcfphoheijmdaaW.PrintWords Go.Proofs.YtbcfphoheijmdaaW.PrintLast Go.Proofs.YtbcfphoheijmdaaW.PrintMore Go.Proofs.Ytbcfphoheijmdaa.H
attribute [local go_sem] max2_int min2_int max_two min_two max_three min_three max_four min_four
attribute [local go_sem ↓] Go.wp_at_zero Go.wp_at_succ
set_option linter.unusedVariables false
set_option linter.unusedSimpArgs false

theorem every_calls (p : Int) (w : World) : Calls Try.prog 96 #[.int .i64 p] w fun e w' => e = .returned (.bool true) ∧ Drawn0 w w' := by
  go_enter Try.func96, Try.ntmps96
  go_wp2
  go_ret
  exact ⟨rfl, Drawn0.refl _⟩
theorem every_enters (args : Array Value) (W : World) : Sem.run Try.prog (callFunc 96 args) W = .ok (.enter 96 args) W := by
  have h1 : ¬ Try.f96.name = "runtime.NumGoroutine" := by decide
  have h2 : ¬ Try.f96.body = none := fun h => by
    have : Try.f96.body.isSome = false := by rw [h]; rfl
    exact absurd this (by show ¬ (true = false); decide)
  simp [callFunc, go_sem, Try.func96, h1, h2]
set_option maxHeartbeats 3200000 in
set_option maxRecDepth 100000 in
theorem orders_walk {w0 w : World} {wb mb : Nat} {L : List S57} {c : Int} {A0 : Option Addr} {c0 : Nat} {vn vb : Value} (hF : Fine L) (s : Nat) (hs : s < 2 ^ L.length)
    (hIH : ∀ p, p ∈ partsOf L s (fun _ => true) → ∀ W, Work w0 W wb mb L c A0 c0 vn vb → Memo W mb (waysOf L) → Calls Try.prog 93 #[.pointer (some ⟨wb, 0, none⟩), .int .u32 ((s ||| 2 ^ p : Nat) : Int)] W fun e w' => e = .returned (.int .i64 (waysOf L (s ||| 2 ^ p))) ∧ Memo w' mb (waysOf L) ∧ W.grownBy w' (some mb))
    (hW : Work w0 w wb mb L c A0 c0 vn vb) (hM : Memo w mb (waysOf L)) :
    Calls Try.prog 93 #[.pointer (some ⟨wb, 0, none⟩), .int .u32 (s : Int)] w fun e w' => e = .returned (.int .i64 (waysOf L s)) ∧ Memo w' mb (waysOf L) ∧ w.grownBy w' (some mb) := by
  have hs32 : s < 2 ^ 32 := by have := hF.small; omega
  obtain ⟨n, D, hn, hown, hD⟩ := hM.open_
  have HMW := Aside0.mk hown.lt
  have HW := Aside0.mk hW
  have HIH := Aside0.mk hIH
  have HM := Aside0.mk hM
  have HO := Aside0.mk hown
  have HD := Aside0.mk hD
  have HN := Aside0.mk hn
  clear hIH hM hown hD hn
  have c3 : w.cell? ⟨wb, 4, none⟩ = some (.int .u32 ((2 ^ L.length - 1 : Nat) : Int)) := (blk_cell HW.out.blk 4).trans rfl
  have c4 : w.cell? ⟨wb, 5, none⟩ = some (.map (some mb)) := (blk_cell HW.out.blk 5).trans rfl
  have hu158 := Try.underlying158
  have HPC := Aside0.mk (parts_calls hF s hs 96 #[] (fun _ => true) (fun W => Memo W mb (waysOf L)) every_enters hW HMW.out HM.out (fun W W1 row h hg hr => h.kept hg (fun e => by have := hr mb e.symm; have := HMW.out; omega)) (fun p W _ _ hI hWW => (every_calls (p : Int) W).mono fun e w' h => ⟨h.1, hI.later h.2.below, (grown_below h.2.below).but _⟩))
  clear hW
  by_cases te : s = 2 ^ L.length - 1
  · have te1 : ((s : Int) == ((2 ^ L.length - 1 : Nat) : Int)) = true := by rw [← te]; simp
    have HV : Aside0 (waysOf L s = 1) := ⟨by rw [te]; exact waysOf_all L⟩
    clear te
    generalize 2 ^ L.length - 1 = ALL at te1 c3
    go_enter Try.func93, Try.ntmps93
    go_wp2_with fail
    go_ret
    exact ⟨by rw [HV.out]; rfl, HM.out, World.grownBy.refl _ _⟩
  have te1 : ((s : Int) == ((2 ^ L.length - 1 : Nat) : Int)) = false := by simp; omega
  have HV := Aside0.mk (waysOf_step te)
  clear te
  generalize 2 ^ L.length - 1 = ALL at te1 c3
  generalize hb : Maps.has D (.int .u32 (s : Int)) = b
  have HB := Aside0.mk hb
  cases b with
  | true =>
    have HL := Aside0.mk (HD.out.look hb)
    clear hb
    go_enter Try.func93, Try.ntmps93
    go_wp2_with (first
      | (at_lookup; refine wpList_lookup_own_ok_int (H := Unit) _ rfl _ _ 156 rfl 133 3 .i64 keyed133 Try.underlying156 Try.underlying3 (zero3 _) mb n D rfl HO.out (.int .u32 (s : Int)) (.int .u32 (s : Int)) rfl (key_u32 hs32) ?_; intro cc hat hwc; rw [HB.out]; have HA := Aside0.mk hat; clear hat hwc))
    go_ret
    have e : cc = waysOf L s := by
      have := HA.out.symm.trans HL.out
      injection this with q
      injection q
    exact ⟨by rw [← e]; rfl, HM.out, World.grownBy.refl _ _⟩
  | false =>
    clear hb
    go_enter Try.func93, Try.ntmps93
    go_wp2_with (first
      | (at_lookup; refine wpList_lookup_own_ok_int (H := Unit) _ rfl _ _ 156 rfl 133 3 .i64 keyed133 Try.underlying156 Try.underlying3 (zero3 _) mb n D rfl HO.out (.int .u32 (s : Int)) (.int .u32 (s : Int)) rfl (key_u32 hs32) ?_; intro cc hat hwc; rw [HB.out]; clear hat hwc)
      | (go_at_call 95; refine (HPC.out).mono ?_; rintro e w1 ⟨v, rfl, hR, hM1, hg1, hW1⟩; obtain ⟨A1, n1, rfl⟩ := Kd.R_slice hR; have HR := Aside0.mk hR; have HM1 := Aside0.mk hM1; have HG1 := Aside0.mk hg1; have HW1 := Aside0.mk hW1; clear hR hM1 hg1 hW1))
    have HPL := Aside0.mk (partsTo_length L s (fun _ => true) L.length)
    have hlen : (ints (partsOf L s (fun _ => true))).length = (partsOf L s (fun _ => true)).length := by simp [ints]
    rw [hlen] at HR
    rw [hlen]
    clear hlen HPC
    have HPM : Aside0 (∀ p, p ∈ partsOf L s (fun _ => true) → p < L.length) := ⟨fun p hp => (partsOf_mem hp).1⟩
    generalize hPS : partsOf L s (fun _ => true) = PS at HR HV HIH HPM
    have HPL2 : Aside0 (PS.length ≤ L.length) := ⟨by rw [← hPS]; exact HPL.out⟩
    clear hPS HPL c3 c4
    have hpl : PS.length ≤ 14 := Nat.le_trans HPL2.out hF.short
    go_loopg [7, 31] PS.length (fun k v7 v31 w' => ∃ (i : Nat), v31 = .int .i64 i ∧ v7 = .int .i64 (sumW L s (PS.take i)) ∧ Aside0 (i + k = PS.length) ∧ Aside0 (Memo w' mb (waysOf L) ∧ w.grownBy w' (some mb) ∧ (Kd.int .i64).R 3 w' w0.heap.size (fun k => w.heap.size ≤ k) (.slice A1 PS.length n1) (ints PS)))
    case atStart => exact ⟨0, rfl, rfl, ⟨by omega⟩, ⟨HM1.out, HG1.out, HR.out⟩⟩
    case round =>
      clear HM1 HG1 HR HW1
      obtain ⟨i, rfl, rfl, HK, HJ⟩ := hrel
      by_cases hi : i < PS.length
      · have HSN := Aside0.mk (show sumW L s (PS.take (i + 1)) = wrap64 (sumW L s (PS.take i) + waysOf L (s ||| 2 ^ PS[i])) by rw [take_at _ _ hi, sumW_snoc])
        have hp : PS[i] < L.length := HPM.out _ (List.getElem_mem _)
        have HC := Aside0.mk (HIH.out PS[i] (List.getElem_mem _))
        obtain ⟨ad, e0, x0⟩ : ∃ ad, A1 = some ad ∧ wr.cell? (ad.add i) = some (.int .i64 ((PS[i] : Nat) : Int)) := by
          obtain ⟨_, _, hC⟩ := Kd.R_reads' HJ.out.2.2
          obtain ⟨ad, e, hc⟩ := cell_int hC i (by simpa [ints] using hi)
          refine ⟨ad, e, ?_⟩
          rw [hc]
          simp [ints, hi]
        cases e0
        generalize PS[i] = p at hp HC HSN x0
        generalize sumW L s (PS.take i) = X at HSN
        have hw1 := with_u32 (s := s) (p := p) hs32 (by have := hF.short; omega)
        have HW2 := Aside0.mk (HW.out.grown HJ.out.2.1)
        have i1 : (0 : Int) ≤ (i : Int) := by omega
        have i2 : (i : Int) < (PS.length : Int) := by omega
        generalize hY : waysOf L (s ||| 2 ^ p) = Y at HSN HC
        clear hY
        generalize s ||| 2 ^ p = S2 at hw1 HC
        go_wp2_with (first
          | (go_at_call 100; refine (mount_set_with.calls _ _ _ _ hw1).mono ?_; rintro e w2 ⟨rfl, hd⟩; have HB2 := Aside0.mk hd.below; clear hd hw1)
          | (go_at_call 93; refine (HC.out _ (HW2.out.later HB2.out) (HJ.out.1.later HB2.out)).mono ?_; rintro e w3 ⟨rfl, hM3, hg3⟩; have HM3 := Aside0.mk hM3; have HG3 := Aside0.mk hg3; clear hM3 hg3))
        have HJ3 : Aside0 (w.grownBy w3 (some mb)) := ⟨(HJ.out.2.1.andThen (row' := none) (grown_below HB2.out) (by simp)).andThen HG3.out (fun j hj => .inr hj)⟩
        have HR3 : Aside0 ((Kd.int .i64).R 3 w3 w0.heap.size (fun k => w.heap.size ≤ k) (.slice (some ad) PS.length n1) (ints PS)) := ⟨by
          have h1 := Kd.R_below HJ.out.2.2 HB2.out
          have h2 : (Kd.int .i64).R 3 w2 w0.heap.size (fun k => w.heap.size ≤ k ∧ k ≠ mb) (.slice (some ad) PS.length n1) (ints PS) := Kd.R_mono (Kd.R_bound h1) (fun k hk => ⟨hk.1, by have := HMW.out; omega⟩)
          exact Kd.R_mono (Kd.R_grown h2 HG3.out (fun k hk e => hk.2 (Option.some.inj e))) (fun k hk => hk.1)⟩
        go_roundg (PS.length - (i + 1))
        case measure => have := HK.out; omega
        case rel => exact ⟨i + 1, by go_num, by rw [HSN.out, ← IntWalk.i64_left], ⟨by omega⟩, ⟨HM3.out, HJ3.out, HR3.out⟩⟩
      · have HV2 : Aside0 (sumW L s (PS.take i) = waysOf L s) := ⟨by rw [HV.out, List.take_of_length_le (by omega)]⟩
        obtain ⟨n2, D2, hn2, hown2, hD2⟩ := HJ.out.1.open_
        have HO2 := Aside0.mk hown2
        have HD2 := Aside0.mk hD2
        have HN2 := Aside0.mk hn2
        have HIN : Aside0 ((Lit.int .i64 (waysOf L s)).wf = true) := ⟨by rw [← HV2.out]; have := sumW_in L s (PS.take i); exact wf_i64 this.1 this.2⟩
        clear hown2 hD2 hn2
        have d4 : wr.cell? ⟨wb, 5, none⟩ = some (.map (some mb)) := (blk_cell (HW.out.grown HJ.out.2.1).blk 5).trans rfl
        rw [HV2.out]
        go_wp2_with (first
          | (at_mapUpdate; refine wpList_mapUpdate_own (H := Unit) _ rfl _ _ _ 156 rfl 133 3 keyed133 Try.underlying156 (plainElem Try.prog 3) mb n2 D2 rfl HO2.out HN2.out (.int .u32 (s : Int)) (.int .i64 (waysOf L s)) (.int .u32 (s : Int)) rfl rfl (key_u32 hs32) (.lit (.int .i64 (waysOf L s))) [] (plainElem_int Try.underlying3 HIN.out) ?_; intro w5 hown5 hg5; have HO5 := Aside0.mk hown5; have HG5 := Aside0.mk hg5; clear hown5 hg5))
        go_ret
        exact ⟨rfl, Memo.close HO5.out (HD2.out.put hs32), HJ.out.2.1.andThen HG5.out (fun j hj => .inr hj)⟩
theorem orders_calls {w0 : World} {wb mb : Nat} {L : List S57} {c : Int} {A0 : Option Addr} {c0 : Nat} {vn vb : Value} (hF : Fine L) : ∀ (k s : Nat), missing L.length s ≤ k → s < 2 ^ L.length → ∀ w, Work w0 w wb mb L c A0 c0 vn vb → Memo w mb (waysOf L) →
    Calls Try.prog 93 #[.pointer (some ⟨wb, 0, none⟩), .int .u32 (s : Int)] w fun e w' => e = .returned (.int .i64 (waysOf L s)) ∧ Memo w' mb (waysOf L) ∧ w.grownBy w' (some mb) := by
  intro k
  induction k with
  | zero =>
    intro s hk hs w hW hM
    refine orders_walk hF s hs (fun p hp => ?_) hW hM
    have h1 := partsOf_mem hp
    have := missing_with h1.1 h1.2.1
    omega
  | succ k ih =>
    intro s hk hs w hW hM
    refine orders_walk hF s hs (fun p hp W hW1 hM1 => ?_) hW hM
    have h1 := partsOf_mem hp
    have := missing_with h1.1 h1.2.1
    exact ih _ (by omega) (with_lt hs h1.1) W hW1 hM1
end Go.Proofs.Ytbcfphoheijmdaa.Print
end

section
/- The work of a kit while it is made: two rows that grow side by side. -/
namespace Go.Proofs.Ytbcfphoheijmdaa.Print
open Go.RowKit Go.Proofs.YtbcfphoheijmdaaW.PrintWords Go.Proofs.YtbcfphoheijmdaaW.PrintLast Go.Proofs.YtbcfphoheijmdaaW.PrintMore Go.Proofs.Ytbcfphoheijmdaa.H
set_option linter.unusedVariables false
set_option linter.unusedSimpArgs false

theorem info133 : (Try.prog.info? 133).map (fun i => (i.zero, i.size, i.bytes)) = some (some (.int .u32 0), 1, 4) := by kernel_rfl
/-- Two rows of sets, side by side; the blocks l; an empty map; single sets q that are to be appended. -/
structure Bg (w0 W : World) (l : List (Nat × Array Value × TypeId)) (mb : Nat) (vn : Value) (xs : List Int) (vb : Value) (ys : List Int) (q : List (Nat × Int)) : Prop where
  mem : Mem w0 W l
  types : ∀ p, p ∈ l → 133 ≠ p.2.2
  map : W.heap[mb]? = some (.map #[] 0)
  gem : w0.heap.size ≤ mb
  rn : (Kd.int .u32).R 133 W w0.heap.size (fun _ => True) vn xs
  rb : (Kd.int .u32).R 133 W w0.heap.size (fun _ => True) vb ys
  sep : ∀ k, vn.ownBlock = some k → some k ≠ vb.ownBlock
  src : ∀ p, p ∈ q → W.heap[p.1]? = some (.cells #[.int .u32 p.2] 133 (0, 0)) ∧ some p.1 ≠ vn.ownBlock ∧ some p.1 ≠ vb.ownBlock
namespace Bg
variable {w0 W W1 : World} {l : List (Nat × Array Value × TypeId)} {mb : Nat} {vn vb v1 : Value} {xs ys : List Int} {q : List (Nat × Int)}
theorem later (h : Bg w0 W l mb vn xs vb ys q) (hb : Below W.heap.size W W1) : Bg w0 W1 l mb vn xs vb ys q :=
  ⟨h.mem.step hb, h.types, blk_below h.map hb, h.gem, Kd.R_below h.rn hb, Kd.R_below h.rb hb, h.sep, fun p hp => ⟨blk_below (h.src p hp).1 hb, (h.src p hp).2⟩⟩
theorem swap (h : Bg w0 W l mb vn xs vb ys q) : Bg w0 W l mb vb ys vn xs q :=
  ⟨h.mem, h.types, h.map, h.gem, h.rb, h.rn, fun k hk e => h.sep k e.symm hk.symm, fun p hp => ⟨(h.src p hp).1, (h.src p hp).2.2, (h.src p hp).2.1⟩⟩
theorem mapNe (h : (Kd.int .u32).R 133 W w0.heap.size (fun _ => True) vn xs) (hm : W.heap[mb]? = some (.map #[] 0)) : some mb ≠ vn.ownBlock := fun e => by
  obtain ⟨cells, hc⟩ := Kd.R_typed h mb e.symm
  rw [hm] at hc
  exact absurd hc (by simp)
theorem built (h : Bg w0 W l mb vn xs vb ys q) (x : Int) : Bg w0 (W.alloc (.cells #[.int .u32 x] 133)) l mb vn xs vb ys ((W.heap.size, x) :: q) := by
  have h1 := h.later (below_alloc (Below.refl _ _) (.cells #[.int .u32 x] 133))
  refine ⟨h1.mem, h1.types, h1.map, h1.gem, h1.rn, h1.rb, h1.sep, fun p hp => ?_⟩
  rcases List.mem_cons.1 hp with rfl | hp
  · exact ⟨blk_new W _, fun e => by have := Kd.R_lt h.rn _ e.symm; simp at this, fun e => by have := Kd.R_lt h.rb _ e.symm; simp at this⟩
  · exact h1.src p hp
theorem app (h : Bg w0 W l mb vn xs vb ys q) {x : Int} (hg : W.grownBy W1 vn.ownBlock) (hR : (Kd.int .u32).R 133 W1 w0.heap.size (fun _ => True) v1 (xs ++ [x])) (hat : v1.ownBlock = vn.ownBlock ∨ ∃ b, v1.ownBlock = some b ∧ W.heap.size ≤ b) : Bg w0 W1 l mb v1 (xs ++ [x]) vb ys q :=
  ⟨h.mem.grownR h.rn hg h.types, h.types, (hg.block mb (blk_lt h.map) (mapNe h.rn h.map)).trans h.map, h.gem, hR, Kd.R_grown2 h.rb rfl hg (fun k hk => h.sep k hk), fun k hk e => by
    rcases hat with q | ⟨b, q, hb⟩
    · exact h.sep k (q ▸ hk) e
    · have e1 : k = b := Option.some.inj (hk.symm.trans q)
      have := Kd.R_lt h.rb k e.symm
      omega, fun p hp => ⟨(hg.block _ (blk_lt (h.src p hp).1) (h.src p hp).2.1).trans (h.src p hp).1, fun e => by
    rcases hat with q | ⟨b, q, hb⟩
    · exact (h.src p hp).2.1 (e.trans q)
    · have e1 : p.1 = b := Option.some.inj (e.trans q)
      have := blk_lt (h.src p hp).1
      omega, (h.src p hp).2.2⟩⟩
theorem row {b : Nat} {x : Int} (h : Bg w0 W l mb vn xs vb ys q) (hm : (b, x) ∈ q) : ReadsRow (fun (x : Int) (cs : List Value) => cs = [.int .u32 x]) 1 W (some ⟨b, 0, none⟩) 1 [x] := by
  refine ⟨rfl, by omega, fun _ => ⟨_, rfl, fun j p hj => ?_⟩⟩
  cases j with
  | zero =>
    simp only [List.getElem?_cons_zero, Option.some.injEq] at hj
    subst hj
    refine ⟨_, rfl, rfl, fun i u hu => ?_⟩
    cases i with
    | zero =>
      simp only [List.getElem?_cons_zero, Option.some.injEq] at hu
      subst hu
      exact (blk_cell (h.src _ hm).1 0).trans rfl
    | succ i => simp at hu
  | succ j => simp at hj
end Bg
end Go.Proofs.Ytbcfphoheijmdaa.Print
end

section
/- begun: that the Go function's call makes the work of a kit. -/
namespace Go.Proofs.Ytbcfphoheijmdaa.Print
open Go.RowKit Go.Proofs.YtbcfphoheijmdaaW.PrintWords Go.Proofs.YtbcfphoheijmdaaW.PrintLast Go.Proofs.YtbcfphoheijmdaaW.PrintMore Go.Proofs.Ytbcfphoheijmdaa.H
attribute [local go_sem] max2_int min2_int max_two min_two max_three min_three max_four min_four
attribute [local go_sem ↓] Go.wp_at_zero Go.wp_at_succ
set_option linter.unusedVariables false
set_option linter.unusedSimpArgs false

theorem setsTo_next (L : List S57) (f : S57 → List Int) (i : Nat) : setsTo L f (i + 1) = setsTo L f i ++ [((setN (f (L.getD i z57)) : Nat) : Int)] := by
  unfold setsTo
  rw [List.range_succ, List.map_append]
  rfl
theorem Mem.add {w W W1 : World} {l : List (Nat × Array Value × TypeId)} {g : Nat} {cs : Array Value} {t : TypeId} (h : Mem w W l) (h2 : Mem W W1 [(g, cs, t)]) : Mem w W1 ((g, cs, t) :: l) := by
  refine ⟨below_step h.below h2.below, fun p hp => ?_, fun p hp => ?_, .cons (fun p hp => ?_) h.apart⟩
  · rcases List.mem_cons.1 hp with rfl | hp
    · exact h2.head
    · exact blk_below (h.blk p hp) h2.below
  · rcases List.mem_cons.1 hp with rfl | hp
    · exact Nat.le_trans h.below.size h2.geh
    · exact h.ge p hp
  · have := blk_lt (h.blk p hp)
    have := h2.geh
    show g ≠ p.1
    omega
theorem Bg.add {w0 W W1 : World} {l : List (Nat × Array Value × TypeId)} {mb : Nat} {vn vb : Value} {xs ys : List Int} {q : List (Nat × Int)} {g : Nat} {cs : Array Value} {t : TypeId} (h : Bg w0 W l mb vn xs vb ys q) (h2 : Mem W W1 [(g, cs, t)]) (ht : 133 ≠ t) : Bg w0 W1 ((g, cs, t) :: l) mb vn xs vb ys q := by
  have h3 := h.later h2.below
  refine ⟨Mem.add h.mem h2, fun p hp => ?_, h3.map, h3.gem, h3.rn, h3.rb, h3.sep, h3.src⟩
  rcases List.mem_cons.1 hp with rfl | hp
  · exact ht
  · exact h.types p hp
theorem Bg.drop {w0 W : World} {l : List (Nat × Array Value × TypeId)} {p : Nat × Array Value × TypeId} {mb : Nat} {vn vb : Value} {xs ys : List Int} {q : List (Nat × Int)} (h : Bg w0 W (p :: l) mb vn xs vb ys q) : Bg w0 W l mb vn xs vb ys q :=
  ⟨h.mem.drop, fun p hp => h.types p (List.mem_cons_of_mem _ hp), h.map, h.gem, h.rn, h.rb, h.sep, h.src⟩
theorem Memo.of_map {W : World} {mb : Nat} {val : Nat → Int} (h : W.heap[mb]? = some (.map #[] 0)) : Memo W mb val := by
  obtain ⟨n, D, hn, ⟨es, clock, hb, F, hs, hD⟩, hM⟩ := Memo.made W val
  have hb2 : (W.alloc (.map #[] 0)).heap[W.heap.size]? = some (.map #[] 0) := blk_new W _
  rw [hb2] at hb
  injection hb with hb
  injection hb with e1 e2
  subst e1
  subst e2
  exact ⟨n, D, hn, ⟨#[], 0, h, F, hs, hD⟩, hM⟩
theorem cellsOf {w0 W : World} {l : List (Nat × Array Value × TypeId)} {mb g wb : Nat} {vn vb vn0 vb0 a b c d e f m n : Value} {xs ys : List Int} {q : List (Nat × Int)} (h : Bg w0 W ((g, #[a, b, c, d], 57) :: (wb, #[e, f, vn0, vb0, m, n], 158) :: l) mb vn xs vb ys q) :
    W.cell? ⟨wb, 2, none⟩ = some vn0 ∧ W.cell? ⟨wb, 3, none⟩ = some vb0 ∧ W.cell? ⟨g, 0, none⟩ = some a ∧ W.cell? ⟨g, 1, none⟩ = some b :=
  ⟨(blk_cell h.mem.second 2).trans rfl, (blk_cell h.mem.second 3).trans rfl, (h.mem.cell 0).trans rfl, (h.mem.cell 1).trans rfl⟩
theorem Bg.put2 {w0 W : World} {l : List (Nat × Array Value × TypeId)} {mb g wb : Nat} {vn vb vn0 vb0 e f m n v : Value} {cs : Array Value} {xs ys : List Int} {q : List (Nat × Int)} (h : Bg w0 W ((g, cs, 57) :: (wb, #[e, f, vn0, vb0, m, n], 158) :: l) mb vn xs vb ys q) (hv : v = vn) :
    Bg w0 (W.setCell ⟨wb, 2, none⟩ v) ((g, cs, 57) :: (wb, #[e, f, v, vb0, m, n], 158) :: l) mb vn xs vb ys q := by
  have hm := (h.mem.swap.put 2 v (cs' := #[e, f, v, vb0, m, n]) rfl).swap
  have hw : ∀ k, k ≠ wb → (W.setCell ⟨wb, 2, none⟩ v).heap[k]? = W.heap[k]? := fun k hk => Below.heap_setCell W ⟨wb, 2, none⟩ v k hk
  have hty : ∀ k cells, W.heap[k]? = some (.cells cells 133 (0, 0)) → k ≠ wb := fun k cells hc e => by
    subst e
    rw [h.mem.second] at hc
    simp at hc
  have hmb : mb ≠ wb := fun e => by
    have := h.map
    rw [e, h.mem.second] at this
    simp at this
  refine ⟨hm, fun p hp => ?_, (hw mb hmb).trans h.map, h.gem, Kd.R_mono (Kd.R_step (Kd.R_bound h.rn) (fun k hk _ => hw k ?_)) (fun _ _ => trivial), Kd.R_mono (Kd.R_step (Kd.R_bound h.rb) (fun k hk _ => hw k ?_)) (fun _ _ => trivial), h.sep, fun p hp => ⟨(hw _ (hty _ _ (h.src p hp).1)).trans (h.src p hp).1, (h.src p hp).2⟩⟩
  · have := h.types
    simp only [List.mem_cons] at hp this
    rcases hp with rfl | rfl | hp
    · exact this _ (.inl rfl)
    · show (133 : Nat) ≠ 158; decide
    · exact this _ (.inr (.inr hp))
  · obtain ⟨_, _, _, t, ht, cells, hc⟩ := hk
    have : t = 133 := by simpa [Kd.int, Kd.scalar] using ht
    subst this
    exact hty _ _ hc
  · obtain ⟨_, _, _, t, ht, cells, hc⟩ := hk
    have : t = 133 := by simpa [Kd.int, Kd.scalar] using ht
    subst this
    exact hty _ _ hc
theorem Bg.put3 {w0 W : World} {l : List (Nat × Array Value × TypeId)} {mb g wb : Nat} {vn vb vn0 vb0 e f m n v : Value} {cs : Array Value} {xs ys : List Int} {q : List (Nat × Int)} (h : Bg w0 W ((g, cs, 57) :: (wb, #[e, f, vn0, vb0, m, n], 158) :: l) mb vn xs vb ys q) (hv : v = vb) :
    Bg w0 (W.setCell ⟨wb, 3, none⟩ v) ((g, cs, 57) :: (wb, #[e, f, vn0, v, m, n], 158) :: l) mb vn xs vb ys q := by
  have hm := (h.mem.swap.put 3 v (cs' := #[e, f, vn0, v, m, n]) rfl).swap
  have hw : ∀ k, k ≠ wb → (W.setCell ⟨wb, 3, none⟩ v).heap[k]? = W.heap[k]? := fun k hk => Below.heap_setCell W ⟨wb, 3, none⟩ v k hk
  have hty : ∀ k cells, W.heap[k]? = some (.cells cells 133 (0, 0)) → k ≠ wb := fun k cells hc e => by
    subst e
    rw [h.mem.second] at hc
    simp at hc
  have hmb : mb ≠ wb := fun e => by
    have := h.map
    rw [e, h.mem.second] at this
    simp at this
  refine ⟨hm, fun p hp => ?_, (hw mb hmb).trans h.map, h.gem, Kd.R_mono (Kd.R_step (Kd.R_bound h.rn) (fun k hk _ => hw k ?_)) (fun _ _ => trivial), Kd.R_mono (Kd.R_step (Kd.R_bound h.rb) (fun k hk _ => hw k ?_)) (fun _ _ => trivial), h.sep, fun p hp => ⟨(hw _ (hty _ _ (h.src p hp).1)).trans (h.src p hp).1, (h.src p hp).2⟩⟩
  · have := h.types
    simp only [List.mem_cons] at hp this
    rcases hp with rfl | rfl | hp
    · exact this _ (.inl rfl)
    · show (133 : Nat) ≠ 158; decide
    · exact this _ (.inr (.inr hp))
  · obtain ⟨_, _, _, t, ht, cells, hc⟩ := hk
    have : t = 133 := by simpa [Kd.int, Kd.scalar] using ht
    subst this
    exact hty _ _ hc
  · obtain ⟨_, _, _, t, ht, cells, hc⟩ := hk
    have : t = 133 := by simpa [Kd.int, Kd.scalar] using ht
    subst this
    exact hty _ _ hc
set_option maxHeartbeats 3200000 in
set_option maxRecDepth 100000 in
theorem begun_calls {w : World} {L : List S57} {c : Int} {A0 : Option Addr} {c0 : Nat} (hF : Fine L) (hH : Holds L) (hR : Kd.C k57 w A0 L.length L) (hc : L.length ≤ c0) :
    Calls Try.prog 92 #[.agg #[.slice A0 L.length c0, .int .i64 c]] w fun e w' => ∃ wb mb vn vb, e = .returned (.pointer (some ⟨wb, 0, none⟩)) ∧ Work w w' wb mb L c A0 c0 vn vb ∧ Memo w' mb (waysOf L) ∧ Below w.heap.size w w' := by
  have HR := Aside0.mk hR
  have HM := Aside0.mk (Mem.start w)
  have HH := Aside0.mk hH
  clear hR hH
  have hu49 := Try.underlying49
  have hu57 := Try.underlying57
  have hu158 := Try.underlying158
  have h14 := hF.short
  go_enter Try.func92, Try.ntmps92
  go_wp2_with (first
    | ((with_reducible refine gate_dst (N := 1) rfl ?_); refine ev_box HM.out rfl 49 (.tmp 0) rfl (cs := #[.slice A0 L.length c0, .int .i64 c]) rfl ?_; intro g1 w1 hm1 hq1; clear hq1; have HM1 := Aside0.mk hm1; clear hm1 HM; have c1 : w1.cell? ⟨g1, 0, none⟩ = some (.slice A0 L.length c0) := (HM1.out.cell 0).trans rfl; have c2 : w1.cell? ⟨g1, 1, none⟩ = some (.int .i64 c) := (HM1.out.cell 1).trans rfl))
  have i0 : (0 : Int) ≤ (L.length : Int) := by omega
  have i1 : (L.length : Int) ≤ 32 := by omega
  have hmk := fun W => run_makeMap (P := Try.prog) 156 W
  have hp2 : (2 : Nat) ^ L.length ≤ 2 ^ 14 := hF.small
  have hp1 : 0 < (2 : Nat) ^ L.length := Nat.two_pow_pos _
  have u1 : IntKind.u32.wrap (2 ^ L.length) = ((2 ^ L.length : Nat) : Int) := by
    have := wrap_u32 (a := 2 ^ L.length) (by omega)
    rw [Int.natCast_pow] at this ⊢
    exact this
  have u2 : IntKind.u32.wrap (((2 ^ L.length : Nat) : Int) - 1) = ((2 ^ L.length - 1 : Nat) : Int) := by
    have := wrap_u32 (a := 2 ^ L.length - 1) (by omega)
    rw [show (((2 ^ L.length : Nat) : Int) - 1) = ((2 ^ L.length - 1 : Nat) : Int) by omega]
    exact this
  generalize hALL : 2 ^ L.length - 1 = ALL at u2
  have HALL := Aside0.mk hALL
  clear hALL
  generalize hALL0 : ((2 ^ L.length : Nat) : Int) = ALL0 at u1 u2
  clear hALL0 hp1 hp2
  go_region_held3 (fun w' => w'.cell? ⟨g1, 0, none⟩ = some (.slice A0 L.length c0) ∧ w'.cell? ⟨g1, 1, none⟩ = some (.int .i64 c)) (first | exact ⟨c1, c2⟩ | exact ⟨(HM1.out.drew.alloc _).cell 0, (HM1.out.drew.alloc _).cell 1⟩ | exact ⟨((HM1.out.drew.alloc _).alloc _).cell 0, ((HM1.out.drew.alloc _).alloc _).cell 1⟩) (fail)
  clear hmk
  go_wp2_with fail
  have HB0 : Aside0 (Bg w (((w1.alloc (Obj.map #[] 0)).alloc (Obj.cells #[Value.slice A0 L.length c0, Value.int IntKind.i64 c, Value.slice none 0 0, Value.slice none 0 0, Value.int IntKind.u32 ↑ALL, Value.map (some w1.heap.size)] 158)).drew) [(w1.heap.size + 1, #[Value.slice A0 L.length c0, Value.int IntKind.i64 c, Value.slice none 0 0, Value.slice none 0 0, Value.int IntKind.u32 ↑ALL, Value.map (some w1.heap.size)], 158), (g1, #[.slice A0 L.length c0, .int .i64 c], 49)] w1.heap.size (.slice none 0 0) (setsTo L S57.f0 0) (.slice none 0 0) (setsTo L S57.f1 0) []) := ⟨by
    have h1 := HM1.out.alloc (Obj.map #[] 0)
    have h2 := (h1.new (g := w1.heap.size + 1) (by simp) (by have := blk_new (w1.alloc (Obj.map #[] 0)) (Obj.cells #[Value.slice A0 L.length c0, Value.int IntKind.i64 c, Value.slice none 0 0, Value.slice none 0 0, Value.int IntKind.u32 ↑ALL, Value.map (some w1.heap.size)] 158); simpa using this) (below_alloc (Below.refl _ _) _)).drew
    exact ⟨h2, by simp, by have := blk_new w1 (Obj.map #[] 0); exact (blk_below (blk_below this (below_alloc (Below.refl _ _) _)) (below_drew1 (Below.refl _ _))), HM1.out.below.size, Kd.R_nil _ _ _ _ _, Kd.R_nil _ _ _ _ _, by simp [Value.ownBlock], by simp⟩⟩
  have HMZ := Aside0.mk (show w1.heap.size ≠ w1.heap.size + 1 by omega)
  generalize w1.heap.size + 1 = wb at HB0 HMZ
  generalize w1.heap.size = mb at HB0 HMZ
  go_loopg [18] L.length (fun k v18 w' => ∃ (i : Nat) (vn vb : Value) (q : List (Nat × Int)), v18 = .int .i64 i ∧ Aside0 (i + k = L.length) ∧ Aside0 (Bg w w' [(wb, #[Value.slice A0 L.length c0, Value.int IntKind.i64 c, vn, vb, Value.int IntKind.u32 ↑ALL, Value.map (some mb)], 158), (g1, #[.slice A0 L.length c0, .int .i64 c], 49)] mb vn (setsTo L S57.f0 i) vb (setsTo L S57.f1 i) q))
  case atStart => exact ⟨0, _, _, [], rfl, ⟨by omega⟩, HB0⟩
  case round =>
    clear HB0 HM1 c1 c2
    obtain ⟨i, vn, vb, q, rfl, HK, HBG⟩ := hrel
    by_cases hi : i < L.length
    · obtain ⟨ad, A3, c3, A4, c4, e0, x0, x1, x2, x3, b0, h0, b1, h1⟩ := at57 HR.out i hi
      cases e0
      have HXN := Aside0.mk (setsTo_next L S57.f0 i)
      have HXB := Aside0.mk (setsTo_next L S57.f1 i)
      have HEN := Aside0.mk (setOf_eq (L.getD i z57).f0 (fun p hp => by have := hF.needs i hi p hp; omega) (by have := HH.out (L.getD i z57) (by rw [List.getD_eq_getElem?_getD, List.getElem?_eq_getElem hi]; exact List.getElem_mem _); omega))
      have HEB := Aside0.mk (setOf_eq (L.getD i z57).f1 (fun p hp => by have := hF.bars i hi p hp; omega) (by have := HH.out (L.getD i z57) (by rw [List.getD_eq_getElem?_getD, List.getElem?_eq_getElem hi]; exact List.getElem_mem _); omega))
      generalize L.getD i z57 = X at x0 x1 x2 x3 b0 h0 b1 h1 HXN HXB HEN HEB
      generalize ((setN X.f0 : Nat) : Int) = xn at HXN HEN
      generalize ((setN X.f1 : Nat) : Int) = xb at HXB HEB
      have HCN := Aside0.mk (fun W (hB : Below w.heap.size w W) => mount_setOf.calls _ A3 c3 X.f0 xn W (Kd.C_below h0 hB) b0 HEN.out)
      have HCB := Aside0.mk (fun W (hB : Below w.heap.size w W) => mount_setOf.calls _ A4 c4 X.f1 xb W (Kd.C_below h1 hB) b1 HEB.out)
      clear h0 h1 b0 b1
      replace x0 := cell_later HBG.out.mem.below x0
      replace x1 := cell_later HBG.out.mem.below x1
      replace x2 := cell_later HBG.out.mem.below x2
      replace x3 := cell_later HBG.out.mem.below x3
      have hk1 : (0 : Int) ≤ (i : Int) := by omega
      have hk2 : (i : Int) < (L.length : Int) := by omega
      have HMR := Aside0.mk (Mem.start wr)
      go_wp2_with (first
        | ((with_reducible refine gate_dst (N := 5) rfl ?_); refine ev_new HMR.out rfl 57 rfl info57 ?_; intro g3 w3 hm3 hq1; have HM6 := Aside0.mk hm3; clear hm3 hq1 HMR)
        | (refine ev_store HM6.out rfl 57 (.tmp 5) (.tmp 21) rfl rfl (cs := #[.slice A3 X.f0.length c3, .slice A4 X.f1.length c4, .int .i64 X.f2, .int .i64 X.f3]) rfl size57 rfl rfl (by simp [Value.oneCell']) ?_; intro w4 hm4 hq2; have HBG := Aside0.mk (HBG.out.add hm4 (by decide)); clear hm4 hq2 HM6))
      clear x0 x1 x2 x3
      have HBG := Aside0.mk (HBG.out.later (below_drew1 (Below.refl _ _)))
      refine wp_region_noPanic ?_
      refine H.wp_region_T [22, 25] (S := fun w' => w'.cell? ⟨wb, 2, none⟩ = some vn ∧ w'.cell? ⟨wb, 3, none⟩ = some vb ∧ w'.cell? ⟨g3, 0, none⟩ = some (.slice A3 X.f0.length c3) ∧ w'.cell? ⟨g3, 1, none⟩ = some (.slice A4 X.f1.length c4)) (by kernel_rfl) (cellsOf HBG.out) (fun hHeld => ?_)
      clear hi
      refine H.wpAnyT_takeY (i := 0) (v := .pointer (some ⟨wb, 0, none⟩)) rfl (by decide) (by kernel_rfl) (by kernel_rfl) (by kernel_rfl) (fun _ _ _ h => h) (Or.inl ⟨by rfl, ?_⟩) hHeld ?_
      · (intro w_ hSw; go_simp; try rfl)
      try simp only [Act.put, List.setIfInBounds_toArray, List.set_cons_zero, List.set_cons_succ]
      refine H.wpAnyT_takeY (i := 1) (v := .pointer (some ⟨wb, 0, none⟩)) rfl (by decide) (by kernel_rfl) (by kernel_rfl) (by kernel_rfl) (fun _ _ _ h => h) (Or.inl ⟨by rfl, ?_⟩) hHeld ?_
      · (intro w_ hSw; go_simp; try rfl)
      try simp only [Act.put, List.setIfInBounds_toArray, List.set_cons_zero, List.set_cons_succ]
      refine H.wpAnyT_takeY (i := 2) (v := .pointer (some ⟨wb, 0, none⟩)) rfl (by decide) (by kernel_rfl) (by kernel_rfl) (by kernel_rfl) (fun _ _ _ h => h) (Or.inl ⟨by rfl, ?_⟩) hHeld ?_
      · (intro w_ hSw; go_simp; try rfl)
      try simp only [Act.put, List.setIfInBounds_toArray, List.set_cons_zero, List.set_cons_succ]
      refine H.wpAnyT_takeY (i := 3) (v := .pointer (some ⟨wb, 0, none⟩)) rfl (by decide) (by kernel_rfl) (by kernel_rfl) (by kernel_rfl) (fun _ _ _ h => h) (Or.inl ⟨by rfl, ?_⟩) hHeld ?_
      · (intro w_ hSw; go_simp; try rfl)
      try simp only [Act.put, List.setIfInBounds_toArray, List.set_cons_zero, List.set_cons_succ]
      refine H.wpAnyT_takeY (i := 4) (v := .pointer (some ⟨wb, 2, none⟩)) rfl (by decide) (by kernel_rfl) (by kernel_rfl) (by kernel_rfl) (fun _ _ _ h => h) (Or.inl ⟨by rfl, ?_⟩) hHeld ?_
      · (intro w_ hSw; go_simp; try rfl)
      try simp only [Act.put, List.setIfInBounds_toArray, List.set_cons_zero, List.set_cons_succ]
      refine H.wpAnyT_take (i := 5) (v := vn) rfl (by decide) (by kernel_rfl) (by kernel_rfl) (by kernel_rfl) (by kernel_rfl) (fun _ _ _ h => h) (Or.inl ⟨by rfl, ?_⟩) hHeld ?_
      · (intro w_ hSw; (try dsimp only at hSw); obtain ⟨q1, q2, q3, q4⟩ := hSw; go_simp; try rfl)
      try simp only [Act.put, List.setIfInBounds_toArray, List.set_cons_zero, List.set_cons_succ]
      refine H.wpAnyT_takeY (i := 6) (v := .pointer (some ⟨g3, 0, none⟩)) rfl (by decide) (by kernel_rfl) (by kernel_rfl) (by kernel_rfl) (fun _ _ _ h => h) (Or.inl ⟨by rfl, ?_⟩) hHeld ?_
      · (intro w_ hSw; go_simp; try rfl)
      try simp only [Act.put, List.setIfInBounds_toArray, List.set_cons_zero, List.set_cons_succ]
      refine H.wpAnyT_take (i := 7) (v := .slice A3 X.f0.length c3) rfl (by decide) (by kernel_rfl) (by kernel_rfl) (by kernel_rfl) (by kernel_rfl) (fun _ _ _ h => h) (Or.inl ⟨by rfl, ?_⟩) hHeld ?_
      · (intro w_ hSw; (try dsimp only at hSw); obtain ⟨q1, q2, q3, q4⟩ := hSw; go_simp; try rfl)
      try simp only [Act.put, List.setIfInBounds_toArray, List.set_cons_zero, List.set_cons_succ]
      refine H.wpAnyT_takeY (i := 11) (v := .pointer (some ⟨wb, 0, none⟩)) rfl (by decide) (by kernel_rfl) (by kernel_rfl) (by kernel_rfl) (fun _ _ _ h => h) (Or.inl ⟨by rfl, ?_⟩) hHeld ?_
      · (intro w_ hSw; go_simp; try rfl)
      try simp only [Act.put, List.setIfInBounds_toArray, List.set_cons_zero, List.set_cons_succ]
      refine H.wpAnyT_takeY (i := 12) (v := .pointer (some ⟨wb, 0, none⟩)) rfl (by decide) (by kernel_rfl) (by kernel_rfl) (by kernel_rfl) (fun _ _ _ h => h) (Or.inl ⟨by rfl, ?_⟩) hHeld ?_
      · (intro w_ hSw; go_simp; try rfl)
      try simp only [Act.put, List.setIfInBounds_toArray, List.set_cons_zero, List.set_cons_succ]
      refine H.wpAnyT_takeY (i := 13) (v := .pointer (some ⟨wb, 3, none⟩)) rfl (by decide) (by kernel_rfl) (by kernel_rfl) (by kernel_rfl) (fun _ _ _ h => h) (Or.inl ⟨by rfl, ?_⟩) hHeld ?_
      · (intro w_ hSw; go_simp; try rfl)
      try simp only [Act.put, List.setIfInBounds_toArray, List.set_cons_zero, List.set_cons_succ]
      refine H.wpAnyT_take (i := 14) (v := vb) rfl (by decide) (by kernel_rfl) (by kernel_rfl) (by kernel_rfl) (by kernel_rfl) (fun _ _ _ h => h) (Or.inl ⟨by rfl, ?_⟩) hHeld ?_
      · (intro w_ hSw; (try dsimp only at hSw); obtain ⟨q1, q2, q3, q4⟩ := hSw; go_simp; try rfl)
      try simp only [Act.put, List.setIfInBounds_toArray, List.set_cons_zero, List.set_cons_succ]
      refine H.wpAnyT_takeY (i := 15) (v := .pointer (some ⟨g3, 1, none⟩)) rfl (by decide) (by kernel_rfl) (by kernel_rfl) (by kernel_rfl) (fun _ _ _ h => h) (Or.inl ⟨by rfl, ?_⟩) hHeld ?_
      · (intro w_ hSw; go_simp; try rfl)
      try simp only [Act.put, List.setIfInBounds_toArray, List.set_cons_zero, List.set_cons_succ]
      refine H.wpAnyT_take (i := 16) (v := .slice A4 X.f1.length c4) rfl (by decide) (by kernel_rfl) (by kernel_rfl) (by kernel_rfl) (by kernel_rfl) (fun _ _ _ h => h) (Or.inl ⟨by rfl, ?_⟩) hHeld ?_
      · (intro w_ hSw; (try dsimp only at hSw); obtain ⟨q1, q2, q3, q4⟩ := hSw; go_simp; try rfl)
      try simp only [Act.put, List.setIfInBounds_toArray, List.set_cons_zero, List.set_cons_succ]
      refine H.wpAnyT_ready (rs := [8]) (by kernel_rfl) (by simp) ?_
      refine H.AllT.cons (i := 8) rfl (by decide) (fun K hK => ?_) H.AllT.nil
      go_simp
      go_at_call 134
      refine (HCN.out _ HBG.out.mem.below).mono ?_
      rintro e W5n ⟨rfl, hd⟩
      have HBG := Aside0.mk (HBG.out.later hd.below)
      refine hK.out _ _ (cellsOf HBG.out) (fun hHeld => ?_)
      clear hK K
      try simp only [Act.put, List.setIfInBounds_toArray, List.set_cons_zero, List.set_cons_succ]
      refine H.wpAnyT_ready (rs := [9]) (by kernel_rfl) (by simp) ?_
      refine H.AllT.cons (i := 9) rfl (by decide) (fun K hK => ?_) H.AllT.nil
      go_simp
      have HBG := Aside0.mk (HBG.out.built xn)
      refine hK.out _ _ (cellsOf HBG.out) (fun hHeld => ?_)
      clear hK K
      try simp only [Act.put, List.setIfInBounds_toArray, List.set_cons_zero, List.set_cons_succ]
      refine H.wpAnyT_ready (rs := [10]) (by kernel_rfl) (by simp) ?_
      refine H.AllT.cons (i := 10) rfl (by decide) (fun K hK => ?_) H.AllT.nil
      refine Kd.R_append_rows_step (Kd.int .u32) (Rr := fun (x : Int) (cs : List Value) => cs = [.int .u32 x]) (w0 := w) w.heap.size (by rfl) (.tmp 27) (.tmp 31) 155 133 (.int .u32 0) 4 rfl Try.underlying155 info133 rfl (by decide) (by omega) vn _ [xn] _ 1 1 (fun _ => True) (fun _ => False) (by rfl) (by rfl) HBG.out.rn (HBG.out.row (x := xn) (by simp)) (fun x cs h => h) (fun _ hk => hk.elim) (fun _ _ => trivial) HBG.out.mem.below HBG.out.mem.below.size (by simp only [setsTo, List.length_map, List.length_range]; omega) ?_
      intro vn1 W6n hR6 hB6 hg6 hat6
      have HBG := Aside0.mk (HBG.out.app hg6 hR6 hat6)
      clear hR6 hB6 hg6 hat6
      refine hK.out _ _ (cellsOf HBG.out) (fun hHeld => ?_)
      clear hK K
      try simp only [Act.put, List.setIfInBounds_toArray, List.set_cons_zero, List.set_cons_succ]
      refine H.wpAnyT_ready (rs := [17]) (by kernel_rfl) (by simp) ?_
      refine H.AllT.cons (i := 17) rfl (by decide) (fun K hK => ?_) H.AllT.nil
      go_simp
      go_at_call 134
      refine (HCB.out _ HBG.out.mem.below).mono ?_
      rintro e W5b ⟨rfl, hd⟩
      have HBG := Aside0.mk (HBG.out.later hd.below)
      refine hK.out _ _ (cellsOf HBG.out) (fun hHeld => ?_)
      clear hK K
      try simp only [Act.put, List.setIfInBounds_toArray, List.set_cons_zero, List.set_cons_succ]
      refine H.wpAnyT_ready (rs := [18]) (by kernel_rfl) (by simp) ?_
      refine H.AllT.cons (i := 18) rfl (by decide) (fun K hK => ?_) H.AllT.nil
      go_simp
      have HBG := Aside0.mk (HBG.out.built xb)
      refine hK.out _ _ (cellsOf HBG.out) (fun hHeld => ?_)
      clear hK K
      try simp only [Act.put, List.setIfInBounds_toArray, List.set_cons_zero, List.set_cons_succ]
      refine H.wpAnyT_ready (rs := [19]) (by kernel_rfl) (by simp) ?_
      refine H.AllT.cons (i := 19) rfl (by decide) (fun K hK => ?_) H.AllT.nil
      refine Kd.R_append_rows_step (Kd.int .u32) (Rr := fun (x : Int) (cs : List Value) => cs = [.int .u32 x]) (w0 := w) w.heap.size (by rfl) (.tmp 36) (.tmp 40) 155 133 (.int .u32 0) 4 rfl Try.underlying155 info133 rfl (by decide) (by omega) vb _ [xb] _ 1 1 (fun _ => True) (fun _ => False) (by rfl) (by rfl) HBG.out.swap.rn (HBG.out.swap.row (x := xb) (by simp)) (fun x cs h => h) (fun _ hk => hk.elim) (fun _ _ => trivial) HBG.out.mem.below HBG.out.mem.below.size (by simp only [setsTo, List.length_map, List.length_range]; omega) ?_
      intro vb1 W6b hR6 hB6 hg6 hat6
      have HBG := Aside0.mk (HBG.out.swap.app hg6 hR6 hat6).swap
      clear hR6 hB6 hg6 hat6
      refine hK.out _ _ (cellsOf HBG.out) (fun hHeld => ?_)
      clear hK K
      try simp only [Act.put, List.setIfInBounds_toArray, List.set_cons_zero, List.set_cons_succ]
      obtain ⟨An, cn, rfl⟩ := Kd.R_slice HBG.out.rn
      obtain ⟨Ab, cb, rfl⟩ := Kd.R_slice HBG.out.rb
      simp only [List.length_append, List.length_cons, List.length_nil, Nat.zero_add] at HBG
      refine H.wpAnyT_takeY (i := 20) (v := .pointer (some ⟨wb, 0, none⟩)) rfl (by decide) (by kernel_rfl) (by kernel_rfl) (by kernel_rfl) (fun _ _ _ h => h) (Or.inl ⟨by rfl, ?_⟩) hHeld ?_
      · (intro w_ hSw; go_simp; try rfl)
      try simp only [Act.put, List.setIfInBounds_toArray, List.set_cons_zero, List.set_cons_succ]
      refine H.wpAnyT_takeY (i := 21) (v := .pointer (some ⟨wb, 2, none⟩)) rfl (by decide) (by kernel_rfl) (by kernel_rfl) (by kernel_rfl) (fun _ _ _ h => h) (Or.inl ⟨by rfl, ?_⟩) hHeld ?_
      · (intro w_ hSw; go_simp; try rfl)
      try simp only [Act.put, List.setIfInBounds_toArray, List.set_cons_zero, List.set_cons_succ]
      have f2 : W6b.frozen? ⟨wb, 2, none⟩ = false := blk_frozen HBG.out.mem.second _
      have s2 := hHeld.1
      refine H.wpAnyT_ready (rs := [22]) (by kernel_rfl) (by simp) ?_
      refine H.AllT.last (i := 22) rfl (by decide) (fun K hK => ?_) H.AllT.nil
      go_simp
      refine hK.out _ _ ?_
      clear hK K s2 f2
      have s4 := hHeld.2.1
      have f4 : W6b.frozen? ⟨wb, 3, none⟩ = false := blk_frozen HBG.out.mem.second _
      clear hHeld
      try simp only [Act.put, List.setIfInBounds_toArray, List.set_cons_zero, List.set_cons_succ]
      have HP := Aside0.mk (HBG.out.put2 rfl)
      have f3 := blk_frozen HP.out.mem.second 3
      have s3 := (blk_cell HP.out.mem.second 3).trans rfl
      refine wpAny_take (i := 23) (v := .pointer (some ⟨wb, 0, none⟩)) rfl (by kernel_rfl) (by kernel_rfl) (by kernel_rfl) (fun _ _ _ h => h) (Or.inl ⟨by rfl, ?_⟩) ?_
      · (intro w_; go_simp; try rfl)
      try simp only [Act.put, List.setIfInBounds_toArray, List.set_cons_zero, List.set_cons_succ]
      refine wpAny_take (i := 24) (v := .pointer (some ⟨wb, 3, none⟩)) rfl (by kernel_rfl) (by kernel_rfl) (by kernel_rfl) (fun _ _ _ h => h) (Or.inl ⟨by rfl, ?_⟩) ?_
      · (intro w_; go_simp; try rfl)
      try simp only [Act.put, List.setIfInBounds_toArray, List.set_cons_zero, List.set_cons_succ]
      refine wpAny_ready (rs := [25]) (by kernel_rfl) (by simp) ?_
      refine AllReady.cons (i := 25) rfl (fun K hK => ?_) AllReady.nil
      have HKK := Aside0.mk hK
      clear hK
      go_simp
      refine HKK.out _ _ ?_
      clear HKK s3 f3 s4 f4
      try simp only [Act.put, List.setIfInBounds_toArray, List.set_cons_zero, List.set_cons_succ]
      refine wpAny_done (by kernel_rfl) ?_ _
      have HQ := Aside0.mk (HP.out.put3 rfl)
      clear HP
      refine NoPanic.normal ?_
      go_wp2_with fail
      go_roundg (L.length - (i + 1))
      case measure => have := HK.out; omega
      case rel => exact ⟨i + 1, _, _, _, by go_num, ⟨by omega⟩, ⟨by rw [HXN.out, HXB.out]; exact HQ.out.drop⟩⟩
    · have HIL : Aside0 (i = L.length) := ⟨by have := HK.out; omega⟩
      go_wp2_with fail
      go_ret
      refine ⟨wb, mb, vn, vb, rfl, ?_, ?_, HBG.out.mem.below⟩
      · have hBB := HBG.out
        rw [HIL.out] at hBB
        refine ⟨by rw [HALL.out]; exact hBB.mem.head, ?_, ?_, HMZ.out.symm, hBB.mem.geh, hBB.gem, hBB.mem.below⟩
        · exact Kd.R_reok rfl hBB.rn (fun k hk => ⟨fun e => Kd.R_ne hBB.rn hBB.mem.head (by decide) (by rw [hk, e]), fun e => Bg.mapNe hBB.rn hBB.map (by rw [hk, e])⟩)
        · exact Kd.R_reok rfl hBB.rb (fun k hk => ⟨fun e => Kd.R_ne hBB.rb hBB.mem.head (by decide) (by rw [hk, e]), fun e => Bg.mapNe hBB.rb hBB.map (by rw [hk, e])⟩)
      · exact Memo.of_map HBG.out.map
end Go.Proofs.Ytbcfphoheijmdaa.Print
end

section
/- Orders: the Go function's call gives the number of orders of a kit. -/
namespace Go.Proofs.Ytbcfphoheijmdaa.Print
open Go.RowKit Go.Proofs.YtbcfphoheijmdaaW.PrintWords Go.Proofs.YtbcfphoheijmdaaW.PrintLast Go.Proofs.YtbcfphoheijmdaaW.PrintMore Go.Proofs.Ytbcfphoheijmdaa.H
attribute [local go_sem] max2_int min2_int max_two min_two max_three min_three max_four min_four
set_option linter.unusedVariables false
set_option linter.unusedSimpArgs false

theorem otherErr_ok {n own : Int} {l : List Int} {i : Nat} (h : otherErr n own l i = 0) : 0 ≤ l.getD i 0 ∧ l.getD i 0 ≤ n - 1 := by
  unfold otherErr at h
  split at h
  · omega
  · omega
theorem listed_ok {n own : Int} {l : List Int} (h : othersErr n own l = 0) : ∀ x, x ∈ l → 0 ≤ x ∧ x < n := by
  intro x hx
  obtain ⟨i, hi, rfl⟩ := List.mem_iff_getElem.1 hx
  have h1 := otherErr_ok (firstErr_zero h i hi)
  rw [List.getD_eq_getElem?_getD, List.getElem?_eq_getElem hi] at h1
  have h2 : 0 ≤ l[i] ∧ l[i] ≤ n - 1 := h1
  omega
theorem partErr_ok {n own : Int} {p : S57} (h : partErr n own p = 0) : (∀ x, x ∈ p.f0 → 0 ≤ x ∧ x < n) ∧ (∀ x, x ∈ p.f1 → 0 ≤ x ∧ x < n) ∧ 0 ≤ p.f2 ∧ p.f2 ≤ 8 ∧ 0 ≤ p.f3 ∧ p.f3 ≤ 10000 := by
  unfold partErr at h
  split at h
  · rename_i q
    exact absurd h q
  · rename_i q
    have q : firstErr (fun i => othersErr n own (listOf p i)) 2 = 0 := by
      by_cases z : firstErr (fun i => othersErr n own (listOf p i)) 2 = 0
      · exact z
      · exact absurd z q
    have z0 := firstErr_zero q 0 (by omega)
    have z1 := firstErr_zero q 1 (by omega)
    refine ⟨listed_ok z0, listed_ok z1, ?_⟩
    split at h
    · omega
    · omega
theorem kitErr_ok {L : List S57} {c : Int} (h : kitErr L c = 0) : L.length ≤ 14 ∧ 0 ≤ c ∧ c ≤ 10000 ∧ ∀ i, i < L.length → partErr L.length i (L.getD i z57) = 0 := by
  unfold kitErr at h
  split at h
  · omega
  · split at h
    · omega
    · exact ⟨by omega, by omega, by omega, firstErr_zero h⟩
theorem kitErr_fine {L : List S57} {c : Int} (h : kitErr L c = 0) : Fine L := by
  obtain ⟨h1, _, _, h2⟩ := kitErr_ok h
  exact ⟨h1, fun p hp x hx => (partErr_ok (h2 p hp)).1 x hx, fun p hp x hx => (partErr_ok (h2 p hp)).2.1 x hx⟩
def mount_Orders.f (l0_0 : List (S57)) (a0_1 : Int) : Option (Int × Int) := if Holds l0_0 then (if kitErr l0_0 a0_1 = 0 then some (waysOf l0_0 0, 0) else some (0, kitErr l0_0 a0_1)) else none
set_option maxHeartbeats 3200000 in
set_option maxRecDepth 100000 in
theorem mount_Orders.calls (A0_0 : Option Addr) (c0_0 : Nat) (l0_0 : List (S57)) (a0_1 : Int) (r1 : Int) (r2 : Int) (w : World) (hr0_0 : Kd.C k57 w A0_0 l0_0.length l0_0) (hc0_0 : l0_0.length ≤ c0_0) (h : mount_Orders.f l0_0 a0_1 = some (r1, r2)) :
    Calls Try.prog 30 #[.agg #[.slice A0_0 l0_0.length c0_0, .int .i64 a0_1]] w fun e w' => e = .returned (.tuple #[.int .i64 r1, .int .i64 r2]) ∧ Below w.heap.size w w' := by
  have HH : Holds l0_0 := by
    unfold mount_Orders.f at h
    split at h
    · assumption
    · exact absurd h (by simp)
  unfold mount_Orders.f at h
  rw [if_pos HH] at h
  have HR := Aside0.mk hr0_0
  have HM := Aside0.mk (Mem.start w)
  have hck : mount_CheckKit.f l0_0 a0_1 = some (kitErr l0_0 a0_1) := by unfold mount_CheckKit.f; rw [if_pos HH]
  have HCK := Aside0.mk (fun W (hB : Below w.heap.size w W) => mount_CheckKit.calls A0_0 c0_0 l0_0 a0_1 _ W (Kd.C_below hr0_0 hB) hc0_0 hck)
  have hu49 := Try.underlying49
  by_cases te : kitErr l0_0 a0_1 = 0
  · rw [if_pos te] at h
    have HF := Aside0.mk (Option.some.inj h)
    have HFI := kitErr_fine te
    have HBC := Aside0.mk (fun W (hB : Below w.heap.size w W) => begun_calls HFI HH (c := a0_1) (Kd.C_below hr0_0 hB) hc0_0)
    have HOC := Aside0.mk (fun (w0 W : World) (wb mb : Nat) (vn vb : Value) (hW : Work w0 W wb mb l0_0 a0_1 A0_0 c0_0 vn vb) (hM : Memo W mb (waysOf l0_0)) => orders_calls HFI _ 0 (Nat.le_refl _) (Nat.two_pow_pos _) W hW hM)
    rw [te] at HCK
    clear h te hr0_0 hck HFI
    go_enter Try.func30, Try.ntmps30
    go_wp2_with (first
      | ((with_reducible refine gate_dst (N := 1) rfl ?_); refine ev_box HM.out rfl 49 (.tmp 0) rfl (cs := #[.slice A0_0 l0_0.length c0_0, .int .i64 a0_1]) rfl ?_; intro g1 w1 hm1 hq1; clear hq1; have HM1 := Aside0.mk hm1; clear hm1 HM; have c1 : w1.cell? ⟨g1, 0, none⟩ = some (.slice A0_0 l0_0.length c0_0) := (HM1.out.cell 0).trans rfl; have c2 : w1.cell? ⟨g1, 1, none⟩ = some (.int .i64 a0_1) := (HM1.out.cell 1).trans rfl)
      | (go_at_call 40; refine (HCK.out _ HM1.out.below).mono ?_; rintro e w2 ⟨rfl, hd⟩; have HM2 := Aside0.mk (HM1.out.step hd); clear hd HM1 c1 c2; have c1 : w2.cell? ⟨g1, 0, none⟩ = some (.slice A0_0 l0_0.length c0_0) := (HM2.out.cell 0).trans rfl; have c2 : w2.cell? ⟨g1, 1, none⟩ = some (.int .i64 a0_1) := (HM2.out.cell 1).trans rfl)
      | (go_at_call 92; refine (HBC.out _ HM2.out.below).mono ?_; rintro e w3 ⟨wb, mb, vn, vb, rfl, hW3, hM3, hB3⟩; have HW3 := Aside0.mk hW3; have HM3 := Aside0.mk hM3; have HB3 := Aside0.mk hB3; clear hW3 hM3 hB3 c1 c2)
      | (go_at_call 93; refine (HOC.out _ _ _ _ _ _ HW3.out HM3.out).mono ?_; rintro e w4 ⟨rfl, hM4, hg4⟩; have HG4 := Aside0.mk hg4; clear hM4 hg4))
    go_ret2
    have e := HF.out
    injection e with e1 e2
    exact ⟨by rw [← e1, ← e2]; rfl, (HM2.out.step HB3.out).below.grown HG4.out (HM2.out.step HB3.out).below.size (fun k hk => by rw [← Option.some.inj hk]; exact Nat.le_trans HM2.out.below.size HW3.out.gem)⟩
  · rw [if_neg te] at h
    have HF := Aside0.mk (Option.some.inj h)
    have te1 : (kitErr l0_0 a0_1 != 0) = true := by simpa using te
    generalize kitErr l0_0 a0_1 = E at HF te1 HCK
    clear h te hr0_0 hck
    go_enter Try.func30, Try.ntmps30
    go_wp2_with (first
      | ((with_reducible refine gate_dst (N := 1) rfl ?_); refine ev_box HM.out rfl 49 (.tmp 0) rfl (cs := #[.slice A0_0 l0_0.length c0_0, .int .i64 a0_1]) rfl ?_; intro g1 w1 hm1 hq1; clear hq1; have HM1 := Aside0.mk hm1; clear hm1 HM; have c1 : w1.cell? ⟨g1, 0, none⟩ = some (.slice A0_0 l0_0.length c0_0) := (HM1.out.cell 0).trans rfl; have c2 : w1.cell? ⟨g1, 1, none⟩ = some (.int .i64 a0_1) := (HM1.out.cell 1).trans rfl)
      | (go_at_call 40; refine (HCK.out _ HM1.out.below).mono ?_; rintro e w2 ⟨rfl, hd⟩; have HM2 := Aside0.mk (HM1.out.step hd); clear hd HM1 c1 c2))
    go_ret2
    have e := HF.out
    injection e with e1 e2
    exact ⟨by rw [← e1, ← e2]; rfl, HM2.out.below⟩
end Go.Proofs.Ytbcfphoheijmdaa.Print
end

section
/- What the Go function thermionlaw04_awake does, as a Lean function, and that its call does so. Printed by a program of this work out of the translation. -/
namespace Go.Proofs.Ytbcfphoheijmdaa.Print
open Go.RowKit Go.Proofs.YtbcfphoheijmdaaW.PrintWords Go.Proofs.YtbcfphoheijmdaaW.PrintLast Go.Proofs.YtbcfphoheijmdaaW.PrintMore
attribute [local go_sem] max2_int min2_int max_two min_two max_three min_three max_four min_four
set_option linter.unusedVariables false
set_option linter.unusedSimpArgs false

/-! ### thermionlaw04_awake: function 21 -/
def thermionlaw04_awake.f (k : Nat)  : Option (Bool) := (thermionlaw04_chain.f).bind fun bt144 => ((mount_Tight.f bt144.1 bt144.2).bind fun bt148 => ((thermionlaw04_kit.f).bind fun bt152 => ((mount_Orders.f bt152.1 bt152.2).bind fun bt156 => (if bt148.2 = 0 then (if (bt148.1.length : Int) = 3 then (if 0 < (bt148.1.length : Int) then ((thermionlaw04_of.f 10 12).bind fun bt159 => ((thermionlaw04_of.f 17 18).bind fun bt161 => ((thermionkit_SameRanges.f k (rd_L6 bt148.1 0) (([(⟨0, 0⟩ : S32), (⟨bt159.1, bt159.2⟩ : S32), (⟨bt161.1, bt161.2⟩ : S32)] : List (S32)))).bind fun t166 => (if t166 = true then (if bt156.1 = 2 then (some (bt156.2 == 0)) else (some false)) else (some false))))) else (none)) else (some false)) else (some false)))))
theorem thermionlaw04_awake.mono : ∀ k, LeO (thermionlaw04_awake.f k ) (thermionlaw04_awake.f (k + 1) ) := by
 intro  k
 unfold thermionlaw04_awake.f
 repeat' first
   | (with_reducible exact thermionkit_SameRanges.mono _ _ _)
   | (with_reducible exact LeO.refl _)
   | (with_reducible exact LeO.none _)
   | (with_reducible refine LeO.ite ?_ ?_)
   | (with_reducible refine LeO.bind ?_ (fun _ => ?_))
   | exact thermionkit_SameRanges.mono _ _ _
   | exact LeO.none _
   | refine LeO.ite ?_ ?_
   | refine LeO.bind ?_ (fun _ => ?_)
def thermionlaw04_awake.T3 : Bool × List (List Nat × List Nat) := (true, [([], []), ([0], [0]), ([1], [1]), ([2], [2]), ([3, 2], [2, 3]), ([4, 2], [2, 4]), ([2, 5], [2, 5]), ([6, 2], [6]), ([7], [7]), ([8, 7], [7, 8]), ([9, 7], [7, 9]), ([7], [7]), ([7, 7], [7]), ([12, 7], [7]), ([11, 12, 13, 7], [7, 11, 12, 13]), ([10, 14, 13, 7], [7, 10, 14]), ([7, 15], [7, 15]), ([16, 15], [16]), ([17], [17]), ([18, 17], [17, 18]), ([17, 19], [17, 19]), ([20, 17], [20]), ([21], [21]), ([22, 21], [21, 22]), ([21, 23], [21, 23]), ([24, 21, 0, 1, 2, 3, 4, 5, 6, 7, 8, 9, 10, 11, 12, 13, 14, 15, 16, 17, 18, 19, 20, 21, 22, 23, 24], [24])])
def thermionlaw04_awake.B3 : List Nat := [0, 1, 3, 7, 15, 31, 63, 127, 255, 511, 1023, 255, 255, 4351, 14591, 32767, 65535, 131071, 262143, 524287, 1048575, 2097151, 4194303, 8388607, 16777215, 33554431]
theorem thermionlaw04_awake.tab3 : rtab .any (opsOf Try.f21 3) = thermionlaw04_awake.T3 := by kernel_rfl
theorem thermionlaw04_awake.bits3 : waitsOk thermionlaw04_awake.T3.2 thermionlaw04_awake.B3 = true := by kernel_rfl
set_option maxHeartbeats 8000000 in
set_option maxRecDepth 100000 in
theorem thermionlaw04_awake.calls (k : Nat)  (r : Bool) (w : World) (h : thermionlaw04_awake.f k  = some r) :
  Calls Try.prog 21 #[] w fun e w' => e = .returned (.bool r) ∧ Below w.heap.size w w' := by
 have hu32 := Try.underlying32
 have HB := Aside0.mk (Below.refl w.heap.size w)
 have H : ((thermionlaw04_chain.f).bind fun bt144 => ((mount_Tight.f bt144.1 bt144.2).bind fun bt148 => ((thermionlaw04_kit.f).bind fun bt152 => ((mount_Orders.f bt152.1 bt152.2).bind fun bt156 => (if bt148.2 = 0 then (if (bt148.1.length : Int) = 3 then (if 0 < (bt148.1.length : Int) then ((thermionlaw04_of.f 10 12).bind fun bt159 => ((thermionlaw04_of.f 17 18).bind fun bt161 => ((thermionkit_SameRanges.f k (rd_L6 bt148.1 0) (([(⟨0, 0⟩ : S32), (⟨bt159.1, bt159.2⟩ : S32), (⟨bt161.1, bt161.2⟩ : S32)] : List (S32)))).bind fun t166 => (if t166 = true then (if bt156.1 = 2 then (some (bt156.2 == 0)) else (some false)) else (some false))))) else (none)) else (some false)) else (some false)))))) = some r := h
 clear h
 replace H := Option.bind_eq_some_iff.mp H
 obtain ⟨⟨t144, t145⟩, A10, H⟩ := H
 replace H : ((mount_Tight.f t144 t145).bind fun bt148 => ((thermionlaw04_kit.f).bind fun bt152 => ((mount_Orders.f bt152.1 bt152.2).bind fun bt156 => (if bt148.2 = 0 then (if (bt148.1.length : Int) = 3 then (if 0 < (bt148.1.length : Int) then ((thermionlaw04_of.f 10 12).bind fun bt159 => ((thermionlaw04_of.f 17 18).bind fun bt161 => ((thermionkit_SameRanges.f k (rd_L6 bt148.1 0) (([(⟨0, 0⟩ : S32), (⟨bt159.1, bt159.2⟩ : S32), (⟨bt161.1, bt161.2⟩ : S32)] : List (S32)))).bind fun t166 => (if t166 = true then (if bt156.1 = 2 then (some (bt156.2 == 0)) else (some false)) else (some false))))) else (none)) else (some false)) else (some false))))) = some r := H
 have A1 := Aside0.mk A10
 clear A10
 replace H := Option.bind_eq_some_iff.mp H
 obtain ⟨⟨t148, t151⟩, A20, H⟩ := H
 replace H : ((thermionlaw04_kit.f).bind fun bt152 => ((mount_Orders.f bt152.1 bt152.2).bind fun bt156 => (if t151 = 0 then (if (t148.length : Int) = 3 then (if 0 < (t148.length : Int) then ((thermionlaw04_of.f 10 12).bind fun bt159 => ((thermionlaw04_of.f 17 18).bind fun bt161 => ((thermionkit_SameRanges.f k (rd_L6 t148 0) (([(⟨0, 0⟩ : S32), (⟨bt159.1, bt159.2⟩ : S32), (⟨bt161.1, bt161.2⟩ : S32)] : List (S32)))).bind fun t166 => (if t166 = true then (if bt156.1 = 2 then (some (bt156.2 == 0)) else (some false)) else (some false))))) else (none)) else (some false)) else (some false)))) = some r := H
 have A2 := Aside0.mk A20
 clear A20
 replace H := Option.bind_eq_some_iff.mp H
 obtain ⟨⟨t152, t155⟩, A30, H⟩ := H
 replace H : ((mount_Orders.f t152 t155).bind fun bt156 => (if t151 = 0 then (if (t148.length : Int) = 3 then (if 0 < (t148.length : Int) then ((thermionlaw04_of.f 10 12).bind fun bt159 => ((thermionlaw04_of.f 17 18).bind fun bt161 => ((thermionkit_SameRanges.f k (rd_L6 t148 0) (([(⟨0, 0⟩ : S32), (⟨bt159.1, bt159.2⟩ : S32), (⟨bt161.1, bt161.2⟩ : S32)] : List (S32)))).bind fun t166 => (if t166 = true then (if bt156.1 = 2 then (some (bt156.2 == 0)) else (some false)) else (some false))))) else (none)) else (some false)) else (some false))) = some r := H
 have A3 := Aside0.mk A30
 clear A30
 replace H := Option.bind_eq_some_iff.mp H
 obtain ⟨⟨t156, t157⟩, A40, H⟩ := H
 replace H : (if t151 = 0 then (if (t148.length : Int) = 3 then (if 0 < (t148.length : Int) then ((thermionlaw04_of.f 10 12).bind fun bt159 => ((thermionlaw04_of.f 17 18).bind fun bt161 => ((thermionkit_SameRanges.f k (rd_L6 t148 0) (([(⟨0, 0⟩ : S32), (⟨bt159.1, bt159.2⟩ : S32), (⟨bt161.1, bt161.2⟩ : S32)] : List (S32)))).bind fun t166 => (if t166 = true then (if t156 = 2 then (some (t157 == 0)) else (some false)) else (some false))))) else (none)) else (some false)) else (some false)) = some r := H
 have A4 := Aside0.mk A40
 clear A40
 by_cases c5 : t151 = 0
 ·rw [if_pos c5] at H
  have c5b0 : (t151 == 0) = true := beq_iff_eq.mpr c5
  have c5b1 : (t151 != 0) = false := bne_eq_false_iff_eq.mpr c5
  clear c5
  by_cases c6 : (t148.length : Int) = 3
  ·rw [if_pos c6] at H
   have c6b0 : ((t148.length : Int) == 3) = true := beq_iff_eq.mpr c6
   have c6b1 : ((t148.length : Int) != 3) = false := bne_eq_false_iff_eq.mpr c6
   clear c6
   by_cases c7 : 0 < (t148.length : Int)
   ·rw [if_pos c7] at H
    have c7b0 : decide (0 < (t148.length : Int)) = true := decide_eq_true c7
    have c7b1 : decide (0 < t148.length) = true := decide_eq_true (by omega)
    clear c7
    replace H := Option.bind_eq_some_iff.mp H
    obtain ⟨⟨t159, t160⟩, A80, H⟩ := H
    replace H : ((thermionlaw04_of.f 17 18).bind fun bt161 => ((thermionkit_SameRanges.f k (rd_L6 t148 0) (([(⟨0, 0⟩ : S32), (⟨t159, t160⟩ : S32), (⟨bt161.1, bt161.2⟩ : S32)] : List (S32)))).bind fun t166 => (if t166 = true then (if t156 = 2 then (some (t157 == 0)) else (some false)) else (some false)))) = some r := H
    have A8 := Aside0.mk A80
    clear A80
    replace H := Option.bind_eq_some_iff.mp H
    obtain ⟨⟨t161, t162⟩, A90, H⟩ := H
    replace H : ((thermionkit_SameRanges.f k (rd_L6 t148 0) (([(⟨0, 0⟩ : S32), (⟨t159, t160⟩ : S32), (⟨t161, t162⟩ : S32)] : List (S32)))).bind fun t166 => (if t166 = true then (if t156 = 2 then (some (t157 == 0)) else (some false)) else (some false))) = some r := H
    have A9 := Aside0.mk A90
    clear A90
    obtain ⟨y163, hy163⟩ : ∃ y_ : List (S32), y_ = (([(⟨0, 0⟩ : S32), (⟨t159, t160⟩ : S32), (⟨t161, t162⟩ : S32)] : List (S32))) := ⟨_, rfl⟩
    replace H : ((thermionkit_SameRanges.f k (rd_L6 t148 0) y163).bind fun t166 => (if t166 = true then (if t156 = 2 then (some (t157 == 0)) else (some false)) else (some false))) = some r := by first | (rw [hy163]; with_reducible exact H) | (have H2_ := (Option.bind_some _ _).symm.trans H; rw [hy163]; with_reducible exact H2_) | (have H2_ := (Option.bind_some _ _).symm.trans H; with_reducible exact H2_) | with_reducible exact H | (rw [hy163]; exact H) | exact H
    have Ny163 := Aside0.mk hy163
    clear hy163
    replace H := Option.bind_eq_some_iff.mp H
    obtain ⟨t166, A100, H⟩ := H
    replace H : (if t166 = true then (if t156 = 2 then (some (t157 == 0)) else (some false)) else (some false)) = some r := H
    have A10 := Aside0.mk A100
    clear A100
    by_cases c11 : t166 = true
    ·subst c11
     have H1 : (if t156 = 2 then (some (t157 == 0)) else (some false)) = some r := by rw [if_pos rfl] at H; exact H
     clear H
     have H := H1
     clear H1
     by_cases c12 : t156 = 2
     ·rw [if_pos c12] at H
      have c12b0 : (t156 == 2) = true := beq_iff_eq.mpr c12
      have c12b1 : (t156 != 2) = false := bne_eq_false_iff_eq.mpr c12
      clear c12
      obtain rfl := Option.some.inj H
      go_enter Try.func21, Try.ntmps21
      try go_wp2_with (first | ((with_reducible refine gate_callee (f := 87) rfl ?_); refine goesL_ (some 6) rfl rfl Try.func87 (by kernel_rfl) rfl #[] rfl (by (try simp only [List.map_toArray, List.map_cons, List.map_nil]); first | done | rfl | (simp only [List.length_drop, List.length_take]; rfl)) ?_; (with_reducible refine (thermionlaw04_chain.calls  t144 t145 _ A1.out).mono ?_); rintro e w13 ⟨v146, rfl, ho0, hb⟩; refine ⟨_, rfl, ?_⟩; have n0_ := Aside0.mk (Kd.R_lower ho0 (below_size (by repeat (first | (with_reducible first | exact HB.out | apply below_alloc | apply pw_below_drewN | apply below_drew1) | exact HB.out)))); have n1_ := Aside0.mk (below_step (by repeat (first | (with_reducible first | exact HB.out | apply below_alloc | apply pw_below_drewN | apply below_drew1) | exact HB.out)) hb); clear HB; have HO147 := n0_; have HB := n1_; clear n0_ n1_; (try clear hb); (try clear hb2); (try clear hk); (try clear hi); (try clear ho0); obtain ⟨Ao14, co14, eo14⟩ := Kd.R_slice HO147.out; subst eo14) | ((with_reducible refine gate_callee (f := 24) rfl ?_); refine goesL_ (some 7) rfl rfl Try.func24 (by kernel_rfl) rfl #[.agg #[.int .i64 t144, .slice Ao14 t145.length co14]] rfl (by (try simp only [List.map_toArray, List.map_cons, List.map_nil]); first | done | rfl | (simp only [List.length_drop, List.length_take]; rfl)) ?_; (with_reducible refine (mount_Tight.calls t144 _ _ t145 t148 t151 _ ?side1 ?side2 A2.out).mono ?_); (case side1 => repeat (first | exact (Kd.R_reads' HO147.out).2.2 | (with_reducible refine Kd.C_alloc ?_ _) | (with_reducible refine Kd.C_drewN ?_ _) | (with_reducible refine Kd.C_drew ?_))); (case side2 => exact (Kd.R_reads' HO147.out).2.1); rintro e w15 ⟨v149, rfl, ho0, hb⟩; refine ⟨_, rfl, ?_⟩; have n0_ := Aside0.mk (Kd.R_below (by (with_reducible repeat (first | apply Kd.R_alloc | apply Kd.R_drewN | apply Kd.R_drew)); exact HO147.out) hb); have n1_ := Aside0.mk (Kd.N_lower (Kd.N_mono (ok' := fun k_ => some k_ ≠ (.slice Ao14 t145.length co14 : Value).ownBlock) (Kd.S_N (Kd.S_bound ho0)) (fun k_ hk_ => (Kd.fresh' (Kd.R_lt (by (with_reducible repeat (first | apply Kd.R_alloc | apply Kd.R_drewN | apply Kd.R_drew)); exact HO147.out)) k_ hk_.2.1))) (below_size (by repeat (first | (with_reducible first | exact HB.out | apply below_alloc | apply pw_below_drewN | apply below_drew1) | exact HB.out)))); have n2_ := Aside0.mk (below_step (by repeat (first | (with_reducible first | exact HB.out | apply below_alloc | apply pw_below_drewN | apply below_drew1) | exact HB.out)) hb); clear HO147; clear HB; have HO147 := n0_; have HO150 := n1_; have HB := n2_; clear n0_ n1_ n2_; (try clear hb); (try clear hb2); (try clear hk); (try clear hi); (try clear ho0)) | ((with_reducible refine gate_callee (f := 59) rfl ?_); refine goesL_ (some 11) rfl rfl Try.func59 (by kernel_rfl) rfl #[] rfl (by (try simp only [List.map_toArray, List.map_cons, List.map_nil]); first | done | rfl | (simp only [List.length_drop, List.length_take]; rfl)) ?_; (with_reducible refine (thermionlaw04_kit.calls  t152 t155 _ A3.out).mono ?_); rintro e w16 ⟨v153, rfl, ho0, hb⟩; refine ⟨_, rfl, ?_⟩; have n0_ := Aside0.mk (Kd.R_below (by (with_reducible repeat (first | apply Kd.R_alloc | apply Kd.R_drewN | apply Kd.R_drew)); exact HO147.out) hb); have n1_ := Aside0.mk (Kd.N_elder' (by (with_reducible repeat (first | apply Kd.N_alloc | apply Kd.N_drewN | apply Kd.N_drew)); exact HO150.out) (Kd.N_base ho0) hb); have n2_ := Aside0.mk (Kd.N_lower (Kd.N_mono (ok' := fun k_ => some k_ ≠ (.slice Ao14 t145.length co14 : Value).ownBlock ∧ some k_ ≠ (v149 : Value).ownBlock) ho0 (fun k_ hk_ => ⟨(Kd.fresh' (Kd.R_lt (by (with_reducible repeat (first | apply Kd.R_alloc | apply Kd.R_drewN | apply Kd.R_drew)); exact HO147.out)) k_ hk_), (Kd.fresh' (Kd.N_lt (by (with_reducible repeat (first | apply Kd.N_alloc | apply Kd.N_drewN | apply Kd.N_drew)); exact HO150.out)) k_ hk_)⟩)) (below_size (by repeat (first | (with_reducible first | exact HB.out | apply below_alloc | apply pw_below_drewN | apply below_drew1) | exact HB.out)))); have n3_ := Aside0.mk (below_step (by repeat (first | (with_reducible first | exact HB.out | apply below_alloc | apply pw_below_drewN | apply below_drew1) | exact HB.out)) hb); clear HO147; clear HO150; clear HB; have HO147 := n0_; have HO150 := n1_; have HO154 := n2_; have HB := n3_; clear n0_ n1_ n2_ n3_; (try clear hb); (try clear hb2); (try clear hk); (try clear hi); (try clear ho0); obtain ⟨Ao17, co17, eo17⟩ := Kd.N_slice HO154.out; subst eo17) | ((with_reducible refine gate_callee (f := 30) rfl ?_); refine goesL_ (some 12) rfl rfl Try.func30 (by kernel_rfl) rfl #[.agg #[.slice Ao17 t152.length co17, .int .i64 t155]] rfl (by (try simp only [List.map_toArray, List.map_cons, List.map_nil]); first | done | rfl | (simp only [List.length_drop, List.length_take]; rfl)) ?_; (with_reducible refine (mount_Orders.calls _ _ t152 t155 t156 t157 _ ?side1 ?side2 A4.out).mono ?_); (case side1 => repeat (first | exact (Kd.N_reads' HO154.out).2.2 | (with_reducible refine Kd.C_alloc ?_ _) | (with_reducible refine Kd.C_drewN ?_ _) | (with_reducible refine Kd.C_drew ?_))); (case side2 => exact (Kd.N_reads' HO154.out).2.1); rintro e w18 ⟨rfl, hb⟩; refine ⟨_, rfl, ?_⟩; have n0_ := Aside0.mk (Kd.R_below (by (with_reducible repeat (first | apply Kd.R_alloc | apply Kd.R_drewN | apply Kd.R_drew)); exact HO147.out) hb); have n1_ := Aside0.mk (Kd.N_below (by (with_reducible repeat (first | apply Kd.N_alloc | apply Kd.N_drewN | apply Kd.N_drew)); exact HO150.out) hb); have n2_ := Aside0.mk (Kd.N_below (by (with_reducible repeat (first | apply Kd.N_alloc | apply Kd.N_drewN | apply Kd.N_drew)); exact HO154.out) hb); have n3_ := Aside0.mk (below_step (by repeat (first | (with_reducible first | exact HB.out | apply below_alloc | apply pw_below_drewN | apply below_drew1) | exact HB.out)) hb); clear HO147; clear HO150; clear HO154; clear HB; have HO147 := n0_; have HO150 := n1_; have HO154 := n2_; have HB := n3_; clear n0_ n1_ n2_ n3_; (try clear hb); (try clear hb2); (try clear hk); (try clear hi)))
      have n0_ := Aside0.mk (Kd.R_drew HO147.out)
      have n1_ := Aside0.mk (Kd.N_drew HO150.out)
      have n2_ := Aside0.mk (Kd.N_drew HO154.out)
      have n3_ := Aside0.mk (below_drew1 HB.out)
      clear HO147
      clear HO150
      clear HO154
      clear HB
      have HO147 := n0_
      have HO150 := n1_
      have HO154 := n2_
      have HB := n3_
      clear n0_ n1_ n2_ n3_
      obtain ⟨Ao20, co20, eo20⟩ := Kd.N_slice HO150.out
      (first | subst eo20 | (injection eo20 with f1_ f2_ f3_; have f4_ := f1_.symm; have f5_ := f3_.symm; clear f1_ f2_ f3_; subst f4_; subst f5_))
      have p158 : 0 ≤ (0 : Int) := (by omega)
      have q158 : 0 < (t148.length : Int) := of_decide_eq_true (by first | (with_reducible assumption) | assumption)
      obtain ⟨ad158, A158_0, c158_0, e158, hx158_0, hl158_0, hi158_0⟩ := at_L6 (Kd.N_reads' HO150.out).2.2 0 p158 q158
      cases e158
      obtain ⟨ce158, hce158, hMe158, hcc158⟩ := Kd.N_get HO150.out [] 0 p158 (by first | exact q158 | exact of_decide_eq_true (by first | (with_reducible assumption) | assumption) | (have e_ := (Kd.N_reads' HO150.out).1; omega))
      obtain ⟨ua158_0, uc158_0, rfl, ul158_0, ge158_0⟩ := Kd.FK_slice_open hMe158
      have hv158_0 := hcc158 0 _ rfl
      rw [Nat.add_zero, show ((Kd.slice 32 k32)).sz = 1 from rfl, Nat.mul_one] at hv158_0
      replace hv158_0 := Option.some.inj (hv158_0.symm.trans hx158_0)
      injection hv158_0 with hva_ hvn_ hvc_
      rw [hva_] at ge158_0
      rw [hvc_] at ul158_0
      have HL158_0 := Aside0.mk (show Kd.V k32 32 _ w.heap.size _ _ (rd_L6 t148 0) from Kd.V_mk ul158_0 ge158_0)
      clear hva_ hvn_ hvc_ ge158_0 ul158_0
      clear hcc158 hce158
      have qi158 : (0 < t148.length) = True := eq_true (by omega)
      (try rw [show ((0 : Int)).toNat = 0 from rfl] at hx158_0)
      (try rw [Addr.add_zero'] at hx158_0)
      have HR158_0 := Aside0.mk hi158_0
      have HC158_0 := Aside0.mk hl158_0
      clear hi158_0 hl158_0
      replace p158 := eq_true p158
      replace q158 := eq_true q158
      refine start_ (n := 26) (S := fun w' => w'.cell? ad158 = some (.slice A158_0 (rd_L6 t148 0).length c158_0)) (ds := []) #[false, false, false, false, false, false, false, false, false, false, false, false, false, false, false, false, false, false, false, false, false, false, false, false, false, false] (by kernel_rfl) rfl rfl (hx158_0) (fun hHeld => ?_); refine with_tabW thermionlaw04_awake.tab3 thermionlaw04_awake.bits3 (fun HT_ HW_ => ?_)
      generalize w18.drew = w19 at HO147 HO150 HO154 HB HL158_0 HR158_0 hx158_0 hHeld ⊢
      refine pure_ (i := 0) (N := some 15) (v := ?_) (a' := ?_) #[true, false, false, false, false, false, false, false, false, false, false, false, false, false, false, false, false, false, false, false, false, false, false, false, false, false] rfl rfl (any_of HT_.out (by kernel_rfl)) (fun _ _ _ h => h) (Or.inl ⟨by rfl, ?_⟩) ?_ ?_
      rotate_left
      ·intro w'
       go_simp
       with_reducible rfl
      rotate_left
      ·simp only [Act.put, List.setIfInBounds_toArray, List.set_cons_zero, List.set_cons_succ, i64_w, i32_w]
       rfl
      refine pure_ (i := 1) (N := some 16) (v := ?_) (a' := ?_) #[true, true, false, false, false, false, false, false, false, false, false, false, false, false, false, false, false, false, false, false, false, false, false, false, false, false] rfl rfl (any_of HT_.out (by kernel_rfl)) (fun _ _ _ h => h) (Or.inl ⟨by rfl, ?_⟩) ?_ ?_
      rotate_left
      ·intro w'
       go_simp
       with_reducible rfl
      rotate_left
      ·simp only [Act.put, List.setIfInBounds_toArray, List.set_cons_zero, List.set_cons_succ, i64_w, i32_w]
       rfl
      refine pure_ (i := 2) (N := some 17) (v := ?_) (a' := ?_) #[true, true, true, false, false, false, false, false, false, false, false, false, false, false, false, false, false, false, false, false, false, false, false, false, false, false] rfl rfl (any_of HT_.out (by kernel_rfl)) (fun _ _ _ h => h) (Or.inl ⟨by rfl, ?_⟩) ?_ ?_
      rotate_left
      ·intro w'
       go_simp
       with_reducible rfl
      rotate_left
      ·simp only [Act.put, List.setIfInBounds_toArray, List.set_cons_zero, List.set_cons_succ, i64_w, i32_w]
       rfl
      refine pure_ (i := 3) (N := some 18) (v := ?_) (a' := ?_) #[true, true, true, true, false, false, false, false, false, false, false, false, false, false, false, false, false, false, false, false, false, false, false, false, false, false] rfl rfl (any_of HT_.out (by kernel_rfl)) (fun _ _ _ h => h) (Or.inl ⟨by rfl, ?_⟩) ?_ ?_
      rotate_left
      ·intro w'
       go_simp
       with_reducible rfl
      rotate_left
      ·simp only [Act.put, List.setIfInBounds_toArray, List.set_cons_zero, List.set_cons_succ, i64_w, i32_w]
       rfl
      refine pure_ (i := 4) (N := some 19) (v := ?_) (a' := ?_) #[true, true, true, true, true, false, false, false, false, false, false, false, false, false, false, false, false, false, false, false, false, false, false, false, false, false] rfl rfl (any_of HT_.out (by kernel_rfl)) (fun _ _ _ h => h) (Or.inl ⟨by rfl, ?_⟩) ?_ ?_
      rotate_left
      ·intro w'
       go_simp
       with_reducible rfl
      rotate_left
      ·simp only [Act.put, List.setIfInBounds_toArray, List.set_cons_zero, List.set_cons_succ, i64_w, i32_w]
       rfl
      refine pure_ (i := 5) (N := some 20) (v := ?_) (a' := ?_) #[true, true, true, true, true, true, false, false, false, false, false, false, false, false, false, false, false, false, false, false, false, false, false, false, false, false] rfl rfl (any_of HT_.out (by kernel_rfl)) (fun _ _ _ h => h) (Or.inl ⟨by rfl, ?_⟩) ?_ ?_
      rotate_left
      ·intro w'
       go_simp
       with_reducible rfl
      rotate_left
      ·simp only [Act.put, List.setIfInBounds_toArray, List.set_cons_zero, List.set_cons_succ, i64_w, i32_w]
       rfl
      refine pure_ (i := 6) (N := some 21) (v := ?_) (a' := ?_) #[true, true, true, true, true, true, true, false, false, false, false, false, false, false, false, false, false, false, false, false, false, false, false, false, false, false] rfl rfl (any_of HT_.out (by kernel_rfl)) (fun _ _ _ h => h) (Or.inl ⟨by rfl, ?_⟩) ?_ ?_
      rotate_left
      ·intro w'
       go_simp
       with_reducible rfl
      rotate_left
      ·simp only [Act.put, List.setIfInBounds_toArray, List.set_cons_zero, List.set_cons_succ, i64_w, i32_w]
       rfl
      refine pure_ (i := 7) (N := some 22) (v := ?_) (a' := ?_) #[true, true, true, true, true, true, true, true, false, false, false, false, false, false, false, false, false, false, false, false, false, false, false, false, false, false] rfl rfl (any_of HT_.out (by kernel_rfl)) (fun _ _ _ h => h) (Or.inl ⟨by rfl, ?_⟩) ?_ ?_
      rotate_left
      ·intro w'
       go_simp
       with_reducible rfl
      rotate_left
      ·simp only [Act.put, List.setIfInBounds_toArray, List.set_cons_zero, List.set_cons_succ, i64_w, i32_w]
       rfl
      refine pure_ (i := 8) (N := some 23) (v := ?_) (a' := ?_) #[true, true, true, true, true, true, true, true, true, false, false, false, false, false, false, false, false, false, false, false, false, false, false, false, false, false] rfl rfl (any_of HT_.out (by kernel_rfl)) (fun _ _ _ h => h) (Or.inl ⟨by rfl, ?_⟩) ?_ ?_
      rotate_left
      ·intro w'
       go_simp
       with_reducible rfl
      rotate_left
      ·simp only [Act.put, List.setIfInBounds_toArray, List.set_cons_zero, List.set_cons_succ, i64_w, i32_w]
       rfl
      refine pure_ (i := 9) (N := some 24) (v := ?_) (a' := ?_) #[true, true, true, true, true, true, true, true, true, true, false, false, false, false, false, false, false, false, false, false, false, false, false, false, false, false] rfl rfl (any_of HT_.out (by kernel_rfl)) (fun _ _ _ h => h) (Or.inl ⟨by rfl, ?_⟩) ?_ ?_
      rotate_left
      ·intro w'
       go_simp
       with_reducible rfl
      rotate_left
      ·simp only [Act.put, List.setIfInBounds_toArray, List.set_cons_zero, List.set_cons_succ, i64_w, i32_w]
       rfl
      refine pure_ (i := 11) (N := some 26) (v := ?_) (a' := ?_) #[true, true, true, true, true, true, true, true, true, true, false, true, false, false, false, false, false, false, false, false, false, false, false, false, false, false] rfl rfl (any_of HT_.out (by kernel_rfl)) (fun _ _ _ h => h) (Or.inl ⟨by rfl, ?_⟩) ?_ ?_
      rotate_left
      ·intro w'
       go_simp
       with_reducible rfl
      rotate_left
      ·simp only [Act.put, List.setIfInBounds_toArray, List.set_cons_zero, List.set_cons_succ, i64_w, i32_w]
       rfl
      refine take_ (i := 10) (N := some 25) (v := ?_) (a' := ?_) #[true, true, true, true, true, true, true, true, true, true, true, true, false, false, false, false, false, false, false, false, false, false, false, false, false, false] rfl rfl (take_ofW HT_.out HW_.out (by kernel_rfl)) (fun _ _ _ h => h) (Or.inl ⟨by rfl, ?_⟩) hHeld ?_ ?_
      rotate_left
      ·intro w' s0
       go_simp
       with_reducible rfl
      rotate_left
      ·simp only [Act.put, List.setIfInBounds_toArray, List.set_cons_zero, List.set_cons_succ, i64_w, i32_w]
       rfl
      refine one_ (i := 12) (N := some 27) #[true, true, true, true, true, true, true, true, true, true, true, true, true, false, false, false, false, false, false, false, false, false, false, false, false, false] rfl rfl (one_of HT_.out (by kernel_rfl)) (by decide) (fun K hK => ?_)
      refine goes_ Try.func52 (by kernel_rfl) rfl #[.int .i64 10, .int .i64 12] (by rfl) rfl rfl (by (try simp only [List.map_toArray, List.map_cons, List.map_nil]); first | done | rfl | (simp only [List.length_drop, List.length_take]; rfl)) ?_
      with_reducible refine (thermionlaw04_of.calls 10 12 t159 t160 _ A8.out).mono ?_
      rintro e w21 ⟨rfl, hb⟩
      have HS0_ := (hb.cell (World.block_lt_of_cell? _ _ (hHeld))).trans (hHeld)
      refine ⟨_, rfl, ?_⟩
      have n0_ := Aside0.mk (Kd.R_below (by (with_reducible repeat (first | apply Kd.R_alloc | apply Kd.R_drewN | apply Kd.R_drew)); exact HO147.out) hb)
      have n1_ := Aside0.mk (Kd.N_below (by (with_reducible repeat (first | apply Kd.N_alloc | apply Kd.N_drewN | apply Kd.N_drew)); exact HO150.out) hb)
      have n2_ := Aside0.mk (Kd.N_below (by (with_reducible repeat (first | apply Kd.N_alloc | apply Kd.N_drewN | apply Kd.N_drew)); exact HO154.out) hb)
      have n3_ := Aside0.mk (Kd.V_below (by (with_reducible repeat (first | apply Kd.V_alloc | apply Kd.V_drewN | apply Kd.V_drew)); exact HL158_0.out) hb)
      have n4_ := Aside0.mk (Kd.C_below (by repeat (first | (with_reducible exact HR158_0.out) | (with_reducible refine Kd.C_alloc ?_ _) | (with_reducible refine Kd.C_drewN ?_ _) | (with_reducible refine Kd.C_drew ?_) | exact HR158_0.out)) hb)
      have n5_ := Aside0.mk (below_step (by repeat (first | (with_reducible first | exact HB.out | apply below_alloc | apply pw_below_drewN | apply below_drew1) | exact HB.out)) hb)
      clear HO147
      clear HO150
      clear HO154
      clear HL158_0
      clear HR158_0
      clear HB
      have HO147 := n0_
      have HO150 := n1_
      have HO154 := n2_
      have HL158_0 := n3_
      have HR158_0 := n4_
      have HB := n5_
      clear n0_ n1_ n2_ n3_ n4_ n5_
      (try clear hb)
      (try clear hb2)
      (try clear hk)
      (try clear hi)
      refine hK.out _ _ (HS0_) (fun hHeld => ?_)
      clear hK K
      refine norm_ (a' := ?_) ?_ ?_
      rotate_left
      ·show Act.put _ (some 27) _ = _
       simp only [Act.put, List.setIfInBounds_toArray, List.set_cons_zero, List.set_cons_succ, i64_w, i32_w]
       rfl
      refine one_ (i := 13) (N := some 28) #[true, true, true, true, true, true, true, true, true, true, true, true, true, true, false, false, false, false, false, false, false, false, false, false, false, false] rfl rfl (one_of HT_.out (by kernel_rfl)) (by decide) (fun K hK => ?_)
      refine goes_ Try.func52 (by kernel_rfl) rfl #[.int .i64 17, .int .i64 18] (by rfl) rfl rfl (by (try simp only [List.map_toArray, List.map_cons, List.map_nil]); first | done | rfl | (simp only [List.length_drop, List.length_take]; rfl)) ?_
      with_reducible refine (thermionlaw04_of.calls 17 18 t161 t162 _ A9.out).mono ?_
      rintro e w22 ⟨rfl, hb⟩
      have HS0_ := (hb.cell (World.block_lt_of_cell? _ _ (hHeld))).trans (hHeld)
      refine ⟨_, rfl, ?_⟩
      have n0_ := Aside0.mk (Kd.R_below (by (with_reducible repeat (first | apply Kd.R_alloc | apply Kd.R_drewN | apply Kd.R_drew)); exact HO147.out) hb)
      have n1_ := Aside0.mk (Kd.N_below (by (with_reducible repeat (first | apply Kd.N_alloc | apply Kd.N_drewN | apply Kd.N_drew)); exact HO150.out) hb)
      have n2_ := Aside0.mk (Kd.N_below (by (with_reducible repeat (first | apply Kd.N_alloc | apply Kd.N_drewN | apply Kd.N_drew)); exact HO154.out) hb)
      have n3_ := Aside0.mk (Kd.V_below (by (with_reducible repeat (first | apply Kd.V_alloc | apply Kd.V_drewN | apply Kd.V_drew)); exact HL158_0.out) hb)
      have n4_ := Aside0.mk (Kd.C_below (by repeat (first | (with_reducible exact HR158_0.out) | (with_reducible refine Kd.C_alloc ?_ _) | (with_reducible refine Kd.C_drewN ?_ _) | (with_reducible refine Kd.C_drew ?_) | exact HR158_0.out)) hb)
      have n5_ := Aside0.mk (below_step (by repeat (first | (with_reducible first | exact HB.out | apply below_alloc | apply pw_below_drewN | apply below_drew1) | exact HB.out)) hb)
      clear HO147
      clear HO150
      clear HO154
      clear HL158_0
      clear HR158_0
      clear HB
      have HO147 := n0_
      have HO150 := n1_
      have HO154 := n2_
      have HL158_0 := n3_
      have HR158_0 := n4_
      have HB := n5_
      clear n0_ n1_ n2_ n3_ n4_ n5_
      (try clear hb)
      (try clear hb2)
      (try clear hk)
      (try clear hi)
      refine hK.out _ _ (HS0_) (fun hHeld => ?_)
      clear hK K
      refine norm_ (a' := ?_) ?_ ?_
      rotate_left
      ·show Act.put _ (some 28) _ = _
       simp only [Act.put, List.setIfInBounds_toArray, List.set_cons_zero, List.set_cons_succ, i64_w, i32_w]
       rfl
      refine one_ (i := 14) (N := some 29) #[true, true, true, true, true, true, true, true, true, true, true, true, true, true, true, false, false, false, false, false, false, false, false, false, false, false] rfl rfl (one_of HT_.out (by kernel_rfl)) (by decide) (fun K hK => ?_)
      refine Kd.R_lit_step k32 _ 32 ?hg (N := 29) ?hd (xs := ([(⟨0, 0⟩ : S32), (⟨t159, t160⟩ : S32), (⟨t161, t162⟩ : S32)] : List (S32))) (inner := [.int .i64 0, .int .i64 0, .int .i64 t159, .int .i64 t160, .int .i64 t161, .int .i64 t162]) (ok := fun _ => True) (okp := fun _ => True) ?hr ?hp (fun _ hk => hk) trivial (Below.refl _ _) (Nat.le_refl _) (by simp) ?_; (case hd => rfl); (case hg => rfl); (case hr => first | (go_simp; done) | (go_simp; rfl)); (case hp => exact (Reps.c2 (show Kd.M k32 _ _ _ (⟨0, 0⟩ : S32) [.int .i64 0, .int .i64 0] from (k32_mkM _ _ _ (⟨0, 0⟩ : S32) )) (Reps.c2 (show Kd.M k32 _ _ _ (⟨t159, t160⟩ : S32) [.int .i64 t159, .int .i64 t160] from (k32_mkM _ _ _ (⟨t159, t160⟩ : S32) )) (Reps.c2 (show Kd.M k32 _ _ _ (⟨t161, t162⟩ : S32) [.int .i64 t161, .int .i64 t162] from (k32_mkM _ _ _ (⟨t161, t162⟩ : S32) )) (Reps.none _ _)))))
      intro v164 w23 ho24 hb hg_ hnew_
      have HS0_ := (hb.cell (World.block_lt_of_cell? _ _ (hHeld))).trans (hHeld)
      clear hg_ hnew_
      (first | rw [← Ny163.out] at ho24 | (simp only [Int.reduceToNat] at ho24; rw [← Ny163.out] at ho24))
      have n0_ := Aside0.mk (Kd.R_below (by (with_reducible repeat (first | apply Kd.R_alloc | apply Kd.R_drewN | apply Kd.R_drew)); exact HO147.out) hb)
      have n1_ := Aside0.mk (Kd.N_elder' (by (with_reducible repeat (first | apply Kd.N_alloc | apply Kd.N_drewN | apply Kd.N_drew)); exact HO150.out) (Kd.R_base ho24) hb)
      have n2_ := Aside0.mk (Kd.N_elder' (by (with_reducible repeat (first | apply Kd.N_alloc | apply Kd.N_drewN | apply Kd.N_drew)); exact HO154.out) (Kd.R_base ho24) hb)
      have n3_ := Aside0.mk (Kd.V_elder' (by (with_reducible repeat (first | apply Kd.V_alloc | apply Kd.V_drewN | apply Kd.V_drew)); exact HL158_0.out) (Kd.R_base ho24) hb)
      have n4_ := Aside0.mk (Kd.R_lower ho24 (below_size (by repeat (first | (with_reducible first | exact HB.out | apply below_alloc | apply pw_below_drewN | apply below_drew1) | exact HB.out))))
      have n5_ := Aside0.mk (Kd.C_below (by repeat (first | (with_reducible exact HR158_0.out) | (with_reducible refine Kd.C_alloc ?_ _) | (with_reducible refine Kd.C_drewN ?_ _) | (with_reducible refine Kd.C_drew ?_) | exact HR158_0.out)) hb)
      have n6_ := Aside0.mk (below_step (by repeat (first | (with_reducible first | exact HB.out | apply below_alloc | apply pw_below_drewN | apply below_drew1) | exact HB.out)) hb)
      clear HO147
      clear HO150
      clear HO154
      clear HL158_0
      clear HR158_0
      clear HB
      have HO147 := n0_
      have HO150 := n1_
      have HO154 := n2_
      have HL158_0 := n3_
      have HO165 := n4_
      have HR158_0 := n5_
      have HB := n6_
      clear n0_ n1_ n2_ n3_ n4_ n5_ n6_
      clear hb ho24
      obtain ⟨Ao25, co25, eo25⟩ := Kd.R_slice HO165.out
      (first | subst eo25 | (injection eo25 with f1_ f2_ f3_; have f4_ := f1_.symm; have f5_ := f3_.symm; clear f1_ f2_ f3_; subst f4_; subst f5_))
      refine hK.out _ _ (HS0_) (fun hHeld => ?_)
      clear hK K
      refine norm_ (a' := ?_) ?_ ?_
      rotate_left
      ·show Act.put _ (some 29) _ = _
       simp only [Act.put, List.setIfInBounds_toArray, List.set_cons_zero, List.set_cons_succ, i64_w, i32_w]
       rfl
      refine one_ (i := 15) (N := some 30) #[true, true, true, true, true, true, true, true, true, true, true, true, true, true, true, true, false, false, false, false, false, false, false, false, false, false] rfl rfl (one_of HT_.out (by kernel_rfl)) (by decide) (fun K hK => ?_)
      refine goes_ Try.func88 (by kernel_rfl) rfl #[.slice A158_0 (rd_L6 t148 0).length c158_0, .slice Ao25 y163.length co25] (by rfl) rfl rfl (by (try simp only [List.map_toArray, List.map_cons, List.map_nil]); first | done | rfl | (simp only [List.length_drop, List.length_take]; rfl)) ?_
      with_reducible refine (thermionkit_SameRanges.calls k _ _ (rd_L6 t148 0) _ _ y163 true _ ?side1 ?side2 ?side3 ?side4 A10.out).mono ?_
      (case side1 => repeat (first | exact (by repeat (first | (with_reducible exact HR158_0.out) | (with_reducible refine Kd.C_alloc ?_ _) | (with_reducible refine Kd.C_drewN ?_ _) | (with_reducible refine Kd.C_drew ?_) | exact HR158_0.out)) | (with_reducible refine Kd.C_alloc ?_ _) | (with_reducible refine Kd.C_drewN ?_ _) | (with_reducible refine Kd.C_drew ?_)))
      (case side2 => exact HC158_0.out)
      (case side3 => repeat (first | exact (Kd.R_reads' HO165.out).2.2 | (with_reducible refine Kd.C_alloc ?_ _) | (with_reducible refine Kd.C_drewN ?_ _) | (with_reducible refine Kd.C_drew ?_)))
      (case side4 => exact (Kd.R_reads' HO165.out).2.1)
      rintro e w' ⟨rfl, ⟨nd, rfl⟩⟩
      refine ⟨_, rfl, ?_⟩
      refine hK.out _ _ (hHeld) (fun hHeld => ?_)
      clear hK K
      refine norm_ (a' := ?_) ?_ ?_
      rotate_left
      ·show Act.put _ (some 30) _ = _
       simp only [Act.put, List.setIfInBounds_toArray, List.set_cons_zero, List.set_cons_succ, i64_w, i32_w]
       rfl
      refine pure_ (i := 16) (N := some 31) (v := ?_) (a' := ?_) #[true, true, true, true, true, true, true, true, true, true, true, true, true, true, true, true, true, false, false, false, false, false, false, false, false, false] rfl rfl (any_of HT_.out (by kernel_rfl)) (fun _ _ _ h => h) (Or.inl ⟨by rfl, ?_⟩) ?_ ?_
      rotate_left
      ·intro w'
       go_simp
       with_reducible rfl
      rotate_left
      ·simp only [Act.put, List.setIfInBounds_toArray, List.set_cons_zero, List.set_cons_succ, i64_w, i32_w]
       rfl
      refine pure_ (i := 17) (N := some 32) (v := ?_) (a' := ?_) #[true, true, true, true, true, true, true, true, true, true, true, true, true, true, true, true, true, true, false, false, false, false, false, false, false, false] rfl rfl (any_of HT_.out (by kernel_rfl)) (fun _ _ _ h => h) (Or.inl ⟨by rfl, ?_⟩) ?_ ?_
      rotate_left
      ·intro w'
       go_simp
       with_reducible rfl
      rotate_left
      ·simp only [Act.put, List.setIfInBounds_toArray, List.set_cons_zero, List.set_cons_succ, i64_w, i32_w]
       rfl
      refine pure_ (i := 18) (N := some 33) (v := ?_) (a' := ?_) #[true, true, true, true, true, true, true, true, true, true, true, true, true, true, true, true, true, true, true, false, false, false, false, false, false, false] rfl rfl (any_of HT_.out (by kernel_rfl)) (fun _ _ _ h => h) (Or.inl ⟨by rfl, ?_⟩) ?_ ?_
      rotate_left
      ·intro w'
       go_simp
       with_reducible rfl
      rotate_left
      ·simp only [Act.put, List.setIfInBounds_toArray, List.set_cons_zero, List.set_cons_succ, i64_w, i32_w]
       rfl
      refine pure_ (i := 19) (N := some 34) (v := ?_) (a' := ?_) #[true, true, true, true, true, true, true, true, true, true, true, true, true, true, true, true, true, true, true, true, false, false, false, false, false, false] rfl rfl (any_of HT_.out (by kernel_rfl)) (fun _ _ _ h => h) (Or.inl ⟨by rfl, ?_⟩) ?_ ?_
      rotate_left
      ·intro w'
       go_simp
       with_reducible rfl
      rotate_left
      ·simp only [Act.put, List.setIfInBounds_toArray, List.set_cons_zero, List.set_cons_succ, i64_w, i32_w]
       rfl
      refine pure_ (i := 20) (N := some 35) (v := ?_) (a' := ?_) #[true, true, true, true, true, true, true, true, true, true, true, true, true, true, true, true, true, true, true, true, true, false, false, false, false, false] rfl rfl (any_of HT_.out (by kernel_rfl)) (fun _ _ _ h => h) (Or.inl ⟨by rfl, ?_⟩) ?_ ?_
      rotate_left
      ·intro w'
       go_simp
       with_reducible rfl
      rotate_left
      ·simp only [Act.put, List.setIfInBounds_toArray, List.set_cons_zero, List.set_cons_succ, i64_w, i32_w]
       rfl
      refine pure_ (i := 21) (N := some 36) (v := ?_) (a' := ?_) #[true, true, true, true, true, true, true, true, true, true, true, true, true, true, true, true, true, true, true, true, true, true, false, false, false, false] rfl rfl (any_of HT_.out (by kernel_rfl)) (fun _ _ _ h => h) (Or.inl ⟨by rfl, ?_⟩) ?_ ?_
      rotate_left
      ·intro w'
       go_simp
       with_reducible rfl
      rotate_left
      ·simp only [Act.put, List.setIfInBounds_toArray, List.set_cons_zero, List.set_cons_succ, i64_w, i32_w]
       rfl
      refine pure_ (i := 22) (N := some 37) (v := ?_) (a' := ?_) #[true, true, true, true, true, true, true, true, true, true, true, true, true, true, true, true, true, true, true, true, true, true, true, false, false, false] rfl rfl (any_of HT_.out (by kernel_rfl)) (fun _ _ _ h => h) (Or.inl ⟨by rfl, ?_⟩) ?_ ?_
      rotate_left
      ·intro w'
       go_simp
       with_reducible rfl
      rotate_left
      ·simp only [Act.put, List.setIfInBounds_toArray, List.set_cons_zero, List.set_cons_succ, i64_w, i32_w]
       rfl
      refine pure_ (i := 23) (N := some 38) (v := ?_) (a' := ?_) #[true, true, true, true, true, true, true, true, true, true, true, true, true, true, true, true, true, true, true, true, true, true, true, true, false, false] rfl rfl (any_of HT_.out (by kernel_rfl)) (fun _ _ _ h => h) (Or.inl ⟨by rfl, ?_⟩) ?_ ?_
      rotate_left
      ·intro w'
       go_simp
       with_reducible rfl
      rotate_left
      ·simp only [Act.put, List.setIfInBounds_toArray, List.set_cons_zero, List.set_cons_succ, i64_w, i32_w]
       rfl
      refine pure_ (i := 24) (N := some 39) (v := ?_) (a' := ?_) #[true, true, true, true, true, true, true, true, true, true, true, true, true, true, true, true, true, true, true, true, true, true, true, true, true, false] rfl rfl (any_of HT_.out (by kernel_rfl)) (fun _ _ _ h => h) (Or.inl ⟨by rfl, ?_⟩) ?_ ?_
      rotate_left
      ·intro w'
       go_simp
       with_reducible rfl
      rotate_left
      ·simp only [Act.put, List.setIfInBounds_toArray, List.set_cons_zero, List.set_cons_succ, i64_w, i32_w]
       rfl
      refine pure_ (i := 25) (N := some 0) (v := ?_) (a' := ?_) #[true, true, true, true, true, true, true, true, true, true, true, true, true, true, true, true, true, true, true, true, true, true, true, true, true, true] rfl rfl (any_of HT_.out (by kernel_rfl)) (fun _ _ _ h => h) (Or.inl ⟨by rfl, ?_⟩) ?_ ?_
      rotate_left
      ·intro w'
       go_simp
       with_reducible rfl
      rotate_left
      ·simp only [Act.put, List.setIfInBounds_toArray, List.set_cons_zero, List.set_cons_succ, i64_w, i32_w]
       rfl
      refine done_ (done_of HT_.out (by kernel_rfl)) ?_
      try go_wp2
      go_ret
      exact ⟨by first | rfl | (simp [errW_none, errW_some] <;> rfl) | (simp [*, errW_none, errW_some] <;> rfl), by repeat (first | (with_reducible first | exact HB.out | apply below_alloc | apply pw_below_drewN | apply below_drew1) | exact HB.out)⟩
     ·rw [if_neg c12] at H
      have c12b0 : (t156 == 2) = false := beq_eq_false_iff_ne.mpr c12
      have c12b1 : (t156 != 2) = true := bne_iff_ne.mpr c12
      obtain rfl := Option.some.inj H
      go_enter Try.func21, Try.ntmps21
      try go_wp2_with (first | ((with_reducible refine gate_callee (f := 87) rfl ?_); refine goesL_ (some 6) rfl rfl Try.func87 (by kernel_rfl) rfl #[] rfl (by (try simp only [List.map_toArray, List.map_cons, List.map_nil]); first | done | rfl | (simp only [List.length_drop, List.length_take]; rfl)) ?_; (with_reducible refine (thermionlaw04_chain.calls  t144 t145 _ A1.out).mono ?_); rintro e w26 ⟨v146, rfl, ho0, hb⟩; refine ⟨_, rfl, ?_⟩; have n0_ := Aside0.mk (Kd.R_lower ho0 (below_size (by repeat (first | (with_reducible first | exact HB.out | apply below_alloc | apply pw_below_drewN | apply below_drew1) | exact HB.out)))); have n1_ := Aside0.mk (below_step (by repeat (first | (with_reducible first | exact HB.out | apply below_alloc | apply pw_below_drewN | apply below_drew1) | exact HB.out)) hb); clear HB; have HO147 := n0_; have HB := n1_; clear n0_ n1_; (try clear hb); (try clear hb2); (try clear hk); (try clear hi); (try clear ho0); obtain ⟨Ao27, co27, eo27⟩ := Kd.R_slice HO147.out; subst eo27) | ((with_reducible refine gate_callee (f := 24) rfl ?_); refine goesL_ (some 7) rfl rfl Try.func24 (by kernel_rfl) rfl #[.agg #[.int .i64 t144, .slice Ao27 t145.length co27]] rfl (by (try simp only [List.map_toArray, List.map_cons, List.map_nil]); first | done | rfl | (simp only [List.length_drop, List.length_take]; rfl)) ?_; (with_reducible refine (mount_Tight.calls t144 _ _ t145 t148 t151 _ ?side1 ?side2 A2.out).mono ?_); (case side1 => repeat (first | exact (Kd.R_reads' HO147.out).2.2 | (with_reducible refine Kd.C_alloc ?_ _) | (with_reducible refine Kd.C_drewN ?_ _) | (with_reducible refine Kd.C_drew ?_))); (case side2 => exact (Kd.R_reads' HO147.out).2.1); rintro e w28 ⟨v149, rfl, ho0, hb⟩; refine ⟨_, rfl, ?_⟩; have n0_ := Aside0.mk (Kd.R_below (by (with_reducible repeat (first | apply Kd.R_alloc | apply Kd.R_drewN | apply Kd.R_drew)); exact HO147.out) hb); have n1_ := Aside0.mk (Kd.N_lower (Kd.N_mono (ok' := fun k_ => some k_ ≠ (.slice Ao27 t145.length co27 : Value).ownBlock) (Kd.S_N (Kd.S_bound ho0)) (fun k_ hk_ => (Kd.fresh' (Kd.R_lt (by (with_reducible repeat (first | apply Kd.R_alloc | apply Kd.R_drewN | apply Kd.R_drew)); exact HO147.out)) k_ hk_.2.1))) (below_size (by repeat (first | (with_reducible first | exact HB.out | apply below_alloc | apply pw_below_drewN | apply below_drew1) | exact HB.out)))); have n2_ := Aside0.mk (below_step (by repeat (first | (with_reducible first | exact HB.out | apply below_alloc | apply pw_below_drewN | apply below_drew1) | exact HB.out)) hb); clear HO147; clear HB; have HO147 := n0_; have HO150 := n1_; have HB := n2_; clear n0_ n1_ n2_; (try clear hb); (try clear hb2); (try clear hk); (try clear hi); (try clear ho0)) | ((with_reducible refine gate_callee (f := 59) rfl ?_); refine goesL_ (some 11) rfl rfl Try.func59 (by kernel_rfl) rfl #[] rfl (by (try simp only [List.map_toArray, List.map_cons, List.map_nil]); first | done | rfl | (simp only [List.length_drop, List.length_take]; rfl)) ?_; (with_reducible refine (thermionlaw04_kit.calls  t152 t155 _ A3.out).mono ?_); rintro e w29 ⟨v153, rfl, ho0, hb⟩; refine ⟨_, rfl, ?_⟩; have n0_ := Aside0.mk (Kd.R_below (by (with_reducible repeat (first | apply Kd.R_alloc | apply Kd.R_drewN | apply Kd.R_drew)); exact HO147.out) hb); have n1_ := Aside0.mk (Kd.N_elder' (by (with_reducible repeat (first | apply Kd.N_alloc | apply Kd.N_drewN | apply Kd.N_drew)); exact HO150.out) (Kd.N_base ho0) hb); have n2_ := Aside0.mk (Kd.N_lower (Kd.N_mono (ok' := fun k_ => some k_ ≠ (.slice Ao27 t145.length co27 : Value).ownBlock ∧ some k_ ≠ (v149 : Value).ownBlock) ho0 (fun k_ hk_ => ⟨(Kd.fresh' (Kd.R_lt (by (with_reducible repeat (first | apply Kd.R_alloc | apply Kd.R_drewN | apply Kd.R_drew)); exact HO147.out)) k_ hk_), (Kd.fresh' (Kd.N_lt (by (with_reducible repeat (first | apply Kd.N_alloc | apply Kd.N_drewN | apply Kd.N_drew)); exact HO150.out)) k_ hk_)⟩)) (below_size (by repeat (first | (with_reducible first | exact HB.out | apply below_alloc | apply pw_below_drewN | apply below_drew1) | exact HB.out)))); have n3_ := Aside0.mk (below_step (by repeat (first | (with_reducible first | exact HB.out | apply below_alloc | apply pw_below_drewN | apply below_drew1) | exact HB.out)) hb); clear HO147; clear HO150; clear HB; have HO147 := n0_; have HO150 := n1_; have HO154 := n2_; have HB := n3_; clear n0_ n1_ n2_ n3_; (try clear hb); (try clear hb2); (try clear hk); (try clear hi); (try clear ho0); obtain ⟨Ao30, co30, eo30⟩ := Kd.N_slice HO154.out; subst eo30) | ((with_reducible refine gate_callee (f := 30) rfl ?_); refine goesL_ (some 12) rfl rfl Try.func30 (by kernel_rfl) rfl #[.agg #[.slice Ao30 t152.length co30, .int .i64 t155]] rfl (by (try simp only [List.map_toArray, List.map_cons, List.map_nil]); first | done | rfl | (simp only [List.length_drop, List.length_take]; rfl)) ?_; (with_reducible refine (mount_Orders.calls _ _ t152 t155 t156 t157 _ ?side1 ?side2 A4.out).mono ?_); (case side1 => repeat (first | exact (Kd.N_reads' HO154.out).2.2 | (with_reducible refine Kd.C_alloc ?_ _) | (with_reducible refine Kd.C_drewN ?_ _) | (with_reducible refine Kd.C_drew ?_))); (case side2 => exact (Kd.N_reads' HO154.out).2.1); rintro e w31 ⟨rfl, hb⟩; refine ⟨_, rfl, ?_⟩; have n0_ := Aside0.mk (Kd.R_below (by (with_reducible repeat (first | apply Kd.R_alloc | apply Kd.R_drewN | apply Kd.R_drew)); exact HO147.out) hb); have n1_ := Aside0.mk (Kd.N_below (by (with_reducible repeat (first | apply Kd.N_alloc | apply Kd.N_drewN | apply Kd.N_drew)); exact HO150.out) hb); have n2_ := Aside0.mk (Kd.N_below (by (with_reducible repeat (first | apply Kd.N_alloc | apply Kd.N_drewN | apply Kd.N_drew)); exact HO154.out) hb); have n3_ := Aside0.mk (below_step (by repeat (first | (with_reducible first | exact HB.out | apply below_alloc | apply pw_below_drewN | apply below_drew1) | exact HB.out)) hb); clear HO147; clear HO150; clear HO154; clear HB; have HO147 := n0_; have HO150 := n1_; have HO154 := n2_; have HB := n3_; clear n0_ n1_ n2_ n3_; (try clear hb); (try clear hb2); (try clear hk); (try clear hi)))
      have n0_ := Aside0.mk (Kd.R_drew HO147.out)
      have n1_ := Aside0.mk (Kd.N_drew HO150.out)
      have n2_ := Aside0.mk (Kd.N_drew HO154.out)
      have n3_ := Aside0.mk (below_drew1 HB.out)
      clear HO147
      clear HO150
      clear HO154
      clear HB
      have HO147 := n0_
      have HO150 := n1_
      have HO154 := n2_
      have HB := n3_
      clear n0_ n1_ n2_ n3_
      obtain ⟨Ao33, co33, eo33⟩ := Kd.N_slice HO150.out
      (first | subst eo33 | (injection eo33 with f1_ f2_ f3_; have f4_ := f1_.symm; have f5_ := f3_.symm; clear f1_ f2_ f3_; subst f4_; subst f5_))
      have p158 : 0 ≤ (0 : Int) := (by omega)
      have q158 : 0 < (t148.length : Int) := of_decide_eq_true (by first | (with_reducible assumption) | assumption)
      obtain ⟨ad158, A158_0, c158_0, e158, hx158_0, hl158_0, hi158_0⟩ := at_L6 (Kd.N_reads' HO150.out).2.2 0 p158 q158
      cases e158
      obtain ⟨ce158, hce158, hMe158, hcc158⟩ := Kd.N_get HO150.out [] 0 p158 (by first | exact q158 | exact of_decide_eq_true (by first | (with_reducible assumption) | assumption) | (have e_ := (Kd.N_reads' HO150.out).1; omega))
      obtain ⟨ua158_0, uc158_0, rfl, ul158_0, ge158_0⟩ := Kd.FK_slice_open hMe158
      have hv158_0 := hcc158 0 _ rfl
      rw [Nat.add_zero, show ((Kd.slice 32 k32)).sz = 1 from rfl, Nat.mul_one] at hv158_0
      replace hv158_0 := Option.some.inj (hv158_0.symm.trans hx158_0)
      injection hv158_0 with hva_ hvn_ hvc_
      rw [hva_] at ge158_0
      rw [hvc_] at ul158_0
      have HL158_0 := Aside0.mk (show Kd.V k32 32 _ w.heap.size _ _ (rd_L6 t148 0) from Kd.V_mk ul158_0 ge158_0)
      clear hva_ hvn_ hvc_ ge158_0 ul158_0
      clear hcc158 hce158
      have qi158 : (0 < t148.length) = True := eq_true (by omega)
      (try rw [show ((0 : Int)).toNat = 0 from rfl] at hx158_0)
      (try rw [Addr.add_zero'] at hx158_0)
      have HR158_0 := Aside0.mk hi158_0
      have HC158_0 := Aside0.mk hl158_0
      clear hi158_0 hl158_0
      replace p158 := eq_true p158
      replace q158 := eq_true q158
      refine start_ (n := 26) (S := fun w' => w'.cell? ad158 = some (.slice A158_0 (rd_L6 t148 0).length c158_0)) (ds := []) #[false, false, false, false, false, false, false, false, false, false, false, false, false, false, false, false, false, false, false, false, false, false, false, false, false, false] (by kernel_rfl) rfl rfl (hx158_0) (fun hHeld => ?_); refine with_tabW thermionlaw04_awake.tab3 thermionlaw04_awake.bits3 (fun HT_ HW_ => ?_)
      generalize w31.drew = w32 at HO147 HO150 HO154 HB HL158_0 HR158_0 hx158_0 hHeld ⊢
      refine pure_ (i := 0) (N := some 15) (v := ?_) (a' := ?_) #[true, false, false, false, false, false, false, false, false, false, false, false, false, false, false, false, false, false, false, false, false, false, false, false, false, false] rfl rfl (any_of HT_.out (by kernel_rfl)) (fun _ _ _ h => h) (Or.inl ⟨by rfl, ?_⟩) ?_ ?_
      rotate_left
      ·intro w'
       go_simp
       with_reducible rfl
      rotate_left
      ·simp only [Act.put, List.setIfInBounds_toArray, List.set_cons_zero, List.set_cons_succ, i64_w, i32_w]
       rfl
      refine pure_ (i := 1) (N := some 16) (v := ?_) (a' := ?_) #[true, true, false, false, false, false, false, false, false, false, false, false, false, false, false, false, false, false, false, false, false, false, false, false, false, false] rfl rfl (any_of HT_.out (by kernel_rfl)) (fun _ _ _ h => h) (Or.inl ⟨by rfl, ?_⟩) ?_ ?_
      rotate_left
      ·intro w'
       go_simp
       with_reducible rfl
      rotate_left
      ·simp only [Act.put, List.setIfInBounds_toArray, List.set_cons_zero, List.set_cons_succ, i64_w, i32_w]
       rfl
      refine pure_ (i := 2) (N := some 17) (v := ?_) (a' := ?_) #[true, true, true, false, false, false, false, false, false, false, false, false, false, false, false, false, false, false, false, false, false, false, false, false, false, false] rfl rfl (any_of HT_.out (by kernel_rfl)) (fun _ _ _ h => h) (Or.inl ⟨by rfl, ?_⟩) ?_ ?_
      rotate_left
      ·intro w'
       go_simp
       with_reducible rfl
      rotate_left
      ·simp only [Act.put, List.setIfInBounds_toArray, List.set_cons_zero, List.set_cons_succ, i64_w, i32_w]
       rfl
      refine pure_ (i := 3) (N := some 18) (v := ?_) (a' := ?_) #[true, true, true, true, false, false, false, false, false, false, false, false, false, false, false, false, false, false, false, false, false, false, false, false, false, false] rfl rfl (any_of HT_.out (by kernel_rfl)) (fun _ _ _ h => h) (Or.inl ⟨by rfl, ?_⟩) ?_ ?_
      rotate_left
      ·intro w'
       go_simp
       with_reducible rfl
      rotate_left
      ·simp only [Act.put, List.setIfInBounds_toArray, List.set_cons_zero, List.set_cons_succ, i64_w, i32_w]
       rfl
      refine pure_ (i := 4) (N := some 19) (v := ?_) (a' := ?_) #[true, true, true, true, true, false, false, false, false, false, false, false, false, false, false, false, false, false, false, false, false, false, false, false, false, false] rfl rfl (any_of HT_.out (by kernel_rfl)) (fun _ _ _ h => h) (Or.inl ⟨by rfl, ?_⟩) ?_ ?_
      rotate_left
      ·intro w'
       go_simp
       with_reducible rfl
      rotate_left
      ·simp only [Act.put, List.setIfInBounds_toArray, List.set_cons_zero, List.set_cons_succ, i64_w, i32_w]
       rfl
      refine pure_ (i := 5) (N := some 20) (v := ?_) (a' := ?_) #[true, true, true, true, true, true, false, false, false, false, false, false, false, false, false, false, false, false, false, false, false, false, false, false, false, false] rfl rfl (any_of HT_.out (by kernel_rfl)) (fun _ _ _ h => h) (Or.inl ⟨by rfl, ?_⟩) ?_ ?_
      rotate_left
      ·intro w'
       go_simp
       with_reducible rfl
      rotate_left
      ·simp only [Act.put, List.setIfInBounds_toArray, List.set_cons_zero, List.set_cons_succ, i64_w, i32_w]
       rfl
      refine pure_ (i := 6) (N := some 21) (v := ?_) (a' := ?_) #[true, true, true, true, true, true, true, false, false, false, false, false, false, false, false, false, false, false, false, false, false, false, false, false, false, false] rfl rfl (any_of HT_.out (by kernel_rfl)) (fun _ _ _ h => h) (Or.inl ⟨by rfl, ?_⟩) ?_ ?_
      rotate_left
      ·intro w'
       go_simp
       with_reducible rfl
      rotate_left
      ·simp only [Act.put, List.setIfInBounds_toArray, List.set_cons_zero, List.set_cons_succ, i64_w, i32_w]
       rfl
      refine pure_ (i := 7) (N := some 22) (v := ?_) (a' := ?_) #[true, true, true, true, true, true, true, true, false, false, false, false, false, false, false, false, false, false, false, false, false, false, false, false, false, false] rfl rfl (any_of HT_.out (by kernel_rfl)) (fun _ _ _ h => h) (Or.inl ⟨by rfl, ?_⟩) ?_ ?_
      rotate_left
      ·intro w'
       go_simp
       with_reducible rfl
      rotate_left
      ·simp only [Act.put, List.setIfInBounds_toArray, List.set_cons_zero, List.set_cons_succ, i64_w, i32_w]
       rfl
      refine pure_ (i := 8) (N := some 23) (v := ?_) (a' := ?_) #[true, true, true, true, true, true, true, true, true, false, false, false, false, false, false, false, false, false, false, false, false, false, false, false, false, false] rfl rfl (any_of HT_.out (by kernel_rfl)) (fun _ _ _ h => h) (Or.inl ⟨by rfl, ?_⟩) ?_ ?_
      rotate_left
      ·intro w'
       go_simp
       with_reducible rfl
      rotate_left
      ·simp only [Act.put, List.setIfInBounds_toArray, List.set_cons_zero, List.set_cons_succ, i64_w, i32_w]
       rfl
      refine pure_ (i := 9) (N := some 24) (v := ?_) (a' := ?_) #[true, true, true, true, true, true, true, true, true, true, false, false, false, false, false, false, false, false, false, false, false, false, false, false, false, false] rfl rfl (any_of HT_.out (by kernel_rfl)) (fun _ _ _ h => h) (Or.inl ⟨by rfl, ?_⟩) ?_ ?_
      rotate_left
      ·intro w'
       go_simp
       with_reducible rfl
      rotate_left
      ·simp only [Act.put, List.setIfInBounds_toArray, List.set_cons_zero, List.set_cons_succ, i64_w, i32_w]
       rfl
      refine pure_ (i := 11) (N := some 26) (v := ?_) (a' := ?_) #[true, true, true, true, true, true, true, true, true, true, false, true, false, false, false, false, false, false, false, false, false, false, false, false, false, false] rfl rfl (any_of HT_.out (by kernel_rfl)) (fun _ _ _ h => h) (Or.inl ⟨by rfl, ?_⟩) ?_ ?_
      rotate_left
      ·intro w'
       go_simp
       with_reducible rfl
      rotate_left
      ·simp only [Act.put, List.setIfInBounds_toArray, List.set_cons_zero, List.set_cons_succ, i64_w, i32_w]
       rfl
      refine take_ (i := 10) (N := some 25) (v := ?_) (a' := ?_) #[true, true, true, true, true, true, true, true, true, true, true, true, false, false, false, false, false, false, false, false, false, false, false, false, false, false] rfl rfl (take_ofW HT_.out HW_.out (by kernel_rfl)) (fun _ _ _ h => h) (Or.inl ⟨by rfl, ?_⟩) hHeld ?_ ?_
      rotate_left
      ·intro w' s0
       go_simp
       with_reducible rfl
      rotate_left
      ·simp only [Act.put, List.setIfInBounds_toArray, List.set_cons_zero, List.set_cons_succ, i64_w, i32_w]
       rfl
      refine one_ (i := 12) (N := some 27) #[true, true, true, true, true, true, true, true, true, true, true, true, true, false, false, false, false, false, false, false, false, false, false, false, false, false] rfl rfl (one_of HT_.out (by kernel_rfl)) (by decide) (fun K hK => ?_)
      refine goes_ Try.func52 (by kernel_rfl) rfl #[.int .i64 10, .int .i64 12] (by rfl) rfl rfl (by (try simp only [List.map_toArray, List.map_cons, List.map_nil]); first | done | rfl | (simp only [List.length_drop, List.length_take]; rfl)) ?_
      with_reducible refine (thermionlaw04_of.calls 10 12 t159 t160 _ A8.out).mono ?_
      rintro e w34 ⟨rfl, hb⟩
      have HS0_ := (hb.cell (World.block_lt_of_cell? _ _ (hHeld))).trans (hHeld)
      refine ⟨_, rfl, ?_⟩
      have n0_ := Aside0.mk (Kd.R_below (by (with_reducible repeat (first | apply Kd.R_alloc | apply Kd.R_drewN | apply Kd.R_drew)); exact HO147.out) hb)
      have n1_ := Aside0.mk (Kd.N_below (by (with_reducible repeat (first | apply Kd.N_alloc | apply Kd.N_drewN | apply Kd.N_drew)); exact HO150.out) hb)
      have n2_ := Aside0.mk (Kd.N_below (by (with_reducible repeat (first | apply Kd.N_alloc | apply Kd.N_drewN | apply Kd.N_drew)); exact HO154.out) hb)
      have n3_ := Aside0.mk (Kd.V_below (by (with_reducible repeat (first | apply Kd.V_alloc | apply Kd.V_drewN | apply Kd.V_drew)); exact HL158_0.out) hb)
      have n4_ := Aside0.mk (Kd.C_below (by repeat (first | (with_reducible exact HR158_0.out) | (with_reducible refine Kd.C_alloc ?_ _) | (with_reducible refine Kd.C_drewN ?_ _) | (with_reducible refine Kd.C_drew ?_) | exact HR158_0.out)) hb)
      have n5_ := Aside0.mk (below_step (by repeat (first | (with_reducible first | exact HB.out | apply below_alloc | apply pw_below_drewN | apply below_drew1) | exact HB.out)) hb)
      clear HO147
      clear HO150
      clear HO154
      clear HL158_0
      clear HR158_0
      clear HB
      have HO147 := n0_
      have HO150 := n1_
      have HO154 := n2_
      have HL158_0 := n3_
      have HR158_0 := n4_
      have HB := n5_
      clear n0_ n1_ n2_ n3_ n4_ n5_
      (try clear hb)
      (try clear hb2)
      (try clear hk)
      (try clear hi)
      refine hK.out _ _ (HS0_) (fun hHeld => ?_)
      clear hK K
      refine norm_ (a' := ?_) ?_ ?_
      rotate_left
      ·show Act.put _ (some 27) _ = _
       simp only [Act.put, List.setIfInBounds_toArray, List.set_cons_zero, List.set_cons_succ, i64_w, i32_w]
       rfl
      refine one_ (i := 13) (N := some 28) #[true, true, true, true, true, true, true, true, true, true, true, true, true, true, false, false, false, false, false, false, false, false, false, false, false, false] rfl rfl (one_of HT_.out (by kernel_rfl)) (by decide) (fun K hK => ?_)
      refine goes_ Try.func52 (by kernel_rfl) rfl #[.int .i64 17, .int .i64 18] (by rfl) rfl rfl (by (try simp only [List.map_toArray, List.map_cons, List.map_nil]); first | done | rfl | (simp only [List.length_drop, List.length_take]; rfl)) ?_
      with_reducible refine (thermionlaw04_of.calls 17 18 t161 t162 _ A9.out).mono ?_
      rintro e w35 ⟨rfl, hb⟩
      have HS0_ := (hb.cell (World.block_lt_of_cell? _ _ (hHeld))).trans (hHeld)
      refine ⟨_, rfl, ?_⟩
      have n0_ := Aside0.mk (Kd.R_below (by (with_reducible repeat (first | apply Kd.R_alloc | apply Kd.R_drewN | apply Kd.R_drew)); exact HO147.out) hb)
      have n1_ := Aside0.mk (Kd.N_below (by (with_reducible repeat (first | apply Kd.N_alloc | apply Kd.N_drewN | apply Kd.N_drew)); exact HO150.out) hb)
      have n2_ := Aside0.mk (Kd.N_below (by (with_reducible repeat (first | apply Kd.N_alloc | apply Kd.N_drewN | apply Kd.N_drew)); exact HO154.out) hb)
      have n3_ := Aside0.mk (Kd.V_below (by (with_reducible repeat (first | apply Kd.V_alloc | apply Kd.V_drewN | apply Kd.V_drew)); exact HL158_0.out) hb)
      have n4_ := Aside0.mk (Kd.C_below (by repeat (first | (with_reducible exact HR158_0.out) | (with_reducible refine Kd.C_alloc ?_ _) | (with_reducible refine Kd.C_drewN ?_ _) | (with_reducible refine Kd.C_drew ?_) | exact HR158_0.out)) hb)
      have n5_ := Aside0.mk (below_step (by repeat (first | (with_reducible first | exact HB.out | apply below_alloc | apply pw_below_drewN | apply below_drew1) | exact HB.out)) hb)
      clear HO147
      clear HO150
      clear HO154
      clear HL158_0
      clear HR158_0
      clear HB
      have HO147 := n0_
      have HO150 := n1_
      have HO154 := n2_
      have HL158_0 := n3_
      have HR158_0 := n4_
      have HB := n5_
      clear n0_ n1_ n2_ n3_ n4_ n5_
      (try clear hb)
      (try clear hb2)
      (try clear hk)
      (try clear hi)
      refine hK.out _ _ (HS0_) (fun hHeld => ?_)
      clear hK K
      refine norm_ (a' := ?_) ?_ ?_
      rotate_left
      ·show Act.put _ (some 28) _ = _
       simp only [Act.put, List.setIfInBounds_toArray, List.set_cons_zero, List.set_cons_succ, i64_w, i32_w]
       rfl
      refine one_ (i := 14) (N := some 29) #[true, true, true, true, true, true, true, true, true, true, true, true, true, true, true, false, false, false, false, false, false, false, false, false, false, false] rfl rfl (one_of HT_.out (by kernel_rfl)) (by decide) (fun K hK => ?_)
      refine Kd.R_lit_step k32 _ 32 ?hg (N := 29) ?hd (xs := ([(⟨0, 0⟩ : S32), (⟨t159, t160⟩ : S32), (⟨t161, t162⟩ : S32)] : List (S32))) (inner := [.int .i64 0, .int .i64 0, .int .i64 t159, .int .i64 t160, .int .i64 t161, .int .i64 t162]) (ok := fun _ => True) (okp := fun _ => True) ?hr ?hp (fun _ hk => hk) trivial (Below.refl _ _) (Nat.le_refl _) (by simp) ?_; (case hd => rfl); (case hg => rfl); (case hr => first | (go_simp; done) | (go_simp; rfl)); (case hp => exact (Reps.c2 (show Kd.M k32 _ _ _ (⟨0, 0⟩ : S32) [.int .i64 0, .int .i64 0] from (k32_mkM _ _ _ (⟨0, 0⟩ : S32) )) (Reps.c2 (show Kd.M k32 _ _ _ (⟨t159, t160⟩ : S32) [.int .i64 t159, .int .i64 t160] from (k32_mkM _ _ _ (⟨t159, t160⟩ : S32) )) (Reps.c2 (show Kd.M k32 _ _ _ (⟨t161, t162⟩ : S32) [.int .i64 t161, .int .i64 t162] from (k32_mkM _ _ _ (⟨t161, t162⟩ : S32) )) (Reps.none _ _)))))
      intro v164 w36 ho37 hb hg_ hnew_
      have HS0_ := (hb.cell (World.block_lt_of_cell? _ _ (hHeld))).trans (hHeld)
      clear hg_ hnew_
      (first | rw [← Ny163.out] at ho37 | (simp only [Int.reduceToNat] at ho37; rw [← Ny163.out] at ho37))
      have n0_ := Aside0.mk (Kd.R_below (by (with_reducible repeat (first | apply Kd.R_alloc | apply Kd.R_drewN | apply Kd.R_drew)); exact HO147.out) hb)
      have n1_ := Aside0.mk (Kd.N_elder' (by (with_reducible repeat (first | apply Kd.N_alloc | apply Kd.N_drewN | apply Kd.N_drew)); exact HO150.out) (Kd.R_base ho37) hb)
      have n2_ := Aside0.mk (Kd.N_elder' (by (with_reducible repeat (first | apply Kd.N_alloc | apply Kd.N_drewN | apply Kd.N_drew)); exact HO154.out) (Kd.R_base ho37) hb)
      have n3_ := Aside0.mk (Kd.V_elder' (by (with_reducible repeat (first | apply Kd.V_alloc | apply Kd.V_drewN | apply Kd.V_drew)); exact HL158_0.out) (Kd.R_base ho37) hb)
      have n4_ := Aside0.mk (Kd.R_lower ho37 (below_size (by repeat (first | (with_reducible first | exact HB.out | apply below_alloc | apply pw_below_drewN | apply below_drew1) | exact HB.out))))
      have n5_ := Aside0.mk (Kd.C_below (by repeat (first | (with_reducible exact HR158_0.out) | (with_reducible refine Kd.C_alloc ?_ _) | (with_reducible refine Kd.C_drewN ?_ _) | (with_reducible refine Kd.C_drew ?_) | exact HR158_0.out)) hb)
      have n6_ := Aside0.mk (below_step (by repeat (first | (with_reducible first | exact HB.out | apply below_alloc | apply pw_below_drewN | apply below_drew1) | exact HB.out)) hb)
      clear HO147
      clear HO150
      clear HO154
      clear HL158_0
      clear HR158_0
      clear HB
      have HO147 := n0_
      have HO150 := n1_
      have HO154 := n2_
      have HL158_0 := n3_
      have HO165 := n4_
      have HR158_0 := n5_
      have HB := n6_
      clear n0_ n1_ n2_ n3_ n4_ n5_ n6_
      clear hb ho37
      obtain ⟨Ao38, co38, eo38⟩ := Kd.R_slice HO165.out
      (first | subst eo38 | (injection eo38 with f1_ f2_ f3_; have f4_ := f1_.symm; have f5_ := f3_.symm; clear f1_ f2_ f3_; subst f4_; subst f5_))
      refine hK.out _ _ (HS0_) (fun hHeld => ?_)
      clear hK K
      refine norm_ (a' := ?_) ?_ ?_
      rotate_left
      ·show Act.put _ (some 29) _ = _
       simp only [Act.put, List.setIfInBounds_toArray, List.set_cons_zero, List.set_cons_succ, i64_w, i32_w]
       rfl
      refine one_ (i := 15) (N := some 30) #[true, true, true, true, true, true, true, true, true, true, true, true, true, true, true, true, false, false, false, false, false, false, false, false, false, false] rfl rfl (one_of HT_.out (by kernel_rfl)) (by decide) (fun K hK => ?_)
      refine goes_ Try.func88 (by kernel_rfl) rfl #[.slice A158_0 (rd_L6 t148 0).length c158_0, .slice Ao38 y163.length co38] (by rfl) rfl rfl (by (try simp only [List.map_toArray, List.map_cons, List.map_nil]); first | done | rfl | (simp only [List.length_drop, List.length_take]; rfl)) ?_
      with_reducible refine (thermionkit_SameRanges.calls k _ _ (rd_L6 t148 0) _ _ y163 true _ ?side1 ?side2 ?side3 ?side4 A10.out).mono ?_
      (case side1 => repeat (first | exact (by repeat (first | (with_reducible exact HR158_0.out) | (with_reducible refine Kd.C_alloc ?_ _) | (with_reducible refine Kd.C_drewN ?_ _) | (with_reducible refine Kd.C_drew ?_) | exact HR158_0.out)) | (with_reducible refine Kd.C_alloc ?_ _) | (with_reducible refine Kd.C_drewN ?_ _) | (with_reducible refine Kd.C_drew ?_)))
      (case side2 => exact HC158_0.out)
      (case side3 => repeat (first | exact (Kd.R_reads' HO165.out).2.2 | (with_reducible refine Kd.C_alloc ?_ _) | (with_reducible refine Kd.C_drewN ?_ _) | (with_reducible refine Kd.C_drew ?_)))
      (case side4 => exact (Kd.R_reads' HO165.out).2.1)
      rintro e w' ⟨rfl, ⟨nd, rfl⟩⟩
      refine ⟨_, rfl, ?_⟩
      refine hK.out _ _ (hHeld) (fun hHeld => ?_)
      clear hK K
      refine norm_ (a' := ?_) ?_ ?_
      rotate_left
      ·show Act.put _ (some 30) _ = _
       simp only [Act.put, List.setIfInBounds_toArray, List.set_cons_zero, List.set_cons_succ, i64_w, i32_w]
       rfl
      refine pure_ (i := 16) (N := some 31) (v := ?_) (a' := ?_) #[true, true, true, true, true, true, true, true, true, true, true, true, true, true, true, true, true, false, false, false, false, false, false, false, false, false] rfl rfl (any_of HT_.out (by kernel_rfl)) (fun _ _ _ h => h) (Or.inl ⟨by rfl, ?_⟩) ?_ ?_
      rotate_left
      ·intro w'
       go_simp
       with_reducible rfl
      rotate_left
      ·simp only [Act.put, List.setIfInBounds_toArray, List.set_cons_zero, List.set_cons_succ, i64_w, i32_w]
       rfl
      refine pure_ (i := 17) (N := some 32) (v := ?_) (a' := ?_) #[true, true, true, true, true, true, true, true, true, true, true, true, true, true, true, true, true, true, false, false, false, false, false, false, false, false] rfl rfl (any_of HT_.out (by kernel_rfl)) (fun _ _ _ h => h) (Or.inl ⟨by rfl, ?_⟩) ?_ ?_
      rotate_left
      ·intro w'
       go_simp
       with_reducible rfl
      rotate_left
      ·simp only [Act.put, List.setIfInBounds_toArray, List.set_cons_zero, List.set_cons_succ, i64_w, i32_w]
       rfl
      refine pure_ (i := 18) (N := some 33) (v := ?_) (a' := ?_) #[true, true, true, true, true, true, true, true, true, true, true, true, true, true, true, true, true, true, true, false, false, false, false, false, false, false] rfl rfl (any_of HT_.out (by kernel_rfl)) (fun _ _ _ h => h) (Or.inl ⟨by rfl, ?_⟩) ?_ ?_
      rotate_left
      ·intro w'
       go_simp
       with_reducible rfl
      rotate_left
      ·simp only [Act.put, List.setIfInBounds_toArray, List.set_cons_zero, List.set_cons_succ, i64_w, i32_w]
       rfl
      refine pure_ (i := 19) (N := some 34) (v := ?_) (a' := ?_) #[true, true, true, true, true, true, true, true, true, true, true, true, true, true, true, true, true, true, true, true, false, false, false, false, false, false] rfl rfl (any_of HT_.out (by kernel_rfl)) (fun _ _ _ h => h) (Or.inl ⟨by rfl, ?_⟩) ?_ ?_
      rotate_left
      ·intro w'
       go_simp
       with_reducible rfl
      rotate_left
      ·simp only [Act.put, List.setIfInBounds_toArray, List.set_cons_zero, List.set_cons_succ, i64_w, i32_w]
       rfl
      refine pure_ (i := 20) (N := some 35) (v := ?_) (a' := ?_) #[true, true, true, true, true, true, true, true, true, true, true, true, true, true, true, true, true, true, true, true, true, false, false, false, false, false] rfl rfl (any_of HT_.out (by kernel_rfl)) (fun _ _ _ h => h) (Or.inl ⟨by rfl, ?_⟩) ?_ ?_
      rotate_left
      ·intro w'
       go_simp
       with_reducible rfl
      rotate_left
      ·simp only [Act.put, List.setIfInBounds_toArray, List.set_cons_zero, List.set_cons_succ, i64_w, i32_w]
       rfl
      refine pure_ (i := 21) (N := some 36) (v := ?_) (a' := ?_) #[true, true, true, true, true, true, true, true, true, true, true, true, true, true, true, true, true, true, true, true, true, true, false, false, false, false] rfl rfl (any_of HT_.out (by kernel_rfl)) (fun _ _ _ h => h) (Or.inl ⟨by rfl, ?_⟩) ?_ ?_
      rotate_left
      ·intro w'
       go_simp
       with_reducible rfl
      rotate_left
      ·simp only [Act.put, List.setIfInBounds_toArray, List.set_cons_zero, List.set_cons_succ, i64_w, i32_w]
       rfl
      refine pure_ (i := 22) (N := some 37) (v := undef) (a' := ?_) #[true, true, true, true, true, true, true, true, true, true, true, true, true, true, true, true, true, true, true, true, true, true, true, false, false, false] rfl rfl (any_of HT_.out (by kernel_rfl)) (fun _ _ _ h => h) (Or.inr ⟨by rfl, rfl⟩) ?_ ?_
      rotate_left
      ·simp only [Act.put, List.setIfInBounds_toArray, List.set_cons_zero, List.set_cons_succ, i64_w, i32_w]
       rfl
      refine pure_ (i := 23) (N := some 38) (v := undef) (a' := ?_) #[true, true, true, true, true, true, true, true, true, true, true, true, true, true, true, true, true, true, true, true, true, true, true, true, false, false] rfl rfl (any_of HT_.out (by kernel_rfl)) (fun _ _ _ h => h) (Or.inr ⟨by rfl, rfl⟩) ?_ ?_
      rotate_left
      ·simp only [Act.put, List.setIfInBounds_toArray, List.set_cons_zero, List.set_cons_succ, i64_w, i32_w]
       rfl
      refine pure_ (i := 24) (N := some 39) (v := ?_) (a' := ?_) #[true, true, true, true, true, true, true, true, true, true, true, true, true, true, true, true, true, true, true, true, true, true, true, true, true, false] rfl rfl (any_of HT_.out (by kernel_rfl)) (fun _ _ _ h => h) (Or.inl ⟨by rfl, ?_⟩) ?_ ?_
      rotate_left
      ·intro w'
       go_simp
       with_reducible rfl
      rotate_left
      ·simp only [Act.put, List.setIfInBounds_toArray, List.set_cons_zero, List.set_cons_succ, i64_w, i32_w]
       rfl
      refine pure_ (i := 25) (N := some 0) (v := ?_) (a' := ?_) #[true, true, true, true, true, true, true, true, true, true, true, true, true, true, true, true, true, true, true, true, true, true, true, true, true, true] rfl rfl (any_of HT_.out (by kernel_rfl)) (fun _ _ _ h => h) (Or.inl ⟨by rfl, ?_⟩) ?_ ?_
      rotate_left
      ·intro w'
       go_simp
       with_reducible rfl
      rotate_left
      ·simp only [Act.put, List.setIfInBounds_toArray, List.set_cons_zero, List.set_cons_succ, i64_w, i32_w]
       rfl
      refine done_ (done_of HT_.out (by kernel_rfl)) ?_
      try go_wp2
      go_ret
      exact ⟨by first | rfl | (simp [errW_none, errW_some] <;> rfl) | (simp [*, errW_none, errW_some] <;> rfl), by repeat (first | (with_reducible first | exact HB.out | apply below_alloc | apply pw_below_drewN | apply below_drew1) | exact HB.out)⟩
    ·replace c11 := Bool.eq_false_iff.mpr c11
     subst c11
     have H1 : (some false) = some r := by rw [if_neg (show ¬ (false = true) by decide)] at H; exact H
     clear H
     have H := H1
     clear H1
     obtain rfl := Option.some.inj H
     go_enter Try.func21, Try.ntmps21
     try go_wp2_with (first | ((with_reducible refine gate_callee (f := 87) rfl ?_); refine goesL_ (some 6) rfl rfl Try.func87 (by kernel_rfl) rfl #[] rfl (by (try simp only [List.map_toArray, List.map_cons, List.map_nil]); first | done | rfl | (simp only [List.length_drop, List.length_take]; rfl)) ?_; (with_reducible refine (thermionlaw04_chain.calls  t144 t145 _ A1.out).mono ?_); rintro e w39 ⟨v146, rfl, ho0, hb⟩; refine ⟨_, rfl, ?_⟩; have n0_ := Aside0.mk (Kd.R_lower ho0 (below_size (by repeat (first | (with_reducible first | exact HB.out | apply below_alloc | apply pw_below_drewN | apply below_drew1) | exact HB.out)))); have n1_ := Aside0.mk (below_step (by repeat (first | (with_reducible first | exact HB.out | apply below_alloc | apply pw_below_drewN | apply below_drew1) | exact HB.out)) hb); clear HB; have HO147 := n0_; have HB := n1_; clear n0_ n1_; (try clear hb); (try clear hb2); (try clear hk); (try clear hi); (try clear ho0); obtain ⟨Ao40, co40, eo40⟩ := Kd.R_slice HO147.out; subst eo40) | ((with_reducible refine gate_callee (f := 24) rfl ?_); refine goesL_ (some 7) rfl rfl Try.func24 (by kernel_rfl) rfl #[.agg #[.int .i64 t144, .slice Ao40 t145.length co40]] rfl (by (try simp only [List.map_toArray, List.map_cons, List.map_nil]); first | done | rfl | (simp only [List.length_drop, List.length_take]; rfl)) ?_; (with_reducible refine (mount_Tight.calls t144 _ _ t145 t148 t151 _ ?side1 ?side2 A2.out).mono ?_); (case side1 => repeat (first | exact (Kd.R_reads' HO147.out).2.2 | (with_reducible refine Kd.C_alloc ?_ _) | (with_reducible refine Kd.C_drewN ?_ _) | (with_reducible refine Kd.C_drew ?_))); (case side2 => exact (Kd.R_reads' HO147.out).2.1); rintro e w41 ⟨v149, rfl, ho0, hb⟩; refine ⟨_, rfl, ?_⟩; have n0_ := Aside0.mk (Kd.R_below (by (with_reducible repeat (first | apply Kd.R_alloc | apply Kd.R_drewN | apply Kd.R_drew)); exact HO147.out) hb); have n1_ := Aside0.mk (Kd.N_lower (Kd.N_mono (ok' := fun k_ => some k_ ≠ (.slice Ao40 t145.length co40 : Value).ownBlock) (Kd.S_N (Kd.S_bound ho0)) (fun k_ hk_ => (Kd.fresh' (Kd.R_lt (by (with_reducible repeat (first | apply Kd.R_alloc | apply Kd.R_drewN | apply Kd.R_drew)); exact HO147.out)) k_ hk_.2.1))) (below_size (by repeat (first | (with_reducible first | exact HB.out | apply below_alloc | apply pw_below_drewN | apply below_drew1) | exact HB.out)))); have n2_ := Aside0.mk (below_step (by repeat (first | (with_reducible first | exact HB.out | apply below_alloc | apply pw_below_drewN | apply below_drew1) | exact HB.out)) hb); clear HO147; clear HB; have HO147 := n0_; have HO150 := n1_; have HB := n2_; clear n0_ n1_ n2_; (try clear hb); (try clear hb2); (try clear hk); (try clear hi); (try clear ho0)) | ((with_reducible refine gate_callee (f := 59) rfl ?_); refine goesL_ (some 11) rfl rfl Try.func59 (by kernel_rfl) rfl #[] rfl (by (try simp only [List.map_toArray, List.map_cons, List.map_nil]); first | done | rfl | (simp only [List.length_drop, List.length_take]; rfl)) ?_; (with_reducible refine (thermionlaw04_kit.calls  t152 t155 _ A3.out).mono ?_); rintro e w42 ⟨v153, rfl, ho0, hb⟩; refine ⟨_, rfl, ?_⟩; have n0_ := Aside0.mk (Kd.R_below (by (with_reducible repeat (first | apply Kd.R_alloc | apply Kd.R_drewN | apply Kd.R_drew)); exact HO147.out) hb); have n1_ := Aside0.mk (Kd.N_elder' (by (with_reducible repeat (first | apply Kd.N_alloc | apply Kd.N_drewN | apply Kd.N_drew)); exact HO150.out) (Kd.N_base ho0) hb); have n2_ := Aside0.mk (Kd.N_lower (Kd.N_mono (ok' := fun k_ => some k_ ≠ (.slice Ao40 t145.length co40 : Value).ownBlock ∧ some k_ ≠ (v149 : Value).ownBlock) ho0 (fun k_ hk_ => ⟨(Kd.fresh' (Kd.R_lt (by (with_reducible repeat (first | apply Kd.R_alloc | apply Kd.R_drewN | apply Kd.R_drew)); exact HO147.out)) k_ hk_), (Kd.fresh' (Kd.N_lt (by (with_reducible repeat (first | apply Kd.N_alloc | apply Kd.N_drewN | apply Kd.N_drew)); exact HO150.out)) k_ hk_)⟩)) (below_size (by repeat (first | (with_reducible first | exact HB.out | apply below_alloc | apply pw_below_drewN | apply below_drew1) | exact HB.out)))); have n3_ := Aside0.mk (below_step (by repeat (first | (with_reducible first | exact HB.out | apply below_alloc | apply pw_below_drewN | apply below_drew1) | exact HB.out)) hb); clear HO147; clear HO150; clear HB; have HO147 := n0_; have HO150 := n1_; have HO154 := n2_; have HB := n3_; clear n0_ n1_ n2_ n3_; (try clear hb); (try clear hb2); (try clear hk); (try clear hi); (try clear ho0); obtain ⟨Ao43, co43, eo43⟩ := Kd.N_slice HO154.out; subst eo43) | ((with_reducible refine gate_callee (f := 30) rfl ?_); refine goesL_ (some 12) rfl rfl Try.func30 (by kernel_rfl) rfl #[.agg #[.slice Ao43 t152.length co43, .int .i64 t155]] rfl (by (try simp only [List.map_toArray, List.map_cons, List.map_nil]); first | done | rfl | (simp only [List.length_drop, List.length_take]; rfl)) ?_; (with_reducible refine (mount_Orders.calls _ _ t152 t155 t156 t157 _ ?side1 ?side2 A4.out).mono ?_); (case side1 => repeat (first | exact (Kd.N_reads' HO154.out).2.2 | (with_reducible refine Kd.C_alloc ?_ _) | (with_reducible refine Kd.C_drewN ?_ _) | (with_reducible refine Kd.C_drew ?_))); (case side2 => exact (Kd.N_reads' HO154.out).2.1); rintro e w44 ⟨rfl, hb⟩; refine ⟨_, rfl, ?_⟩; have n0_ := Aside0.mk (Kd.R_below (by (with_reducible repeat (first | apply Kd.R_alloc | apply Kd.R_drewN | apply Kd.R_drew)); exact HO147.out) hb); have n1_ := Aside0.mk (Kd.N_below (by (with_reducible repeat (first | apply Kd.N_alloc | apply Kd.N_drewN | apply Kd.N_drew)); exact HO150.out) hb); have n2_ := Aside0.mk (Kd.N_below (by (with_reducible repeat (first | apply Kd.N_alloc | apply Kd.N_drewN | apply Kd.N_drew)); exact HO154.out) hb); have n3_ := Aside0.mk (below_step (by repeat (first | (with_reducible first | exact HB.out | apply below_alloc | apply pw_below_drewN | apply below_drew1) | exact HB.out)) hb); clear HO147; clear HO150; clear HO154; clear HB; have HO147 := n0_; have HO150 := n1_; have HO154 := n2_; have HB := n3_; clear n0_ n1_ n2_ n3_; (try clear hb); (try clear hb2); (try clear hk); (try clear hi)))
     have n0_ := Aside0.mk (Kd.R_drew HO147.out)
     have n1_ := Aside0.mk (Kd.N_drew HO150.out)
     have n2_ := Aside0.mk (Kd.N_drew HO154.out)
     have n3_ := Aside0.mk (below_drew1 HB.out)
     clear HO147
     clear HO150
     clear HO154
     clear HB
     have HO147 := n0_
     have HO150 := n1_
     have HO154 := n2_
     have HB := n3_
     clear n0_ n1_ n2_ n3_
     obtain ⟨Ao46, co46, eo46⟩ := Kd.N_slice HO150.out
     (first | subst eo46 | (injection eo46 with f1_ f2_ f3_; have f4_ := f1_.symm; have f5_ := f3_.symm; clear f1_ f2_ f3_; subst f4_; subst f5_))
     have p158 : 0 ≤ (0 : Int) := (by omega)
     have q158 : 0 < (t148.length : Int) := of_decide_eq_true (by first | (with_reducible assumption) | assumption)
     obtain ⟨ad158, A158_0, c158_0, e158, hx158_0, hl158_0, hi158_0⟩ := at_L6 (Kd.N_reads' HO150.out).2.2 0 p158 q158
     cases e158
     obtain ⟨ce158, hce158, hMe158, hcc158⟩ := Kd.N_get HO150.out [] 0 p158 (by first | exact q158 | exact of_decide_eq_true (by first | (with_reducible assumption) | assumption) | (have e_ := (Kd.N_reads' HO150.out).1; omega))
     obtain ⟨ua158_0, uc158_0, rfl, ul158_0, ge158_0⟩ := Kd.FK_slice_open hMe158
     have hv158_0 := hcc158 0 _ rfl
     rw [Nat.add_zero, show ((Kd.slice 32 k32)).sz = 1 from rfl, Nat.mul_one] at hv158_0
     replace hv158_0 := Option.some.inj (hv158_0.symm.trans hx158_0)
     injection hv158_0 with hva_ hvn_ hvc_
     rw [hva_] at ge158_0
     rw [hvc_] at ul158_0
     have HL158_0 := Aside0.mk (show Kd.V k32 32 _ w.heap.size _ _ (rd_L6 t148 0) from Kd.V_mk ul158_0 ge158_0)
     clear hva_ hvn_ hvc_ ge158_0 ul158_0
     clear hcc158 hce158
     have qi158 : (0 < t148.length) = True := eq_true (by omega)
     (try rw [show ((0 : Int)).toNat = 0 from rfl] at hx158_0)
     (try rw [Addr.add_zero'] at hx158_0)
     have HR158_0 := Aside0.mk hi158_0
     have HC158_0 := Aside0.mk hl158_0
     clear hi158_0 hl158_0
     replace p158 := eq_true p158
     replace q158 := eq_true q158
     refine start_ (n := 26) (S := fun w' => w'.cell? ad158 = some (.slice A158_0 (rd_L6 t148 0).length c158_0)) (ds := []) #[false, false, false, false, false, false, false, false, false, false, false, false, false, false, false, false, false, false, false, false, false, false, false, false, false, false] (by kernel_rfl) rfl rfl (hx158_0) (fun hHeld => ?_); refine with_tabW thermionlaw04_awake.tab3 thermionlaw04_awake.bits3 (fun HT_ HW_ => ?_)
     generalize w44.drew = w45 at HO147 HO150 HO154 HB HL158_0 HR158_0 hx158_0 hHeld ⊢
     refine pure_ (i := 0) (N := some 15) (v := ?_) (a' := ?_) #[true, false, false, false, false, false, false, false, false, false, false, false, false, false, false, false, false, false, false, false, false, false, false, false, false, false] rfl rfl (any_of HT_.out (by kernel_rfl)) (fun _ _ _ h => h) (Or.inl ⟨by rfl, ?_⟩) ?_ ?_
     rotate_left
     ·intro w'
      go_simp
      with_reducible rfl
     rotate_left
     ·simp only [Act.put, List.setIfInBounds_toArray, List.set_cons_zero, List.set_cons_succ, i64_w, i32_w]
      rfl
     refine pure_ (i := 1) (N := some 16) (v := ?_) (a' := ?_) #[true, true, false, false, false, false, false, false, false, false, false, false, false, false, false, false, false, false, false, false, false, false, false, false, false, false] rfl rfl (any_of HT_.out (by kernel_rfl)) (fun _ _ _ h => h) (Or.inl ⟨by rfl, ?_⟩) ?_ ?_
     rotate_left
     ·intro w'
      go_simp
      with_reducible rfl
     rotate_left
     ·simp only [Act.put, List.setIfInBounds_toArray, List.set_cons_zero, List.set_cons_succ, i64_w, i32_w]
      rfl
     refine pure_ (i := 2) (N := some 17) (v := ?_) (a' := ?_) #[true, true, true, false, false, false, false, false, false, false, false, false, false, false, false, false, false, false, false, false, false, false, false, false, false, false] rfl rfl (any_of HT_.out (by kernel_rfl)) (fun _ _ _ h => h) (Or.inl ⟨by rfl, ?_⟩) ?_ ?_
     rotate_left
     ·intro w'
      go_simp
      with_reducible rfl
     rotate_left
     ·simp only [Act.put, List.setIfInBounds_toArray, List.set_cons_zero, List.set_cons_succ, i64_w, i32_w]
      rfl
     refine pure_ (i := 3) (N := some 18) (v := ?_) (a' := ?_) #[true, true, true, true, false, false, false, false, false, false, false, false, false, false, false, false, false, false, false, false, false, false, false, false, false, false] rfl rfl (any_of HT_.out (by kernel_rfl)) (fun _ _ _ h => h) (Or.inl ⟨by rfl, ?_⟩) ?_ ?_
     rotate_left
     ·intro w'
      go_simp
      with_reducible rfl
     rotate_left
     ·simp only [Act.put, List.setIfInBounds_toArray, List.set_cons_zero, List.set_cons_succ, i64_w, i32_w]
      rfl
     refine pure_ (i := 4) (N := some 19) (v := ?_) (a' := ?_) #[true, true, true, true, true, false, false, false, false, false, false, false, false, false, false, false, false, false, false, false, false, false, false, false, false, false] rfl rfl (any_of HT_.out (by kernel_rfl)) (fun _ _ _ h => h) (Or.inl ⟨by rfl, ?_⟩) ?_ ?_
     rotate_left
     ·intro w'
      go_simp
      with_reducible rfl
     rotate_left
     ·simp only [Act.put, List.setIfInBounds_toArray, List.set_cons_zero, List.set_cons_succ, i64_w, i32_w]
      rfl
     refine pure_ (i := 5) (N := some 20) (v := ?_) (a' := ?_) #[true, true, true, true, true, true, false, false, false, false, false, false, false, false, false, false, false, false, false, false, false, false, false, false, false, false] rfl rfl (any_of HT_.out (by kernel_rfl)) (fun _ _ _ h => h) (Or.inl ⟨by rfl, ?_⟩) ?_ ?_
     rotate_left
     ·intro w'
      go_simp
      with_reducible rfl
     rotate_left
     ·simp only [Act.put, List.setIfInBounds_toArray, List.set_cons_zero, List.set_cons_succ, i64_w, i32_w]
      rfl
     refine pure_ (i := 6) (N := some 21) (v := ?_) (a' := ?_) #[true, true, true, true, true, true, true, false, false, false, false, false, false, false, false, false, false, false, false, false, false, false, false, false, false, false] rfl rfl (any_of HT_.out (by kernel_rfl)) (fun _ _ _ h => h) (Or.inl ⟨by rfl, ?_⟩) ?_ ?_
     rotate_left
     ·intro w'
      go_simp
      with_reducible rfl
     rotate_left
     ·simp only [Act.put, List.setIfInBounds_toArray, List.set_cons_zero, List.set_cons_succ, i64_w, i32_w]
      rfl
     refine pure_ (i := 7) (N := some 22) (v := ?_) (a' := ?_) #[true, true, true, true, true, true, true, true, false, false, false, false, false, false, false, false, false, false, false, false, false, false, false, false, false, false] rfl rfl (any_of HT_.out (by kernel_rfl)) (fun _ _ _ h => h) (Or.inl ⟨by rfl, ?_⟩) ?_ ?_
     rotate_left
     ·intro w'
      go_simp
      with_reducible rfl
     rotate_left
     ·simp only [Act.put, List.setIfInBounds_toArray, List.set_cons_zero, List.set_cons_succ, i64_w, i32_w]
      rfl
     refine pure_ (i := 8) (N := some 23) (v := ?_) (a' := ?_) #[true, true, true, true, true, true, true, true, true, false, false, false, false, false, false, false, false, false, false, false, false, false, false, false, false, false] rfl rfl (any_of HT_.out (by kernel_rfl)) (fun _ _ _ h => h) (Or.inl ⟨by rfl, ?_⟩) ?_ ?_
     rotate_left
     ·intro w'
      go_simp
      with_reducible rfl
     rotate_left
     ·simp only [Act.put, List.setIfInBounds_toArray, List.set_cons_zero, List.set_cons_succ, i64_w, i32_w]
      rfl
     refine pure_ (i := 9) (N := some 24) (v := ?_) (a' := ?_) #[true, true, true, true, true, true, true, true, true, true, false, false, false, false, false, false, false, false, false, false, false, false, false, false, false, false] rfl rfl (any_of HT_.out (by kernel_rfl)) (fun _ _ _ h => h) (Or.inl ⟨by rfl, ?_⟩) ?_ ?_
     rotate_left
     ·intro w'
      go_simp
      with_reducible rfl
     rotate_left
     ·simp only [Act.put, List.setIfInBounds_toArray, List.set_cons_zero, List.set_cons_succ, i64_w, i32_w]
      rfl
     refine pure_ (i := 11) (N := some 26) (v := ?_) (a' := ?_) #[true, true, true, true, true, true, true, true, true, true, false, true, false, false, false, false, false, false, false, false, false, false, false, false, false, false] rfl rfl (any_of HT_.out (by kernel_rfl)) (fun _ _ _ h => h) (Or.inl ⟨by rfl, ?_⟩) ?_ ?_
     rotate_left
     ·intro w'
      go_simp
      with_reducible rfl
     rotate_left
     ·simp only [Act.put, List.setIfInBounds_toArray, List.set_cons_zero, List.set_cons_succ, i64_w, i32_w]
      rfl
     refine take_ (i := 10) (N := some 25) (v := ?_) (a' := ?_) #[true, true, true, true, true, true, true, true, true, true, true, true, false, false, false, false, false, false, false, false, false, false, false, false, false, false] rfl rfl (take_ofW HT_.out HW_.out (by kernel_rfl)) (fun _ _ _ h => h) (Or.inl ⟨by rfl, ?_⟩) hHeld ?_ ?_
     rotate_left
     ·intro w' s0
      go_simp
      with_reducible rfl
     rotate_left
     ·simp only [Act.put, List.setIfInBounds_toArray, List.set_cons_zero, List.set_cons_succ, i64_w, i32_w]
      rfl
     refine one_ (i := 12) (N := some 27) #[true, true, true, true, true, true, true, true, true, true, true, true, true, false, false, false, false, false, false, false, false, false, false, false, false, false] rfl rfl (one_of HT_.out (by kernel_rfl)) (by decide) (fun K hK => ?_)
     refine goes_ Try.func52 (by kernel_rfl) rfl #[.int .i64 10, .int .i64 12] (by rfl) rfl rfl (by (try simp only [List.map_toArray, List.map_cons, List.map_nil]); first | done | rfl | (simp only [List.length_drop, List.length_take]; rfl)) ?_
     with_reducible refine (thermionlaw04_of.calls 10 12 t159 t160 _ A8.out).mono ?_
     rintro e w47 ⟨rfl, hb⟩
     have HS0_ := (hb.cell (World.block_lt_of_cell? _ _ (hHeld))).trans (hHeld)
     refine ⟨_, rfl, ?_⟩
     have n0_ := Aside0.mk (Kd.R_below (by (with_reducible repeat (first | apply Kd.R_alloc | apply Kd.R_drewN | apply Kd.R_drew)); exact HO147.out) hb)
     have n1_ := Aside0.mk (Kd.N_below (by (with_reducible repeat (first | apply Kd.N_alloc | apply Kd.N_drewN | apply Kd.N_drew)); exact HO150.out) hb)
     have n2_ := Aside0.mk (Kd.N_below (by (with_reducible repeat (first | apply Kd.N_alloc | apply Kd.N_drewN | apply Kd.N_drew)); exact HO154.out) hb)
     have n3_ := Aside0.mk (Kd.V_below (by (with_reducible repeat (first | apply Kd.V_alloc | apply Kd.V_drewN | apply Kd.V_drew)); exact HL158_0.out) hb)
     have n4_ := Aside0.mk (Kd.C_below (by repeat (first | (with_reducible exact HR158_0.out) | (with_reducible refine Kd.C_alloc ?_ _) | (with_reducible refine Kd.C_drewN ?_ _) | (with_reducible refine Kd.C_drew ?_) | exact HR158_0.out)) hb)
     have n5_ := Aside0.mk (below_step (by repeat (first | (with_reducible first | exact HB.out | apply below_alloc | apply pw_below_drewN | apply below_drew1) | exact HB.out)) hb)
     clear HO147
     clear HO150
     clear HO154
     clear HL158_0
     clear HR158_0
     clear HB
     have HO147 := n0_
     have HO150 := n1_
     have HO154 := n2_
     have HL158_0 := n3_
     have HR158_0 := n4_
     have HB := n5_
     clear n0_ n1_ n2_ n3_ n4_ n5_
     (try clear hb)
     (try clear hb2)
     (try clear hk)
     (try clear hi)
     refine hK.out _ _ (HS0_) (fun hHeld => ?_)
     clear hK K
     refine norm_ (a' := ?_) ?_ ?_
     rotate_left
     ·show Act.put _ (some 27) _ = _
      simp only [Act.put, List.setIfInBounds_toArray, List.set_cons_zero, List.set_cons_succ, i64_w, i32_w]
      rfl
     refine one_ (i := 13) (N := some 28) #[true, true, true, true, true, true, true, true, true, true, true, true, true, true, false, false, false, false, false, false, false, false, false, false, false, false] rfl rfl (one_of HT_.out (by kernel_rfl)) (by decide) (fun K hK => ?_)
     refine goes_ Try.func52 (by kernel_rfl) rfl #[.int .i64 17, .int .i64 18] (by rfl) rfl rfl (by (try simp only [List.map_toArray, List.map_cons, List.map_nil]); first | done | rfl | (simp only [List.length_drop, List.length_take]; rfl)) ?_
     with_reducible refine (thermionlaw04_of.calls 17 18 t161 t162 _ A9.out).mono ?_
     rintro e w48 ⟨rfl, hb⟩
     have HS0_ := (hb.cell (World.block_lt_of_cell? _ _ (hHeld))).trans (hHeld)
     refine ⟨_, rfl, ?_⟩
     have n0_ := Aside0.mk (Kd.R_below (by (with_reducible repeat (first | apply Kd.R_alloc | apply Kd.R_drewN | apply Kd.R_drew)); exact HO147.out) hb)
     have n1_ := Aside0.mk (Kd.N_below (by (with_reducible repeat (first | apply Kd.N_alloc | apply Kd.N_drewN | apply Kd.N_drew)); exact HO150.out) hb)
     have n2_ := Aside0.mk (Kd.N_below (by (with_reducible repeat (first | apply Kd.N_alloc | apply Kd.N_drewN | apply Kd.N_drew)); exact HO154.out) hb)
     have n3_ := Aside0.mk (Kd.V_below (by (with_reducible repeat (first | apply Kd.V_alloc | apply Kd.V_drewN | apply Kd.V_drew)); exact HL158_0.out) hb)
     have n4_ := Aside0.mk (Kd.C_below (by repeat (first | (with_reducible exact HR158_0.out) | (with_reducible refine Kd.C_alloc ?_ _) | (with_reducible refine Kd.C_drewN ?_ _) | (with_reducible refine Kd.C_drew ?_) | exact HR158_0.out)) hb)
     have n5_ := Aside0.mk (below_step (by repeat (first | (with_reducible first | exact HB.out | apply below_alloc | apply pw_below_drewN | apply below_drew1) | exact HB.out)) hb)
     clear HO147
     clear HO150
     clear HO154
     clear HL158_0
     clear HR158_0
     clear HB
     have HO147 := n0_
     have HO150 := n1_
     have HO154 := n2_
     have HL158_0 := n3_
     have HR158_0 := n4_
     have HB := n5_
     clear n0_ n1_ n2_ n3_ n4_ n5_
     (try clear hb)
     (try clear hb2)
     (try clear hk)
     (try clear hi)
     refine hK.out _ _ (HS0_) (fun hHeld => ?_)
     clear hK K
     refine norm_ (a' := ?_) ?_ ?_
     rotate_left
     ·show Act.put _ (some 28) _ = _
      simp only [Act.put, List.setIfInBounds_toArray, List.set_cons_zero, List.set_cons_succ, i64_w, i32_w]
      rfl
     refine one_ (i := 14) (N := some 29) #[true, true, true, true, true, true, true, true, true, true, true, true, true, true, true, false, false, false, false, false, false, false, false, false, false, false] rfl rfl (one_of HT_.out (by kernel_rfl)) (by decide) (fun K hK => ?_)
     refine Kd.R_lit_step k32 _ 32 ?hg (N := 29) ?hd (xs := ([(⟨0, 0⟩ : S32), (⟨t159, t160⟩ : S32), (⟨t161, t162⟩ : S32)] : List (S32))) (inner := [.int .i64 0, .int .i64 0, .int .i64 t159, .int .i64 t160, .int .i64 t161, .int .i64 t162]) (ok := fun _ => True) (okp := fun _ => True) ?hr ?hp (fun _ hk => hk) trivial (Below.refl _ _) (Nat.le_refl _) (by simp) ?_; (case hd => rfl); (case hg => rfl); (case hr => first | (go_simp; done) | (go_simp; rfl)); (case hp => exact (Reps.c2 (show Kd.M k32 _ _ _ (⟨0, 0⟩ : S32) [.int .i64 0, .int .i64 0] from (k32_mkM _ _ _ (⟨0, 0⟩ : S32) )) (Reps.c2 (show Kd.M k32 _ _ _ (⟨t159, t160⟩ : S32) [.int .i64 t159, .int .i64 t160] from (k32_mkM _ _ _ (⟨t159, t160⟩ : S32) )) (Reps.c2 (show Kd.M k32 _ _ _ (⟨t161, t162⟩ : S32) [.int .i64 t161, .int .i64 t162] from (k32_mkM _ _ _ (⟨t161, t162⟩ : S32) )) (Reps.none _ _)))))
     intro v164 w49 ho50 hb hg_ hnew_
     have HS0_ := (hb.cell (World.block_lt_of_cell? _ _ (hHeld))).trans (hHeld)
     clear hg_ hnew_
     (first | rw [← Ny163.out] at ho50 | (simp only [Int.reduceToNat] at ho50; rw [← Ny163.out] at ho50))
     have n0_ := Aside0.mk (Kd.R_below (by (with_reducible repeat (first | apply Kd.R_alloc | apply Kd.R_drewN | apply Kd.R_drew)); exact HO147.out) hb)
     have n1_ := Aside0.mk (Kd.N_elder' (by (with_reducible repeat (first | apply Kd.N_alloc | apply Kd.N_drewN | apply Kd.N_drew)); exact HO150.out) (Kd.R_base ho50) hb)
     have n2_ := Aside0.mk (Kd.N_elder' (by (with_reducible repeat (first | apply Kd.N_alloc | apply Kd.N_drewN | apply Kd.N_drew)); exact HO154.out) (Kd.R_base ho50) hb)
     have n3_ := Aside0.mk (Kd.V_elder' (by (with_reducible repeat (first | apply Kd.V_alloc | apply Kd.V_drewN | apply Kd.V_drew)); exact HL158_0.out) (Kd.R_base ho50) hb)
     have n4_ := Aside0.mk (Kd.R_lower ho50 (below_size (by repeat (first | (with_reducible first | exact HB.out | apply below_alloc | apply pw_below_drewN | apply below_drew1) | exact HB.out))))
     have n5_ := Aside0.mk (Kd.C_below (by repeat (first | (with_reducible exact HR158_0.out) | (with_reducible refine Kd.C_alloc ?_ _) | (with_reducible refine Kd.C_drewN ?_ _) | (with_reducible refine Kd.C_drew ?_) | exact HR158_0.out)) hb)
     have n6_ := Aside0.mk (below_step (by repeat (first | (with_reducible first | exact HB.out | apply below_alloc | apply pw_below_drewN | apply below_drew1) | exact HB.out)) hb)
     clear HO147
     clear HO150
     clear HO154
     clear HL158_0
     clear HR158_0
     clear HB
     have HO147 := n0_
     have HO150 := n1_
     have HO154 := n2_
     have HL158_0 := n3_
     have HO165 := n4_
     have HR158_0 := n5_
     have HB := n6_
     clear n0_ n1_ n2_ n3_ n4_ n5_ n6_
     clear hb ho50
     obtain ⟨Ao51, co51, eo51⟩ := Kd.R_slice HO165.out
     (first | subst eo51 | (injection eo51 with f1_ f2_ f3_; have f4_ := f1_.symm; have f5_ := f3_.symm; clear f1_ f2_ f3_; subst f4_; subst f5_))
     refine hK.out _ _ (HS0_) (fun hHeld => ?_)
     clear hK K
     refine norm_ (a' := ?_) ?_ ?_
     rotate_left
     ·show Act.put _ (some 29) _ = _
      simp only [Act.put, List.setIfInBounds_toArray, List.set_cons_zero, List.set_cons_succ, i64_w, i32_w]
      rfl
     refine one_ (i := 15) (N := some 30) #[true, true, true, true, true, true, true, true, true, true, true, true, true, true, true, true, false, false, false, false, false, false, false, false, false, false] rfl rfl (one_of HT_.out (by kernel_rfl)) (by decide) (fun K hK => ?_)
     refine goes_ Try.func88 (by kernel_rfl) rfl #[.slice A158_0 (rd_L6 t148 0).length c158_0, .slice Ao51 y163.length co51] (by rfl) rfl rfl (by (try simp only [List.map_toArray, List.map_cons, List.map_nil]); first | done | rfl | (simp only [List.length_drop, List.length_take]; rfl)) ?_
     with_reducible refine (thermionkit_SameRanges.calls k _ _ (rd_L6 t148 0) _ _ y163 false _ ?side1 ?side2 ?side3 ?side4 A10.out).mono ?_
     (case side1 => repeat (first | exact (by repeat (first | (with_reducible exact HR158_0.out) | (with_reducible refine Kd.C_alloc ?_ _) | (with_reducible refine Kd.C_drewN ?_ _) | (with_reducible refine Kd.C_drew ?_) | exact HR158_0.out)) | (with_reducible refine Kd.C_alloc ?_ _) | (with_reducible refine Kd.C_drewN ?_ _) | (with_reducible refine Kd.C_drew ?_)))
     (case side2 => exact HC158_0.out)
     (case side3 => repeat (first | exact (Kd.R_reads' HO165.out).2.2 | (with_reducible refine Kd.C_alloc ?_ _) | (with_reducible refine Kd.C_drewN ?_ _) | (with_reducible refine Kd.C_drew ?_)))
     (case side4 => exact (Kd.R_reads' HO165.out).2.1)
     rintro e w' ⟨rfl, ⟨nd, rfl⟩⟩
     refine ⟨_, rfl, ?_⟩
     refine hK.out _ _ (hHeld) (fun hHeld => ?_)
     clear hK K
     refine norm_ (a' := ?_) ?_ ?_
     rotate_left
     ·show Act.put _ (some 30) _ = _
      simp only [Act.put, List.setIfInBounds_toArray, List.set_cons_zero, List.set_cons_succ, i64_w, i32_w]
      rfl
     refine pure_ (i := 16) (N := some 31) (v := ?_) (a' := ?_) #[true, true, true, true, true, true, true, true, true, true, true, true, true, true, true, true, true, false, false, false, false, false, false, false, false, false] rfl rfl (any_of HT_.out (by kernel_rfl)) (fun _ _ _ h => h) (Or.inl ⟨by rfl, ?_⟩) ?_ ?_
     rotate_left
     ·intro w'
      go_simp
      with_reducible rfl
     rotate_left
     ·simp only [Act.put, List.setIfInBounds_toArray, List.set_cons_zero, List.set_cons_succ, i64_w, i32_w]
      rfl
     refine pure_ (i := 17) (N := some 32) (v := ?_) (a' := ?_) #[true, true, true, true, true, true, true, true, true, true, true, true, true, true, true, true, true, true, false, false, false, false, false, false, false, false] rfl rfl (any_of HT_.out (by kernel_rfl)) (fun _ _ _ h => h) (Or.inl ⟨by rfl, ?_⟩) ?_ ?_
     rotate_left
     ·intro w'
      go_simp
      with_reducible rfl
     rotate_left
     ·simp only [Act.put, List.setIfInBounds_toArray, List.set_cons_zero, List.set_cons_succ, i64_w, i32_w]
      rfl
     refine pure_ (i := 18) (N := some 33) (v := undef) (a' := ?_) #[true, true, true, true, true, true, true, true, true, true, true, true, true, true, true, true, true, true, true, false, false, false, false, false, false, false] rfl rfl (any_of HT_.out (by kernel_rfl)) (fun _ _ _ h => h) (Or.inr ⟨by rfl, rfl⟩) ?_ ?_
     rotate_left
     ·simp only [Act.put, List.setIfInBounds_toArray, List.set_cons_zero, List.set_cons_succ, i64_w, i32_w]
      rfl
     refine pure_ (i := 19) (N := some 34) (v := undef) (a' := ?_) #[true, true, true, true, true, true, true, true, true, true, true, true, true, true, true, true, true, true, true, true, false, false, false, false, false, false] rfl rfl (any_of HT_.out (by kernel_rfl)) (fun _ _ _ h => h) (Or.inr ⟨by rfl, rfl⟩) ?_ ?_
     rotate_left
     ·simp only [Act.put, List.setIfInBounds_toArray, List.set_cons_zero, List.set_cons_succ, i64_w, i32_w]
      rfl
     refine pure_ (i := 20) (N := some 35) (v := ?_) (a' := ?_) #[true, true, true, true, true, true, true, true, true, true, true, true, true, true, true, true, true, true, true, true, true, false, false, false, false, false] rfl rfl (any_of HT_.out (by kernel_rfl)) (fun _ _ _ h => h) (Or.inl ⟨by rfl, ?_⟩) ?_ ?_
     rotate_left
     ·intro w'
      go_simp
      with_reducible rfl
     rotate_left
     ·simp only [Act.put, List.setIfInBounds_toArray, List.set_cons_zero, List.set_cons_succ, i64_w, i32_w]
      rfl
     refine pure_ (i := 21) (N := some 36) (v := ?_) (a' := ?_) #[true, true, true, true, true, true, true, true, true, true, true, true, true, true, true, true, true, true, true, true, true, true, false, false, false, false] rfl rfl (any_of HT_.out (by kernel_rfl)) (fun _ _ _ h => h) (Or.inl ⟨by rfl, ?_⟩) ?_ ?_
     rotate_left
     ·intro w'
      go_simp
      with_reducible rfl
     rotate_left
     ·simp only [Act.put, List.setIfInBounds_toArray, List.set_cons_zero, List.set_cons_succ, i64_w, i32_w]
      rfl
     refine pure_ (i := 22) (N := some 37) (v := undef) (a' := ?_) #[true, true, true, true, true, true, true, true, true, true, true, true, true, true, true, true, true, true, true, true, true, true, true, false, false, false] rfl rfl (any_of HT_.out (by kernel_rfl)) (fun _ _ _ h => h) (Or.inr ⟨by rfl, rfl⟩) ?_ ?_
     rotate_left
     ·simp only [Act.put, List.setIfInBounds_toArray, List.set_cons_zero, List.set_cons_succ, i64_w, i32_w]
      rfl
     refine pure_ (i := 23) (N := some 38) (v := undef) (a' := ?_) #[true, true, true, true, true, true, true, true, true, true, true, true, true, true, true, true, true, true, true, true, true, true, true, true, false, false] rfl rfl (any_of HT_.out (by kernel_rfl)) (fun _ _ _ h => h) (Or.inr ⟨by rfl, rfl⟩) ?_ ?_
     rotate_left
     ·simp only [Act.put, List.setIfInBounds_toArray, List.set_cons_zero, List.set_cons_succ, i64_w, i32_w]
      rfl
     refine pure_ (i := 24) (N := some 39) (v := ?_) (a' := ?_) #[true, true, true, true, true, true, true, true, true, true, true, true, true, true, true, true, true, true, true, true, true, true, true, true, true, false] rfl rfl (any_of HT_.out (by kernel_rfl)) (fun _ _ _ h => h) (Or.inl ⟨by rfl, ?_⟩) ?_ ?_
     rotate_left
     ·intro w'
      go_simp
      with_reducible rfl
     rotate_left
     ·simp only [Act.put, List.setIfInBounds_toArray, List.set_cons_zero, List.set_cons_succ, i64_w, i32_w]
      rfl
     refine pure_ (i := 25) (N := some 0) (v := ?_) (a' := ?_) #[true, true, true, true, true, true, true, true, true, true, true, true, true, true, true, true, true, true, true, true, true, true, true, true, true, true] rfl rfl (any_of HT_.out (by kernel_rfl)) (fun _ _ _ h => h) (Or.inl ⟨by rfl, ?_⟩) ?_ ?_
     rotate_left
     ·intro w'
      go_simp
      with_reducible rfl
     rotate_left
     ·simp only [Act.put, List.setIfInBounds_toArray, List.set_cons_zero, List.set_cons_succ, i64_w, i32_w]
      rfl
     refine done_ (done_of HT_.out (by kernel_rfl)) ?_
     try go_wp2
     go_ret
     exact ⟨by first | rfl | (simp [errW_none, errW_some] <;> rfl) | (simp [*, errW_none, errW_some] <;> rfl), by repeat (first | (with_reducible first | exact HB.out | apply below_alloc | apply pw_below_drewN | apply below_drew1) | exact HB.out)⟩
   ·rw [if_neg c7] at H
    exact absurd H (by simp)
  ·rw [if_neg c6] at H
   have c6b0 : ((t148.length : Int) == 3) = false := beq_eq_false_iff_ne.mpr c6
   have c6b1 : ((t148.length : Int) != 3) = true := bne_iff_ne.mpr c6
   obtain rfl := Option.some.inj H
   go_enter Try.func21, Try.ntmps21
   try go_wp2_with (first | ((with_reducible refine gate_callee (f := 87) rfl ?_); refine goesL_ (some 6) rfl rfl Try.func87 (by kernel_rfl) rfl #[] rfl (by (try simp only [List.map_toArray, List.map_cons, List.map_nil]); first | done | rfl | (simp only [List.length_drop, List.length_take]; rfl)) ?_; (with_reducible refine (thermionlaw04_chain.calls  t144 t145 _ A1.out).mono ?_); rintro e w52 ⟨v146, rfl, ho0, hb⟩; refine ⟨_, rfl, ?_⟩; have n0_ := Aside0.mk (Kd.R_lower ho0 (below_size (by repeat (first | (with_reducible first | exact HB.out | apply below_alloc | apply pw_below_drewN | apply below_drew1) | exact HB.out)))); have n1_ := Aside0.mk (below_step (by repeat (first | (with_reducible first | exact HB.out | apply below_alloc | apply pw_below_drewN | apply below_drew1) | exact HB.out)) hb); clear HB; have HO147 := n0_; have HB := n1_; clear n0_ n1_; (try clear hb); (try clear hb2); (try clear hk); (try clear hi); (try clear ho0); obtain ⟨Ao53, co53, eo53⟩ := Kd.R_slice HO147.out; subst eo53) | ((with_reducible refine gate_callee (f := 24) rfl ?_); refine goesL_ (some 7) rfl rfl Try.func24 (by kernel_rfl) rfl #[.agg #[.int .i64 t144, .slice Ao53 t145.length co53]] rfl (by (try simp only [List.map_toArray, List.map_cons, List.map_nil]); first | done | rfl | (simp only [List.length_drop, List.length_take]; rfl)) ?_; (with_reducible refine (mount_Tight.calls t144 _ _ t145 t148 t151 _ ?side1 ?side2 A2.out).mono ?_); (case side1 => repeat (first | exact (Kd.R_reads' HO147.out).2.2 | (with_reducible refine Kd.C_alloc ?_ _) | (with_reducible refine Kd.C_drewN ?_ _) | (with_reducible refine Kd.C_drew ?_))); (case side2 => exact (Kd.R_reads' HO147.out).2.1); rintro e w54 ⟨v149, rfl, ho0, hb⟩; refine ⟨_, rfl, ?_⟩; have n0_ := Aside0.mk (Kd.R_below (by (with_reducible repeat (first | apply Kd.R_alloc | apply Kd.R_drewN | apply Kd.R_drew)); exact HO147.out) hb); have n1_ := Aside0.mk (Kd.N_lower (Kd.N_mono (ok' := fun k_ => some k_ ≠ (.slice Ao53 t145.length co53 : Value).ownBlock) (Kd.S_N (Kd.S_bound ho0)) (fun k_ hk_ => (Kd.fresh' (Kd.R_lt (by (with_reducible repeat (first | apply Kd.R_alloc | apply Kd.R_drewN | apply Kd.R_drew)); exact HO147.out)) k_ hk_.2.1))) (below_size (by repeat (first | (with_reducible first | exact HB.out | apply below_alloc | apply pw_below_drewN | apply below_drew1) | exact HB.out)))); have n2_ := Aside0.mk (below_step (by repeat (first | (with_reducible first | exact HB.out | apply below_alloc | apply pw_below_drewN | apply below_drew1) | exact HB.out)) hb); clear HO147; clear HB; have HO147 := n0_; have HO150 := n1_; have HB := n2_; clear n0_ n1_ n2_; (try clear hb); (try clear hb2); (try clear hk); (try clear hi); (try clear ho0)) | ((with_reducible refine gate_callee (f := 59) rfl ?_); refine goesL_ (some 11) rfl rfl Try.func59 (by kernel_rfl) rfl #[] rfl (by (try simp only [List.map_toArray, List.map_cons, List.map_nil]); first | done | rfl | (simp only [List.length_drop, List.length_take]; rfl)) ?_; (with_reducible refine (thermionlaw04_kit.calls  t152 t155 _ A3.out).mono ?_); rintro e w55 ⟨v153, rfl, ho0, hb⟩; refine ⟨_, rfl, ?_⟩; have n0_ := Aside0.mk (Kd.R_below (by (with_reducible repeat (first | apply Kd.R_alloc | apply Kd.R_drewN | apply Kd.R_drew)); exact HO147.out) hb); have n1_ := Aside0.mk (Kd.N_elder' (by (with_reducible repeat (first | apply Kd.N_alloc | apply Kd.N_drewN | apply Kd.N_drew)); exact HO150.out) (Kd.N_base ho0) hb); have n2_ := Aside0.mk (Kd.N_lower (Kd.N_mono (ok' := fun k_ => some k_ ≠ (.slice Ao53 t145.length co53 : Value).ownBlock ∧ some k_ ≠ (v149 : Value).ownBlock) ho0 (fun k_ hk_ => ⟨(Kd.fresh' (Kd.R_lt (by (with_reducible repeat (first | apply Kd.R_alloc | apply Kd.R_drewN | apply Kd.R_drew)); exact HO147.out)) k_ hk_), (Kd.fresh' (Kd.N_lt (by (with_reducible repeat (first | apply Kd.N_alloc | apply Kd.N_drewN | apply Kd.N_drew)); exact HO150.out)) k_ hk_)⟩)) (below_size (by repeat (first | (with_reducible first | exact HB.out | apply below_alloc | apply pw_below_drewN | apply below_drew1) | exact HB.out)))); have n3_ := Aside0.mk (below_step (by repeat (first | (with_reducible first | exact HB.out | apply below_alloc | apply pw_below_drewN | apply below_drew1) | exact HB.out)) hb); clear HO147; clear HO150; clear HB; have HO147 := n0_; have HO150 := n1_; have HO154 := n2_; have HB := n3_; clear n0_ n1_ n2_ n3_; (try clear hb); (try clear hb2); (try clear hk); (try clear hi); (try clear ho0); obtain ⟨Ao56, co56, eo56⟩ := Kd.N_slice HO154.out; subst eo56) | ((with_reducible refine gate_callee (f := 30) rfl ?_); refine goesL_ (some 12) rfl rfl Try.func30 (by kernel_rfl) rfl #[.agg #[.slice Ao56 t152.length co56, .int .i64 t155]] rfl (by (try simp only [List.map_toArray, List.map_cons, List.map_nil]); first | done | rfl | (simp only [List.length_drop, List.length_take]; rfl)) ?_; (with_reducible refine (mount_Orders.calls _ _ t152 t155 t156 t157 _ ?side1 ?side2 A4.out).mono ?_); (case side1 => repeat (first | exact (Kd.N_reads' HO154.out).2.2 | (with_reducible refine Kd.C_alloc ?_ _) | (with_reducible refine Kd.C_drewN ?_ _) | (with_reducible refine Kd.C_drew ?_))); (case side2 => exact (Kd.N_reads' HO154.out).2.1); rintro e w57 ⟨rfl, hb⟩; refine ⟨_, rfl, ?_⟩; have n0_ := Aside0.mk (Kd.R_below (by (with_reducible repeat (first | apply Kd.R_alloc | apply Kd.R_drewN | apply Kd.R_drew)); exact HO147.out) hb); have n1_ := Aside0.mk (Kd.N_below (by (with_reducible repeat (first | apply Kd.N_alloc | apply Kd.N_drewN | apply Kd.N_drew)); exact HO150.out) hb); have n2_ := Aside0.mk (Kd.N_below (by (with_reducible repeat (first | apply Kd.N_alloc | apply Kd.N_drewN | apply Kd.N_drew)); exact HO154.out) hb); have n3_ := Aside0.mk (below_step (by repeat (first | (with_reducible first | exact HB.out | apply below_alloc | apply pw_below_drewN | apply below_drew1) | exact HB.out)) hb); clear HO147; clear HO150; clear HO154; clear HB; have HO147 := n0_; have HO150 := n1_; have HO154 := n2_; have HB := n3_; clear n0_ n1_ n2_ n3_; (try clear hb); (try clear hb2); (try clear hk); (try clear hi)))
   have n0_ := Aside0.mk (Kd.R_drew HO147.out)
   have n1_ := Aside0.mk (Kd.N_drew HO150.out)
   have n2_ := Aside0.mk (Kd.N_drew HO154.out)
   have n3_ := Aside0.mk (below_drew1 HB.out)
   clear HO147
   clear HO150
   clear HO154
   clear HB
   have HO147 := n0_
   have HO150 := n1_
   have HO154 := n2_
   have HB := n3_
   clear n0_ n1_ n2_ n3_
   obtain ⟨Ao59, co59, eo59⟩ := Kd.N_slice HO150.out
   (first | subst eo59 | (injection eo59 with f1_ f2_ f3_; have f4_ := f1_.symm; have f5_ := f3_.symm; clear f1_ f2_ f3_; subst f4_; subst f5_))
   refine start_ (n := 26) (S := fun w' => True) (ds := []) #[false, false, false, false, false, false, false, false, false, false, false, false, false, false, false, false, false, false, false, false, false, false, false, false, false, false] (by kernel_rfl) rfl rfl trivial (fun hHeld => ?_); refine with_tabW thermionlaw04_awake.tab3 thermionlaw04_awake.bits3 (fun HT_ HW_ => ?_)
   generalize w57.drew = w58 at HO147 HO150 HO154 HB hHeld ⊢
   refine pure_ (i := 0) (N := some 15) (v := ?_) (a' := ?_) #[true, false, false, false, false, false, false, false, false, false, false, false, false, false, false, false, false, false, false, false, false, false, false, false, false, false] rfl rfl (any_of HT_.out (by kernel_rfl)) (fun _ _ _ h => h) (Or.inl ⟨by rfl, ?_⟩) ?_ ?_
   rotate_left
   ·intro w'
    go_simp
    with_reducible rfl
   rotate_left
   ·simp only [Act.put, List.setIfInBounds_toArray, List.set_cons_zero, List.set_cons_succ, i64_w, i32_w]
    rfl
   refine pure_ (i := 1) (N := some 16) (v := ?_) (a' := ?_) #[true, true, false, false, false, false, false, false, false, false, false, false, false, false, false, false, false, false, false, false, false, false, false, false, false, false] rfl rfl (any_of HT_.out (by kernel_rfl)) (fun _ _ _ h => h) (Or.inl ⟨by rfl, ?_⟩) ?_ ?_
   rotate_left
   ·intro w'
    go_simp
    with_reducible rfl
   rotate_left
   ·simp only [Act.put, List.setIfInBounds_toArray, List.set_cons_zero, List.set_cons_succ, i64_w, i32_w]
    rfl
   refine pure_ (i := 2) (N := some 17) (v := ?_) (a' := ?_) #[true, true, true, false, false, false, false, false, false, false, false, false, false, false, false, false, false, false, false, false, false, false, false, false, false, false] rfl rfl (any_of HT_.out (by kernel_rfl)) (fun _ _ _ h => h) (Or.inl ⟨by rfl, ?_⟩) ?_ ?_
   rotate_left
   ·intro w'
    go_simp
    with_reducible rfl
   rotate_left
   ·simp only [Act.put, List.setIfInBounds_toArray, List.set_cons_zero, List.set_cons_succ, i64_w, i32_w]
    rfl
   refine pure_ (i := 3) (N := some 18) (v := ?_) (a' := ?_) #[true, true, true, true, false, false, false, false, false, false, false, false, false, false, false, false, false, false, false, false, false, false, false, false, false, false] rfl rfl (any_of HT_.out (by kernel_rfl)) (fun _ _ _ h => h) (Or.inl ⟨by rfl, ?_⟩) ?_ ?_
   rotate_left
   ·intro w'
    go_simp
    with_reducible rfl
   rotate_left
   ·simp only [Act.put, List.setIfInBounds_toArray, List.set_cons_zero, List.set_cons_succ, i64_w, i32_w]
    rfl
   refine pure_ (i := 4) (N := some 19) (v := ?_) (a' := ?_) #[true, true, true, true, true, false, false, false, false, false, false, false, false, false, false, false, false, false, false, false, false, false, false, false, false, false] rfl rfl (any_of HT_.out (by kernel_rfl)) (fun _ _ _ h => h) (Or.inl ⟨by rfl, ?_⟩) ?_ ?_
   rotate_left
   ·intro w'
    go_simp
    with_reducible rfl
   rotate_left
   ·simp only [Act.put, List.setIfInBounds_toArray, List.set_cons_zero, List.set_cons_succ, i64_w, i32_w]
    rfl
   refine pure_ (i := 5) (N := some 20) (v := ?_) (a' := ?_) #[true, true, true, true, true, true, false, false, false, false, false, false, false, false, false, false, false, false, false, false, false, false, false, false, false, false] rfl rfl (any_of HT_.out (by kernel_rfl)) (fun _ _ _ h => h) (Or.inl ⟨by rfl, ?_⟩) ?_ ?_
   rotate_left
   ·intro w'
    go_simp
    with_reducible rfl
   rotate_left
   ·simp only [Act.put, List.setIfInBounds_toArray, List.set_cons_zero, List.set_cons_succ, i64_w, i32_w]
    rfl
   refine pure_ (i := 6) (N := some 21) (v := ?_) (a' := ?_) #[true, true, true, true, true, true, true, false, false, false, false, false, false, false, false, false, false, false, false, false, false, false, false, false, false, false] rfl rfl (any_of HT_.out (by kernel_rfl)) (fun _ _ _ h => h) (Or.inl ⟨by rfl, ?_⟩) ?_ ?_
   rotate_left
   ·intro w'
    go_simp
    with_reducible rfl
   rotate_left
   ·simp only [Act.put, List.setIfInBounds_toArray, List.set_cons_zero, List.set_cons_succ, i64_w, i32_w]
    rfl
   refine pure_ (i := 7) (N := some 22) (v := ?_) (a' := ?_) #[true, true, true, true, true, true, true, true, false, false, false, false, false, false, false, false, false, false, false, false, false, false, false, false, false, false] rfl rfl (any_of HT_.out (by kernel_rfl)) (fun _ _ _ h => h) (Or.inl ⟨by rfl, ?_⟩) ?_ ?_
   rotate_left
   ·intro w'
    go_simp
    with_reducible rfl
   rotate_left
   ·simp only [Act.put, List.setIfInBounds_toArray, List.set_cons_zero, List.set_cons_succ, i64_w, i32_w]
    rfl
   refine pure_ (i := 8) (N := some 23) (v := undef) (a' := ?_) #[true, true, true, true, true, true, true, true, true, false, false, false, false, false, false, false, false, false, false, false, false, false, false, false, false, false] rfl rfl (any_of HT_.out (by kernel_rfl)) (fun _ _ _ h => h) (Or.inr ⟨by rfl, rfl⟩) ?_ ?_
   rotate_left
   ·simp only [Act.put, List.setIfInBounds_toArray, List.set_cons_zero, List.set_cons_succ, i64_w, i32_w]
    rfl
   refine pure_ (i := 9) (N := some 24) (v := undef) (a' := ?_) #[true, true, true, true, true, true, true, true, true, true, false, false, false, false, false, false, false, false, false, false, false, false, false, false, false, false] rfl rfl (any_of HT_.out (by kernel_rfl)) (fun _ _ _ h => h) (Or.inr ⟨by rfl, rfl⟩) ?_ ?_
   rotate_left
   ·simp only [Act.put, List.setIfInBounds_toArray, List.set_cons_zero, List.set_cons_succ, i64_w, i32_w]
    rfl
   refine pure_ (i := 10) (N := some 25) (v := undef) (a' := ?_) #[true, true, true, true, true, true, true, true, true, true, true, false, false, false, false, false, false, false, false, false, false, false, false, false, false, false] rfl rfl (any_of HT_.out (by kernel_rfl)) (fun _ _ _ h => h) (Or.inr ⟨by rfl, rfl⟩) ?_ ?_
   rotate_left
   ·simp only [Act.put, List.setIfInBounds_toArray, List.set_cons_zero, List.set_cons_succ, i64_w, i32_w]
    rfl
   refine pure_ (i := 11) (N := some 26) (v := undef) (a' := ?_) #[true, true, true, true, true, true, true, true, true, true, true, true, false, false, false, false, false, false, false, false, false, false, false, false, false, false] rfl rfl (any_of HT_.out (by kernel_rfl)) (fun _ _ _ h => h) (Or.inr ⟨by rfl, rfl⟩) ?_ ?_
   rotate_left
   ·simp only [Act.put, List.setIfInBounds_toArray, List.set_cons_zero, List.set_cons_succ, i64_w, i32_w]
    rfl
   refine pure_ (i := 12) (N := some 27) (v := undef) (a' := ?_) #[true, true, true, true, true, true, true, true, true, true, true, true, true, false, false, false, false, false, false, false, false, false, false, false, false, false] rfl rfl (any_of HT_.out (by kernel_rfl)) (fun _ _ _ h => h) (Or.inr ⟨by rfl, rfl⟩) ?_ ?_
   rotate_left
   ·simp only [Act.put, List.setIfInBounds_toArray, List.set_cons_zero, List.set_cons_succ, i64_w, i32_w]
    rfl
   refine pure_ (i := 13) (N := some 28) (v := undef) (a' := ?_) #[true, true, true, true, true, true, true, true, true, true, true, true, true, true, false, false, false, false, false, false, false, false, false, false, false, false] rfl rfl (any_of HT_.out (by kernel_rfl)) (fun _ _ _ h => h) (Or.inr ⟨by rfl, rfl⟩) ?_ ?_
   rotate_left
   ·simp only [Act.put, List.setIfInBounds_toArray, List.set_cons_zero, List.set_cons_succ, i64_w, i32_w]
    rfl
   refine pure_ (i := 14) (N := some 29) (v := undef) (a' := ?_) #[true, true, true, true, true, true, true, true, true, true, true, true, true, true, true, false, false, false, false, false, false, false, false, false, false, false] rfl rfl (any_of HT_.out (by kernel_rfl)) (fun _ _ _ h => h) (Or.inr ⟨by rfl, rfl⟩) ?_ ?_
   rotate_left
   ·simp only [Act.put, List.setIfInBounds_toArray, List.set_cons_zero, List.set_cons_succ, i64_w, i32_w]
    rfl
   refine pure_ (i := 15) (N := some 30) (v := undef) (a' := ?_) #[true, true, true, true, true, true, true, true, true, true, true, true, true, true, true, true, false, false, false, false, false, false, false, false, false, false] rfl rfl (any_of HT_.out (by kernel_rfl)) (fun _ _ _ h => h) (Or.inr ⟨by rfl, rfl⟩) ?_ ?_
   rotate_left
   ·simp only [Act.put, List.setIfInBounds_toArray, List.set_cons_zero, List.set_cons_succ, i64_w, i32_w]
    rfl
   refine pure_ (i := 16) (N := some 31) (v := ?_) (a' := ?_) #[true, true, true, true, true, true, true, true, true, true, true, true, true, true, true, true, true, false, false, false, false, false, false, false, false, false] rfl rfl (any_of HT_.out (by kernel_rfl)) (fun _ _ _ h => h) (Or.inl ⟨by rfl, ?_⟩) ?_ ?_
   rotate_left
   ·intro w'
    go_simp
    with_reducible rfl
   rotate_left
   ·simp only [Act.put, List.setIfInBounds_toArray, List.set_cons_zero, List.set_cons_succ, i64_w, i32_w]
    rfl
   refine pure_ (i := 17) (N := some 32) (v := ?_) (a' := ?_) #[true, true, true, true, true, true, true, true, true, true, true, true, true, true, true, true, true, true, false, false, false, false, false, false, false, false] rfl rfl (any_of HT_.out (by kernel_rfl)) (fun _ _ _ h => h) (Or.inl ⟨by rfl, ?_⟩) ?_ ?_
   rotate_left
   ·intro w'
    go_simp
    with_reducible rfl
   rotate_left
   ·simp only [Act.put, List.setIfInBounds_toArray, List.set_cons_zero, List.set_cons_succ, i64_w, i32_w]
    rfl
   refine pure_ (i := 18) (N := some 33) (v := undef) (a' := ?_) #[true, true, true, true, true, true, true, true, true, true, true, true, true, true, true, true, true, true, true, false, false, false, false, false, false, false] rfl rfl (any_of HT_.out (by kernel_rfl)) (fun _ _ _ h => h) (Or.inr ⟨by rfl, rfl⟩) ?_ ?_
   rotate_left
   ·simp only [Act.put, List.setIfInBounds_toArray, List.set_cons_zero, List.set_cons_succ, i64_w, i32_w]
    rfl
   refine pure_ (i := 19) (N := some 34) (v := undef) (a' := ?_) #[true, true, true, true, true, true, true, true, true, true, true, true, true, true, true, true, true, true, true, true, false, false, false, false, false, false] rfl rfl (any_of HT_.out (by kernel_rfl)) (fun _ _ _ h => h) (Or.inr ⟨by rfl, rfl⟩) ?_ ?_
   rotate_left
   ·simp only [Act.put, List.setIfInBounds_toArray, List.set_cons_zero, List.set_cons_succ, i64_w, i32_w]
    rfl
   refine pure_ (i := 20) (N := some 35) (v := ?_) (a' := ?_) #[true, true, true, true, true, true, true, true, true, true, true, true, true, true, true, true, true, true, true, true, true, false, false, false, false, false] rfl rfl (any_of HT_.out (by kernel_rfl)) (fun _ _ _ h => h) (Or.inl ⟨by rfl, ?_⟩) ?_ ?_
   rotate_left
   ·intro w'
    go_simp
    with_reducible rfl
   rotate_left
   ·simp only [Act.put, List.setIfInBounds_toArray, List.set_cons_zero, List.set_cons_succ, i64_w, i32_w]
    rfl
   refine pure_ (i := 21) (N := some 36) (v := ?_) (a' := ?_) #[true, true, true, true, true, true, true, true, true, true, true, true, true, true, true, true, true, true, true, true, true, true, false, false, false, false] rfl rfl (any_of HT_.out (by kernel_rfl)) (fun _ _ _ h => h) (Or.inl ⟨by rfl, ?_⟩) ?_ ?_
   rotate_left
   ·intro w'
    go_simp
    with_reducible rfl
   rotate_left
   ·simp only [Act.put, List.setIfInBounds_toArray, List.set_cons_zero, List.set_cons_succ, i64_w, i32_w]
    rfl
   refine pure_ (i := 22) (N := some 37) (v := undef) (a' := ?_) #[true, true, true, true, true, true, true, true, true, true, true, true, true, true, true, true, true, true, true, true, true, true, true, false, false, false] rfl rfl (any_of HT_.out (by kernel_rfl)) (fun _ _ _ h => h) (Or.inr ⟨by rfl, rfl⟩) ?_ ?_
   rotate_left
   ·simp only [Act.put, List.setIfInBounds_toArray, List.set_cons_zero, List.set_cons_succ, i64_w, i32_w]
    rfl
   refine pure_ (i := 23) (N := some 38) (v := undef) (a' := ?_) #[true, true, true, true, true, true, true, true, true, true, true, true, true, true, true, true, true, true, true, true, true, true, true, true, false, false] rfl rfl (any_of HT_.out (by kernel_rfl)) (fun _ _ _ h => h) (Or.inr ⟨by rfl, rfl⟩) ?_ ?_
   rotate_left
   ·simp only [Act.put, List.setIfInBounds_toArray, List.set_cons_zero, List.set_cons_succ, i64_w, i32_w]
    rfl
   refine pure_ (i := 24) (N := some 39) (v := ?_) (a' := ?_) #[true, true, true, true, true, true, true, true, true, true, true, true, true, true, true, true, true, true, true, true, true, true, true, true, true, false] rfl rfl (any_of HT_.out (by kernel_rfl)) (fun _ _ _ h => h) (Or.inl ⟨by rfl, ?_⟩) ?_ ?_
   rotate_left
   ·intro w'
    go_simp
    with_reducible rfl
   rotate_left
   ·simp only [Act.put, List.setIfInBounds_toArray, List.set_cons_zero, List.set_cons_succ, i64_w, i32_w]
    rfl
   refine pure_ (i := 25) (N := some 0) (v := ?_) (a' := ?_) #[true, true, true, true, true, true, true, true, true, true, true, true, true, true, true, true, true, true, true, true, true, true, true, true, true, true] rfl rfl (any_of HT_.out (by kernel_rfl)) (fun _ _ _ h => h) (Or.inl ⟨by rfl, ?_⟩) ?_ ?_
   rotate_left
   ·intro w'
    go_simp
    with_reducible rfl
   rotate_left
   ·simp only [Act.put, List.setIfInBounds_toArray, List.set_cons_zero, List.set_cons_succ, i64_w, i32_w]
    rfl
   refine done_ (done_of HT_.out (by kernel_rfl)) ?_
   try go_wp2
   go_ret
   exact ⟨by first | rfl | (simp [errW_none, errW_some] <;> rfl) | (simp [*, errW_none, errW_some] <;> rfl), by repeat (first | (with_reducible first | exact HB.out | apply below_alloc | apply pw_below_drewN | apply below_drew1) | exact HB.out)⟩
 ·rw [if_neg c5] at H
  have c5b0 : (t151 == 0) = false := beq_eq_false_iff_ne.mpr c5
  have c5b1 : (t151 != 0) = true := bne_iff_ne.mpr c5
  obtain rfl := Option.some.inj H
  go_enter Try.func21, Try.ntmps21
  try go_wp2_with (first | ((with_reducible refine gate_callee (f := 87) rfl ?_); refine goesL_ (some 6) rfl rfl Try.func87 (by kernel_rfl) rfl #[] rfl (by (try simp only [List.map_toArray, List.map_cons, List.map_nil]); first | done | rfl | (simp only [List.length_drop, List.length_take]; rfl)) ?_; (with_reducible refine (thermionlaw04_chain.calls  t144 t145 _ A1.out).mono ?_); rintro e w60 ⟨v146, rfl, ho0, hb⟩; refine ⟨_, rfl, ?_⟩; have n0_ := Aside0.mk (Kd.R_lower ho0 (below_size (by repeat (first | (with_reducible first | exact HB.out | apply below_alloc | apply pw_below_drewN | apply below_drew1) | exact HB.out)))); have n1_ := Aside0.mk (below_step (by repeat (first | (with_reducible first | exact HB.out | apply below_alloc | apply pw_below_drewN | apply below_drew1) | exact HB.out)) hb); clear HB; have HO147 := n0_; have HB := n1_; clear n0_ n1_; (try clear hb); (try clear hb2); (try clear hk); (try clear hi); (try clear ho0); obtain ⟨Ao61, co61, eo61⟩ := Kd.R_slice HO147.out; subst eo61) | ((with_reducible refine gate_callee (f := 24) rfl ?_); refine goesL_ (some 7) rfl rfl Try.func24 (by kernel_rfl) rfl #[.agg #[.int .i64 t144, .slice Ao61 t145.length co61]] rfl (by (try simp only [List.map_toArray, List.map_cons, List.map_nil]); first | done | rfl | (simp only [List.length_drop, List.length_take]; rfl)) ?_; (with_reducible refine (mount_Tight.calls t144 _ _ t145 t148 t151 _ ?side1 ?side2 A2.out).mono ?_); (case side1 => repeat (first | exact (Kd.R_reads' HO147.out).2.2 | (with_reducible refine Kd.C_alloc ?_ _) | (with_reducible refine Kd.C_drewN ?_ _) | (with_reducible refine Kd.C_drew ?_))); (case side2 => exact (Kd.R_reads' HO147.out).2.1); rintro e w62 ⟨v149, rfl, ho0, hb⟩; refine ⟨_, rfl, ?_⟩; have n0_ := Aside0.mk (Kd.R_below (by (with_reducible repeat (first | apply Kd.R_alloc | apply Kd.R_drewN | apply Kd.R_drew)); exact HO147.out) hb); have n1_ := Aside0.mk (Kd.N_lower (Kd.N_mono (ok' := fun k_ => some k_ ≠ (.slice Ao61 t145.length co61 : Value).ownBlock) (Kd.S_N (Kd.S_bound ho0)) (fun k_ hk_ => (Kd.fresh' (Kd.R_lt (by (with_reducible repeat (first | apply Kd.R_alloc | apply Kd.R_drewN | apply Kd.R_drew)); exact HO147.out)) k_ hk_.2.1))) (below_size (by repeat (first | (with_reducible first | exact HB.out | apply below_alloc | apply pw_below_drewN | apply below_drew1) | exact HB.out)))); have n2_ := Aside0.mk (below_step (by repeat (first | (with_reducible first | exact HB.out | apply below_alloc | apply pw_below_drewN | apply below_drew1) | exact HB.out)) hb); clear HO147; clear HB; have HO147 := n0_; have HO150 := n1_; have HB := n2_; clear n0_ n1_ n2_; (try clear hb); (try clear hb2); (try clear hk); (try clear hi); (try clear ho0)) | ((with_reducible refine gate_callee (f := 59) rfl ?_); refine goesL_ (some 11) rfl rfl Try.func59 (by kernel_rfl) rfl #[] rfl (by (try simp only [List.map_toArray, List.map_cons, List.map_nil]); first | done | rfl | (simp only [List.length_drop, List.length_take]; rfl)) ?_; (with_reducible refine (thermionlaw04_kit.calls  t152 t155 _ A3.out).mono ?_); rintro e w63 ⟨v153, rfl, ho0, hb⟩; refine ⟨_, rfl, ?_⟩; have n0_ := Aside0.mk (Kd.R_below (by (with_reducible repeat (first | apply Kd.R_alloc | apply Kd.R_drewN | apply Kd.R_drew)); exact HO147.out) hb); have n1_ := Aside0.mk (Kd.N_elder' (by (with_reducible repeat (first | apply Kd.N_alloc | apply Kd.N_drewN | apply Kd.N_drew)); exact HO150.out) (Kd.N_base ho0) hb); have n2_ := Aside0.mk (Kd.N_lower (Kd.N_mono (ok' := fun k_ => some k_ ≠ (.slice Ao61 t145.length co61 : Value).ownBlock ∧ some k_ ≠ (v149 : Value).ownBlock) ho0 (fun k_ hk_ => ⟨(Kd.fresh' (Kd.R_lt (by (with_reducible repeat (first | apply Kd.R_alloc | apply Kd.R_drewN | apply Kd.R_drew)); exact HO147.out)) k_ hk_), (Kd.fresh' (Kd.N_lt (by (with_reducible repeat (first | apply Kd.N_alloc | apply Kd.N_drewN | apply Kd.N_drew)); exact HO150.out)) k_ hk_)⟩)) (below_size (by repeat (first | (with_reducible first | exact HB.out | apply below_alloc | apply pw_below_drewN | apply below_drew1) | exact HB.out)))); have n3_ := Aside0.mk (below_step (by repeat (first | (with_reducible first | exact HB.out | apply below_alloc | apply pw_below_drewN | apply below_drew1) | exact HB.out)) hb); clear HO147; clear HO150; clear HB; have HO147 := n0_; have HO150 := n1_; have HO154 := n2_; have HB := n3_; clear n0_ n1_ n2_ n3_; (try clear hb); (try clear hb2); (try clear hk); (try clear hi); (try clear ho0); obtain ⟨Ao64, co64, eo64⟩ := Kd.N_slice HO154.out; subst eo64) | ((with_reducible refine gate_callee (f := 30) rfl ?_); refine goesL_ (some 12) rfl rfl Try.func30 (by kernel_rfl) rfl #[.agg #[.slice Ao64 t152.length co64, .int .i64 t155]] rfl (by (try simp only [List.map_toArray, List.map_cons, List.map_nil]); first | done | rfl | (simp only [List.length_drop, List.length_take]; rfl)) ?_; (with_reducible refine (mount_Orders.calls _ _ t152 t155 t156 t157 _ ?side1 ?side2 A4.out).mono ?_); (case side1 => repeat (first | exact (Kd.N_reads' HO154.out).2.2 | (with_reducible refine Kd.C_alloc ?_ _) | (with_reducible refine Kd.C_drewN ?_ _) | (with_reducible refine Kd.C_drew ?_))); (case side2 => exact (Kd.N_reads' HO154.out).2.1); rintro e w65 ⟨rfl, hb⟩; refine ⟨_, rfl, ?_⟩; have n0_ := Aside0.mk (Kd.R_below (by (with_reducible repeat (first | apply Kd.R_alloc | apply Kd.R_drewN | apply Kd.R_drew)); exact HO147.out) hb); have n1_ := Aside0.mk (Kd.N_below (by (with_reducible repeat (first | apply Kd.N_alloc | apply Kd.N_drewN | apply Kd.N_drew)); exact HO150.out) hb); have n2_ := Aside0.mk (Kd.N_below (by (with_reducible repeat (first | apply Kd.N_alloc | apply Kd.N_drewN | apply Kd.N_drew)); exact HO154.out) hb); have n3_ := Aside0.mk (below_step (by repeat (first | (with_reducible first | exact HB.out | apply below_alloc | apply pw_below_drewN | apply below_drew1) | exact HB.out)) hb); clear HO147; clear HO150; clear HO154; clear HB; have HO147 := n0_; have HO150 := n1_; have HO154 := n2_; have HB := n3_; clear n0_ n1_ n2_ n3_; (try clear hb); (try clear hb2); (try clear hk); (try clear hi)))
  have n0_ := Aside0.mk (Kd.R_drew HO147.out)
  have n1_ := Aside0.mk (Kd.N_drew HO150.out)
  have n2_ := Aside0.mk (Kd.N_drew HO154.out)
  have n3_ := Aside0.mk (below_drew1 HB.out)
  clear HO147
  clear HO150
  clear HO154
  clear HB
  have HO147 := n0_
  have HO150 := n1_
  have HO154 := n2_
  have HB := n3_
  clear n0_ n1_ n2_ n3_
  refine start_ (n := 26) (S := fun w' => True) (ds := []) #[false, false, false, false, false, false, false, false, false, false, false, false, false, false, false, false, false, false, false, false, false, false, false, false, false, false] (by kernel_rfl) rfl rfl trivial (fun hHeld => ?_); refine with_tabW thermionlaw04_awake.tab3 thermionlaw04_awake.bits3 (fun HT_ HW_ => ?_)
  generalize w65.drew = w66 at HO147 HO150 HO154 HB hHeld ⊢
  refine pure_ (i := 0) (N := some 15) (v := ?_) (a' := ?_) #[true, false, false, false, false, false, false, false, false, false, false, false, false, false, false, false, false, false, false, false, false, false, false, false, false, false] rfl rfl (any_of HT_.out (by kernel_rfl)) (fun _ _ _ h => h) (Or.inl ⟨by rfl, ?_⟩) ?_ ?_
  rotate_left
  ·intro w'
   go_simp
   with_reducible rfl
  rotate_left
  ·simp only [Act.put, List.setIfInBounds_toArray, List.set_cons_zero, List.set_cons_succ, i64_w, i32_w]
   rfl
  refine pure_ (i := 1) (N := some 16) (v := ?_) (a' := ?_) #[true, true, false, false, false, false, false, false, false, false, false, false, false, false, false, false, false, false, false, false, false, false, false, false, false, false] rfl rfl (any_of HT_.out (by kernel_rfl)) (fun _ _ _ h => h) (Or.inl ⟨by rfl, ?_⟩) ?_ ?_
  rotate_left
  ·intro w'
   go_simp
   with_reducible rfl
  rotate_left
  ·simp only [Act.put, List.setIfInBounds_toArray, List.set_cons_zero, List.set_cons_succ, i64_w, i32_w]
   rfl
  refine pure_ (i := 2) (N := some 17) (v := ?_) (a' := ?_) #[true, true, true, false, false, false, false, false, false, false, false, false, false, false, false, false, false, false, false, false, false, false, false, false, false, false] rfl rfl (any_of HT_.out (by kernel_rfl)) (fun _ _ _ h => h) (Or.inl ⟨by rfl, ?_⟩) ?_ ?_
  rotate_left
  ·intro w'
   go_simp
   with_reducible rfl
  rotate_left
  ·simp only [Act.put, List.setIfInBounds_toArray, List.set_cons_zero, List.set_cons_succ, i64_w, i32_w]
   rfl
  refine pure_ (i := 3) (N := some 18) (v := undef) (a' := ?_) #[true, true, true, true, false, false, false, false, false, false, false, false, false, false, false, false, false, false, false, false, false, false, false, false, false, false] rfl rfl (any_of HT_.out (by kernel_rfl)) (fun _ _ _ h => h) (Or.inr ⟨by rfl, rfl⟩) ?_ ?_
  rotate_left
  ·simp only [Act.put, List.setIfInBounds_toArray, List.set_cons_zero, List.set_cons_succ, i64_w, i32_w]
   rfl
  refine pure_ (i := 4) (N := some 19) (v := undef) (a' := ?_) #[true, true, true, true, true, false, false, false, false, false, false, false, false, false, false, false, false, false, false, false, false, false, false, false, false, false] rfl rfl (any_of HT_.out (by kernel_rfl)) (fun _ _ _ h => h) (Or.inr ⟨by rfl, rfl⟩) ?_ ?_
  rotate_left
  ·simp only [Act.put, List.setIfInBounds_toArray, List.set_cons_zero, List.set_cons_succ, i64_w, i32_w]
   rfl
  refine pure_ (i := 5) (N := some 20) (v := undef) (a' := ?_) #[true, true, true, true, true, true, false, false, false, false, false, false, false, false, false, false, false, false, false, false, false, false, false, false, false, false] rfl rfl (any_of HT_.out (by kernel_rfl)) (fun _ _ _ h => h) (Or.inr ⟨by rfl, rfl⟩) ?_ ?_
  rotate_left
  ·simp only [Act.put, List.setIfInBounds_toArray, List.set_cons_zero, List.set_cons_succ, i64_w, i32_w]
   rfl
  refine pure_ (i := 6) (N := some 21) (v := ?_) (a' := ?_) #[true, true, true, true, true, true, true, false, false, false, false, false, false, false, false, false, false, false, false, false, false, false, false, false, false, false] rfl rfl (any_of HT_.out (by kernel_rfl)) (fun _ _ _ h => h) (Or.inl ⟨by rfl, ?_⟩) ?_ ?_
  rotate_left
  ·intro w'
   go_simp
   with_reducible rfl
  rotate_left
  ·simp only [Act.put, List.setIfInBounds_toArray, List.set_cons_zero, List.set_cons_succ, i64_w, i32_w]
   rfl
  refine pure_ (i := 7) (N := some 22) (v := ?_) (a' := ?_) #[true, true, true, true, true, true, true, true, false, false, false, false, false, false, false, false, false, false, false, false, false, false, false, false, false, false] rfl rfl (any_of HT_.out (by kernel_rfl)) (fun _ _ _ h => h) (Or.inl ⟨by rfl, ?_⟩) ?_ ?_
  rotate_left
  ·intro w'
   go_simp
   with_reducible rfl
  rotate_left
  ·simp only [Act.put, List.setIfInBounds_toArray, List.set_cons_zero, List.set_cons_succ, i64_w, i32_w]
   rfl
  refine pure_ (i := 8) (N := some 23) (v := undef) (a' := ?_) #[true, true, true, true, true, true, true, true, true, false, false, false, false, false, false, false, false, false, false, false, false, false, false, false, false, false] rfl rfl (any_of HT_.out (by kernel_rfl)) (fun _ _ _ h => h) (Or.inr ⟨by rfl, rfl⟩) ?_ ?_
  rotate_left
  ·simp only [Act.put, List.setIfInBounds_toArray, List.set_cons_zero, List.set_cons_succ, i64_w, i32_w]
   rfl
  refine pure_ (i := 9) (N := some 24) (v := undef) (a' := ?_) #[true, true, true, true, true, true, true, true, true, true, false, false, false, false, false, false, false, false, false, false, false, false, false, false, false, false] rfl rfl (any_of HT_.out (by kernel_rfl)) (fun _ _ _ h => h) (Or.inr ⟨by rfl, rfl⟩) ?_ ?_
  rotate_left
  ·simp only [Act.put, List.setIfInBounds_toArray, List.set_cons_zero, List.set_cons_succ, i64_w, i32_w]
   rfl
  refine pure_ (i := 10) (N := some 25) (v := undef) (a' := ?_) #[true, true, true, true, true, true, true, true, true, true, true, false, false, false, false, false, false, false, false, false, false, false, false, false, false, false] rfl rfl (any_of HT_.out (by kernel_rfl)) (fun _ _ _ h => h) (Or.inr ⟨by rfl, rfl⟩) ?_ ?_
  rotate_left
  ·simp only [Act.put, List.setIfInBounds_toArray, List.set_cons_zero, List.set_cons_succ, i64_w, i32_w]
   rfl
  refine pure_ (i := 11) (N := some 26) (v := undef) (a' := ?_) #[true, true, true, true, true, true, true, true, true, true, true, true, false, false, false, false, false, false, false, false, false, false, false, false, false, false] rfl rfl (any_of HT_.out (by kernel_rfl)) (fun _ _ _ h => h) (Or.inr ⟨by rfl, rfl⟩) ?_ ?_
  rotate_left
  ·simp only [Act.put, List.setIfInBounds_toArray, List.set_cons_zero, List.set_cons_succ, i64_w, i32_w]
   rfl
  refine pure_ (i := 12) (N := some 27) (v := undef) (a' := ?_) #[true, true, true, true, true, true, true, true, true, true, true, true, true, false, false, false, false, false, false, false, false, false, false, false, false, false] rfl rfl (any_of HT_.out (by kernel_rfl)) (fun _ _ _ h => h) (Or.inr ⟨by rfl, rfl⟩) ?_ ?_
  rotate_left
  ·simp only [Act.put, List.setIfInBounds_toArray, List.set_cons_zero, List.set_cons_succ, i64_w, i32_w]
   rfl
  refine pure_ (i := 13) (N := some 28) (v := undef) (a' := ?_) #[true, true, true, true, true, true, true, true, true, true, true, true, true, true, false, false, false, false, false, false, false, false, false, false, false, false] rfl rfl (any_of HT_.out (by kernel_rfl)) (fun _ _ _ h => h) (Or.inr ⟨by rfl, rfl⟩) ?_ ?_
  rotate_left
  ·simp only [Act.put, List.setIfInBounds_toArray, List.set_cons_zero, List.set_cons_succ, i64_w, i32_w]
   rfl
  refine pure_ (i := 14) (N := some 29) (v := undef) (a' := ?_) #[true, true, true, true, true, true, true, true, true, true, true, true, true, true, true, false, false, false, false, false, false, false, false, false, false, false] rfl rfl (any_of HT_.out (by kernel_rfl)) (fun _ _ _ h => h) (Or.inr ⟨by rfl, rfl⟩) ?_ ?_
  rotate_left
  ·simp only [Act.put, List.setIfInBounds_toArray, List.set_cons_zero, List.set_cons_succ, i64_w, i32_w]
   rfl
  refine pure_ (i := 15) (N := some 30) (v := undef) (a' := ?_) #[true, true, true, true, true, true, true, true, true, true, true, true, true, true, true, true, false, false, false, false, false, false, false, false, false, false] rfl rfl (any_of HT_.out (by kernel_rfl)) (fun _ _ _ h => h) (Or.inr ⟨by rfl, rfl⟩) ?_ ?_
  rotate_left
  ·simp only [Act.put, List.setIfInBounds_toArray, List.set_cons_zero, List.set_cons_succ, i64_w, i32_w]
   rfl
  refine pure_ (i := 16) (N := some 31) (v := ?_) (a' := ?_) #[true, true, true, true, true, true, true, true, true, true, true, true, true, true, true, true, true, false, false, false, false, false, false, false, false, false] rfl rfl (any_of HT_.out (by kernel_rfl)) (fun _ _ _ h => h) (Or.inl ⟨by rfl, ?_⟩) ?_ ?_
  rotate_left
  ·intro w'
   go_simp
   with_reducible rfl
  rotate_left
  ·simp only [Act.put, List.setIfInBounds_toArray, List.set_cons_zero, List.set_cons_succ, i64_w, i32_w]
   rfl
  refine pure_ (i := 17) (N := some 32) (v := ?_) (a' := ?_) #[true, true, true, true, true, true, true, true, true, true, true, true, true, true, true, true, true, true, false, false, false, false, false, false, false, false] rfl rfl (any_of HT_.out (by kernel_rfl)) (fun _ _ _ h => h) (Or.inl ⟨by rfl, ?_⟩) ?_ ?_
  rotate_left
  ·intro w'
   go_simp
   with_reducible rfl
  rotate_left
  ·simp only [Act.put, List.setIfInBounds_toArray, List.set_cons_zero, List.set_cons_succ, i64_w, i32_w]
   rfl
  refine pure_ (i := 18) (N := some 33) (v := undef) (a' := ?_) #[true, true, true, true, true, true, true, true, true, true, true, true, true, true, true, true, true, true, true, false, false, false, false, false, false, false] rfl rfl (any_of HT_.out (by kernel_rfl)) (fun _ _ _ h => h) (Or.inr ⟨by rfl, rfl⟩) ?_ ?_
  rotate_left
  ·simp only [Act.put, List.setIfInBounds_toArray, List.set_cons_zero, List.set_cons_succ, i64_w, i32_w]
   rfl
  refine pure_ (i := 19) (N := some 34) (v := undef) (a' := ?_) #[true, true, true, true, true, true, true, true, true, true, true, true, true, true, true, true, true, true, true, true, false, false, false, false, false, false] rfl rfl (any_of HT_.out (by kernel_rfl)) (fun _ _ _ h => h) (Or.inr ⟨by rfl, rfl⟩) ?_ ?_
  rotate_left
  ·simp only [Act.put, List.setIfInBounds_toArray, List.set_cons_zero, List.set_cons_succ, i64_w, i32_w]
   rfl
  refine pure_ (i := 20) (N := some 35) (v := ?_) (a' := ?_) #[true, true, true, true, true, true, true, true, true, true, true, true, true, true, true, true, true, true, true, true, true, false, false, false, false, false] rfl rfl (any_of HT_.out (by kernel_rfl)) (fun _ _ _ h => h) (Or.inl ⟨by rfl, ?_⟩) ?_ ?_
  rotate_left
  ·intro w'
   go_simp
   with_reducible rfl
  rotate_left
  ·simp only [Act.put, List.setIfInBounds_toArray, List.set_cons_zero, List.set_cons_succ, i64_w, i32_w]
   rfl
  refine pure_ (i := 21) (N := some 36) (v := ?_) (a' := ?_) #[true, true, true, true, true, true, true, true, true, true, true, true, true, true, true, true, true, true, true, true, true, true, false, false, false, false] rfl rfl (any_of HT_.out (by kernel_rfl)) (fun _ _ _ h => h) (Or.inl ⟨by rfl, ?_⟩) ?_ ?_
  rotate_left
  ·intro w'
   go_simp
   with_reducible rfl
  rotate_left
  ·simp only [Act.put, List.setIfInBounds_toArray, List.set_cons_zero, List.set_cons_succ, i64_w, i32_w]
   rfl
  refine pure_ (i := 22) (N := some 37) (v := undef) (a' := ?_) #[true, true, true, true, true, true, true, true, true, true, true, true, true, true, true, true, true, true, true, true, true, true, true, false, false, false] rfl rfl (any_of HT_.out (by kernel_rfl)) (fun _ _ _ h => h) (Or.inr ⟨by rfl, rfl⟩) ?_ ?_
  rotate_left
  ·simp only [Act.put, List.setIfInBounds_toArray, List.set_cons_zero, List.set_cons_succ, i64_w, i32_w]
   rfl
  refine pure_ (i := 23) (N := some 38) (v := undef) (a' := ?_) #[true, true, true, true, true, true, true, true, true, true, true, true, true, true, true, true, true, true, true, true, true, true, true, true, false, false] rfl rfl (any_of HT_.out (by kernel_rfl)) (fun _ _ _ h => h) (Or.inr ⟨by rfl, rfl⟩) ?_ ?_
  rotate_left
  ·simp only [Act.put, List.setIfInBounds_toArray, List.set_cons_zero, List.set_cons_succ, i64_w, i32_w]
   rfl
  refine pure_ (i := 24) (N := some 39) (v := ?_) (a' := ?_) #[true, true, true, true, true, true, true, true, true, true, true, true, true, true, true, true, true, true, true, true, true, true, true, true, true, false] rfl rfl (any_of HT_.out (by kernel_rfl)) (fun _ _ _ h => h) (Or.inl ⟨by rfl, ?_⟩) ?_ ?_
  rotate_left
  ·intro w'
   go_simp
   with_reducible rfl
  rotate_left
  ·simp only [Act.put, List.setIfInBounds_toArray, List.set_cons_zero, List.set_cons_succ, i64_w, i32_w]
   rfl
  refine pure_ (i := 25) (N := some 0) (v := ?_) (a' := ?_) #[true, true, true, true, true, true, true, true, true, true, true, true, true, true, true, true, true, true, true, true, true, true, true, true, true, true] rfl rfl (any_of HT_.out (by kernel_rfl)) (fun _ _ _ h => h) (Or.inl ⟨by rfl, ?_⟩) ?_ ?_
  rotate_left
  ·intro w'
   go_simp
   with_reducible rfl
  rotate_left
  ·simp only [Act.put, List.setIfInBounds_toArray, List.set_cons_zero, List.set_cons_succ, i64_w, i32_w]
   rfl
  refine done_ (done_of HT_.out (by kernel_rfl)) ?_
  try go_wp2
  go_ret
  exact ⟨by first | rfl | (simp [errW_none, errW_some] <;> rfl) | (simp [*, errW_none, errW_some] <;> rfl), by repeat (first | (with_reducible first | exact HB.out | apply below_alloc | apply pw_below_drewN | apply below_drew1) | exact HB.out)⟩

end Go.Proofs.Ytbcfphoheijmdaa.Print
end

section
/- The chapter's examples that every statement of this layer asks: their values. -/
namespace Go.Proofs.Ytbcfphoheijmdaa.Print
open Go.RowKit Go.Proofs.YtbcfphoheijmdaaW.PrintWords
theorem awake_true : thermionlaw04_awake.f 8 = some true := by kernel_rfl
end Go.Proofs.Ytbcfphoheijmdaa.Print
end

section
/- Plain laws: tables of tight ranges, compared; the chapter's examples; remainders and ranges that the dice deal. -/
namespace Go.Proofs.Ytbcfphoheijmdaa.Print
open Go.RowKit Go.Proofs.YtbcfphoheijmdaaW.PrintWords Go.Proofs.YtbcfphoheijmdaaW.PrintLast Go.Proofs.YtbcfphoheijmdaaW.PrintMore Go.Proofs.Ytbcfphoheijmdaa.H
set_option linter.unusedVariables false
set_option linter.unusedSimpArgs false

theorem fuel_up {α : Type} {f : Nat → Option α} (hm : ∀ k, LeO (f k) (f (k + 1))) {k : Nat} {r : α} (h : f k = some r) : ∀ m, k ≤ m → f m = some r := by
  intro m hkm
  induction m with
  | zero => rw [show k = 0 by omega] at h; exact h
  | succ m ih =>
    by_cases e : k = m + 1
    · rw [← e]; exact h
    · exact hm m r (ih (by omega))
theorem rowsOf_len (n : Nat) (T : List Int) : (rowsOf n T).length = n := by simp [rowsOf]
theorem rowsOf_row (n : Nat) (T : List Int) (a : Nat) (ha : a < n) : rd_L6 (rowsOf n T) (a : Int) = (List.range n).map (fun b => spanOf T a b) := by
  simp [rd_L6, rowsOf, List.getD_eq_getElem?_getD, ha]
theorem row_get (n : Nat) (T : List Int) (a b : Nat) (hb : b < n) : rd_T32 ((List.range n).map (fun b => spanOf T a b)) (b : Int) = spanOf T a b := by
  simp [rd_T32, List.getD_eq_getElem?_getD, hb]
theorem wrap_one (i : Nat) (h : i ≤ 1000000) : wrap64 ((i : Int) + 1) = ((i + 1 : Nat) : Int) := by rw [IntWalk.wrap64_in _ (by omega)]; omega
theorem square_at (n : Nat) (T : List Int) (hn : n ≤ 24) : ∀ (d i : Nat), i + d = n → thermionlaw04_square.l0 (d + 1) (rowsOf n T) n i = some true
  | 0, i, h => by
    have : i = n := by omega
    subst this
    rw [thermionlaw04_square.l0, if_neg (by rw [rowsOf_len]; omega), rowsOf_len]
    simp
  | d + 1, i, h => by
    rw [thermionlaw04_square.l0, if_pos (by rw [rowsOf_len]; omega), if_pos (by omega), rowsOf_row _ _ _ (by omega), if_pos (by simp), wrap_one _ (by omega)]
    exact square_at n T hn d (i + 1) (by omega)
theorem square_rows (n : Nat) (T : List Int) (hn : n ≤ 24) {k : Nat} (hk : 25 ≤ k) : thermionlaw04_square.f k (rowsOf n T) n = some true :=
  fuel_up (thermionlaw04_square.mono _ _) (k := n + 1) (square_at n T hn n 0 (by omega)) k (by omega)
theorem within_eq (a b : S32) : thermionkit_Within.f a.f0 a.f1 b.f0 b.f1 = some (decide (b.f0 ≤ a.f0 ∧ a.f1 ≤ b.f1)) := by
  unfold thermionkit_Within.f
  by_cases q : a.f0 ≥ b.f0
  · rw [if_pos q]; simp [show b.f0 ≤ a.f0 from q]
  · rw [if_neg q]; simp [show ¬ b.f0 ≤ a.f0 from q]
theorem range_eq (s a b : Int) (h : a ≤ b) (h1 : -1000000 ≤ a) (h2 : b ≤ 1000000) : ∃ x y t, thermionkit_Dice_Range.f s a b = some (x, y, t) ∧ a ≤ x ∧ x ≤ y ∧ y ≤ b := by
  have p1 := bet_eq s a b h (by omega) (by omega)
  have p2 := bet_eq (nextWord s) a b h (by omega) (by omega)
  unfold thermionkit_Dice_Range.f
  rw [p1.1, Option.bind_some, p2.1, Option.bind_some]
  refine ⟨_, _, _, rfl, ?_⟩
  unfold mn mx
  simp only []
  refine ⟨?_, ?_, ?_⟩
  · split <;> omega
  · split <;> split <;> omega
  · split <;> omega
theorem chainErr_snoc {n : Nat} {L : List S35} {l : S35} (h : chainErr n L = 0) (hl : L.length < 80) (he : linkErr n l = 0) : chainErr n (L ++ [l]) = 0 := by
  obtain ⟨h1, h2, h3, h4⟩ := chainErr_ok h
  have hok := linkErr_ok he
  have hroots : ∀ i, i < n → (rootsOf L).getD i 0 = 0 := chain_roots h
  unfold chainErr
  rw [if_neg (by omega), if_neg (by rw [List.length_append]; simp; omega)]
  have hn : (L ++ [l]).find? (fun l => linkErr n l != 0) = none := by
    rw [List.find?_eq_none]
    intro l' hl'
    rcases List.mem_append.1 hl' with q | q
    · simp [h4 l' q]
    · rw [List.mem_singleton.1 q]; simp [he]
  rw [hn]
  simp only []
  rw [if_pos (roots_all (fun j hj => ?_) (by rw [rootsOf_length]; omega))]
  rw [rootsOf_snoc, more_root (rootsOf_length _) (by omega) (by omega) (hroots _ (by omega)) (hroots _ (by omega)) j (by omega)]
  exact hroots j hj
end Go.Proofs.Ytbcfphoheijmdaa.Print
end

section
/- Plain law of MountWinds: the chain of a winding is the reference's. -/
namespace Go.Proofs.Ytbcfphoheijmdaa.Print
open Go.RowKit Go.Proofs.YtbcfphoheijmdaaW.PrintWords Go.Proofs.YtbcfphoheijmdaaW.PrintLast Go.Proofs.YtbcfphoheijmdaaW.PrintMore Go.Proofs.Ytbcfphoheijmdaa.H
set_option linter.unusedVariables false
set_option linter.unusedSimpArgs false

theorem w64 {x : Int} (h : -1000000000000 ≤ x ∧ x ≤ 1000000000000) : wrap64 x = x := by rw [IntWalk.wrap64_in _ (by omega)]
end Go.Proofs.Ytbcfphoheijmdaa.Print
end

section
/- Plain laws for MountReached: what a tight table says of its ranges, in the form in which the Go code asks it. -/
namespace Go.Proofs.Ytbcfphoheijmdaa.Print
open Go.RowKit Go.Proofs.YtbcfphoheijmdaaW.PrintWords Go.Proofs.YtbcfphoheijmdaaW.PrintLast Go.Proofs.YtbcfphoheijmdaaW.PrintMore Go.Proofs.Ytbcfphoheijmdaa.H
set_option linter.unusedVariables false
set_option linter.unusedSimpArgs false

/-- A tight table with small numbers. -/
structure Tog (n : Nat) (L : List S35) (T : List Int) : Prop where
  is : TightIs n L T
  small : ∀ i, -16777216000000 ≤ T.getD i 0 ∧ T.getD i 0 ≤ 16777216000000
  ok : chainErr n L = 0
theorem tog_of {n : Nat} {L : List S35} (h : chainErr n L = 0) : ((tightOf n L).2 = 0 ∧ Tog n L (tightOf n L).1) ∨ (tightOf n L).2 = 12 := by
  rcases tight_sem h with ⟨h1, h2⟩ | ⟨h1, h2⟩
  · left
    obtain ⟨_, _, hs⟩ := tightOf_small h1
    have hb := (bnd_le 24 (by omega)).2
    exact ⟨h1, h2, fun i => by have := hs i; omega, h⟩
  · right; exact h1
theorem Tog.sm {n : Nat} {L : List S35} {T : List Int} (h : Tog n L T) (a b : Nat) : -16777216000000 ≤ tf T a b ∧ tf T a b ≤ 16777216000000 := h.small _
theorem span_lo (T : List Int) (a b : Nat) : (spanOf T a b).f0 = -(tf T b a) := rfl
theorem span_hi (T : List Int) (a b : Nat) : (spanOf T a b).f1 = tf T a b := rfl
theorem Tog.pair {n : Nat} {L : List S35} {T : List Int} (h : Tog n L T) {a b : Nat} (ha : a < n) (hb : b < n) :
    IntKind.i64.wrap (-(spanOf T a b).f1) = (spanOf T b a).f0 ∧ IntKind.i64.wrap (-(spanOf T a b).f0) = (spanOf T b a).f1 ∧ decide ((spanOf T a b).f1 < (spanOf T a b).f0) = false ∧ (a = b → (spanOf T a b).f0 = 0 ∧ (spanOf T a b).f1 = 0) := by
  rw [span_lo, span_hi, span_lo, span_hi]
  have s1 := h.sm a b
  have s2 := h.sm b a
  have o := h.is.order ha hb
  refine ⟨IntWalk.i64_in _ (by omega), ?_, decide_eq_false (by omega), fun e => ?_⟩
  · rw [IntWalk.i64_in _ (by omega)]; omega
  · subst e
    rw [h.is.self a ha]
    exact ⟨rfl, rfl⟩
theorem Tog.tri {n : Nat} {L : List S35} {T : List Int} (h : Tog n L T) {a b x : Nat} (ha : a < n) (hb : b < n) (hx : x < n) :
    IntKind.i64.wrap ((spanOf T a x).f0 + (spanOf T x b).f0) = (spanOf T a x).f0 + (spanOf T x b).f0 ∧ IntKind.i64.wrap ((spanOf T a x).f1 + (spanOf T x b).f1) = (spanOf T a x).f1 + (spanOf T x b).f1 ∧
    thermionkit_Within.f (spanOf T a b).f0 (spanOf T a b).f1 ((spanOf T a x).f0 + (spanOf T x b).f0) ((spanOf T a x).f1 + (spanOf T x b).f1) = some true := by
  have e := within_eq (spanOf T a b) ⟨(spanOf T a x).f0 + (spanOf T x b).f0, (spanOf T a x).f1 + (spanOf T x b).f1⟩
  simp only [] at e
  rw [e]
  simp only [span_lo, span_hi]
  have s1 := h.sm a x
  have s2 := h.sm x a
  have s3 := h.sm b x
  have s4 := h.sm x b
  have t1 := h.is.tri ha hx hb
  have t2 := h.is.tri hb hx ha
  refine ⟨IntWalk.i64_in _ (by omega), IntWalk.i64_in _ (by omega), ?_⟩
  exact congrArg some (decide_eq_true (by omega))
theorem Tog.link {n : Nat} {L : List S35} {T : List Int} (h : Tog n L T) {l : S35} (hl : l ∈ L) {f t : Nat} (hf : l.f0 = f) (ht : l.f1 = t) : f < n ∧ t < n ∧ thermionkit_Within.f (spanOf T f t).f0 (spanOf T f t).f1 l.f2.f0 l.f2.f1 = some true := by
  have hok := linkErr_ok ((chainErr_ok h.ok).2.2.2 l hl)
  have h1 : f < n := by omega
  have h2 : t < n := by omega
  refine ⟨h1, h2, ?_⟩
  rw [within_eq, span_lo, span_hi]
  have e := h.is.edge hl (by omega) (by omega)
  rw [hf, ht] at e
  simp only [Int.toNat_natCast] at e
  exact congrArg some (decide_eq_true (by omega))
end Go.Proofs.Ytbcfphoheijmdaa.Print
end

section
/- Far and Near: positions at the ends of tight ranges, as Lean functions, and that the Go functions' calls give them. -/
namespace Go.Proofs.Ytbcfphoheijmdaa.Print
open Go.RowKit Go.Proofs.YtbcfphoheijmdaaW.PrintWords Go.Proofs.YtbcfphoheijmdaaW.PrintLast Go.Proofs.YtbcfphoheijmdaaW.PrintMore Go.Proofs.Ytbcfphoheijmdaa.H
attribute [local go_sem] max2_int min2_int max_two min_two max_three min_three max_four min_four
attribute [local go_sem ↓] Go.wp_at_zero Go.wp_at_succ
set_option linter.unusedVariables false
set_option linter.unusedSimpArgs false

/-- An end of a range. -/
def endOf (high : Bool) (r : S32) : Int := if high = true then r.f1 else r.f0
def endsRes (high : Bool) (P : Int) (L : List S35) (a : Int) : List Int × Int :=
  if (tightOf P L).2 = 0 then (if 0 ≤ a ∧ a ≤ P - 1 then ((List.range P.toNat).map (fun b => endOf high (spanOf (tightOf P L).1 a.toNat b)), 0) else ([], 7)) else ([], (tightOf P L).2)
def mount_Far.f (a0_0 : Int) (l0_1 : List (S35)) (a1 : Int) : Option (List Int × Int) := some (endsRes true a0_0 l0_1 a1)
def mount_Near.f (a0_0 : Int) (l0_1 : List (S35)) (a1 : Int) : Option (List Int × Int) := some (endsRes false a0_0 l0_1 a1)
theorem R_block {W : World} {base g : Nat} {X : List Int} (hb : W.heap[g]? = some (.cells (nums .i64 X).toArray 3 (0, 0))) (hg : base ≤ g) (hn : X.length ≤ maxLen) : (Kd.int .i64).R 3 W base (fun _ => True) (.slice (some ⟨g, 0, none⟩) X.length X.length) X := by
  refine Kd.R_of_own ⟨by simp [encs], .inr ⟨g, X.length, (nums .i64 X).toArray, rfl, hg, hb, Nat.le_refl _, hn, by simp [nums], ?_⟩⟩ (fun _ _ => trivial)
  simp [nums, encs]
  exact List.take_of_length_le (by simp)
theorem high_calls (lo hi : Int) (w : World) : Calls Try.prog 108 #[.agg #[.int .i64 lo, .int .i64 hi]] w fun e w' => e = .returned (.int .i64 hi) ∧ Below w.heap.size w w' := by
  have HM := Aside0.mk (Mem.start w)
  have hu32 := Try.underlying32
  go_enter Try.func108, Try.ntmps108
  go_wp2_with (first
    | ((with_reducible refine gate_dst (N := 1) rfl ?_); refine ev_box HM.out rfl 32 (.tmp 0) rfl (cs := #[.int .i64 lo, .int .i64 hi]) rfl ?_; intro g1 w1 hm1 hq1; clear hq1; have HM1 := Aside0.mk hm1; clear hm1 HM; have c1 : w1.cell? ⟨g1, 1, none⟩ = some (.int .i64 hi) := (HM1.out.cell 1).trans rfl))
  go_ret
  exact ⟨rfl, HM1.out.below⟩
theorem low_calls (lo hi : Int) (w : World) : Calls Try.prog 109 #[.agg #[.int .i64 lo, .int .i64 hi]] w fun e w' => e = .returned (.int .i64 lo) ∧ Below w.heap.size w w' := by
  have HM := Aside0.mk (Mem.start w)
  have hu32 := Try.underlying32
  go_enter Try.func109, Try.ntmps109
  go_wp2_with (first
    | ((with_reducible refine gate_dst (N := 1) rfl ?_); refine ev_box HM.out rfl 32 (.tmp 0) rfl (cs := #[.int .i64 lo, .int .i64 hi]) rfl ?_; intro g1 w1 hm1 hq1; clear hq1; have HM1 := Aside0.mk hm1; clear hm1 HM; have c1 : w1.cell? ⟨g1, 0, none⟩ = some (.int .i64 lo) := (HM1.out.cell 0).trans rfl))
  go_ret
  exact ⟨rfl, HM1.out.below⟩
/-- The list on the way: the first b ends, then zeros. -/
def endsTo (high : Bool) (T : List Int) (n a b : Nat) : List Int := (List.range n).map (fun j => if j < b then endOf high (spanOf T a j) else 0)
theorem endsTo_set (high : Bool) (T : List Int) (n a b : Nat) : (endsTo high T n a b).set b (endOf high (spanOf T a b)) = endsTo high T n a (b + 1) := by
  apply List.ext_getElem
  · simp [endsTo]
  · intro i h1 h2
    rw [List.getElem_set]
    simp only [endsTo, List.getElem_map, List.getElem_range]
    by_cases q : b = i
    · subst q; rw [if_pos rfl, if_pos (by omega)]
    · rw [if_neg q]
      by_cases q2 : i < b
      · rw [if_pos q2, if_pos (by omega)]
      · rw [if_neg q2, if_neg (by omega)]
theorem endsTo_start (high : Bool) (T : List Int) (n a : Nat) : endsTo high T n a 0 = List.replicate n 0 := by
  apply List.ext_getElem
  · simp [endsTo]
  · intro i h1 h2
    simp [endsTo]
theorem endsTo_done (high : Bool) (T : List Int) (n a b : Nat) (h : n ≤ b) : endsTo high T n a b = (List.range n).map (fun b => endOf high (spanOf T a b)) := by
  apply List.ext_getElem
  · simp [endsTo]
  · intro i h1 h2
    have hi : i < n := by simpa [endsTo] using h1
    simp only [endsTo, List.getElem_map, List.getElem_range]
    rw [if_pos (by omega)]
set_option maxHeartbeats 6400000 in
set_option maxRecDepth 100000 in
theorem ends_calls (high : Bool) (id : Nat) (hent : ∀ args W, Sem.run Try.prog (callFunc id args) W = .ok (.enter id args) W) (hend : ∀ (lo hi : Int) (W : World), Calls Try.prog id #[.agg #[.int .i64 lo, .int .i64 hi]] W fun e w' => e = .returned (.int .i64 (endOf high ⟨lo, hi⟩)) ∧ Below W.heap.size W w')
    (P : Int) (A : Option Addr) (c : Nat) (L : List S35) (a : Int) (w : World) (hr : Kd.C k35 w A L.length L) (hc : L.length ≤ c) :
    Calls Try.prog 107 #[.agg #[.int .i64 P, .slice A L.length c], .int .i64 a, .func (.func id) #[] #[]] w fun e w' => ∃ v0_ : Value, e = .returned (.tuple #[v0_, .int .i64 (endsRes high P L a).2]) ∧ Kd.R (Kd.int .i64) 3 w' w.heap.size (fun _ => True) v0_ (endsRes high P L a).1 ∧ Below w.heap.size w w' := by
  have HR := Aside0.mk hr
  have HM := Aside0.mk (Mem.start w)
  have HEN := Aside0.mk hend
  clear hr hend
  have hu27 := Try.underlying27
  have HTC := Aside0.mk (fun W hW => tight_calls P A c L W hW hc)
  have HLT : Aside0 ((tightOf P L).1.length = 576) := ⟨by
    by_cases hc : chainErr P L = 0
    · unfold tightOf; rw [if_pos hc]; exact (floyd_small (n := P.toNat) P.toNat 0 (initTab L) (by have := chainErr_ok hc; omega) (Small.init _ (chainErr_ok hc).2.2.2) (initTab_length _)).2
    · unfold tightOf; rw [if_neg hc]; simp⟩
  have HF : Aside0 (endsRes high P L a = if (tightOf P L).2 = 0 then (if 0 ≤ a ∧ a ≤ P - 1 then ((List.range P.toNat).map (fun b => endOf high (spanOf (tightOf P L).1 a.toNat b)), 0) else ([], 7)) else ([], (tightOf P L).2)) := ⟨rfl⟩
  generalize endsRes high P L a = r at HF ⊢
  by_cases t1 : (tightOf P L).2 = 0
  rotate_left
  · have HF2 : Aside0 (r.1 = [] ∧ r.2 = (tightOf P L).2) := ⟨by rw [HF.out, if_neg t1]; exact ⟨rfl, rfl⟩⟩
    clear HF
    generalize (tightOf P L).2 = E at t1 HTC HF2
    generalize (tightOf P L).1 = T at HTC HLT
    have t2 : (E != 0) = true := by simpa using t1
    clear t1
    go_enter Try.func107, Try.ntmps107
    go_wp2_with (first
      | ((with_reducible refine gate_dst (N := 3) rfl ?_); refine ev_box HM.out rfl 27 (.tmp 0) rfl (cs := #[.int .i64 P, .slice A L.length c]) rfl ?_; intro g1 w1 hm1 hq1; clear hq1; have HM1 := Aside0.mk hm1; clear hm1 HM)
      | ((with_reducible refine gate_dst (N := 13) rfl ?_); refine ev_load HM1.out.head rfl 27 (.tmp 3) rfl rfl _ Try.underlying27 rfl (n := 2) (by kernel_rfl) rfl ?_)
      | (go_at_call 89; refine (HTC.out _ (Kd.C_below HR.out HM1.out.below)).mono ?_; rintro e w' ⟨rfl, hd⟩; have HM2 := Aside0.mk (HM1.out.step hd); clear hd HM1)
      | ((with_reducible refine gate_dst (N := 8) rfl ?_); refine ev_new HM2.out rfl 125 rfl info125 ?_; intro g3 w3 hm3 hq1; clear hq1; have HM3 := Aside0.mk hm3; clear hm3 HM2)
      | (refine ev_store HM3.out rfl 125 (.tmp 8) (.tmp 15) rfl rfl rfl size125 (by simp) (size_nums HLT.out) (one_nums _) ?_; intro w5 hm5 hq1; clear hq1; have HM5 := Aside0.mk hm5; clear hm5 HM3))
    go_ret2
    exact ⟨.slice none 0 0, by rw [HF2.out.2]; rfl, by rw [HF2.out.1]; exact Kd.R_nil _ _ _ _ _, HM5.out.below⟩
  obtain ⟨hce, _, hsm⟩ := tightOf_small t1
  have HOK := Aside0.mk (chainErr_ok hce)
  have HF2 : Aside0 (r = if 0 ≤ a ∧ a ≤ P - 1 then ((List.range P.toNat).map (fun b => endOf high (spanOf (tightOf P L).1 a.toNat b)), 0) else ([], 7)) := ⟨by rw [HF.out, if_pos t1]⟩
  rw [t1] at HTC
  have HBD := Aside0.mk (hsm.wide (bnd_le 24 (by omega)).2)
  clear t1 hce hsm HF
  generalize (tightOf P L).1 = T at HTC HLT HF2 HBD
  obtain ⟨n, rfl⟩ : ∃ n : Nat, P = n := ⟨P.toNat, by have := HOK.out; omega⟩
  have hn1 : 1 ≤ n := by have := HOK.out.1; omega
  have hn2 : n ≤ 24 := by have := HOK.out.2.1; omega
  clear HOK
  have hw1 : IntKind.i64.wrap ((n : Int) - 1) = (n : Int) - 1 := IntWalk.i64_in _ (by omega)
  rw [Int.toNat_natCast] at HF2
  by_cases ha : 0 ≤ a ∧ a ≤ (n : Int) - 1
  · obtain ⟨x, rfl⟩ : ∃ x : Nat, a = x := ⟨a.toNat, by omega⟩
    have hx : x < n := by omega
    have HIN := Aside0.mk (in_eq (x : Int) 0 ((n : Int) - 1))
    rw [decide_eq_true ha] at HIN
    have HF3 : Aside0 (r.1 = (List.range n).map (fun b => endOf high (spanOf T x b)) ∧ r.2 = 0) := ⟨by rw [HF2.out, if_pos ha, Int.toNat_natCast]; exact ⟨rfl, rfl⟩⟩
    clear ha
    go_enter Try.func107, Try.ntmps107
    go_wp2_with (first
      | ((with_reducible refine gate_dst (N := 3) rfl ?_); refine ev_box HM.out rfl 27 (.tmp 0) rfl (cs := #[.int .i64 (n : Int), .slice A L.length c]) rfl ?_; intro g1 w1 hm1 hq1; clear hq1; have HM1 := Aside0.mk hm1; clear hm1 HM)
      | ((with_reducible refine gate_dst (N := 13) rfl ?_); refine ev_load HM1.out.head rfl 27 (.tmp 3) rfl rfl _ Try.underlying27 rfl (n := 2) (by kernel_rfl) rfl ?_)
      | (go_at_call 89; refine (HTC.out _ (Kd.C_below HR.out HM1.out.below)).mono ?_; rintro e w' ⟨rfl, hd⟩; have HM2 := Aside0.mk (HM1.out.step hd); clear hd HM1)
      | ((with_reducible refine gate_dst (N := 8) rfl ?_); refine ev_new HM2.out rfl 125 rfl info125 ?_; intro g3 w3 hm3 hq1; clear hq1; have HM3 := Aside0.mk hm3; clear hm3 HM2)
      | (refine ev_store HM3.out rfl 125 (.tmp 8) (.tmp 15) rfl rfl rfl size125 (by simp) (size_nums HLT.out) (one_nums _) ?_; intro w5 hm5 hq1; clear hq1; have HM5 := Aside0.mk hm5; clear hm5 HM3; have c0 : w5.cell? ⟨g1, 0, none⟩ = some (.int .i64 (n : Int)) := (blk_cell HM5.out.second 0).trans rfl)
      | (go_at_call 102; refine (mount_in.calls _ _ _ _ _ HIN.out).mono ?_; rintro e w6 ⟨rfl, hd⟩; have HM6 := Aside0.mk (HM5.out.step hd.below); clear hd HM5 c0; have c6 : w6.cell? ⟨g1, 0, none⟩ = some (.int .i64 (n : Int)) := (blk_cell HM6.out.second 0).trans rfl)
      | ((with_reducible refine gate_dst (N := 28) rfl ?_); refine ev_make HM6.out rfl 22 (.tmp 27) rfl n rfl 3 (.int .i64 0) 8 Try.underlying22 info3 rfl (by omega) (by unfold maxLen; omega) ?_; intro g6 w7 hm7 hq7; have HM7 := Aside0.mk hm7; clear hm7 HM6 hq7 c6))
    have HM8 : Aside0 (Mem w w7 [(g6, (nums .i64 (endsTo high T n x 0)).toArray, 3), (g3, (nums .i64 T).toArray, 125), (g1, #[.int .i64 (n : Int), .slice A L.length c], 27)]) := ⟨by
      rw [endsTo_start]
      have e : (nums .i64 (List.replicate n 0)).toArray = (List.replicate n (Value.int .i64 0)).toArray := by simp [nums]
      rw [e]
      exact HM7.out⟩
    clear HM7
    go_loopg [31] n (fun k v31 w' => ∃ (b : Nat), v31 = .int .i64 b ∧ Aside0 (b + k = n) ∧ Aside0 (Mem w w' [(g6, (nums .i64 (endsTo high T n x b)).toArray, 3), (g3, (nums .i64 T).toArray, 125), (g1, #[.int .i64 (n : Int), .slice A L.length c], 27)]))
    case atStart => exact ⟨0, rfl, ⟨by omega⟩, HM8⟩
    case round =>
      clear HM8
      obtain ⟨b, rfl, HK, HM⟩ := hrel
      by_cases hb : b < n
      · have i1 : (0 : Int) ≤ (b : Int) := by omega
        have i2 : (b : Int) < (n : Int) := by omega
        have HSP := Aside0.mk (fun W => span_calls T x b HLT.out (by omega) (by omega) HBD.out W)
        have HST := Aside0.mk (endsTo_set high T n x b)
        have HLE := Aside0.mk (show (endsTo high T n x b).length = n by simp [endsTo])
        generalize endsTo high T n x b = X at HM HST HLE
        go_wp2_with (first
          | ((with_reducible refine gate_dst (N := 37) rfl ?_); refine ev_load HM.out.second rfl 125 (.tmp 8) rfl rfl _ Try.underlying125 rfl (n := 576) size125 (size_nums HLT.out) ?_)
          | (go_at_call 90; refine (HSP.out _).mono ?_; rintro e w8 ⟨rfl, hd⟩; have HM9 := Aside0.mk (HM.out.step hd); clear hd HM))
        refine (HEN.out _ _ _).mono ?_
        rintro e w9 ⟨rfl, hd⟩
        have HMA := Aside0.mk (HM9.out.step hd)
        clear hd HM9
        have cX : w9.cell? ⟨g6, b, none⟩ = some (.int .i64 (X.getD b 0)) := by rw [HMA.out.cell, get_nums _ _ (by rw [HLE.out]; exact hb)]
        have fX : w9.frozen? ⟨g6, b, none⟩ = false := HMA.out.frozen b
        go_wp2_with fail
        go_roundg (n - (b + 1))
        case measure => have := HK.out; omega
        case rel => exact ⟨b + 1, by go_num, ⟨by omega⟩, ⟨by rw [← HST.out]; exact HMA.out.put b _ (set_nums _ _ _)⟩⟩
      · have HRB := Aside0.mk (R_block (base := w.heap.size) HM.out.head HM.out.geh (by simp [endsTo]; unfold maxLen; omega))
        have HED := Aside0.mk (endsTo_done high T n x b (by omega))
        have HLE := Aside0.mk (show (endsTo high T n x b).length = n by simp [endsTo])
        go_wp2_with fail
        go_ret2
        refine ⟨.slice (some ⟨g6, 0, none⟩) n n, by rw [HF3.out.2]; rfl, ?_, HM.out.below⟩
        have := HRB.out
        rw [HLE.out] at this
        rw [HF3.out.1, ← HED.out]
        exact this
  · have HIN := Aside0.mk (in_eq a 0 ((n : Int) - 1))
    rw [decide_eq_false ha] at HIN
    have HF3 : Aside0 (r.1 = [] ∧ r.2 = 7) := ⟨by rw [HF2.out, if_neg ha]; exact ⟨rfl, rfl⟩⟩
    go_enter Try.func107, Try.ntmps107
    go_wp2_with (first
      | ((with_reducible refine gate_dst (N := 3) rfl ?_); refine ev_box HM.out rfl 27 (.tmp 0) rfl (cs := #[.int .i64 (n : Int), .slice A L.length c]) rfl ?_; intro g1 w1 hm1 hq1; clear hq1; have HM1 := Aside0.mk hm1; clear hm1 HM)
      | ((with_reducible refine gate_dst (N := 13) rfl ?_); refine ev_load HM1.out.head rfl 27 (.tmp 3) rfl rfl _ Try.underlying27 rfl (n := 2) (by kernel_rfl) rfl ?_)
      | (go_at_call 89; refine (HTC.out _ (Kd.C_below HR.out HM1.out.below)).mono ?_; rintro e w' ⟨rfl, hd⟩; have HM2 := Aside0.mk (HM1.out.step hd); clear hd HM1)
      | ((with_reducible refine gate_dst (N := 8) rfl ?_); refine ev_new HM2.out rfl 125 rfl info125 ?_; intro g3 w3 hm3 hq1; clear hq1; have HM3 := Aside0.mk hm3; clear hm3 HM2)
      | (refine ev_store HM3.out rfl 125 (.tmp 8) (.tmp 15) rfl rfl rfl size125 (by simp) (size_nums HLT.out) (one_nums _) ?_; intro w5 hm5 hq1; clear hq1; have HM5 := Aside0.mk hm5; clear hm5 HM3; have c0 : w5.cell? ⟨g1, 0, none⟩ = some (.int .i64 (n : Int)) := (blk_cell HM5.out.second 0).trans rfl)
      | (go_at_call 102; refine (mount_in.calls _ _ _ _ _ HIN.out).mono ?_; rintro e w6 ⟨rfl, hd⟩; have HM6 := Aside0.mk (HM5.out.step hd.below); clear hd))
    go_ret2
    exact ⟨.slice none 0 0, by rw [HF3.out.2]; rfl, by rw [HF3.out.1]; exact Kd.R_nil _ _ _ _ _, HM6.out.below⟩
theorem high_enters (args : Array Value) (W : World) : Sem.run Try.prog (callFunc 108 args) W = .ok (.enter 108 args) W := by
  have h1 : ¬ Try.f108.name = "runtime.NumGoroutine" := by decide
  have h2 : ¬ Try.f108.body = none := fun h => by
    have : Try.f108.body.isSome = false := by rw [h]; rfl
    exact absurd this (by show ¬ (true = false); decide)
  simp [callFunc, go_sem, Try.func108, h1, h2]
theorem low_enters (args : Array Value) (W : World) : Sem.run Try.prog (callFunc 109 args) W = .ok (.enter 109 args) W := by
  have h1 : ¬ Try.f109.name = "runtime.NumGoroutine" := by decide
  have h2 : ¬ Try.f109.body = none := fun h => by
    have : Try.f109.body.isSome = false := by rw [h]; rfl
    exact absurd this (by show ¬ (true = false); decide)
  simp [callFunc, go_sem, Try.func109, h1, h2]
set_option maxHeartbeats 1600000 in
set_option maxRecDepth 100000 in
theorem mount_Far.calls (a0_0 : Int) (A0_1 : Option Addr) (c0_1 : Nat) (l0_1 : List (S35)) (a1 : Int) (r1 : List Int) (r2 : Int) (w : World) (hr0_1 : Kd.C k35 w A0_1 l0_1.length l0_1) (hc0_1 : l0_1.length ≤ c0_1) (h : mount_Far.f a0_0 l0_1 a1 = some (r1, r2)) :
    Calls Try.prog 49 #[.agg #[.int .i64 a0_0, .slice A0_1 l0_1.length c0_1], .int .i64 a1] w fun e w' => ∃ v0_ : Value, e = .returned (.tuple #[v0_, .int .i64 r2]) ∧ Kd.R (Kd.int .i64) 3 w' w.heap.size (fun _ => True) v0_ r1 ∧ Below w.heap.size w w' := by
  have HF := Aside0.mk (Option.some.inj h)
  have HR := Aside0.mk hr0_1
  have HM := Aside0.mk (Mem.start w)
  have HE := Aside0.mk (fun W hW => ends_calls true 108 high_enters (fun lo hi W => high_calls lo hi W) a0_0 A0_1 c0_1 l0_1 a1 W hW hc0_1)
  clear h hr0_1
  rw [HF.out] at HE
  clear HF
  have hu27 := Try.underlying27
  go_enter Try.func49, Try.ntmps49
  go_wp2_with (first
    | ((with_reducible refine gate_dst (N := 2) rfl ?_); refine ev_box HM.out rfl 27 (.tmp 0) rfl (cs := #[.int .i64 a0_0, .slice A0_1 l0_1.length c0_1]) rfl ?_; intro g1 w1 hm1 hq1; clear hq1; have HM1 := Aside0.mk hm1; clear hm1 HM)
    | ((with_reducible refine gate_dst (N := 6) rfl ?_); refine ev_load HM1.out.head rfl 27 (.tmp 2) rfl rfl _ Try.underlying27 rfl (n := 2) (by kernel_rfl) rfl ?_)
    | (go_at_call 107; refine (HE.out _ (Kd.C_below HR.out HM1.out.below)).mono ?_; rintro e w2 ⟨v, rfl, hR, hd⟩; have HR2 := Aside0.mk (Kd.R_lower hR HM1.out.below.size); have HB2 := Aside0.mk (below_step HM1.out.below hd); clear hR hd))
  go_ret2
  exact ⟨v, rfl, HR2.out, HB2.out⟩
set_option maxHeartbeats 1600000 in
set_option maxRecDepth 100000 in
theorem mount_Near.calls (a0_0 : Int) (A0_1 : Option Addr) (c0_1 : Nat) (l0_1 : List (S35)) (a1 : Int) (r1 : List Int) (r2 : Int) (w : World) (hr0_1 : Kd.C k35 w A0_1 l0_1.length l0_1) (hc0_1 : l0_1.length ≤ c0_1) (h : mount_Near.f a0_0 l0_1 a1 = some (r1, r2)) :
    Calls Try.prog 50 #[.agg #[.int .i64 a0_0, .slice A0_1 l0_1.length c0_1], .int .i64 a1] w fun e w' => ∃ v0_ : Value, e = .returned (.tuple #[v0_, .int .i64 r2]) ∧ Kd.R (Kd.int .i64) 3 w' w.heap.size (fun _ => True) v0_ r1 ∧ Below w.heap.size w w' := by
  have HF := Aside0.mk (Option.some.inj h)
  have HR := Aside0.mk hr0_1
  have HM := Aside0.mk (Mem.start w)
  have HE := Aside0.mk (fun W hW => ends_calls false 109 low_enters (fun lo hi W => low_calls lo hi W) a0_0 A0_1 c0_1 l0_1 a1 W hW hc0_1)
  clear h hr0_1
  rw [HF.out] at HE
  clear HF
  have hu27 := Try.underlying27
  go_enter Try.func50, Try.ntmps50
  go_wp2_with (first
    | ((with_reducible refine gate_dst (N := 2) rfl ?_); refine ev_box HM.out rfl 27 (.tmp 0) rfl (cs := #[.int .i64 a0_0, .slice A0_1 l0_1.length c0_1]) rfl ?_; intro g1 w1 hm1 hq1; clear hq1; have HM1 := Aside0.mk hm1; clear hm1 HM)
    | ((with_reducible refine gate_dst (N := 6) rfl ?_); refine ev_load HM1.out.head rfl 27 (.tmp 2) rfl rfl _ Try.underlying27 rfl (n := 2) (by kernel_rfl) rfl ?_)
    | (go_at_call 107; refine (HE.out _ (Kd.C_below HR.out HM1.out.below)).mono ?_; rintro e w2 ⟨v, rfl, hR, hd⟩; have HR2 := Aside0.mk (Kd.R_lower hR HM1.out.below.size); have HB2 := Aside0.mk (below_step HM1.out.below hd); clear hR hd))
  go_ret2
  exact ⟨v, rfl, HR2.out, HB2.out⟩
end Go.Proofs.Ytbcfphoheijmdaa.Print
end
