/- Part 4 of the texts of a claim about Ytbcfphoheijmdaa, put together by a program of this work: what the Go functions do, and that their calls do so. -/
import Derived.Test.YtbcfphoheijmdaaMY2
import Derived.Test.YtbcfphoheijmdaaMY3
import Derived.KernelRfl
section
/- What the Go function thermionkit_KitOf does, as a Lean function, and that its call does so. Printed by a program of this work out of the translation. -/
namespace Go.Proofs.Ytbcfphoheijmdaa.Print
open Go.RowKit Go.Proofs.YtbcfphoheijmdaaW.PrintWords Go.Proofs.YtbcfphoheijmdaaW.PrintLast Go.Proofs.YtbcfphoheijmdaaW.PrintMore
attribute [local go_sem] max2_int min2_int max_two min_two max_three min_three max_four min_four
set_option linter.unusedVariables false
set_option linter.unusedSimpArgs false

/-! ### thermionkit_KitOf: function 29 -/
mutual
def thermionkit_KitOf.l0 : Nat → Int → Int → Int → List (S57) → Int → Option ((List (S57)) × Int × Int)
 | 0, _, _, _, _, _ => none
 | k + 1, x6, x7, x1000, x242000, x242001 => if x7 < x6 then ((thermionkit_Dice_Upto.f x1000 4).bind fun bt244 => ((thermionkit_Dice_Upto.f bt244.2 20).bind fun bt246 => (thermionkit_KitOf.l1 k x6 x7 0 bt246.2 x242000 x242001 ([] : List Int) ([] : List Int) bt244.1 bt246.1))) else (some (x242000, x242001, x1000))
def thermionkit_KitOf.l1 : Nat → Int → Int → Int → Int → List (S57) → Int → List Int → List Int → Int → Int → Option ((List (S57)) × Int × Int)
 | 0, _, _, _, _, _, _, _, _, _, _ => none
 | k + 1, x6, x7, x9, x1000, x242000, x242001, x249000, x249001, x249002, x249003 => if x9 < x6 then (if x9 = x7 then (thermionkit_KitOf.l1 k x6 x7 (wrap64 (x9 + 1)) x1000 x242000 x242001 x249000 x249001 x249002 x249003) else (if x9 < x7 then ((thermionkit_Dice_One.f x1000 4).bind fun bt252 => (thermionkit_KitOf.j2 k x6 x7 x9 bt252.1 bt252.2 x242000 x242001 x249000 x249001 x249002 x249003)) else (thermionkit_KitOf.j2 k x6 x7 x9 false x1000 x242000 x242001 x249000 x249001 x249002 x249003))) else (if x242000.length < 2199023255552 then (thermionkit_KitOf.l0 k x6 (wrap64 (x7 + 1)) x1000 (x242000 ++ [(⟨x249000, x249001, x249002, x249003⟩ : S57)]) x242001) else (none))
def thermionkit_KitOf.j2 : Nat → Int → Int → Int → Bool → Int → List (S57) → Int → List Int → List Int → Int → Int → Option ((List (S57)) × Int × Int)
 | 0, _, _, _, _, _, _, _, _, _, _, _ => none
 | k + 1, x6, x7, x9, x36, x1000, x242000, x242001, x249000, x249001, x249002, x249003 => if x36 = true then (if x249000.length < 17592186044416 then (thermionkit_KitOf.l1 k x6 x7 (wrap64 (x9 + 1)) x1000 x242000 x242001 (x249000 ++ [x9]) x249001 x249002 x249003) else (none)) else ((thermionkit_Dice_One.f x1000 9).bind fun bt257 => (if bt257.1 = true then (if x249001.length < 17592186044416 then (thermionkit_KitOf.l1 k x6 x7 (wrap64 (x9 + 1)) bt257.2 x242000 x242001 x249000 (x249001 ++ [x9]) x249002 x249003) else (none)) else (thermionkit_KitOf.l1 k x6 x7 (wrap64 (x9 + 1)) bt257.2 x242000 x242001 x249000 x249001 x249002 x249003)))
end
def thermionkit_KitOf.f (k : Nat) (s0_0 : Int) (a1 : Int) : Option ((List (S57)) × Int × Int) := (thermionkit_Dice_Upto.f s0_0 30).bind fun bt239 => ((thermionkit_Dice_Upto.f bt239.2 (wrap64 (a1 + 1))).bind fun bt242 => (thermionkit_KitOf.l0 k bt242.1 0 bt242.2 ([] : List (S57)) bt239.1))
theorem thermionkit_KitOf.mono_l : ∀ k, (∀ y0 y1 y2 y3 y4, LeO (thermionkit_KitOf.l0 k y0 y1 y2 y3 y4) (thermionkit_KitOf.l0 (k + 1) y0 y1 y2 y3 y4)) ∧ (∀ y0 y1 y2 y3 y4 y5 y6 y7 y8 y9, LeO (thermionkit_KitOf.l1 k y0 y1 y2 y3 y4 y5 y6 y7 y8 y9) (thermionkit_KitOf.l1 (k + 1) y0 y1 y2 y3 y4 y5 y6 y7 y8 y9)) ∧ (∀ y0 y1 y2 y3 y4 y5 y6 y7 y8 y9 y10, LeO (thermionkit_KitOf.j2 k y0 y1 y2 y3 y4 y5 y6 y7 y8 y9 y10) (thermionkit_KitOf.j2 (k + 1) y0 y1 y2 y3 y4 y5 y6 y7 y8 y9 y10))
 | 0 => ⟨fun _ _ _ _ _ r h => by simp [thermionkit_KitOf.l0] at h, fun _ _ _ _ _ _ _ _ _ _ r h => by simp [thermionkit_KitOf.l1] at h, fun _ _ _ _ _ _ _ _ _ _ _ r h => by simp [thermionkit_KitOf.j2] at h⟩
 | k + 1 => by
  obtain ⟨ih0, ih1, ih2⟩ := thermionkit_KitOf.mono_l k
  refine ⟨?_, ?_, ?_⟩
  ·intro y0 y1 y2 y3 y4
   unfold thermionkit_KitOf.l0
   repeat' first
   | (with_reducible exact ih0 _ _ _ _ _)
   | (with_reducible exact ih1 _ _ _ _ _ _ _ _ _ _)
   | (with_reducible exact ih2 _ _ _ _ _ _ _ _ _ _ _)
   | (with_reducible exact LeO.refl _)
   | (with_reducible exact LeO.none _)
   | (with_reducible refine LeO.ite ?_ ?_)
   | (with_reducible refine LeO.bind ?_ (fun _ => ?_))
   | exact ih0 _ _ _ _ _
   | exact ih1 _ _ _ _ _ _ _ _ _ _
   | exact ih2 _ _ _ _ _ _ _ _ _ _ _
   | exact LeO.none _
   | refine LeO.ite ?_ ?_
   | refine LeO.bind ?_ (fun _ => ?_)
  ·intro y0 y1 y2 y3 y4 y5 y6 y7 y8 y9
   unfold thermionkit_KitOf.l1
   repeat' first
   | (with_reducible exact ih0 _ _ _ _ _)
   | (with_reducible exact ih1 _ _ _ _ _ _ _ _ _ _)
   | (with_reducible exact ih2 _ _ _ _ _ _ _ _ _ _ _)
   | (with_reducible exact LeO.refl _)
   | (with_reducible exact LeO.none _)
   | (with_reducible refine LeO.ite ?_ ?_)
   | (with_reducible refine LeO.bind ?_ (fun _ => ?_))
   | exact ih0 _ _ _ _ _
   | exact ih1 _ _ _ _ _ _ _ _ _ _
   | exact ih2 _ _ _ _ _ _ _ _ _ _ _
   | exact LeO.none _
   | refine LeO.ite ?_ ?_
   | refine LeO.bind ?_ (fun _ => ?_)
  ·intro y0 y1 y2 y3 y4 y5 y6 y7 y8 y9 y10
   unfold thermionkit_KitOf.j2
   repeat' first
   | (with_reducible exact ih0 _ _ _ _ _)
   | (with_reducible exact ih1 _ _ _ _ _ _ _ _ _ _)
   | (with_reducible exact ih2 _ _ _ _ _ _ _ _ _ _ _)
   | (with_reducible exact LeO.refl _)
   | (with_reducible exact LeO.none _)
   | (with_reducible refine LeO.ite ?_ ?_)
   | (with_reducible refine LeO.bind ?_ (fun _ => ?_))
   | exact ih0 _ _ _ _ _
   | exact ih1 _ _ _ _ _ _ _ _ _ _
   | exact ih2 _ _ _ _ _ _ _ _ _ _ _
   | exact LeO.none _
   | refine LeO.ite ?_ ?_
   | refine LeO.bind ?_ (fun _ => ?_)
theorem thermionkit_KitOf.mono : ∀ a0 a1 k, LeO (thermionkit_KitOf.f k a0 a1) (thermionkit_KitOf.f (k + 1) a0 a1) := by
 intro a0 a1 k
 obtain ⟨ih0, ih1, ih2⟩ := thermionkit_KitOf.mono_l k
 unfold thermionkit_KitOf.f
 repeat' first
   | (with_reducible exact ih0 _ _ _ _ _)
   | (with_reducible exact ih1 _ _ _ _ _ _ _ _ _ _)
   | (with_reducible exact ih2 _ _ _ _ _ _ _ _ _ _ _)
   | (with_reducible exact LeO.refl _)
   | (with_reducible exact LeO.none _)
   | (with_reducible refine LeO.ite ?_ ?_)
   | (with_reducible refine LeO.bind ?_ (fun _ => ?_))
   | exact ih0 _ _ _ _ _
   | exact ih1 _ _ _ _ _ _ _ _ _ _
   | exact ih2 _ _ _ _ _ _ _ _ _ _ _
   | exact LeO.none _
   | refine LeO.ite ?_ ?_
   | refine LeO.bind ?_ (fun _ => ?_)
set_option maxHeartbeats 8000000 in
set_option maxRecDepth 100000 in
theorem thermionkit_KitOf.calls (k : Nat) (g : Nat) (s0_0 : Int) (a1 : Int) (r1 : List (S57)) (r2 : Int) (r3 : Int) (w0 w : World) (hI : IsS118 w0 w g s0_0) (hB : Below w0.heap.size w0 w) (h : thermionkit_KitOf.f k s0_0 a1 = some (r1, r2, r3)) :
  Calls Try.prog 29 #[.pointer (some ⟨g, 0, none⟩), .int .i64 a1] w fun e w' => ∃ v0_ : Value, e = .returned (.agg #[v0_, .int .i64 r2]) ∧ Kd.S k57 57 w' w.heap.size (fun _ => True) v0_ r1 ∧ IsS118 w0 w' g r3 ∧ Below w0.heap.size w0 w' ∧ KeepBut w w' g none := by
 have hu49 := Try.underlying49
 have hu57 := Try.underlying57
 have HI0 := Aside0.mk hI
 have HK := Aside0.mk (KeepBut.refl w g none)
 have HL := Aside0.mk hB.size
 clear hI
 have HW0 := Aside0.mk hB.size
 have HB := Aside0.mk hB
 clear hB
 have H : ((thermionkit_Dice_Upto.f s0_0 30).bind fun bt239 => ((thermionkit_Dice_Upto.f bt239.2 (wrap64 (a1 + 1))).bind fun bt242 => (thermionkit_KitOf.l0 k bt242.1 0 bt242.2 ([] : List (S57)) bt239.1))) = some (r1, r2, r3) := h
 clear h
 replace H := Option.bind_eq_some_iff.mp H
 obtain ⟨⟨t239, t240⟩, A30, H⟩ := H
 replace H : ((thermionkit_Dice_Upto.f t240 (wrap64 (a1 + 1))).bind fun bt242 => (thermionkit_KitOf.l0 k bt242.1 0 bt242.2 ([] : List (S57)) t239)) = some (r1, r2, r3) := H
 have A3 := Aside0.mk A30
 clear A30
 replace H := Option.bind_eq_some_iff.mp H
 obtain ⟨⟨t242, t243⟩, A40, H⟩ := H
 replace H : (thermionkit_KitOf.l0 k t242 0 t243 ([] : List (S57)) t239) = some (r1, r2, r3) := H
 have A4 := Aside0.mk A40
 clear A40
 have H' := Aside0.mk H
 clear H
 go_enter Try.func29, Try.ntmps29
 go_wp2_with (first | ((with_reducible refine gate_dst (N := 4) rfl ?_); refine box_event ?hg (N := 4) ?hd (cs := #[.slice none 0 0, .int .i64 0]) (t := 49) ?hr ?_; (case hd => rfl); (case hg => rfl); (case hr => first | (go_simp; done) | (go_simp; rfl)); intro gb238 hg w5 hbox hb; have n0_ := Aside0.mk (IsS118.below (by repeat (first | (with_reducible first | exact HI0.out | apply IsS118.alloc | apply IsS118.drewN | apply IsS118.drew | apply IsS118.set_0) | exact HI0.out)) hb); have n1_ := Aside0.mk (KeepBut.trans (by repeat (first | (with_reducible first | exact HK.out | apply KeepBut.set_ | apply keep_drewN | apply keep_drew | apply keep_alloc) | exact HK.out)) (KeepBut.of_below hb g none) (.inl rfl)); have n2_ := Aside0.mk (below_step (by repeat (first | (with_reducible first | exact HB.out | apply below_alloc | apply pw_below_drewN | apply below_drew1 | refine below_set ?_ (IsS118.ge HI0.out)) | exact HB.out)) hb); have n3_ := Aside0.mk (hbox); have n4_ := Aside0.mk ((by rw [hg]; exact (keep_size (w := w) (g := g) (row := none) (by repeat (first | (with_reducible first | exact HK.out | apply KeepBut.set_ | apply keep_drewN | apply keep_drew | apply keep_alloc) | exact HK.out))) : w.heap.size ≤ gb238)); have n5_ := Aside0.mk ((Nat.le_trans HW0.out (by rw [hg]; exact (keep_size (w := w) (g := g) (row := none) (by repeat (first | (with_reducible first | exact HK.out | apply KeepBut.set_ | apply keep_drewN | apply keep_drew | apply keep_alloc) | exact HK.out))) : w.heap.size ≤ gb238) : w0.heap.size ≤ gb238)); have n6_ := Aside0.mk ((by rw [hg]; exact Nat.ne_of_lt (IsS118.lt (show IsS118 w0 _ g s0_0 from by repeat (first | (with_reducible first | exact HI0.out | apply IsS118.alloc | apply IsS118.drewN | apply IsS118.drew | apply IsS118.set_0) | exact HI0.out))) : g ≠ gb238)); have n7_ := Aside0.mk ((by rw [hg]; exact Nat.ne_of_gt (IsS118.lt (show IsS118 w0 _ g s0_0 from by repeat (first | (with_reducible first | exact HI0.out | apply IsS118.alloc | apply IsS118.drewN | apply IsS118.drew | apply IsS118.set_0) | exact HI0.out))) : gb238 ≠ g)); clear HI0; clear HK; clear HB; have HI0 := n0_; have HK := n1_; have HB := n2_; have BK238 := n3_; have GW238 := n4_; have GE238 := n5_; have NB0_238 := n6_; have NB238_0 := n7_; clear n0_ n1_ n2_ n3_ n4_ n5_ n6_ n7_; clear hb hbox hg) | ((with_reducible refine gate_callee (f := 43) rfl ?_); refine goesL_ (some 11) rfl rfl Try.func43 (by kernel_rfl) rfl #[.pointer (some ⟨g, 0, none⟩), .int .i64 30] rfl (by (try simp only [List.map_toArray, List.map_cons, List.map_nil]); first | done | rfl | (simp only [List.length_drop, List.length_take]; rfl)) ?_; (with_reducible refine (thermionkit_Dice_Upto.calls g s0_0 30 t239 t240 w0 _ ?side1 ?side2 A3.out).mono ?_); (case side1 => repeat (first | (with_reducible first | exact HI0.out | apply IsS118.alloc | apply IsS118.drewN | apply IsS118.drew | apply IsS118.set_0 | refine IsS118.far ?_ NB0_238.out _) | exact HI0.out)); (case side2 => repeat (first | (with_reducible first | exact HB.out | apply below_alloc | apply pw_below_drewN | apply below_drew1 | refine below_set ?_ (IsS118.ge HI0.out) | refine below_set ?_ GE238.out) | exact HB.out)); rintro e w6 ⟨rfl, hi, hb, hk⟩; refine ⟨_, rfl, ?_⟩; have n0_ := Aside0.mk (KeepBut.blk hk (g' := gb238) (o := .cells #[.slice none 0 0, .int .i64 0] 49 (0, 0)) (by (with_reducible repeat (first | refine blk_drewN ?_ _ | refine blk_drew ?_ | refine blk_alloc ?_ _)); exact BK238.out) NB238_0.out (by simp)); have n1_ := Aside0.mk (KeepBut.trans (by repeat (first | (with_reducible first | exact HK.out | apply KeepBut.set_ | apply keep_drewN | apply keep_drew | apply keep_alloc | refine keep_far ?_ GW238.out _) | exact HK.out)) hk (.inl rfl)); have n2_ := Aside0.mk (hb); have n3_ := Aside0.mk (hi); clear BK238; clear HK; clear HB; clear HI0; have BK238 := n0_; have HK := n1_; have HB := n2_; have HI0 := n3_; clear n0_ n1_ n2_ n3_; (try clear hb); (try clear hb2); (try clear hk); (try clear hi)) | ((with_reducible refine gate_dst (N := 5) rfl ?_); refine box_event ?hg (N := 5) ?hd (cs := #[.slice none 0 0, .int .i64 0]) (t := 49) ?hr ?_; (case hd => rfl); (case hg => rfl); (case hr => first | (go_simp; done) | (go_simp; rfl)); intro gb241 hg w7 hbox hb; have n0_ := Aside0.mk (IsS118.below (by repeat (first | (with_reducible first | exact HI0.out | apply IsS118.alloc | apply IsS118.drewN | apply IsS118.drew | apply IsS118.set_0 | refine IsS118.far ?_ NB0_238.out _) | exact HI0.out)) hb); have n1_ := Aside0.mk (blk_below (g := gb238) (o := .cells #[.slice none 0 0, .int .i64 0] 49 (0, 0)) (by (with_reducible repeat (first | refine blk_drewN ?_ _ | refine blk_drew ?_ | refine blk_alloc ?_ _)); exact BK238.out) hb); have n2_ := Aside0.mk (KeepBut.trans (by repeat (first | (with_reducible first | exact HK.out | apply KeepBut.set_ | apply keep_drewN | apply keep_drew | apply keep_alloc | refine keep_far ?_ GW238.out _) | exact HK.out)) (KeepBut.of_below hb g none) (.inl rfl)); have n3_ := Aside0.mk (below_step (by repeat (first | (with_reducible first | exact HB.out | apply below_alloc | apply pw_below_drewN | apply below_drew1 | refine below_set ?_ (IsS118.ge HI0.out) | refine below_set ?_ GE238.out) | exact HB.out)) hb); have n4_ := Aside0.mk (hbox); have n5_ := Aside0.mk ((by rw [hg]; exact (keep_size (w := w) (g := g) (row := none) (by repeat (first | (with_reducible first | exact HK.out | apply KeepBut.set_ | apply keep_drewN | apply keep_drew | apply keep_alloc | refine keep_far ?_ GW238.out _) | exact HK.out))) : w.heap.size ≤ gb241)); have n6_ := Aside0.mk ((Nat.le_trans HW0.out (by rw [hg]; exact (keep_size (w := w) (g := g) (row := none) (by repeat (first | (with_reducible first | exact HK.out | apply KeepBut.set_ | apply keep_drewN | apply keep_drew | apply keep_alloc | refine keep_far ?_ GW238.out _) | exact HK.out))) : w.heap.size ≤ gb241) : w0.heap.size ≤ gb241)); have n7_ := Aside0.mk ((by rw [hg]; exact Nat.ne_of_lt (blk_lt (g := gb238) (o := .cells #[.slice none 0 0, .int .i64 0] 49 (0, 0)) (by (with_reducible repeat (first | refine blk_drewN ?_ _ | refine blk_drew ?_ | refine blk_alloc ?_ _)); exact BK238.out)) : gb238 ≠ gb241)); have n8_ := Aside0.mk ((by rw [hg]; exact Nat.ne_of_gt (blk_lt (g := gb238) (o := .cells #[.slice none 0 0, .int .i64 0] 49 (0, 0)) (by (with_reducible repeat (first | refine blk_drewN ?_ _ | refine blk_drew ?_ | refine blk_alloc ?_ _)); exact BK238.out)) : gb241 ≠ gb238)); have n9_ := Aside0.mk ((by rw [hg]; exact Nat.ne_of_lt (IsS118.lt (show IsS118 w0 _ g t240 from by repeat (first | (with_reducible first | exact HI0.out | apply IsS118.alloc | apply IsS118.drewN | apply IsS118.drew | apply IsS118.set_0 | refine IsS118.far ?_ NB0_238.out _) | exact HI0.out))) : g ≠ gb241)); have n10_ := Aside0.mk ((by rw [hg]; exact Nat.ne_of_gt (IsS118.lt (show IsS118 w0 _ g t240 from by repeat (first | (with_reducible first | exact HI0.out | apply IsS118.alloc | apply IsS118.drewN | apply IsS118.drew | apply IsS118.set_0 | refine IsS118.far ?_ NB0_238.out _) | exact HI0.out))) : gb241 ≠ g)); clear HI0; clear BK238; clear HK; clear HB; have HI0 := n0_; have BK238 := n1_; have HK := n2_; have HB := n3_; have BK241 := n4_; have GW241 := n5_; have GE241 := n6_; have NB238_241 := n7_; have NB241_238 := n8_; have NB0_241 := n9_; have NB241_0 := n10_; clear n0_ n1_ n2_ n3_ n4_ n5_ n6_ n7_ n8_ n9_ n10_; clear hb hbox hg; have hnb8 := NB241_238.out; have hnc8 := NB238_241.out; have hnb9 := NB241_0.out; have hnc9 := NB0_241.out; have hcz10_0 : w7.cell? ⟨gb241, 0, none⟩ = some (.slice none 0 0) := (blk_cell BK241.out 0).trans rfl; have hcz10_1 : w7.cell? ⟨gb241, 1, none⟩ = some (.int .i64 0) := (blk_cell BK241.out 1).trans rfl; have hfz10_0 := blk_frozen BK241.out 0; have hfz10_1 := blk_frozen BK241.out 1) | ((with_reducible refine gate_callee (f := 43) rfl ?_); refine goesL_ (some 16) rfl rfl Try.func43 (by kernel_rfl) rfl #[.pointer (some ⟨g, 0, none⟩), .int .i64 (wrap64 (a1 + 1))] rfl (by (try simp only [List.map_toArray, List.map_cons, List.map_nil]); first | done | rfl | (simp only [List.length_drop, List.length_take]; rfl)) ?_; (with_reducible refine (thermionkit_Dice_Upto.calls g t240 (wrap64 (a1 + 1)) t242 t243 w0 _ ?side1 ?side2 A4.out).mono ?_); (case side1 => repeat (first | (with_reducible first | exact HI0.out | apply IsS118.alloc | apply IsS118.drewN | apply IsS118.drew | apply IsS118.set_0 | refine IsS118.far ?_ NB0_238.out _ | refine IsS118.far ?_ NB0_241.out _) | exact HI0.out)); (case side2 => repeat (first | (with_reducible first | exact HB.out | apply below_alloc | apply pw_below_drewN | apply below_drew1 | refine below_set ?_ (IsS118.ge HI0.out) | refine below_set ?_ GE238.out | refine below_set ?_ GE241.out) | exact HB.out)); rintro e w11 ⟨rfl, hi, hb, hk⟩; refine ⟨_, rfl, ?_⟩; have n0_ := Aside0.mk (KeepBut.blk hk (g' := gb238) (o := .cells #[.slice none 0 0, .int .i64 0] 49 (0, 0)) (by (with_reducible repeat (first | refine blk_drewN ?_ _ | refine blk_drew ?_ | refine blk_alloc ?_ _)); refine blk_far ?_ NB238_241.out _; (with_reducible repeat (first | refine blk_drewN ?_ _ | refine blk_drew ?_ | refine blk_alloc ?_ _)); refine blk_far ?_ NB238_241.out _; (with_reducible repeat (first | refine blk_drewN ?_ _ | refine blk_drew ?_ | refine blk_alloc ?_ _)); exact BK238.out) NB238_0.out (by simp)); have n1_ := Aside0.mk (KeepBut.blk hk (g' := gb241) (o := .cells #[.slice none 0 0, .int .i64 t239] 49 (0, 0)) (by (with_reducible repeat (first | refine blk_drewN ?_ _ | refine blk_drew ?_ | refine blk_alloc ?_ _)); refine blk_put (cs := #[.slice none 0 0, .int .i64 0]) ?_ 1 _ rfl; (with_reducible repeat (first | refine blk_drewN ?_ _ | refine blk_drew ?_ | refine blk_alloc ?_ _)); refine blk_put (cs := #[.slice none 0 0, .int .i64 0]) ?_ 0 _ rfl; (with_reducible repeat (first | refine blk_drewN ?_ _ | refine blk_drew ?_ | refine blk_alloc ?_ _)); exact BK241.out) NB241_0.out (by simp)); have n2_ := Aside0.mk (KeepBut.trans (by repeat (first | (with_reducible first | exact HK.out | apply KeepBut.set_ | apply keep_drewN | apply keep_drew | apply keep_alloc | refine keep_far ?_ GW238.out _ | refine keep_far ?_ GW241.out _) | exact HK.out)) hk (.inl rfl)); have n3_ := Aside0.mk (hb); have n4_ := Aside0.mk (hi); clear BK238; clear BK241; clear HK; clear HB; clear HI0; have BK238 := n0_; have BK241 := n1_; have HK := n2_; have HB := n3_; have HI0 := n4_; clear n0_ n1_ n2_ n3_ n4_; (try clear hb); (try clear hb2); (try clear hk); (try clear hi)))
 go_loopg [7] k (fun kq v7 w' => ∃ (x7_1 : Int) (x1000_1 : Int) (x242000_1 : List (S57)) (u242000 : Value), v7 = .int .i64 x7_1 ∧ Aside0 (thermionkit_KitOf.l0 kq t242 x7_1 x1000_1 x242000_1 t239 = some (r1, r2, r3)) ∧ Aside0 (kq ≤ k) ∧ Aside0 (Kd.S k57 57 w' w.heap.size (fun _ => True) u242000 x242000_1) ∧ Aside0 (w'.heap[gb238]? = some (.cells #[(.slice none 0 0), .int .i64 0] 49 (0, 0))) ∧ Aside0 (w'.heap[gb241]? = some (.cells #[u242000, .int .i64 t239] 49 (0, 0))) ∧ Aside0 (IsS118 w0 w' g x1000_1) ∧ Aside0 (KeepBut w w' g none) ∧ Aside0 (Below w0.heap.size w0 w'))
 case atStart => exact ⟨(0), (t243), (([] : List (S57))), (.slice none 0 0), (by first | rfl | (simp; done) | (simp [*]; done)), H', ⟨Nat.le_refl _⟩, ⟨by first | exact Kd.S_nil _ _ _ _ _ | exact Kd.N_nil _ _ _ _ _ | exact Kd.V_nil _ _ _ _ _ | exact Kd.Q_nil _ _ _ _ _ | exact Kd.R_nil _ _ _ _ _⟩, ⟨by (with_reducible repeat (first | refine blk_drewN ?_ _ | refine blk_drew ?_ | refine blk_alloc ?_ _)); exact BK238.out⟩, ⟨by (with_reducible repeat (first | refine blk_drewN ?_ _ | refine blk_drew ?_ | refine blk_alloc ?_ _)); exact BK241.out⟩, ⟨by repeat (first | (with_reducible first | exact HI0.out | apply IsS118.alloc | apply IsS118.drewN | apply IsS118.drew | apply IsS118.set_0 | refine IsS118.far ?_ NB0_238.out _ | refine IsS118.far ?_ NB0_241.out _) | exact HI0.out)⟩, ⟨by repeat (first | (with_reducible first | exact HK.out | apply KeepBut.set_ | apply keep_drewN | apply keep_drew | apply keep_alloc | refine keep_far ?_ GW238.out _ | refine keep_far ?_ GW241.out _) | exact HK.out)⟩, ⟨by repeat (first | (with_reducible first | exact HB.out | apply below_alloc | apply pw_below_drewN | apply below_drew1 | refine below_set ?_ (IsS118.ge HI0.out) | refine below_set ?_ GE238.out | refine below_set ?_ GE241.out) | exact HB.out)⟩⟩
 case round =>
  clear H'
  try clear c2
  try clear p2
  try clear c4
  try clear p6
  try clear c8
  try clear c9
  try clear hcz10_0
  try clear hcz10_1
  try clear hfz10_0
  try clear hfz10_1
  obtain ⟨x7_1, x1000_1, x242000_1, u242000, rfl, HA, HK1, HO_242000, BK238, BK241, HI0, HK, HB⟩ := hrel
  cases gk with
  | zero => exact absurd HA.out (by simp [thermionkit_KitOf.l0])
  | succ k1 =>
   have H := HA.out
   clear HA
   simp only [thermionkit_KitOf.l0] at H
   by_cases c12 : x7_1 < t242
   ·rw [if_pos c12] at H
    have c12b0 : decide (x7_1 < t242) = true := decide_eq_true c12
    clear c12
    replace H := Option.bind_eq_some_iff.mp H
    obtain ⟨⟨t244, t245⟩, A130, H⟩ := H
    replace H : ((thermionkit_Dice_Upto.f t245 20).bind fun bt246 => (thermionkit_KitOf.l1 k1 t242 x7_1 0 bt246.2 x242000_1 t239 ([] : List Int) ([] : List Int) t244 bt246.1)) = some (r1, r2, r3) := H
    have A13 := Aside0.mk A130
    clear A130
    replace H := Option.bind_eq_some_iff.mp H
    obtain ⟨⟨t246, t247⟩, A140, H⟩ := H
    replace H : (thermionkit_KitOf.l1 k1 t242 x7_1 0 t247 x242000_1 t239 ([] : List Int) ([] : List Int) t244 t246) = some (r1, r2, r3) := H
    have A14 := Aside0.mk A140
    clear A140
    have H' := Aside0.mk H
    clear H
    go_wp2_with (first | ((with_reducible refine gate_callee (f := 43) rfl ?_); refine goesL_ (some 23) rfl rfl Try.func43 (by kernel_rfl) rfl #[.pointer (some ⟨g, 0, none⟩), .int .i64 4] rfl (by (try simp only [List.map_toArray, List.map_cons, List.map_nil]); first | done | rfl | (simp only [List.length_drop, List.length_take]; rfl)) ?_; (with_reducible refine (thermionkit_Dice_Upto.calls g x1000_1 4 t244 t245 w0 _ ?side1 ?side2 A13.out).mono ?_); (case side1 => repeat (first | (with_reducible first | exact HI0.out | apply IsS118.alloc | apply IsS118.drewN | apply IsS118.drew | apply IsS118.set_0 | refine IsS118.far ?_ NB0_238.out _ | refine IsS118.far ?_ NB0_241.out _) | exact HI0.out)); (case side2 => repeat (first | (with_reducible first | exact HB.out | apply below_alloc | apply pw_below_drewN | apply below_drew1 | refine below_set ?_ (IsS118.ge HI0.out) | refine below_set ?_ GE238.out | refine below_set ?_ GE241.out) | exact HB.out)); rintro e w15 ⟨rfl, hi, hb, hk⟩; refine ⟨_, rfl, ?_⟩; have n0_ := Aside0.mk (Kd.S_mono (Kd.S_keep (IsS118.apartS (show IsS118 w0 _ g x1000_1 from by repeat (first | (with_reducible first | exact HI0.out | apply IsS118.alloc | apply IsS118.drewN | apply IsS118.drew | apply IsS118.set_0 | refine IsS118.far ?_ NB0_238.out _ | refine IsS118.far ?_ NB0_241.out _) | exact HI0.out)) (by (with_reducible repeat (first | apply Kd.S_alloc | apply Kd.S_drewN | apply Kd.S_drew)); exact HO_242000.out) (by decide)) hk (fun _ h => h.2)) (fun _ h => h.1)); have n1_ := Aside0.mk (KeepBut.blk hk (g' := gb238) (o := .cells #[.slice none 0 0, .int .i64 0] 49 (0, 0)) (by (with_reducible repeat (first | refine blk_drewN ?_ _ | refine blk_drew ?_ | refine blk_alloc ?_ _)); exact BK238.out) NB238_0.out (by simp)); have n2_ := Aside0.mk (KeepBut.blk hk (g' := gb241) (o := .cells #[u242000, .int .i64 t239] 49 (0, 0)) (by (with_reducible repeat (first | refine blk_drewN ?_ _ | refine blk_drew ?_ | refine blk_alloc ?_ _)); exact BK241.out) NB241_0.out (by simp)); have n3_ := Aside0.mk (KeepBut.trans (by repeat (first | (with_reducible first | exact HK.out | apply KeepBut.set_ | apply keep_drewN | apply keep_drew | apply keep_alloc | refine keep_far ?_ GW238.out _ | refine keep_far ?_ GW241.out _) | exact HK.out)) hk (.inl rfl)); have n4_ := Aside0.mk (hb); have n5_ := Aside0.mk (hi); clear HO_242000; clear BK238; clear BK241; clear HK; clear HB; clear HI0; have HO_242000 := n0_; have BK238 := n1_; have BK241 := n2_; have HK := n3_; have HB := n4_; have HI0 := n5_; clear n0_ n1_ n2_ n3_ n4_ n5_; (try clear hb); (try clear hb2); (try clear hk); (try clear hi)) | ((with_reducible refine gate_callee (f := 43) rfl ?_); refine goesL_ (some 25) rfl rfl Try.func43 (by kernel_rfl) rfl #[.pointer (some ⟨g, 0, none⟩), .int .i64 20] rfl (by (try simp only [List.map_toArray, List.map_cons, List.map_nil]); first | done | rfl | (simp only [List.length_drop, List.length_take]; rfl)) ?_; (with_reducible refine (thermionkit_Dice_Upto.calls g t245 20 t246 t247 w0 _ ?side1 ?side2 A14.out).mono ?_); (case side1 => repeat (first | (with_reducible first | exact HI0.out | apply IsS118.alloc | apply IsS118.drewN | apply IsS118.drew | apply IsS118.set_0 | refine IsS118.far ?_ NB0_238.out _ | refine IsS118.far ?_ NB0_241.out _) | exact HI0.out)); (case side2 => repeat (first | (with_reducible first | exact HB.out | apply below_alloc | apply pw_below_drewN | apply below_drew1 | refine below_set ?_ (IsS118.ge HI0.out) | refine below_set ?_ GE238.out | refine below_set ?_ GE241.out) | exact HB.out)); rintro e w16 ⟨rfl, hi, hb, hk⟩; refine ⟨_, rfl, ?_⟩; have n0_ := Aside0.mk (Kd.S_mono (Kd.S_keep (IsS118.apartS (show IsS118 w0 _ g t245 from by repeat (first | (with_reducible first | exact HI0.out | apply IsS118.alloc | apply IsS118.drewN | apply IsS118.drew | apply IsS118.set_0 | refine IsS118.far ?_ NB0_238.out _ | refine IsS118.far ?_ NB0_241.out _) | exact HI0.out)) (by (with_reducible repeat (first | apply Kd.S_alloc | apply Kd.S_drewN | apply Kd.S_drew)); exact HO_242000.out) (by decide)) hk (fun _ h => h.2)) (fun _ h => h.1)); have n1_ := Aside0.mk (KeepBut.blk hk (g' := gb238) (o := .cells #[.slice none 0 0, .int .i64 0] 49 (0, 0)) (by (with_reducible repeat (first | refine blk_drewN ?_ _ | refine blk_drew ?_ | refine blk_alloc ?_ _)); exact BK238.out) NB238_0.out (by simp)); have n2_ := Aside0.mk (KeepBut.blk hk (g' := gb241) (o := .cells #[u242000, .int .i64 t239] 49 (0, 0)) (by (with_reducible repeat (first | refine blk_drewN ?_ _ | refine blk_drew ?_ | refine blk_alloc ?_ _)); exact BK241.out) NB241_0.out (by simp)); have n3_ := Aside0.mk (KeepBut.trans (by repeat (first | (with_reducible first | exact HK.out | apply KeepBut.set_ | apply keep_drewN | apply keep_drew | apply keep_alloc | refine keep_far ?_ GW238.out _ | refine keep_far ?_ GW241.out _) | exact HK.out)) hk (.inl rfl)); have n4_ := Aside0.mk (hb); have n5_ := Aside0.mk (hi); clear HO_242000; clear BK238; clear BK241; clear HK; clear HB; clear HI0; have HO_242000 := n0_; have BK238 := n1_; have BK241 := n2_; have HK := n3_; have HB := n4_; have HI0 := n5_; clear n0_ n1_ n2_ n3_ n4_ n5_; (try clear hb); (try clear hb2); (try clear hk); (try clear hi)) | ((with_reducible refine gate_dst (N := 8) rfl ?_); refine box_event ?hg (N := 8) ?hd (cs := #[.slice none 0 0, .slice none 0 0, .int .i64 0, .int .i64 0]) (t := 57) ?hr ?_; (case hd => rfl); (case hg => rfl); (case hr => first | (go_simp; done) | (go_simp; rfl)); intro gb248 hg w17 hbox hb; have n0_ := Aside0.mk (Kd.S_below (Kd.S_elderB (by (with_reducible repeat (first | apply Kd.S_alloc | apply Kd.S_drewN | apply Kd.S_drew)); exact HO_242000.out) gb248 (Nat.le_of_eq hg.symm)) hb); have n1_ := Aside0.mk (blk_below (g := gb238) (o := .cells #[.slice none 0 0, .int .i64 0] 49 (0, 0)) (by (with_reducible repeat (first | refine blk_drewN ?_ _ | refine blk_drew ?_ | refine blk_alloc ?_ _)); exact BK238.out) hb); have n2_ := Aside0.mk (blk_below (g := gb241) (o := .cells #[u242000, .int .i64 t239] 49 (0, 0)) (by (with_reducible repeat (first | refine blk_drewN ?_ _ | refine blk_drew ?_ | refine blk_alloc ?_ _)); exact BK241.out) hb); have n3_ := Aside0.mk (IsS118.below (by repeat (first | (with_reducible first | exact HI0.out | apply IsS118.alloc | apply IsS118.drewN | apply IsS118.drew | apply IsS118.set_0 | refine IsS118.far ?_ NB0_238.out _ | refine IsS118.far ?_ NB0_241.out _) | exact HI0.out)) hb); have n4_ := Aside0.mk (KeepBut.trans (by repeat (first | (with_reducible first | exact HK.out | apply KeepBut.set_ | apply keep_drewN | apply keep_drew | apply keep_alloc | refine keep_far ?_ GW238.out _ | refine keep_far ?_ GW241.out _) | exact HK.out)) (KeepBut.of_below hb g none) (.inl rfl)); have n5_ := Aside0.mk (below_step (by repeat (first | (with_reducible first | exact HB.out | apply below_alloc | apply pw_below_drewN | apply below_drew1 | refine below_set ?_ (IsS118.ge HI0.out) | refine below_set ?_ GE238.out | refine below_set ?_ GE241.out) | exact HB.out)) hb); have n6_ := Aside0.mk (hbox); have n7_ := Aside0.mk ((by rw [hg]; exact (keep_size (w := w) (g := g) (row := none) (by repeat (first | (with_reducible first | exact HK.out | apply KeepBut.set_ | apply keep_drewN | apply keep_drew | apply keep_alloc | refine keep_far ?_ GW238.out _ | refine keep_far ?_ GW241.out _) | exact HK.out))) : w.heap.size ≤ gb248)); have n8_ := Aside0.mk ((Nat.le_trans HW0.out (by rw [hg]; exact (keep_size (w := w) (g := g) (row := none) (by repeat (first | (with_reducible first | exact HK.out | apply KeepBut.set_ | apply keep_drewN | apply keep_drew | apply keep_alloc | refine keep_far ?_ GW238.out _ | refine keep_far ?_ GW241.out _) | exact HK.out))) : w.heap.size ≤ gb248) : w0.heap.size ≤ gb248)); have n9_ := Aside0.mk ((by rw [hg]; exact Nat.ne_of_lt (blk_lt (g := gb238) (o := .cells #[.slice none 0 0, .int .i64 0] 49 (0, 0)) (by (with_reducible repeat (first | refine blk_drewN ?_ _ | refine blk_drew ?_ | refine blk_alloc ?_ _)); exact BK238.out)) : gb238 ≠ gb248)); have n10_ := Aside0.mk ((by rw [hg]; exact Nat.ne_of_gt (blk_lt (g := gb238) (o := .cells #[.slice none 0 0, .int .i64 0] 49 (0, 0)) (by (with_reducible repeat (first | refine blk_drewN ?_ _ | refine blk_drew ?_ | refine blk_alloc ?_ _)); exact BK238.out)) : gb248 ≠ gb238)); have n11_ := Aside0.mk ((by rw [hg]; exact Nat.ne_of_lt (blk_lt (g := gb241) (o := .cells #[u242000, .int .i64 t239] 49 (0, 0)) (by (with_reducible repeat (first | refine blk_drewN ?_ _ | refine blk_drew ?_ | refine blk_alloc ?_ _)); exact BK241.out)) : gb241 ≠ gb248)); have n12_ := Aside0.mk ((by rw [hg]; exact Nat.ne_of_gt (blk_lt (g := gb241) (o := .cells #[u242000, .int .i64 t239] 49 (0, 0)) (by (with_reducible repeat (first | refine blk_drewN ?_ _ | refine blk_drew ?_ | refine blk_alloc ?_ _)); exact BK241.out)) : gb248 ≠ gb241)); have n13_ := Aside0.mk ((by rw [hg]; exact Nat.ne_of_lt (IsS118.lt (show IsS118 w0 _ g t247 from by repeat (first | (with_reducible first | exact HI0.out | apply IsS118.alloc | apply IsS118.drewN | apply IsS118.drew | apply IsS118.set_0 | refine IsS118.far ?_ NB0_238.out _ | refine IsS118.far ?_ NB0_241.out _) | exact HI0.out))) : g ≠ gb248)); have n14_ := Aside0.mk ((by rw [hg]; exact Nat.ne_of_gt (IsS118.lt (show IsS118 w0 _ g t247 from by repeat (first | (with_reducible first | exact HI0.out | apply IsS118.alloc | apply IsS118.drewN | apply IsS118.drew | apply IsS118.set_0 | refine IsS118.far ?_ NB0_238.out _ | refine IsS118.far ?_ NB0_241.out _) | exact HI0.out))) : gb248 ≠ g)); clear HO_242000; clear BK238; clear BK241; clear HI0; clear HK; clear HB; have HO_242000 := n0_; have BK238 := n1_; have BK241 := n2_; have HI0 := n3_; have HK := n4_; have HB := n5_; have BK248 := n6_; have GW248 := n7_; have GE248 := n8_; have NB238_248 := n9_; have NB248_238 := n10_; have NB241_248 := n11_; have NB248_241 := n12_; have NB0_248 := n13_; have NB248_0 := n14_; clear n0_ n1_ n2_ n3_ n4_ n5_ n6_ n7_ n8_ n9_ n10_ n11_ n12_ n13_ n14_; clear hb hbox hg; have hnb18 := NB248_238.out; have hnc18 := NB238_248.out; have hnb19 := NB248_241.out; have hnc19 := NB241_248.out; have hnb20 := NB248_0.out; have hnc20 := NB0_248.out; have hcz21_0 : w17.cell? ⟨gb248, 0, none⟩ = some (.slice none 0 0) := (blk_cell BK248.out 0).trans rfl; have hcz21_1 : w17.cell? ⟨gb248, 1, none⟩ = some (.slice none 0 0) := (blk_cell BK248.out 1).trans rfl; have hcz21_2 : w17.cell? ⟨gb248, 2, none⟩ = some (.int .i64 0) := (blk_cell BK248.out 2).trans rfl; have hcz21_3 : w17.cell? ⟨gb248, 3, none⟩ = some (.int .i64 0) := (blk_cell BK248.out 3).trans rfl; have hfz21_0 := blk_frozen BK248.out 0; have hfz21_1 := blk_frozen BK248.out 1; have hfz21_2 := blk_frozen BK248.out 2; have hfz21_3 := blk_frozen BK248.out 3))
    go_loopg [9] k1 (fun kq v9 w' => ∃ (x9_2 : Int) (x1000_2 : Int) (x249000_2 : List Int) (x249001_2 : List Int) (u249000 : Value) (u249001 : Value), v9 = .int .i64 x9_2 ∧ Aside0 (thermionkit_KitOf.l1 kq t242 x7_1 x9_2 x1000_2 x242000_1 t239 x249000_2 x249001_2 t244 t246 = some (r1, r2, r3)) ∧ Aside0 (kq ≤ k1) ∧ Aside0 (Kd.S k57 57 w' w.heap.size (fun k_ => some k_ ≠ (u249000 : Value).ownBlock ∧ some k_ ≠ (u249001 : Value).ownBlock ∧ k_ ≠ gb248) u242000 x242000_1) ∧ Aside0 (Kd.R (Kd.int .i64) 3 w' w.heap.size (fun k_ => some k_ ≠ (u249001 : Value).ownBlock) u249000 x249000_2) ∧ Aside0 (Kd.R (Kd.int .i64) 3 w' w.heap.size (fun k_ => some k_ ≠ (u249000 : Value).ownBlock) u249001 x249001_2) ∧ Aside0 (w'.heap[gb238]? = some (.cells #[(.slice none 0 0), .int .i64 0] 49 (0, 0))) ∧ Aside0 (w'.heap[gb241]? = some (.cells #[u242000, .int .i64 t239] 49 (0, 0))) ∧ Aside0 (w'.heap[gb248]? = some (.cells #[u249000, u249001, .int .i64 t244, .int .i64 t246] 57 (0, 0))) ∧ Aside0 (IsS118 w0 w' g x1000_2) ∧ Aside0 (KeepBut w w' g none) ∧ Aside0 (Below w0.heap.size w0 w'))
    case atStart => exact ⟨(0), (t247), (([] : List Int)), (([] : List Int)), (.slice none 0 0), (.slice none 0 0), (by first | rfl | (simp; done) | (simp [*]; done)), H', ⟨Nat.le_refl _⟩, ⟨by (with_reducible repeat (first | apply Kd.S_alloc | apply Kd.S_drewN | apply Kd.S_drew)); exact Kd.S_mono (Kd.S_far (p := ⟨gb248, 3, none⟩) (Kd.S_far (p := ⟨gb248, 2, none⟩) (Kd.S_far (p := ⟨gb248, 1, none⟩) (Kd.S_far (p := ⟨gb248, 0, none⟩) (Kd.S_mono HO_242000.out (fun k_ hk => (⟨hk, hk.2⟩ : _ ∧ k_ ≠ gb248))) (fun _ hk => hk.2) (.slice none 0 0)) (fun _ hk => hk.2) (.slice none 0 0)) (fun _ hk => hk.2) (.int .i64 t244)) (fun _ hk => hk.2) (.int .i64 t246)) (fun _ hk => ⟨(by simp [Value.ownBlock]), ⟨(by simp [Value.ownBlock]), hk.1.2⟩⟩)⟩, ⟨by first | exact Kd.R_nil _ _ _ _ _ | exact Kd.N_nil _ _ _ _ _ | exact Kd.V_nil _ _ _ _ _ | exact Kd.Q_nil _ _ _ _ _ | exact Kd.S_nil _ _ _ _ _⟩, ⟨by first | exact Kd.R_nil _ _ _ _ _ | exact Kd.N_nil _ _ _ _ _ | exact Kd.V_nil _ _ _ _ _ | exact Kd.Q_nil _ _ _ _ _ | exact Kd.S_nil _ _ _ _ _⟩, ⟨by (with_reducible repeat (first | refine blk_drewN ?_ _ | refine blk_drew ?_ | refine blk_alloc ?_ _)); refine blk_far ?_ NB238_248.out _; (with_reducible repeat (first | refine blk_drewN ?_ _ | refine blk_drew ?_ | refine blk_alloc ?_ _)); refine blk_far ?_ NB238_248.out _; (with_reducible repeat (first | refine blk_drewN ?_ _ | refine blk_drew ?_ | refine blk_alloc ?_ _)); refine blk_far ?_ NB238_248.out _; (with_reducible repeat (first | refine blk_drewN ?_ _ | refine blk_drew ?_ | refine blk_alloc ?_ _)); refine blk_far ?_ NB238_248.out _; (with_reducible repeat (first | refine blk_drewN ?_ _ | refine blk_drew ?_ | refine blk_alloc ?_ _)); exact BK238.out⟩, ⟨by (with_reducible repeat (first | refine blk_drewN ?_ _ | refine blk_drew ?_ | refine blk_alloc ?_ _)); refine blk_far ?_ NB241_248.out _; (with_reducible repeat (first | refine blk_drewN ?_ _ | refine blk_drew ?_ | refine blk_alloc ?_ _)); refine blk_far ?_ NB241_248.out _; (with_reducible repeat (first | refine blk_drewN ?_ _ | refine blk_drew ?_ | refine blk_alloc ?_ _)); refine blk_far ?_ NB241_248.out _; (with_reducible repeat (first | refine blk_drewN ?_ _ | refine blk_drew ?_ | refine blk_alloc ?_ _)); refine blk_far ?_ NB241_248.out _; (with_reducible repeat (first | refine blk_drewN ?_ _ | refine blk_drew ?_ | refine blk_alloc ?_ _)); exact BK241.out⟩, ⟨by (with_reducible repeat (first | refine blk_drewN ?_ _ | refine blk_drew ?_ | refine blk_alloc ?_ _)); refine blk_put (cs := #[.slice none 0 0, .slice none 0 0, .int .i64 t244, .int .i64 0]) ?_ 3 _ rfl; (with_reducible repeat (first | refine blk_drewN ?_ _ | refine blk_drew ?_ | refine blk_alloc ?_ _)); refine blk_put (cs := #[.slice none 0 0, .slice none 0 0, .int .i64 0, .int .i64 0]) ?_ 2 _ rfl; (with_reducible repeat (first | refine blk_drewN ?_ _ | refine blk_drew ?_ | refine blk_alloc ?_ _)); refine blk_put (cs := #[.slice none 0 0, .slice none 0 0, .int .i64 0, .int .i64 0]) ?_ 1 _ rfl; (with_reducible repeat (first | refine blk_drewN ?_ _ | refine blk_drew ?_ | refine blk_alloc ?_ _)); refine blk_put (cs := #[.slice none 0 0, .slice none 0 0, .int .i64 0, .int .i64 0]) ?_ 0 _ rfl; (with_reducible repeat (first | refine blk_drewN ?_ _ | refine blk_drew ?_ | refine blk_alloc ?_ _)); exact BK248.out⟩, ⟨by repeat (first | (with_reducible first | exact HI0.out | apply IsS118.alloc | apply IsS118.drewN | apply IsS118.drew | apply IsS118.set_0 | refine IsS118.far ?_ NB0_238.out _ | refine IsS118.far ?_ NB0_241.out _ | refine IsS118.far ?_ NB0_248.out _) | exact HI0.out)⟩, ⟨by repeat (first | (with_reducible first | exact HK.out | apply KeepBut.set_ | apply keep_drewN | apply keep_drew | apply keep_alloc | refine keep_far ?_ GW238.out _ | refine keep_far ?_ GW241.out _ | refine keep_far ?_ GW248.out _) | exact HK.out)⟩, ⟨by repeat (first | (with_reducible first | exact HB.out | apply below_alloc | apply pw_below_drewN | apply below_drew1 | refine below_set ?_ (IsS118.ge HI0.out) | refine below_set ?_ GE238.out | refine below_set ?_ GE241.out | refine below_set ?_ GE248.out) | exact HB.out)⟩⟩
    case round =>
     clear H'
     try clear c1
     try clear c2
     try clear p2
     try clear c4
     try clear p6
     try clear c8
     try clear c9
     try clear c12
     try clear c12b0
     try clear c18
     try clear c19
     try clear c20
     try clear hcz10_0
     try clear hcz10_1
     try clear hcz21_0
     try clear hcz21_1
     try clear hcz21_2
     try clear hcz21_3
     try clear hfz10_0
     try clear hfz10_1
     try clear hfz21_0
     try clear hfz21_1
     try clear hfz21_2
     try clear hfz21_3
     try clear p2
     try clear p6
     obtain ⟨x9_2, x1000_2, x249000_2, x249001_2, u249000, u249001, rfl, HA, HK2, HO_242000, HO_249000, HO_249001, BK238, BK241, BK248, HI0, HK, HB⟩ := hrel
     cases gk with
     | zero => exact absurd HA.out (by simp [thermionkit_KitOf.l1])
     | succ k2 =>
      have H := HA.out
      clear HA
      simp only [thermionkit_KitOf.l1] at H
      by_cases c22 : x9_2 < t242
      ·rw [if_pos c22] at H
       have c22b0 : decide (x9_2 < t242) = true := decide_eq_true c22
       clear c22
       by_cases c23 : x9_2 = x7_1
       ·rw [if_pos c23] at H
        have c23b0 : (x9_2 == x7_1) = true := beq_iff_eq.mpr c23
        have c23b1 : (x9_2 != x7_1) = false := bne_eq_false_iff_eq.mpr c23
        clear c23
        have H' := Aside0.mk H
        clear H
        go_wp2
        go_roundg k2
        case measure => have := HK1.out; have := HK2.out; omega
        case rel => exact ⟨(wrap64 (x9_2 + 1)), (x1000_2), (x249000_2), (x249001_2), (u249000), (u249001), (by first | rfl | (simp; done) | (simp [*]; done)), H', ⟨by have := HK1.out; have := HK2.out; omega⟩, ⟨by (with_reducible repeat (first | apply Kd.S_alloc | apply Kd.S_drewN | apply Kd.S_drew)); exact HO_242000.out⟩, ⟨by (with_reducible repeat (first | apply Kd.R_alloc | apply Kd.R_drewN | apply Kd.R_drew)); exact HO_249000.out⟩, ⟨by (with_reducible repeat (first | apply Kd.R_alloc | apply Kd.R_drewN | apply Kd.R_drew)); exact HO_249001.out⟩, ⟨by (with_reducible repeat (first | refine blk_drewN ?_ _ | refine blk_drew ?_ | refine blk_alloc ?_ _)); exact BK238.out⟩, ⟨by (with_reducible repeat (first | refine blk_drewN ?_ _ | refine blk_drew ?_ | refine blk_alloc ?_ _)); exact BK241.out⟩, ⟨by (with_reducible repeat (first | refine blk_drewN ?_ _ | refine blk_drew ?_ | refine blk_alloc ?_ _)); exact BK248.out⟩, ⟨by repeat (first | (with_reducible first | exact HI0.out | apply IsS118.alloc | apply IsS118.drewN | apply IsS118.drew | apply IsS118.set_0 | refine IsS118.far ?_ NB0_238.out _ | refine IsS118.far ?_ NB0_241.out _ | refine IsS118.far ?_ NB0_248.out _) | exact HI0.out)⟩, ⟨by repeat (first | (with_reducible first | exact HK.out | apply KeepBut.set_ | apply keep_drewN | apply keep_drew | apply keep_alloc | refine keep_far ?_ GW238.out _ | refine keep_far ?_ GW241.out _ | refine keep_far ?_ GW248.out _) | exact HK.out)⟩, ⟨by repeat (first | (with_reducible first | exact HB.out | apply below_alloc | apply pw_below_drewN | apply below_drew1 | refine below_set ?_ (IsS118.ge HI0.out) | refine below_set ?_ GE238.out | refine below_set ?_ GE241.out | refine below_set ?_ GE248.out) | exact HB.out)⟩⟩
       ·rw [if_neg c23] at H
        have c23b0 : (x9_2 == x7_1) = false := beq_eq_false_iff_ne.mpr c23
        have c23b1 : (x9_2 != x7_1) = true := bne_iff_ne.mpr c23
        have HC24 := Aside0.mk H
        clear H
        go_upto_region 11 with (fail)
        go_cut [36] (fun v36 wc => ∃ (kq : Nat) (x36_23 : Bool) (x1000_23 : Int), v36 = .bool x36_23 ∧ Aside0 (thermionkit_KitOf.j2 kq t242 x7_1 x9_2 x36_23 x1000_23 x242000_1 t239 x249000_2 x249001_2 t244 t246 = some (r1, r2, r3)) ∧ Aside0 (kq ≤ k2) ∧ Aside0 (Kd.S k57 57 wc w.heap.size (fun k_ => some k_ ≠ (u249000 : Value).ownBlock ∧ some k_ ≠ (u249001 : Value).ownBlock ∧ k_ ≠ gb248) u242000 x242000_1) ∧ Aside0 (Kd.R (Kd.int .i64) 3 wc w.heap.size (fun k_ => some k_ ≠ (u249001 : Value).ownBlock) u249000 x249000_2) ∧ Aside0 (Kd.R (Kd.int .i64) 3 wc w.heap.size (fun k_ => some k_ ≠ (u249000 : Value).ownBlock) u249001 x249001_2) ∧ Aside0 (wc.heap[gb238]? = some (.cells #[(.slice none 0 0), .int .i64 0] 49 (0, 0))) ∧ Aside0 (wc.heap[gb241]? = some (.cells #[u242000, .int .i64 t239] 49 (0, 0))) ∧ Aside0 (wc.heap[gb248]? = some (.cells #[u249000, u249001, .int .i64 t244, .int .i64 t246] 57 (0, 0))) ∧ Aside0 (IsS118 w0 wc g x1000_23) ∧ Aside0 (KeepBut w wc g none) ∧ Aside0 (Below w0.heap.size w0 wc))
        case first =>
         have H := HC24.out
         clear HC24
         by_cases c25 : x9_2 < x7_1
         ·rw [if_pos c25] at H
          have c25b0 : decide (x9_2 < x7_1) = true := decide_eq_true c25
          clear c25
          (first | rw [c25b0] | (simp only [i64_w, i32_w]; rw [c25b0]) | skip)
          replace H := Option.bind_eq_some_iff.mp H
          obtain ⟨⟨t252, t253⟩, A260, H⟩ := H
          replace H : (thermionkit_KitOf.j2 k2 t242 x7_1 x9_2 t252 t253 x242000_1 t239 x249000_2 x249001_2 t244 t246) = some (r1, r2, r3) := H
          have A26 := Aside0.mk A260
          clear A260
          have H' := Aside0.mk H
          clear H
          go_wp2_with (first | (go_at_call 35; (with_reducible refine (thermionkit_Dice_One.calls g x1000_2 4 t252 t253 w0 _ ?side1 ?side2 A26.out).mono ?_); (case side1 => repeat (first | (with_reducible first | exact HI0.out | apply IsS118.alloc | apply IsS118.drewN | apply IsS118.drew | apply IsS118.set_0 | refine IsS118.far ?_ NB0_238.out _ | refine IsS118.far ?_ NB0_241.out _ | refine IsS118.far ?_ NB0_248.out _) | exact HI0.out)); (case side2 => repeat (first | (with_reducible first | exact HB.out | apply below_alloc | apply pw_below_drewN | apply below_drew1 | refine below_set ?_ (IsS118.ge HI0.out) | refine below_set ?_ GE238.out | refine below_set ?_ GE241.out | refine below_set ?_ GE248.out) | exact HB.out)); rintro e w27 ⟨rfl, hi, hb, hk⟩; have n0_ := Aside0.mk (Kd.S_mono (Kd.S_keep (IsS118.apartS (show IsS118 w0 _ g x1000_2 from by repeat (first | (with_reducible first | exact HI0.out | apply IsS118.alloc | apply IsS118.drewN | apply IsS118.drew | apply IsS118.set_0 | refine IsS118.far ?_ NB0_238.out _ | refine IsS118.far ?_ NB0_241.out _ | refine IsS118.far ?_ NB0_248.out _) | exact HI0.out)) (by (with_reducible repeat (first | apply Kd.S_alloc | apply Kd.S_drewN | apply Kd.S_drew)); exact HO_242000.out) (by decide)) hk (fun _ h => h.2)) (fun _ h => h.1)); have n1_ := Aside0.mk (Kd.R_mono (Kd.R_keep (IsS118.apart (show IsS118 w0 _ g x1000_2 from by repeat (first | (with_reducible first | exact HI0.out | apply IsS118.alloc | apply IsS118.drewN | apply IsS118.drew | apply IsS118.set_0 | refine IsS118.far ?_ NB0_238.out _ | refine IsS118.far ?_ NB0_241.out _ | refine IsS118.far ?_ NB0_248.out _) | exact HI0.out)) (by (with_reducible repeat (first | apply Kd.R_alloc | apply Kd.R_drewN | apply Kd.R_drew)); exact HO_249000.out) (by decide)) hk (fun _ h => h.2)) (fun _ h => h.1)); have n2_ := Aside0.mk (Kd.R_mono (Kd.R_keep (IsS118.apart (show IsS118 w0 _ g x1000_2 from by repeat (first | (with_reducible first | exact HI0.out | apply IsS118.alloc | apply IsS118.drewN | apply IsS118.drew | apply IsS118.set_0 | refine IsS118.far ?_ NB0_238.out _ | refine IsS118.far ?_ NB0_241.out _ | refine IsS118.far ?_ NB0_248.out _) | exact HI0.out)) (by (with_reducible repeat (first | apply Kd.R_alloc | apply Kd.R_drewN | apply Kd.R_drew)); exact HO_249001.out) (by decide)) hk (fun _ h => h.2)) (fun _ h => h.1)); have n3_ := Aside0.mk (KeepBut.blk hk (g' := gb238) (o := .cells #[.slice none 0 0, .int .i64 0] 49 (0, 0)) (by (with_reducible repeat (first | refine blk_drewN ?_ _ | refine blk_drew ?_ | refine blk_alloc ?_ _)); exact BK238.out) NB238_0.out (by simp)); have n4_ := Aside0.mk (KeepBut.blk hk (g' := gb241) (o := .cells #[u242000, .int .i64 t239] 49 (0, 0)) (by (with_reducible repeat (first | refine blk_drewN ?_ _ | refine blk_drew ?_ | refine blk_alloc ?_ _)); exact BK241.out) NB241_0.out (by simp)); have n5_ := Aside0.mk (KeepBut.blk hk (g' := gb248) (o := .cells #[u249000, u249001, .int .i64 t244, .int .i64 t246] 57 (0, 0)) (by (with_reducible repeat (first | refine blk_drewN ?_ _ | refine blk_drew ?_ | refine blk_alloc ?_ _)); exact BK248.out) NB248_0.out (by simp)); have n6_ := Aside0.mk (KeepBut.trans (by repeat (first | (with_reducible first | exact HK.out | apply KeepBut.set_ | apply keep_drewN | apply keep_drew | apply keep_alloc | refine keep_far ?_ GW238.out _ | refine keep_far ?_ GW241.out _ | refine keep_far ?_ GW248.out _) | exact HK.out)) hk (.inl rfl)); have n7_ := Aside0.mk (hb); have n8_ := Aside0.mk (hi); clear HO_242000; clear HO_249000; clear HO_249001; clear BK238; clear BK241; clear BK248; clear HK; clear HB; clear HI0; have HO_242000 := n0_; have HO_249000 := n1_; have HO_249001 := n2_; have BK238 := n3_; have BK241 := n4_; have BK248 := n5_; have HK := n6_; have HB := n7_; have HI0 := n8_; clear n0_ n1_ n2_ n3_ n4_ n5_ n6_ n7_ n8_; (try clear hb); (try clear hb2); (try clear hk); (try clear hi)))
          go_meet
          case rel => exact ⟨_, (t252), (t253), (by first | rfl | (simp; done) | (simp [*]; done)), H', ⟨by have := HK1.out; have := HK2.out; first | omega | exact Nat.le_refl _⟩, ⟨by (with_reducible repeat (first | apply Kd.S_alloc | apply Kd.S_drewN | apply Kd.S_drew)); exact HO_242000.out⟩, ⟨by (with_reducible repeat (first | apply Kd.R_alloc | apply Kd.R_drewN | apply Kd.R_drew)); exact HO_249000.out⟩, ⟨by (with_reducible repeat (first | apply Kd.R_alloc | apply Kd.R_drewN | apply Kd.R_drew)); exact HO_249001.out⟩, ⟨by (with_reducible repeat (first | refine blk_drewN ?_ _ | refine blk_drew ?_ | refine blk_alloc ?_ _)); exact BK238.out⟩, ⟨by (with_reducible repeat (first | refine blk_drewN ?_ _ | refine blk_drew ?_ | refine blk_alloc ?_ _)); exact BK241.out⟩, ⟨by (with_reducible repeat (first | refine blk_drewN ?_ _ | refine blk_drew ?_ | refine blk_alloc ?_ _)); exact BK248.out⟩, ⟨by repeat (first | (with_reducible first | exact HI0.out | apply IsS118.alloc | apply IsS118.drewN | apply IsS118.drew | apply IsS118.set_0 | refine IsS118.far ?_ NB0_238.out _ | refine IsS118.far ?_ NB0_241.out _ | refine IsS118.far ?_ NB0_248.out _) | exact HI0.out)⟩, ⟨by repeat (first | (with_reducible first | exact HK.out | apply KeepBut.set_ | apply keep_drewN | apply keep_drew | apply keep_alloc | refine keep_far ?_ GW238.out _ | refine keep_far ?_ GW241.out _ | refine keep_far ?_ GW248.out _) | exact HK.out)⟩, ⟨by repeat (first | (with_reducible first | exact HB.out | apply below_alloc | apply pw_below_drewN | apply below_drew1 | refine below_set ?_ (IsS118.ge HI0.out) | refine below_set ?_ GE238.out | refine below_set ?_ GE241.out | refine below_set ?_ GE248.out) | exact HB.out)⟩⟩
         ·rw [if_neg c25] at H
          have c25b0 : decide (x9_2 < x7_1) = false := decide_eq_false c25
          clear c25
          (first | rw [c25b0] | (simp only [i64_w, i32_w]; rw [c25b0]) | skip)
          have H' := Aside0.mk H
          clear H
          go_wp2
          go_meet
          case rel => exact ⟨_, (false), (x1000_2), (by first | rfl | (simp; done) | (simp [*]; done)), H', ⟨by have := HK1.out; have := HK2.out; first | omega | exact Nat.le_refl _⟩, ⟨by (with_reducible repeat (first | apply Kd.S_alloc | apply Kd.S_drewN | apply Kd.S_drew)); exact HO_242000.out⟩, ⟨by (with_reducible repeat (first | apply Kd.R_alloc | apply Kd.R_drewN | apply Kd.R_drew)); exact HO_249000.out⟩, ⟨by (with_reducible repeat (first | apply Kd.R_alloc | apply Kd.R_drewN | apply Kd.R_drew)); exact HO_249001.out⟩, ⟨by (with_reducible repeat (first | refine blk_drewN ?_ _ | refine blk_drew ?_ | refine blk_alloc ?_ _)); exact BK238.out⟩, ⟨by (with_reducible repeat (first | refine blk_drewN ?_ _ | refine blk_drew ?_ | refine blk_alloc ?_ _)); exact BK241.out⟩, ⟨by (with_reducible repeat (first | refine blk_drewN ?_ _ | refine blk_drew ?_ | refine blk_alloc ?_ _)); exact BK248.out⟩, ⟨by repeat (first | (with_reducible first | exact HI0.out | apply IsS118.alloc | apply IsS118.drewN | apply IsS118.drew | apply IsS118.set_0 | refine IsS118.far ?_ NB0_238.out _ | refine IsS118.far ?_ NB0_241.out _ | refine IsS118.far ?_ NB0_248.out _) | exact HI0.out)⟩, ⟨by repeat (first | (with_reducible first | exact HK.out | apply KeepBut.set_ | apply keep_drewN | apply keep_drew | apply keep_alloc | refine keep_far ?_ GW238.out _ | refine keep_far ?_ GW241.out _ | refine keep_far ?_ GW248.out _) | exact HK.out)⟩, ⟨by repeat (first | (with_reducible first | exact HB.out | apply below_alloc | apply pw_below_drewN | apply below_drew1 | refine below_set ?_ (IsS118.ge HI0.out) | refine below_set ?_ GE238.out | refine below_set ?_ GE241.out | refine below_set ?_ GE248.out) | exact HB.out)⟩⟩
        case rest =>
         clear HC24
         try clear c1
         try clear c2
         try clear p2
         try clear c4
         try clear p6
         try clear c8
         try clear c9
         try clear c12
         try clear c12b0
         try clear c18
         try clear c19
         try clear c20
         try clear c22
         try clear c22b0
         try clear c23
         try clear c23b0
         try clear c23b1
         try clear c25
         try clear c25b0
         try clear hcz10_0
         try clear hcz10_1
         try clear hcz21_0
         try clear hcz21_1
         try clear hcz21_2
         try clear hcz21_3
         try clear hfz10_0
         try clear hfz10_1
         try clear hfz21_0
         try clear hfz21_1
         try clear hfz21_2
         try clear hfz21_3
         try clear p2
         try clear p6
         obtain ⟨kq, x36_23, x1000_23, rfl, HA, HJ23, HO_242000, HO_249000, HO_249001, BK238, BK241, BK248, HI0, HK, HB⟩ := hcut
         cases kq with
         | zero => exact absurd HA.out (by simp [thermionkit_KitOf.j2])
         | succ kj23 =>
          have H := HA.out
          clear HA
          simp only [thermionkit_KitOf.j2] at H
          by_cases c28 : x36_23 = true
          ·subst c28
           have H1 : (if x249000_2.length < 17592186044416 then (thermionkit_KitOf.l1 kj23 t242 x7_1 (wrap64 (x9_2 + 1)) x1000_23 x242000_1 t239 (x249000_2 ++ [x9_2]) x249001_2 t244 t246) else (none)) = some (r1, r2, r3) := by rw [if_pos rfl] at H; exact H
           clear H
           have H := H1
           clear H1
           by_cases c29 : x249000_2.length < 17592186044416
           ·rw [if_pos c29] at H
            have LMc29 := Aside0.mk c29
            clear c29
            obtain ⟨y254, hy254⟩ : ∃ y_ : List Int, y_ = (x249000_2 ++ [x9_2]) := ⟨_, rfl⟩
            replace H : (thermionkit_KitOf.l1 kj23 t242 x7_1 (wrap64 (x9_2 + 1)) x1000_23 x242000_1 t239 y254 x249001_2 t244 t246) = some (r1, r2, r3) := by first | (rw [hy254]; with_reducible exact H) | (have H2_ := (Option.bind_some _ _).symm.trans H; rw [hy254]; with_reducible exact H2_) | (have H2_ := (Option.bind_some _ _).symm.trans H; with_reducible exact H2_) | with_reducible exact H | (rw [hy254]; exact H) | exact H
            have Ny254 := Aside0.mk hy254
            clear hy254
            have H' := Aside0.mk H
            clear H
            have hnb30 := NB248_238.out
            have hnc30 := NB238_248.out
            have hnb31 := NB248_241.out
            have hnc31 := NB241_248.out
            have hnb32 := NB248_0.out
            have hnc32 := NB0_248.out
            have hcz33_0 : wc.cell? ⟨gb248, 0, none⟩ = some (u249000) := (blk_cell BK248.out 0).trans rfl
            have hcz33_1 : wc.cell? ⟨gb248, 1, none⟩ = some (u249001) := (blk_cell BK248.out 1).trans rfl
            have hcz33_2 : wc.cell? ⟨gb248, 2, none⟩ = some (.int .i64 t244) := (blk_cell BK248.out 2).trans rfl
            have hcz33_3 : wc.cell? ⟨gb248, 3, none⟩ = some (.int .i64 t246) := (blk_cell BK248.out 3).trans rfl
            have hfz33_0 := blk_frozen BK248.out 0
            have hfz33_1 := blk_frozen BK248.out 1
            have hfz33_2 := blk_frozen BK248.out 2
            have hfz33_3 := blk_frozen BK248.out 3
            go_wp2_with (first | ((with_reducible refine gate_builtin (b := .append) (xs := #[.tmp 45, .tmp 47]) rfl ?_); at_builtin; refine Kd.R_append (Kd.int .i64) w.heap.size rfl (.tmp 45) (.tmp 47) 22 3 (.int .i64 0) 8 rfl Try.underlying22 info3 rfl (by decide) (by omega) u249000 x249000_2 x9_2 [.int .i64 x9_2] (fun k_ => some k_ ≠ (u249001 : Value).ownBlock) (fun _ => False) rfl rfl ?aP (fun _ hk => hk.elim) ?aF ?aO (Below.refl _ _) ?aS ?aL ?_; (case aP => exact rfl); (case aF => exact (fun k_ hk => Kd.fresh' (Kd.R_lt (by (with_reducible repeat (first | apply Kd.R_alloc | apply Kd.R_drewN | apply Kd.R_drew)); exact HO_249001.out)) k_ hk)); (case aO => exact (by (with_reducible repeat (first | apply Kd.R_alloc | apply Kd.R_drewN | apply Kd.R_drew)); exact HO_249000.out)); (case aS => exact (keep_size (w := w) (g := g) (row := none) (by repeat (first | (with_reducible first | exact HK.out | apply KeepBut.set_ | apply keep_drewN | apply keep_drew | apply keep_alloc | refine keep_far ?_ GW238.out _ | refine keep_far ?_ GW241.out _ | refine keep_far ?_ GW248.out _) | exact HK.out)))); (case aL => have := LMc29.out; omega); intro v255 w34 ho hb hg hat; rw [← Ny254.out] at ho; have n0_ := Aside0.mk (Kd.S_after (ok := (fun k_ => some k_ ≠ (u249001 : Value).ownBlock ∧ k_ ≠ gb248)) (by (with_reducible repeat (first | apply Kd.S_alloc | apply Kd.S_drewN | apply Kd.S_drew)); exact Kd.S_mono HO_242000.out (fun _ hk => ⟨⟨hk.2.1, hk.2.2⟩, hk.1⟩)) hg hat); have n1_ := Aside0.mk (Kd.R_after (ok := (fun _ => True)) (by (with_reducible repeat (first | apply Kd.R_alloc | apply Kd.R_drewN | apply Kd.R_drew)); exact Kd.R_mono HO_249001.out (fun _ hk => ⟨trivial, hk⟩)) hg hat); have n2_ := Aside0.mk (blk_grown (g := gb238) (o := .cells #[.slice none 0 0, .int .i64 0] 49 (0, 0)) (by (with_reducible repeat (first | refine blk_drewN ?_ _ | refine blk_drew ?_ | refine blk_alloc ?_ _)); exact BK238.out) hg (Kd.R_ne HO_249000.out BK238.out (by decide))); have n3_ := Aside0.mk (blk_grown (g := gb241) (o := .cells #[u242000, .int .i64 t239] 49 (0, 0)) (by (with_reducible repeat (first | refine blk_drewN ?_ _ | refine blk_drew ?_ | refine blk_alloc ?_ _)); exact BK241.out) hg (Kd.R_ne HO_249000.out BK241.out (by decide))); have n4_ := Aside0.mk (blk_grown (g := gb248) (o := .cells #[u249000, u249001, .int .i64 t244, .int .i64 t246] 57 (0, 0)) (by (with_reducible repeat (first | refine blk_drewN ?_ _ | refine blk_drew ?_ | refine blk_alloc ?_ _)); exact BK248.out) hg (Kd.R_ne HO_249000.out BK248.out (by decide))); have n5_ := Aside0.mk (IsS118.grown (by repeat (first | (with_reducible first | exact HI0.out | apply IsS118.alloc | apply IsS118.drewN | apply IsS118.drew | apply IsS118.set_0 | refine IsS118.far ?_ NB0_238.out _ | refine IsS118.far ?_ NB0_241.out _ | refine IsS118.far ?_ NB0_248.out _) | exact HI0.out)) hg (IsS118.own_ne HI0.out HO_249000.out (by decide))); have n6_ := Aside0.mk (below_weaken (by repeat (first | (with_reducible first | exact HB.out | apply below_alloc | apply pw_below_drewN | apply below_drew1 | refine below_set ?_ (IsS118.ge HI0.out) | refine below_set ?_ GE238.out | refine below_set ?_ GE241.out | refine below_set ?_ GE248.out) | exact HB.out)) HL.out hb); have n7_ := Aside0.mk (KeepBut.trans (by repeat (first | (with_reducible first | exact HK.out | apply KeepBut.set_ | apply keep_drewN | apply keep_drew | apply keep_alloc | refine keep_far ?_ GW238.out _ | refine keep_far ?_ GW241.out _ | refine keep_far ?_ GW248.out _) | exact HK.out)) (KeepBut.of_grown hg g) (Kd.R_base2 HO_249000.out)); have n8_ := Aside0.mk (ho); clear HO_242000; clear HO_249001; clear BK238; clear BK241; clear BK248; clear HI0; clear HB; clear HK; clear HO_249000; have HO_242000 := n0_; have HO_249001 := n1_; have BK238 := n2_; have BK241 := n3_; have BK248 := n4_; have HI0 := n5_; have HB := n6_; have HK := n7_; have HO256 := n8_; clear n0_ n1_ n2_ n3_ n4_ n5_ n6_ n7_ n8_; clear ho hb hg hat; obtain ⟨Ao35, co35, eo35⟩ := Kd.R_slice HO256.out; subst eo35; have hcz36_0 : w34.cell? ⟨gb248, 0, none⟩ = some (u249000) := (blk_cell BK248.out 0).trans rfl; have hcz36_1 : w34.cell? ⟨gb248, 1, none⟩ = some (u249001) := (blk_cell BK248.out 1).trans rfl; have hcz36_2 : w34.cell? ⟨gb248, 2, none⟩ = some (.int .i64 t244) := (blk_cell BK248.out 2).trans rfl; have hcz36_3 : w34.cell? ⟨gb248, 3, none⟩ = some (.int .i64 t246) := (blk_cell BK248.out 3).trans rfl; have hfz36_0 := blk_frozen BK248.out 0; have hfz36_1 := blk_frozen BK248.out 1; have hfz36_2 := blk_frozen BK248.out 2; have hfz36_3 := blk_frozen BK248.out 3))
            go_roundg kj23
            case measure => have := HK1.out; have := HK2.out; have := HJ23.out; omega
            case rel => exact ⟨(wrap64 (x9_2 + 1)), (x1000_23), (y254), (x249001_2), (.slice Ao35 y254.length co35), (u249001), (by first | rfl | (simp; done) | (simp [*]; done)), H', ⟨by have := HK1.out; have := HK2.out; have := HJ23.out; omega⟩, ⟨by (with_reducible repeat (first | apply Kd.S_alloc | apply Kd.S_drewN | apply Kd.S_drew)); exact Kd.S_mono (Kd.S_far (p := ⟨gb248, 0, none⟩) (Kd.S_mono HO_242000.out (fun k_ hk => (⟨hk, hk.1.2⟩ : _ ∧ k_ ≠ gb248))) (fun _ hk => hk.2) (.slice Ao35 y254.length co35)) (fun _ hk => ⟨hk.1.2, ⟨hk.1.1.1, hk.1.1.2⟩⟩)⟩, ⟨by (with_reducible repeat (first | apply Kd.R_alloc | apply Kd.R_drewN | apply Kd.R_drew)); exact Kd.R_mono (Kd.R_far (p := ⟨gb248, 0, none⟩) (Kd.R_types HO256.out BK248.out (by decide)) (fun _ hk => hk.2) (.slice Ao35 y254.length co35)) (fun _ hk => hk.1)⟩, ⟨by (with_reducible repeat (first | apply Kd.R_alloc | apply Kd.R_drewN | apply Kd.R_drew)); exact Kd.R_mono (Kd.R_far (p := ⟨gb248, 0, none⟩) (Kd.R_types HO_249001.out BK248.out (by decide)) (fun _ hk => hk.2) (.slice Ao35 y254.length co35)) (fun _ hk => hk.1.2)⟩, ⟨by (with_reducible repeat (first | refine blk_drewN ?_ _ | refine blk_drew ?_ | refine blk_alloc ?_ _)); refine blk_far ?_ NB238_248.out _; (with_reducible repeat (first | refine blk_drewN ?_ _ | refine blk_drew ?_ | refine blk_alloc ?_ _)); exact BK238.out⟩, ⟨by (with_reducible repeat (first | refine blk_drewN ?_ _ | refine blk_drew ?_ | refine blk_alloc ?_ _)); refine blk_far ?_ NB241_248.out _; (with_reducible repeat (first | refine blk_drewN ?_ _ | refine blk_drew ?_ | refine blk_alloc ?_ _)); exact BK241.out⟩, ⟨by (with_reducible repeat (first | refine blk_drewN ?_ _ | refine blk_drew ?_ | refine blk_alloc ?_ _)); refine blk_put (cs := #[u249000, u249001, .int .i64 t244, .int .i64 t246]) ?_ 0 _ rfl; (with_reducible repeat (first | refine blk_drewN ?_ _ | refine blk_drew ?_ | refine blk_alloc ?_ _)); exact BK248.out⟩, ⟨by repeat (first | (with_reducible first | exact HI0.out | apply IsS118.alloc | apply IsS118.drewN | apply IsS118.drew | apply IsS118.set_0 | refine IsS118.far ?_ NB0_238.out _ | refine IsS118.far ?_ NB0_241.out _ | refine IsS118.far ?_ NB0_248.out _) | exact HI0.out)⟩, ⟨by repeat (first | (with_reducible first | exact HK.out | apply KeepBut.set_ | apply keep_drewN | apply keep_drew | apply keep_alloc | refine keep_far ?_ GW238.out _ | refine keep_far ?_ GW241.out _ | refine keep_far ?_ GW248.out _) | exact HK.out)⟩, ⟨by repeat (first | (with_reducible first | exact HB.out | apply below_alloc | apply pw_below_drewN | apply below_drew1 | refine below_set ?_ (IsS118.ge HI0.out) | refine below_set ?_ GE238.out | refine below_set ?_ GE241.out | refine below_set ?_ GE248.out) | exact HB.out)⟩⟩
           ·rw [if_neg c29] at H
            exact absurd H (by simp)
          ·replace c28 := Bool.eq_false_iff.mpr c28
           subst c28
           have H1 : ((thermionkit_Dice_One.f x1000_23 9).bind fun bt257 => (if bt257.1 = true then (if x249001_2.length < 17592186044416 then (thermionkit_KitOf.l1 kj23 t242 x7_1 (wrap64 (x9_2 + 1)) bt257.2 x242000_1 t239 x249000_2 (x249001_2 ++ [x9_2]) t244 t246) else (none)) else (thermionkit_KitOf.l1 kj23 t242 x7_1 (wrap64 (x9_2 + 1)) bt257.2 x242000_1 t239 x249000_2 x249001_2 t244 t246))) = some (r1, r2, r3) := by rw [if_neg (show ¬ (false = true) by decide)] at H; exact H
           clear H
           have H := H1
           clear H1
           replace H := Option.bind_eq_some_iff.mp H
           obtain ⟨⟨t257, t258⟩, A370, H⟩ := H
           replace H : (if t257 = true then (if x249001_2.length < 17592186044416 then (thermionkit_KitOf.l1 kj23 t242 x7_1 (wrap64 (x9_2 + 1)) t258 x242000_1 t239 x249000_2 (x249001_2 ++ [x9_2]) t244 t246) else (none)) else (thermionkit_KitOf.l1 kj23 t242 x7_1 (wrap64 (x9_2 + 1)) t258 x242000_1 t239 x249000_2 x249001_2 t244 t246)) = some (r1, r2, r3) := H
           have A37 := Aside0.mk A370
           clear A370
           by_cases c38 : t257 = true
           ·subst c38
            have H1 : (if x249001_2.length < 17592186044416 then (thermionkit_KitOf.l1 kj23 t242 x7_1 (wrap64 (x9_2 + 1)) t258 x242000_1 t239 x249000_2 (x249001_2 ++ [x9_2]) t244 t246) else (none)) = some (r1, r2, r3) := by rw [if_pos rfl] at H; exact H
            clear H
            have H := H1
            clear H1
            by_cases c39 : x249001_2.length < 17592186044416
            ·rw [if_pos c39] at H
             have LMc39 := Aside0.mk c39
             clear c39
             obtain ⟨y259, hy259⟩ : ∃ y_ : List Int, y_ = (x249001_2 ++ [x9_2]) := ⟨_, rfl⟩
             replace H : (thermionkit_KitOf.l1 kj23 t242 x7_1 (wrap64 (x9_2 + 1)) t258 x242000_1 t239 x249000_2 y259 t244 t246) = some (r1, r2, r3) := by first | (rw [hy259]; with_reducible exact H) | (have H2_ := (Option.bind_some _ _).symm.trans H; rw [hy259]; with_reducible exact H2_) | (have H2_ := (Option.bind_some _ _).symm.trans H; with_reducible exact H2_) | with_reducible exact H | (rw [hy259]; exact H) | exact H
             have Ny259 := Aside0.mk hy259
             clear hy259
             have H' := Aside0.mk H
             clear H
             go_wp2_with (first | ((with_reducible refine gate_callee (f := 35) rfl ?_); refine goesL_ (some 52) rfl rfl Try.func35 (by kernel_rfl) rfl #[.pointer (some ⟨g, 0, none⟩), .int .i64 9] rfl (by (try simp only [List.map_toArray, List.map_cons, List.map_nil]); first | done | rfl | (simp only [List.length_drop, List.length_take]; rfl)) ?_; (with_reducible refine (thermionkit_Dice_One.calls g x1000_23 9 true t258 w0 _ ?side1 ?side2 A37.out).mono ?_); (case side1 => repeat (first | (with_reducible first | exact HI0.out | apply IsS118.alloc | apply IsS118.drewN | apply IsS118.drew | apply IsS118.set_0 | refine IsS118.far ?_ NB0_238.out _ | refine IsS118.far ?_ NB0_241.out _ | refine IsS118.far ?_ NB0_248.out _) | exact HI0.out)); (case side2 => repeat (first | (with_reducible first | exact HB.out | apply below_alloc | apply pw_below_drewN | apply below_drew1 | refine below_set ?_ (IsS118.ge HI0.out) | refine below_set ?_ GE238.out | refine below_set ?_ GE241.out | refine below_set ?_ GE248.out) | exact HB.out)); rintro e w40 ⟨rfl, hi, hb, hk⟩; refine ⟨_, rfl, ?_⟩; have n0_ := Aside0.mk (Kd.S_mono (Kd.S_keep (IsS118.apartS (show IsS118 w0 _ g x1000_23 from by repeat (first | (with_reducible first | exact HI0.out | apply IsS118.alloc | apply IsS118.drewN | apply IsS118.drew | apply IsS118.set_0 | refine IsS118.far ?_ NB0_238.out _ | refine IsS118.far ?_ NB0_241.out _ | refine IsS118.far ?_ NB0_248.out _) | exact HI0.out)) (by (with_reducible repeat (first | apply Kd.S_alloc | apply Kd.S_drewN | apply Kd.S_drew)); exact HO_242000.out) (by decide)) hk (fun _ h => h.2)) (fun _ h => h.1)); have n1_ := Aside0.mk (Kd.R_mono (Kd.R_keep (IsS118.apart (show IsS118 w0 _ g x1000_23 from by repeat (first | (with_reducible first | exact HI0.out | apply IsS118.alloc | apply IsS118.drewN | apply IsS118.drew | apply IsS118.set_0 | refine IsS118.far ?_ NB0_238.out _ | refine IsS118.far ?_ NB0_241.out _ | refine IsS118.far ?_ NB0_248.out _) | exact HI0.out)) (by (with_reducible repeat (first | apply Kd.R_alloc | apply Kd.R_drewN | apply Kd.R_drew)); exact HO_249000.out) (by decide)) hk (fun _ h => h.2)) (fun _ h => h.1)); have n2_ := Aside0.mk (Kd.R_mono (Kd.R_keep (IsS118.apart (show IsS118 w0 _ g x1000_23 from by repeat (first | (with_reducible first | exact HI0.out | apply IsS118.alloc | apply IsS118.drewN | apply IsS118.drew | apply IsS118.set_0 | refine IsS118.far ?_ NB0_238.out _ | refine IsS118.far ?_ NB0_241.out _ | refine IsS118.far ?_ NB0_248.out _) | exact HI0.out)) (by (with_reducible repeat (first | apply Kd.R_alloc | apply Kd.R_drewN | apply Kd.R_drew)); exact HO_249001.out) (by decide)) hk (fun _ h => h.2)) (fun _ h => h.1)); have n3_ := Aside0.mk (KeepBut.blk hk (g' := gb238) (o := .cells #[.slice none 0 0, .int .i64 0] 49 (0, 0)) (by (with_reducible repeat (first | refine blk_drewN ?_ _ | refine blk_drew ?_ | refine blk_alloc ?_ _)); exact BK238.out) NB238_0.out (by simp)); have n4_ := Aside0.mk (KeepBut.blk hk (g' := gb241) (o := .cells #[u242000, .int .i64 t239] 49 (0, 0)) (by (with_reducible repeat (first | refine blk_drewN ?_ _ | refine blk_drew ?_ | refine blk_alloc ?_ _)); exact BK241.out) NB241_0.out (by simp)); have n5_ := Aside0.mk (KeepBut.blk hk (g' := gb248) (o := .cells #[u249000, u249001, .int .i64 t244, .int .i64 t246] 57 (0, 0)) (by (with_reducible repeat (first | refine blk_drewN ?_ _ | refine blk_drew ?_ | refine blk_alloc ?_ _)); exact BK248.out) NB248_0.out (by simp)); have n6_ := Aside0.mk (KeepBut.trans (by repeat (first | (with_reducible first | exact HK.out | apply KeepBut.set_ | apply keep_drewN | apply keep_drew | apply keep_alloc | refine keep_far ?_ GW238.out _ | refine keep_far ?_ GW241.out _ | refine keep_far ?_ GW248.out _) | exact HK.out)) hk (.inl rfl)); have n7_ := Aside0.mk (hb); have n8_ := Aside0.mk (hi); clear HO_242000; clear HO_249000; clear HO_249001; clear BK238; clear BK241; clear BK248; clear HK; clear HB; clear HI0; have HO_242000 := n0_; have HO_249000 := n1_; have HO_249001 := n2_; have BK238 := n3_; have BK241 := n4_; have BK248 := n5_; have HK := n6_; have HB := n7_; have HI0 := n8_; clear n0_ n1_ n2_ n3_ n4_ n5_ n6_ n7_ n8_; (try clear hb); (try clear hb2); (try clear hk); (try clear hi); have hnb41 := NB248_238.out; have hnc41 := NB238_248.out; have hnb42 := NB248_241.out; have hnc42 := NB241_248.out; have hnb43 := NB248_0.out; have hnc43 := NB0_248.out; have hcz44_0 : w40.cell? ⟨gb248, 0, none⟩ = some (u249000) := (blk_cell BK248.out 0).trans rfl; have hcz44_1 : w40.cell? ⟨gb248, 1, none⟩ = some (u249001) := (blk_cell BK248.out 1).trans rfl; have hcz44_2 : w40.cell? ⟨gb248, 2, none⟩ = some (.int .i64 t244) := (blk_cell BK248.out 2).trans rfl; have hcz44_3 : w40.cell? ⟨gb248, 3, none⟩ = some (.int .i64 t246) := (blk_cell BK248.out 3).trans rfl; have hfz44_0 := blk_frozen BK248.out 0; have hfz44_1 := blk_frozen BK248.out 1; have hfz44_2 := blk_frozen BK248.out 2; have hfz44_3 := blk_frozen BK248.out 3) | ((with_reducible refine gate_builtin (b := .append) (xs := #[.tmp 54, .tmp 56]) rfl ?_); at_builtin; refine Kd.R_append (Kd.int .i64) w.heap.size rfl (.tmp 54) (.tmp 56) 22 3 (.int .i64 0) 8 rfl Try.underlying22 info3 rfl (by decide) (by omega) u249001 x249001_2 x9_2 [.int .i64 x9_2] (fun k_ => some k_ ≠ (u249000 : Value).ownBlock) (fun _ => False) rfl rfl ?aP (fun _ hk => hk.elim) ?aF ?aO (Below.refl _ _) ?aS ?aL ?_; (case aP => exact rfl); (case aF => exact (fun k_ hk => Kd.fresh' (Kd.R_lt (by (with_reducible repeat (first | apply Kd.R_alloc | apply Kd.R_drewN | apply Kd.R_drew)); exact HO_249000.out)) k_ hk)); (case aO => exact (by (with_reducible repeat (first | apply Kd.R_alloc | apply Kd.R_drewN | apply Kd.R_drew)); exact HO_249001.out)); (case aS => exact (keep_size (w := w) (g := g) (row := none) (by repeat (first | (with_reducible first | exact HK.out | apply KeepBut.set_ | apply keep_drewN | apply keep_drew | apply keep_alloc | refine keep_far ?_ GW238.out _ | refine keep_far ?_ GW241.out _ | refine keep_far ?_ GW248.out _) | exact HK.out)))); (case aL => have := LMc39.out; omega); intro v260 w45 ho hb hg hat; rw [← Ny259.out] at ho; have n0_ := Aside0.mk (Kd.S_after (ok := (fun k_ => some k_ ≠ (u249000 : Value).ownBlock ∧ k_ ≠ gb248)) (by (with_reducible repeat (first | apply Kd.S_alloc | apply Kd.S_drewN | apply Kd.S_drew)); exact Kd.S_mono HO_242000.out (fun _ hk => ⟨⟨hk.1, hk.2.2⟩, hk.2.1⟩)) hg hat); have n1_ := Aside0.mk (Kd.R_after (ok := (fun _ => True)) (by (with_reducible repeat (first | apply Kd.R_alloc | apply Kd.R_drewN | apply Kd.R_drew)); exact Kd.R_mono HO_249000.out (fun _ hk => ⟨trivial, hk⟩)) hg hat); have n2_ := Aside0.mk (blk_grown (g := gb238) (o := .cells #[.slice none 0 0, .int .i64 0] 49 (0, 0)) (by (with_reducible repeat (first | refine blk_drewN ?_ _ | refine blk_drew ?_ | refine blk_alloc ?_ _)); exact BK238.out) hg (Kd.R_ne HO_249001.out BK238.out (by decide))); have n3_ := Aside0.mk (blk_grown (g := gb241) (o := .cells #[u242000, .int .i64 t239] 49 (0, 0)) (by (with_reducible repeat (first | refine blk_drewN ?_ _ | refine blk_drew ?_ | refine blk_alloc ?_ _)); exact BK241.out) hg (Kd.R_ne HO_249001.out BK241.out (by decide))); have n4_ := Aside0.mk (blk_grown (g := gb248) (o := .cells #[u249000, u249001, .int .i64 t244, .int .i64 t246] 57 (0, 0)) (by (with_reducible repeat (first | refine blk_drewN ?_ _ | refine blk_drew ?_ | refine blk_alloc ?_ _)); exact BK248.out) hg (Kd.R_ne HO_249001.out BK248.out (by decide))); have n5_ := Aside0.mk (IsS118.grown (by repeat (first | (with_reducible first | exact HI0.out | apply IsS118.alloc | apply IsS118.drewN | apply IsS118.drew | apply IsS118.set_0 | refine IsS118.far ?_ NB0_238.out _ | refine IsS118.far ?_ NB0_241.out _ | refine IsS118.far ?_ NB0_248.out _) | exact HI0.out)) hg (IsS118.own_ne HI0.out HO_249001.out (by decide))); have n6_ := Aside0.mk (below_weaken (by repeat (first | (with_reducible first | exact HB.out | apply below_alloc | apply pw_below_drewN | apply below_drew1 | refine below_set ?_ (IsS118.ge HI0.out) | refine below_set ?_ GE238.out | refine below_set ?_ GE241.out | refine below_set ?_ GE248.out) | exact HB.out)) HL.out hb); have n7_ := Aside0.mk (KeepBut.trans (by repeat (first | (with_reducible first | exact HK.out | apply KeepBut.set_ | apply keep_drewN | apply keep_drew | apply keep_alloc | refine keep_far ?_ GW238.out _ | refine keep_far ?_ GW241.out _ | refine keep_far ?_ GW248.out _) | exact HK.out)) (KeepBut.of_grown hg g) (Kd.R_base2 HO_249001.out)); have n8_ := Aside0.mk (ho); clear HO_242000; clear HO_249000; clear BK238; clear BK241; clear BK248; clear HI0; clear HB; clear HK; clear HO_249001; have HO_242000 := n0_; have HO_249000 := n1_; have BK238 := n2_; have BK241 := n3_; have BK248 := n4_; have HI0 := n5_; have HB := n6_; have HK := n7_; have HO261 := n8_; clear n0_ n1_ n2_ n3_ n4_ n5_ n6_ n7_ n8_; clear ho hb hg hat; obtain ⟨Ao46, co46, eo46⟩ := Kd.R_slice HO261.out; subst eo46; have hcz47_0 : w45.cell? ⟨gb248, 0, none⟩ = some (u249000) := (blk_cell BK248.out 0).trans rfl; have hcz47_1 : w45.cell? ⟨gb248, 1, none⟩ = some (u249001) := (blk_cell BK248.out 1).trans rfl; have hcz47_2 : w45.cell? ⟨gb248, 2, none⟩ = some (.int .i64 t244) := (blk_cell BK248.out 2).trans rfl; have hcz47_3 : w45.cell? ⟨gb248, 3, none⟩ = some (.int .i64 t246) := (blk_cell BK248.out 3).trans rfl; have hfz47_0 := blk_frozen BK248.out 0; have hfz47_1 := blk_frozen BK248.out 1; have hfz47_2 := blk_frozen BK248.out 2; have hfz47_3 := blk_frozen BK248.out 3))
             go_roundg kj23
             case measure => have := HK1.out; have := HK2.out; have := HJ23.out; omega
             case rel => exact ⟨(wrap64 (x9_2 + 1)), (t258), (x249000_2), (y259), (u249000), (.slice Ao46 y259.length co46), (by first | rfl | (simp; done) | (simp [*]; done)), H', ⟨by have := HK1.out; have := HK2.out; have := HJ23.out; omega⟩, ⟨by (with_reducible repeat (first | apply Kd.S_alloc | apply Kd.S_drewN | apply Kd.S_drew)); exact Kd.S_mono (Kd.S_far (p := ⟨gb248, 1, none⟩) (Kd.S_mono HO_242000.out (fun k_ hk => (⟨hk, hk.1.2⟩ : _ ∧ k_ ≠ gb248))) (fun _ hk => hk.2) (.slice Ao46 y259.length co46)) (fun _ hk => ⟨hk.1.1.1, ⟨hk.1.2, hk.1.1.2⟩⟩)⟩, ⟨by (with_reducible repeat (first | apply Kd.R_alloc | apply Kd.R_drewN | apply Kd.R_drew)); exact Kd.R_mono (Kd.R_far (p := ⟨gb248, 1, none⟩) (Kd.R_types HO_249000.out BK248.out (by decide)) (fun _ hk => hk.2) (.slice Ao46 y259.length co46)) (fun _ hk => hk.1.2)⟩, ⟨by (with_reducible repeat (first | apply Kd.R_alloc | apply Kd.R_drewN | apply Kd.R_drew)); exact Kd.R_mono (Kd.R_far (p := ⟨gb248, 1, none⟩) (Kd.R_types HO261.out BK248.out (by decide)) (fun _ hk => hk.2) (.slice Ao46 y259.length co46)) (fun _ hk => hk.1)⟩, ⟨by (with_reducible repeat (first | refine blk_drewN ?_ _ | refine blk_drew ?_ | refine blk_alloc ?_ _)); refine blk_far ?_ NB238_248.out _; (with_reducible repeat (first | refine blk_drewN ?_ _ | refine blk_drew ?_ | refine blk_alloc ?_ _)); exact BK238.out⟩, ⟨by (with_reducible repeat (first | refine blk_drewN ?_ _ | refine blk_drew ?_ | refine blk_alloc ?_ _)); refine blk_far ?_ NB241_248.out _; (with_reducible repeat (first | refine blk_drewN ?_ _ | refine blk_drew ?_ | refine blk_alloc ?_ _)); exact BK241.out⟩, ⟨by (with_reducible repeat (first | refine blk_drewN ?_ _ | refine blk_drew ?_ | refine blk_alloc ?_ _)); refine blk_put (cs := #[u249000, u249001, .int .i64 t244, .int .i64 t246]) ?_ 1 _ rfl; (with_reducible repeat (first | refine blk_drewN ?_ _ | refine blk_drew ?_ | refine blk_alloc ?_ _)); exact BK248.out⟩, ⟨by repeat (first | (with_reducible first | exact HI0.out | apply IsS118.alloc | apply IsS118.drewN | apply IsS118.drew | apply IsS118.set_0 | refine IsS118.far ?_ NB0_238.out _ | refine IsS118.far ?_ NB0_241.out _ | refine IsS118.far ?_ NB0_248.out _) | exact HI0.out)⟩, ⟨by repeat (first | (with_reducible first | exact HK.out | apply KeepBut.set_ | apply keep_drewN | apply keep_drew | apply keep_alloc | refine keep_far ?_ GW238.out _ | refine keep_far ?_ GW241.out _ | refine keep_far ?_ GW248.out _) | exact HK.out)⟩, ⟨by repeat (first | (with_reducible first | exact HB.out | apply below_alloc | apply pw_below_drewN | apply below_drew1 | refine below_set ?_ (IsS118.ge HI0.out) | refine below_set ?_ GE238.out | refine below_set ?_ GE241.out | refine below_set ?_ GE248.out) | exact HB.out)⟩⟩
            ·rw [if_neg c39] at H
             exact absurd H (by simp)
           ·replace c38 := Bool.eq_false_iff.mpr c38
            subst c38
            have H1 : (thermionkit_KitOf.l1 kj23 t242 x7_1 (wrap64 (x9_2 + 1)) t258 x242000_1 t239 x249000_2 x249001_2 t244 t246) = some (r1, r2, r3) := by rw [if_neg (show ¬ (false = true) by decide)] at H; exact H
            clear H
            have H := H1
            clear H1
            have H' := Aside0.mk H
            clear H
            go_wp2_with (first | ((with_reducible refine gate_callee (f := 35) rfl ?_); refine goesL_ (some 52) rfl rfl Try.func35 (by kernel_rfl) rfl #[.pointer (some ⟨g, 0, none⟩), .int .i64 9] rfl (by (try simp only [List.map_toArray, List.map_cons, List.map_nil]); first | done | rfl | (simp only [List.length_drop, List.length_take]; rfl)) ?_; (with_reducible refine (thermionkit_Dice_One.calls g x1000_23 9 false t258 w0 _ ?side1 ?side2 A37.out).mono ?_); (case side1 => repeat (first | (with_reducible first | exact HI0.out | apply IsS118.alloc | apply IsS118.drewN | apply IsS118.drew | apply IsS118.set_0 | refine IsS118.far ?_ NB0_238.out _ | refine IsS118.far ?_ NB0_241.out _ | refine IsS118.far ?_ NB0_248.out _) | exact HI0.out)); (case side2 => repeat (first | (with_reducible first | exact HB.out | apply below_alloc | apply pw_below_drewN | apply below_drew1 | refine below_set ?_ (IsS118.ge HI0.out) | refine below_set ?_ GE238.out | refine below_set ?_ GE241.out | refine below_set ?_ GE248.out) | exact HB.out)); rintro e w48 ⟨rfl, hi, hb, hk⟩; refine ⟨_, rfl, ?_⟩; have n0_ := Aside0.mk (Kd.S_mono (Kd.S_keep (IsS118.apartS (show IsS118 w0 _ g x1000_23 from by repeat (first | (with_reducible first | exact HI0.out | apply IsS118.alloc | apply IsS118.drewN | apply IsS118.drew | apply IsS118.set_0 | refine IsS118.far ?_ NB0_238.out _ | refine IsS118.far ?_ NB0_241.out _ | refine IsS118.far ?_ NB0_248.out _) | exact HI0.out)) (by (with_reducible repeat (first | apply Kd.S_alloc | apply Kd.S_drewN | apply Kd.S_drew)); exact HO_242000.out) (by decide)) hk (fun _ h => h.2)) (fun _ h => h.1)); have n1_ := Aside0.mk (Kd.R_mono (Kd.R_keep (IsS118.apart (show IsS118 w0 _ g x1000_23 from by repeat (first | (with_reducible first | exact HI0.out | apply IsS118.alloc | apply IsS118.drewN | apply IsS118.drew | apply IsS118.set_0 | refine IsS118.far ?_ NB0_238.out _ | refine IsS118.far ?_ NB0_241.out _ | refine IsS118.far ?_ NB0_248.out _) | exact HI0.out)) (by (with_reducible repeat (first | apply Kd.R_alloc | apply Kd.R_drewN | apply Kd.R_drew)); exact HO_249000.out) (by decide)) hk (fun _ h => h.2)) (fun _ h => h.1)); have n2_ := Aside0.mk (Kd.R_mono (Kd.R_keep (IsS118.apart (show IsS118 w0 _ g x1000_23 from by repeat (first | (with_reducible first | exact HI0.out | apply IsS118.alloc | apply IsS118.drewN | apply IsS118.drew | apply IsS118.set_0 | refine IsS118.far ?_ NB0_238.out _ | refine IsS118.far ?_ NB0_241.out _ | refine IsS118.far ?_ NB0_248.out _) | exact HI0.out)) (by (with_reducible repeat (first | apply Kd.R_alloc | apply Kd.R_drewN | apply Kd.R_drew)); exact HO_249001.out) (by decide)) hk (fun _ h => h.2)) (fun _ h => h.1)); have n3_ := Aside0.mk (KeepBut.blk hk (g' := gb238) (o := .cells #[.slice none 0 0, .int .i64 0] 49 (0, 0)) (by (with_reducible repeat (first | refine blk_drewN ?_ _ | refine blk_drew ?_ | refine blk_alloc ?_ _)); exact BK238.out) NB238_0.out (by simp)); have n4_ := Aside0.mk (KeepBut.blk hk (g' := gb241) (o := .cells #[u242000, .int .i64 t239] 49 (0, 0)) (by (with_reducible repeat (first | refine blk_drewN ?_ _ | refine blk_drew ?_ | refine blk_alloc ?_ _)); exact BK241.out) NB241_0.out (by simp)); have n5_ := Aside0.mk (KeepBut.blk hk (g' := gb248) (o := .cells #[u249000, u249001, .int .i64 t244, .int .i64 t246] 57 (0, 0)) (by (with_reducible repeat (first | refine blk_drewN ?_ _ | refine blk_drew ?_ | refine blk_alloc ?_ _)); exact BK248.out) NB248_0.out (by simp)); have n6_ := Aside0.mk (KeepBut.trans (by repeat (first | (with_reducible first | exact HK.out | apply KeepBut.set_ | apply keep_drewN | apply keep_drew | apply keep_alloc | refine keep_far ?_ GW238.out _ | refine keep_far ?_ GW241.out _ | refine keep_far ?_ GW248.out _) | exact HK.out)) hk (.inl rfl)); have n7_ := Aside0.mk (hb); have n8_ := Aside0.mk (hi); clear HO_242000; clear HO_249000; clear HO_249001; clear BK238; clear BK241; clear BK248; clear HK; clear HB; clear HI0; have HO_242000 := n0_; have HO_249000 := n1_; have HO_249001 := n2_; have BK238 := n3_; have BK241 := n4_; have BK248 := n5_; have HK := n6_; have HB := n7_; have HI0 := n8_; clear n0_ n1_ n2_ n3_ n4_ n5_ n6_ n7_ n8_; (try clear hb); (try clear hb2); (try clear hk); (try clear hi)))
            go_roundg kj23
            case measure => have := HK1.out; have := HK2.out; have := HJ23.out; omega
            case rel => exact ⟨(wrap64 (x9_2 + 1)), (t258), (x249000_2), (x249001_2), (u249000), (u249001), (by first | rfl | (simp; done) | (simp [*]; done)), H', ⟨by have := HK1.out; have := HK2.out; have := HJ23.out; omega⟩, ⟨by (with_reducible repeat (first | apply Kd.S_alloc | apply Kd.S_drewN | apply Kd.S_drew)); exact HO_242000.out⟩, ⟨by (with_reducible repeat (first | apply Kd.R_alloc | apply Kd.R_drewN | apply Kd.R_drew)); exact HO_249000.out⟩, ⟨by (with_reducible repeat (first | apply Kd.R_alloc | apply Kd.R_drewN | apply Kd.R_drew)); exact HO_249001.out⟩, ⟨by (with_reducible repeat (first | refine blk_drewN ?_ _ | refine blk_drew ?_ | refine blk_alloc ?_ _)); exact BK238.out⟩, ⟨by (with_reducible repeat (first | refine blk_drewN ?_ _ | refine blk_drew ?_ | refine blk_alloc ?_ _)); exact BK241.out⟩, ⟨by (with_reducible repeat (first | refine blk_drewN ?_ _ | refine blk_drew ?_ | refine blk_alloc ?_ _)); exact BK248.out⟩, ⟨by repeat (first | (with_reducible first | exact HI0.out | apply IsS118.alloc | apply IsS118.drewN | apply IsS118.drew | apply IsS118.set_0 | refine IsS118.far ?_ NB0_238.out _ | refine IsS118.far ?_ NB0_241.out _ | refine IsS118.far ?_ NB0_248.out _) | exact HI0.out)⟩, ⟨by repeat (first | (with_reducible first | exact HK.out | apply KeepBut.set_ | apply keep_drewN | apply keep_drew | apply keep_alloc | refine keep_far ?_ GW238.out _ | refine keep_far ?_ GW241.out _ | refine keep_far ?_ GW248.out _) | exact HK.out)⟩, ⟨by repeat (first | (with_reducible first | exact HB.out | apply below_alloc | apply pw_below_drewN | apply below_drew1 | refine below_set ?_ (IsS118.ge HI0.out) | refine below_set ?_ GE238.out | refine below_set ?_ GE241.out | refine below_set ?_ GE248.out) | exact HB.out)⟩⟩
      ·rw [if_neg c22] at H
       have c22b0 : decide (x9_2 < t242) = false := decide_eq_false c22
       clear c22
       by_cases c49 : x242000_1.length < 2199023255552
       ·rw [if_pos c49] at H
        have LMc49 := Aside0.mk c49
        clear c49
        obtain ⟨y249, hy249⟩ : ∃ y_ : List (S57), y_ = (x242000_1 ++ [(⟨x249000_2, x249001_2, t244, t246⟩ : S57)]) := ⟨_, rfl⟩
        replace H : (thermionkit_KitOf.l0 k2 t242 (wrap64 (x7_1 + 1)) x1000_2 y249 t239) = some (r1, r2, r3) := by first | (rw [hy249]; with_reducible exact H) | (have H2_ := (Option.bind_some _ _).symm.trans H; rw [hy249]; with_reducible exact H2_) | (have H2_ := (Option.bind_some _ _).symm.trans H; with_reducible exact H2_) | with_reducible exact H | (rw [hy249]; exact H) | exact H
        have Ny249 := Aside0.mk hy249
        clear hy249
        have H' := Aside0.mk H
        clear H
        have hnb50 := NB241_238.out
        have hnc50 := NB238_241.out
        have hnb51 := NB241_248.out
        have hnc51 := NB248_241.out
        have hnb52 := NB241_0.out
        have hnc52 := NB0_241.out
        have hcz53_0 : wr.cell? ⟨gb241, 0, none⟩ = some (u242000) := (blk_cell BK241.out 0).trans rfl
        have hcz53_1 : wr.cell? ⟨gb241, 1, none⟩ = some (.int .i64 t239) := (blk_cell BK241.out 1).trans rfl
        have hfz53_0 := blk_frozen BK241.out 0
        have hfz53_1 := blk_frozen BK241.out 1
        have hnb54 := NB248_238.out
        have hnc54 := NB238_248.out
        have hnb55 := NB248_0.out
        have hnc55 := NB0_248.out
        have hcz56_0 : wr.cell? ⟨gb248, 0, none⟩ = some (u249000) := (blk_cell BK248.out 0).trans rfl
        have hcz56_1 : wr.cell? ⟨gb248, 1, none⟩ = some (u249001) := (blk_cell BK248.out 1).trans rfl
        have hcz56_2 : wr.cell? ⟨gb248, 2, none⟩ = some (.int .i64 t244) := (blk_cell BK248.out 2).trans rfl
        have hcz56_3 : wr.cell? ⟨gb248, 3, none⟩ = some (.int .i64 t246) := (blk_cell BK248.out 3).trans rfl
        have hfz56_0 := blk_frozen BK248.out 0
        have hfz56_1 := blk_frozen BK248.out 1
        have hfz56_2 := blk_frozen BK248.out 2
        have hfz56_3 := blk_frozen BK248.out 3
        obtain ⟨Ao58, co58, eo58⟩ := Kd.R_slice HO_249000.out
        subst eo58
        obtain ⟨Ao59, co59, eo59⟩ := Kd.R_slice HO_249001.out
        subst eo59
        go_wp2_with (first | ((with_reducible refine gate_builtin (b := .append) (xs := #[.tmp 60, .tmp 62]) rfl ?_); at_builtin; refine Kd.S_append k57 w.heap.size rfl (.tmp 60) (.tmp 62) 47 57 (.agg #[(.slice none 0 0), (.slice none 0 0), (.int .i64 0), (.int .i64 0)]) 64 rfl Try.underlying47 info57 rfl (by decide) (by omega) u242000 x242000_1 (⟨x249000_2, x249001_2, t244, t246⟩ : S57) [.slice Ao58 x249000_2.length co58, .slice Ao59 x249001_2.length co59, .int .i64 t244, .int .i64 t246] (fun k_ => k_ ≠ gb248) (fun k_ => some k_ = (.slice Ao58 x249000_2.length co58 : Value).ownBlock ∨ some k_ = (.slice Ao59 x249001_2.length co59 : Value).ownBlock) rfl rfl ?aP (fun k_ hk_ => hk_.elim (fun h_ => ((Kd.R_mono (ok' := fun k_ => ((fun k_ => k_ ≠ gb248)) k_ ∧ some k_ ≠ (u242000 : Value).ownBlock) (Kd.R_types (Kd.R_apart' (HO_249000.out) (Kd.S_typed HO_242000.out) (by decide)) BK248.out (by decide)) (fun k_ hk => ⟨hk.2, hk.1.2⟩))).1 k_ h_.symm) (fun h_ => ((Kd.R_mono (ok' := fun k_ => ((fun k_ => k_ ≠ gb248)) k_ ∧ some k_ ≠ (u242000 : Value).ownBlock) (Kd.R_types (Kd.R_apart' (HO_249001.out) (Kd.S_typed HO_242000.out) (by decide)) BK248.out (by decide)) (fun k_ hk => ⟨hk.2, hk.1.2⟩))).1 k_ h_.symm)) ?aF ?aO (Below.refl _ _) ?aS ?aL ?_; (case aP => exact k57_mkM _ _ _ (⟨x249000_2, x249001_2, t244, t246⟩ : S57) (Kd.R_mono (Kd.R_tight rfl (Kd.R_mono (ok' := fun k_ => ((fun k_ => k_ ≠ gb248)) k_ ∧ some k_ ≠ (u242000 : Value).ownBlock) (Kd.R_types (Kd.R_apart' (HO_249000.out) (Kd.S_typed HO_242000.out) (by decide)) BK248.out (by decide)) (fun k_ hk => ⟨hk.2, hk.1.2⟩))) (fun _ h_ => Or.inl h_)) (Kd.R_mono (Kd.R_tight rfl (Kd.R_mono (ok' := fun k_ => ((fun k_ => k_ ≠ gb248)) k_ ∧ some k_ ≠ (u242000 : Value).ownBlock) (Kd.R_types (Kd.R_apart' (HO_249001.out) (Kd.S_typed HO_242000.out) (by decide)) BK248.out (by decide)) (fun k_ hk => ⟨hk.2, hk.1.2⟩))) (fun _ h_ => Or.inr (h_)))); (case aF => exact (fun k_ hk => Kd.freshB (g := gb248) (o := .cells #[.slice Ao58 x249000_2.length co58, .slice Ao59 x249001_2.length co59, .int .i64 t244, .int .i64 t246] 57 (0, 0)) (by (with_reducible repeat (first | refine blk_drewN ?_ _ | refine blk_drew ?_ | refine blk_alloc ?_ _)); exact BK248.out) k_ hk)); (case aO => exact (by (with_reducible repeat (first | apply Kd.S_alloc | apply Kd.S_drewN | apply Kd.S_drew)); exact Kd.S_mono HO_242000.out (fun k_ hk => ⟨hk.2.2, fun e_ => e_.elim (fun h_ => hk.1 h_) (fun h_ => hk.2.1 h_)⟩))); (case aS => exact (keep_size (w := w) (g := g) (row := none) (by repeat (first | (with_reducible first | exact HK.out | apply KeepBut.set_ | apply keep_drewN | apply keep_drew | apply keep_alloc | refine keep_far ?_ GW238.out _ | refine keep_far ?_ GW241.out _ | refine keep_far ?_ GW248.out _) | exact HK.out)))); (case aL => have := LMc49.out; omega); intro v250 w57 ho hb hg hat; rw [← Ny249.out] at ho; have n0_ := Aside0.mk (blk_grown (g := gb238) (o := .cells #[.slice none 0 0, .int .i64 0] 49 (0, 0)) (by (with_reducible repeat (first | refine blk_drewN ?_ _ | refine blk_drew ?_ | refine blk_alloc ?_ _)); exact BK238.out) hg (Kd.S_ne HO_242000.out BK238.out (by decide))); have n1_ := Aside0.mk (blk_grown (g := gb241) (o := .cells #[u242000, .int .i64 t239] 49 (0, 0)) (by (with_reducible repeat (first | refine blk_drewN ?_ _ | refine blk_drew ?_ | refine blk_alloc ?_ _)); exact BK241.out) hg (Kd.S_ne HO_242000.out BK241.out (by decide))); have n2_ := Aside0.mk (blk_grown (g := gb248) (o := .cells #[.slice Ao58 x249000_2.length co58, .slice Ao59 x249001_2.length co59, .int .i64 t244, .int .i64 t246] 57 (0, 0)) (by (with_reducible repeat (first | refine blk_drewN ?_ _ | refine blk_drew ?_ | refine blk_alloc ?_ _)); exact BK248.out) hg (Kd.S_away HO_242000.out (fun _ hk => hk.2.2))); have n3_ := Aside0.mk (IsS118.grown (by repeat (first | (with_reducible first | exact HI0.out | apply IsS118.alloc | apply IsS118.drewN | apply IsS118.drew | apply IsS118.set_0 | refine IsS118.far ?_ NB0_238.out _ | refine IsS118.far ?_ NB0_241.out _ | refine IsS118.far ?_ NB0_248.out _) | exact HI0.out)) hg (IsS118.own_neS HI0.out HO_242000.out (by decide))); have n4_ := Aside0.mk (below_weaken (by repeat (first | (with_reducible first | exact HB.out | apply below_alloc | apply pw_below_drewN | apply below_drew1 | refine below_set ?_ (IsS118.ge HI0.out) | refine below_set ?_ GE238.out | refine below_set ?_ GE241.out | refine below_set ?_ GE248.out) | exact HB.out)) HL.out hb); have n5_ := Aside0.mk (KeepBut.trans (by repeat (first | (with_reducible first | exact HK.out | apply KeepBut.set_ | apply keep_drewN | apply keep_drew | apply keep_alloc | refine keep_far ?_ GW238.out _ | refine keep_far ?_ GW241.out _ | refine keep_far ?_ GW248.out _) | exact HK.out)) (KeepBut.of_grown hg g) (Kd.S_base2 HO_242000.out)); have n6_ := Aside0.mk (ho); clear BK238; clear BK241; clear BK248; clear HI0; clear HB; clear HK; clear HO_242000; clear HO_249000; clear HO_249001; have BK238 := n0_; have BK241 := n1_; have BK248 := n2_; have HI0 := n3_; have HB := n4_; have HK := n5_; have HO251 := n6_; clear n0_ n1_ n2_ n3_ n4_ n5_ n6_; clear ho hb hg hat; obtain ⟨Ao60, co60, eo60⟩ := Kd.S_slice HO251.out; subst eo60; have hcz61_0 : w57.cell? ⟨gb241, 0, none⟩ = some (u242000) := (blk_cell BK241.out 0).trans rfl; have hcz61_1 : w57.cell? ⟨gb241, 1, none⟩ = some (.int .i64 t239) := (blk_cell BK241.out 1).trans rfl; have hfz61_0 := blk_frozen BK241.out 0; have hfz61_1 := blk_frozen BK241.out 1))
        go_roundg k2
        case measure => have := HK1.out; have := HK2.out; omega
        case rel => exact ⟨(wrap64 (x7_1 + 1)), (x1000_2), (y249), (.slice Ao60 y249.length co60), (by first | rfl | (simp; done) | (simp [*]; done)), H', ⟨by have := HK1.out; have := HK2.out; omega⟩, ⟨by (with_reducible repeat (first | apply Kd.S_alloc | apply Kd.S_drewN | apply Kd.S_drew)); exact Kd.S_mono (Kd.S_far (p := ⟨gb241, 0, none⟩) (Kd.S_types HO251.out BK241.out (by decide)) (fun _ hk => hk.2) (.slice Ao60 y249.length co60)) (fun _ hk => trivial)⟩, ⟨by (with_reducible repeat (first | refine blk_drewN ?_ _ | refine blk_drew ?_ | refine blk_alloc ?_ _)); refine blk_far ?_ NB238_241.out _; (with_reducible repeat (first | refine blk_drewN ?_ _ | refine blk_drew ?_ | refine blk_alloc ?_ _)); exact BK238.out⟩, ⟨by (with_reducible repeat (first | refine blk_drewN ?_ _ | refine blk_drew ?_ | refine blk_alloc ?_ _)); refine blk_put (cs := #[u242000, .int .i64 t239]) ?_ 0 _ rfl; (with_reducible repeat (first | refine blk_drewN ?_ _ | refine blk_drew ?_ | refine blk_alloc ?_ _)); exact BK241.out⟩, ⟨by repeat (first | (with_reducible first | exact HI0.out | apply IsS118.alloc | apply IsS118.drewN | apply IsS118.drew | apply IsS118.set_0 | refine IsS118.far ?_ NB0_238.out _ | refine IsS118.far ?_ NB0_241.out _ | refine IsS118.far ?_ NB0_248.out _) | exact HI0.out)⟩, ⟨by repeat (first | (with_reducible first | exact HK.out | apply KeepBut.set_ | apply keep_drewN | apply keep_drew | apply keep_alloc | refine keep_far ?_ GW238.out _ | refine keep_far ?_ GW241.out _ | refine keep_far ?_ GW248.out _) | exact HK.out)⟩, ⟨by repeat (first | (with_reducible first | exact HB.out | apply below_alloc | apply pw_below_drewN | apply below_drew1 | refine below_set ?_ (IsS118.ge HI0.out) | refine below_set ?_ GE238.out | refine below_set ?_ GE241.out | refine below_set ?_ GE248.out) | exact HB.out)⟩⟩
       ·rw [if_neg c49] at H
        exact absurd H (by simp)
   ·rw [if_neg c12] at H
    have c12b0 : decide (x7_1 < t242) = false := decide_eq_false c12
    clear c12
    simp only [Option.some.injEq, Prod.mk.injEq] at H
    obtain ⟨rfl, rfl, rfl⟩ := H
    have hnb62 := NB241_238.out
    have hnc62 := NB238_241.out
    have hnb63 := NB241_0.out
    have hnc63 := NB0_241.out
    have hcz64_0 : wr.cell? ⟨gb241, 0, none⟩ = some (u242000) := (blk_cell BK241.out 0).trans rfl
    have hcz64_1 : wr.cell? ⟨gb241, 1, none⟩ = some (.int .i64 t239) := (blk_cell BK241.out 1).trans rfl
    have hfz64_0 := blk_frozen BK241.out 0
    have hfz64_1 := blk_frozen BK241.out 1
    obtain ⟨Ao65, co65, eo65⟩ := Kd.S_slice HO_242000.out
    subst eo65
    have hnb66 := NB238_0.out
    have hnc66 := NB0_238.out
    have hcz67_0 : wr.cell? ⟨gb238, 0, none⟩ = some (.slice none 0 0) := (blk_cell BK238.out 0).trans rfl
    have hcz67_1 : wr.cell? ⟨gb238, 1, none⟩ = some (.int .i64 0) := (blk_cell BK238.out 1).trans rfl
    have hfz67_0 := blk_frozen BK238.out 0
    have hfz67_1 := blk_frozen BK238.out 1
    go_wp2
    refine bodyPost_ret (results_cell_row rfl _ _ gb238 49 #[.slice Ao65 x242000_1.length co65, .int .i64 t239] (0, 0) _ rfl (by (with_reducible repeat (first | refine blk_drewN ?_ _ | refine blk_drew ?_ | refine blk_alloc ?_ _)); refine blk_put (cs := #[.slice Ao65 x242000_1.length co65, .int .i64 0]) ?_ 1 _ rfl; (with_reducible repeat (first | refine blk_drewN ?_ _ | refine blk_drew ?_ | refine blk_alloc ?_ _)); refine blk_put (cs := #[.slice none 0 0, .int .i64 0]) ?_ 0 _ rfl; (with_reducible repeat (first | refine blk_drewN ?_ _ | refine blk_drew ?_ | refine blk_alloc ?_ _)); exact BK238.out) Try.underlying49 rfl (by kernel_rfl)) rfl ?_
    exact ⟨_, by first | rfl | (simp [errW_none, errW_some] <;> rfl) | (simp [*, errW_none, errW_some] <;> rfl), by (with_reducible repeat (first | apply Kd.S_alloc | apply Kd.S_drewN | apply Kd.S_drew)); exact Kd.S_mono (Kd.S_far (p := ⟨gb238, 1, none⟩) (Kd.S_far (p := ⟨gb238, 0, none⟩) (Kd.S_types HO_242000.out BK238.out (by decide)) (fun _ hk => hk.2) (.slice Ao65 x242000_1.length co65)) (fun _ hk => hk.2) (.int .i64 t239)) (fun _ hk => trivial), by repeat (first | (with_reducible first | exact HI0.out | apply IsS118.alloc | apply IsS118.drewN | apply IsS118.drew | apply IsS118.set_0 | refine IsS118.far ?_ NB0_238.out _ | refine IsS118.far ?_ NB0_241.out _) | exact HI0.out), by repeat (first | (with_reducible first | exact HB.out | apply below_alloc | apply pw_below_drewN | apply below_drew1 | refine below_set ?_ (IsS118.ge HI0.out) | refine below_set ?_ GE238.out | refine below_set ?_ GE241.out) | exact HB.out), by repeat (first | (with_reducible first | exact HK.out | apply KeepBut.set_ | apply keep_drewN | apply keep_drew | apply keep_alloc | refine keep_far ?_ GW238.out _ | refine keep_far ?_ GW241.out _) | exact HK.out)⟩

end Go.Proofs.Ytbcfphoheijmdaa.Print
end

section
/- What the Go function thermionkit_Has does, as a Lean function, and that its call does so. Printed by a program of this work out of the translation. -/
namespace Go.Proofs.Ytbcfphoheijmdaa.Print
open Go.RowKit Go.Proofs.YtbcfphoheijmdaaW.PrintWords Go.Proofs.YtbcfphoheijmdaaW.PrintLast Go.Proofs.YtbcfphoheijmdaaW.PrintMore
attribute [local go_sem] max2_int min2_int max_two min_two max_three min_three max_four min_four
set_option linter.unusedVariables false
set_option linter.unusedSimpArgs false

/-! ### thermionkit_Has: function 32 -/
def thermionkit_Has.l0 : Nat → List Int → Int → Int → Option (Bool)
 | 0, _, _, _ => none
 | k + 1, x0, x1, x5 => if x5 < (x0.length : Int) then (if 0 ≤ x5 then (if (rd x0 x5) = x1 then (some true) else (thermionkit_Has.l0 k x0 x1 (wrap64 (x5 + 1)))) else (none)) else (some false)
def thermionkit_Has.f (k : Nat) (l0 : List Int) (a1 : Int) : Option (Bool) := thermionkit_Has.l0 k l0 a1 0
theorem thermionkit_Has.mono_l : ∀ k, (∀ y0 y1 y2, LeO (thermionkit_Has.l0 k y0 y1 y2) (thermionkit_Has.l0 (k + 1) y0 y1 y2))
 | 0 => fun _ _ _ r h => by simp [thermionkit_Has.l0] at h
 | k + 1 => by
  have ih0 := thermionkit_Has.mono_l k
  ·intro y0 y1 y2
   unfold thermionkit_Has.l0
   repeat' first
   | (with_reducible exact ih0 _ _ _)
   | (with_reducible exact LeO.refl _)
   | (with_reducible exact LeO.none _)
   | (with_reducible refine LeO.ite ?_ ?_)
   | (with_reducible refine LeO.bind ?_ (fun _ => ?_))
   | exact ih0 _ _ _
   | exact LeO.none _
   | refine LeO.ite ?_ ?_
   | refine LeO.bind ?_ (fun _ => ?_)
theorem thermionkit_Has.mono : ∀ a0 a1 k, LeO (thermionkit_Has.f k a0 a1) (thermionkit_Has.f (k + 1) a0 a1) := by
 intro a0 a1 k
 have ih0 := thermionkit_Has.mono_l k
 unfold thermionkit_Has.f
 repeat' first
   | (with_reducible exact ih0 _ _ _)
   | (with_reducible exact LeO.refl _)
   | (with_reducible exact LeO.none _)
   | (with_reducible refine LeO.ite ?_ ?_)
   | (with_reducible refine LeO.bind ?_ (fun _ => ?_))
   | exact ih0 _ _ _
   | exact LeO.none _
   | refine LeO.ite ?_ ?_
   | refine LeO.bind ?_ (fun _ => ?_)
set_option maxHeartbeats 8000000 in
set_option maxRecDepth 100000 in
theorem thermionkit_Has.calls (k : Nat) (A0 : Option Addr) (c0 : Nat) (l0 : List Int) (a1 : Int) (r : Bool) (w : World) (hr0 : Kd.C (Kd.int .i64) w A0 l0.length l0) (hc0 : l0.length ≤ c0) (h : thermionkit_Has.f k l0 a1 = some r) :
  Calls Try.prog 32 #[.slice A0 l0.length c0, .int .i64 a1] w fun e w' => e = .returned (.bool r) ∧ Drawn0 w w' := by
 have HR0 := Aside0.mk hr0
 have HC0 := Aside0.mk hc0
 clear hr0 hc0
 have H : (thermionkit_Has.l0 k l0 a1 0) = some r := h
 clear h
 have H' := Aside0.mk H
 clear H
 go_enter Try.func32, Try.ntmps32
 go_wp2
 go_loopg [5] k (fun kq v5 w' => ∃ (x5_1 : Int), v5 = .int .i64 x5_1 ∧ Aside0 (thermionkit_Has.l0 kq l0 a1 x5_1 = some r) ∧ Aside0 (kq ≤ k) ∧ Drawn0 w w')
 case atStart => exact ⟨(0), (by first | rfl | (simp; done) | (simp [*]; done)), H', ⟨Nat.le_refl _⟩, by repeat (first | exact Drawn0.refl _ | apply Drawn0.step)⟩
 case round =>
  clear H'
  try clear p2
  obtain ⟨x5_1, rfl, HA, HK1, ⟨m1, rfl⟩⟩ := hrel
  cases gk with
  | zero => exact absurd HA.out (by simp [thermionkit_Has.l0])
  | succ k1 =>
   have H := HA.out
   clear HA
   simp only [thermionkit_Has.l0] at H
   by_cases c3 : x5_1 < (l0.length : Int)
   ·rw [if_pos c3] at H
    have c3b0 : decide (x5_1 < (l0.length : Int)) = true := decide_eq_true c3
    clear c3
    by_cases c4 : 0 ≤ x5_1
    ·rw [if_pos c4] at H
     have c4b0 : decide (0 ≤ x5_1) = true := decide_eq_true c4
     clear c4
     by_cases c5 : (rd l0 x5_1) = a1
     ·rw [if_pos c5] at H
      have c5b0 : ((rd l0 x5_1) == a1) = true := beq_iff_eq.mpr c5
      have c5b1 : ((rd l0 x5_1) != a1) = false := bne_eq_false_iff_eq.mpr c5
      clear c5
      obtain rfl := Option.some.inj H
      have p262 : 0 ≤ (x5_1 : Int) := of_decide_eq_true (by first | (with_reducible assumption) | assumption)
      have q262 : x5_1 < (l0.length : Int) := of_decide_eq_true (by first | (with_reducible assumption) | assumption)
      obtain ⟨ad262, e262, hx262_0⟩ := Kd.at_int HR0.out x5_1 p262 q262
      cases e262
      replace p262 := eq_true p262
      replace q262 := eq_true q262
      go_wp2
      go_ret
      exact ⟨by first | rfl | (simp; done) | (simp [*]; done), by repeat (first | exact Drawn0.refl _ | apply Drawn0.step)⟩
     ·rw [if_neg c5] at H
      have c5b0 : ((rd l0 x5_1) == a1) = false := beq_eq_false_iff_ne.mpr c5
      have c5b1 : ((rd l0 x5_1) != a1) = true := bne_iff_ne.mpr c5
      have H' := Aside0.mk H
      clear H
      have p262 : 0 ≤ (x5_1 : Int) := of_decide_eq_true (by first | (with_reducible assumption) | assumption)
      have q262 : x5_1 < (l0.length : Int) := of_decide_eq_true (by first | (with_reducible assumption) | assumption)
      obtain ⟨ad262, e262, hx262_0⟩ := Kd.at_int HR0.out x5_1 p262 q262
      cases e262
      replace p262 := eq_true p262
      replace q262 := eq_true q262
      go_wp2
      go_roundg k1
      case measure => have := HK1.out; omega
      case rel => exact ⟨(wrap64 (x5_1 + 1)), (by first | rfl | (simp; done) | (simp [*]; done)), H', ⟨by have := HK1.out; omega⟩, by repeat (first | exact Drawn0.refl _ | apply Drawn0.step)⟩
    ·rw [if_neg c4] at H
     exact absurd H (by simp)
   ·rw [if_neg c3] at H
    have c3b0 : decide (x5_1 < (l0.length : Int)) = false := decide_eq_false c3
    clear c3
    obtain rfl := Option.some.inj H
    go_wp2
    go_ret
    exact ⟨by first | rfl | (simp; done) | (simp [*]; done), by repeat (first | exact Drawn0.refl _ | apply Drawn0.step)⟩

end Go.Proofs.Ytbcfphoheijmdaa.Print
end

section
/- What the Go function thermionlaw04_put does, as a Lean function, and that its call does so. Printed by a program of this work out of the translation. -/
namespace Go.Proofs.Ytbcfphoheijmdaa.Print
open Go.RowKit Go.Proofs.YtbcfphoheijmdaaW.PrintWords Go.Proofs.YtbcfphoheijmdaaW.PrintLast Go.Proofs.YtbcfphoheijmdaaW.PrintMore
attribute [local go_sem] max2_int min2_int max_two min_two max_three min_three max_four min_four
set_option linter.unusedVariables false
set_option linter.unusedSimpArgs false

/-! ### thermionlaw04_put: function 33 -/
def thermionlaw04_put.l0 : Nat → List Int → Int → List Int → Bool → Int → Option (List Int)
 | 0, _, _, _, _, _ => none
 | k + 1, x0, x1, x5, x6, x7 => if x7 < (x0.length : Int) then (if x6 = true then (if 0 ≤ x7 then (if x5.length < 17592186044416 then (thermionlaw04_put.l0 k x0 x1 (x5 ++ [rd x0 x7]) x6 (wrap64 (x7 + 1))) else (none)) else (none)) else (if 0 ≤ x7 then (if (rd x0 x7) > x1 then (if x5.length < 17592186044416 then ((some (x5 ++ [x1] : List Int)).bind fun y268 => (if y268.length < 17592186044416 then (thermionlaw04_put.l0 k x0 x1 (y268 ++ [rd x0 x7]) true (wrap64 (x7 + 1))) else (none))) else (none)) else (if x5.length < 17592186044416 then (thermionlaw04_put.l0 k x0 x1 (x5 ++ [rd x0 x7]) x6 (wrap64 (x7 + 1))) else (none))) else (none))) else (if x6 = true then (some x5) else (if x5.length < 17592186044416 then (some (x5 ++ [x1])) else (none)))
def thermionlaw04_put.f (k : Nat) (l0 : List Int) (a1 : Int) : Option (List Int) := thermionlaw04_put.l0 k l0 a1 ([] : List Int) false 0
theorem thermionlaw04_put.mono_l : ∀ k, (∀ y0 y1 y2 y3 y4, LeO (thermionlaw04_put.l0 k y0 y1 y2 y3 y4) (thermionlaw04_put.l0 (k + 1) y0 y1 y2 y3 y4))
 | 0 => fun _ _ _ _ _ r h => by simp [thermionlaw04_put.l0] at h
 | k + 1 => by
  have ih0 := thermionlaw04_put.mono_l k
  ·intro y0 y1 y2 y3 y4
   unfold thermionlaw04_put.l0
   repeat' first
   | (with_reducible exact ih0 _ _ _ _ _)
   | (with_reducible exact LeO.refl _)
   | (with_reducible exact LeO.none _)
   | (with_reducible refine LeO.ite ?_ ?_)
   | (with_reducible refine LeO.bind ?_ (fun _ => ?_))
   | exact ih0 _ _ _ _ _
   | exact LeO.none _
   | refine LeO.ite ?_ ?_
   | refine LeO.bind ?_ (fun _ => ?_)
theorem thermionlaw04_put.mono : ∀ a0 a1 k, LeO (thermionlaw04_put.f k a0 a1) (thermionlaw04_put.f (k + 1) a0 a1) := by
 intro a0 a1 k
 have ih0 := thermionlaw04_put.mono_l k
 unfold thermionlaw04_put.f
 repeat' first
   | (with_reducible exact ih0 _ _ _ _ _)
   | (with_reducible exact LeO.refl _)
   | (with_reducible exact LeO.none _)
   | (with_reducible refine LeO.ite ?_ ?_)
   | (with_reducible refine LeO.bind ?_ (fun _ => ?_))
   | exact ih0 _ _ _ _ _
   | exact LeO.none _
   | refine LeO.ite ?_ ?_
   | refine LeO.bind ?_ (fun _ => ?_)
set_option maxHeartbeats 8000000 in
set_option maxRecDepth 100000 in
theorem thermionlaw04_put.calls (k : Nat) (A0 : Option Addr) (c0 : Nat) (l0 : List Int) (a1 : Int) (r : List Int) (w : World) (hr0 : Kd.C (Kd.int .i64) w A0 l0.length l0) (hc0 : l0.length ≤ c0) (h : thermionlaw04_put.f k l0 a1 = some r) :
  Calls Try.prog 33 #[.slice A0 l0.length c0, .int .i64 a1] w fun e w' => ∃ v0_ : Value, e = .returned (v0_) ∧ Kd.R (Kd.int .i64) 3 w' w.heap.size (fun _ => True) v0_ r ∧ Below w.heap.size w w' := by
 have HR0 := Aside0.mk hr0
 have HC0 := Aside0.mk hc0
 clear hr0 hc0
 have HB := Aside0.mk (Below.refl w.heap.size w)
 have H : (thermionlaw04_put.l0 k l0 a1 ([] : List Int) false 0) = some r := h
 clear h
 have H' := Aside0.mk H
 clear H
 go_enter Try.func33, Try.ntmps33
 go_wp2
 go_loopg [5, 6, 7] k (fun kq v5 v6 v7 w' => ∃ (x5_1 : List Int) (x6_1 : Bool) (x7_1 : Int), v6 = .bool x6_1 ∧ v7 = .int .i64 x7_1 ∧ Aside0 (thermionlaw04_put.l0 kq l0 a1 x5_1 x6_1 x7_1 = some r) ∧ Aside0 (kq ≤ k) ∧ Aside0 (Kd.R (Kd.int .i64) 3 w' w.heap.size (fun _ => True) v5 x5_1) ∧ Aside0 (Below w.heap.size w w'))
 case atStart => exact ⟨(([] : List Int)), (false), (0), (by first | rfl | (simp; done) | (simp [*]; done)), (by first | rfl | (simp; done) | (simp [*]; done)), H', ⟨Nat.le_refl _⟩, ⟨by first | exact Kd.R_nil _ _ _ _ _ | exact Kd.N_nil _ _ _ _ _ | exact Kd.V_nil _ _ _ _ _ | exact Kd.Q_nil _ _ _ _ _ | exact Kd.S_nil _ _ _ _ _⟩, ⟨by repeat (first | (with_reducible first | exact HB.out | apply below_alloc | apply pw_below_drewN | apply below_drew1) | exact HB.out)⟩⟩
 case round =>
  clear H'
  try clear p2
  obtain ⟨x5_1, x6_1, x7_1, rfl, rfl, HA, HK1, HO_5, HB⟩ := hrel
  cases gk with
  | zero => exact absurd HA.out (by simp [thermionlaw04_put.l0])
  | succ k1 =>
   have H := HA.out
   clear HA
   simp only [thermionlaw04_put.l0] at H
   by_cases c3 : x7_1 < (l0.length : Int)
   ·rw [if_pos c3] at H
    have c3b0 : decide (x7_1 < (l0.length : Int)) = true := decide_eq_true c3
    clear c3
    by_cases c4 : x6_1 = true
    ·subst c4
     have H1 : (if 0 ≤ x7_1 then (if x5_1.length < 17592186044416 then (thermionlaw04_put.l0 k1 l0 a1 (x5_1 ++ [rd l0 x7_1]) true (wrap64 (x7_1 + 1))) else (none)) else (none)) = some r := by rw [if_pos rfl] at H; exact H
     clear H
     have H := H1
     clear H1
     by_cases c5 : 0 ≤ x7_1
     ·rw [if_pos c5] at H
      have c5b0 : decide (0 ≤ x7_1) = true := decide_eq_true c5
      clear c5
      by_cases c6 : x5_1.length < 17592186044416
      ·rw [if_pos c6] at H
       have LMc6 := Aside0.mk c6
       clear c6
       obtain ⟨y264, hy264⟩ : ∃ y_ : List Int, y_ = (x5_1 ++ [rd l0 x7_1]) := ⟨_, rfl⟩
       replace H : (thermionlaw04_put.l0 k1 l0 a1 y264 true (wrap64 (x7_1 + 1))) = some r := by first | (rw [hy264]; with_reducible exact H) | (have H2_ := (Option.bind_some _ _).symm.trans H; rw [hy264]; with_reducible exact H2_) | (have H2_ := (Option.bind_some _ _).symm.trans H; with_reducible exact H2_) | with_reducible exact H | (rw [hy264]; exact H) | exact H
       have Ny264 := Aside0.mk hy264
       clear hy264
       have H' := Aside0.mk H
       clear H
       have p263 : 0 ≤ (x7_1 : Int) := of_decide_eq_true (by first | (with_reducible assumption) | assumption)
       have q263 : x7_1 < (l0.length : Int) := of_decide_eq_true (by first | (with_reducible assumption) | assumption)
       obtain ⟨ad263, e263, hx263_0⟩ := Kd.at_int HR0.out x7_1 p263 q263
       cases e263
       replace hx263_0 := (HB.out.cell (World.block_lt_of_cell? w _ hx263_0)).trans hx263_0
       replace p263 := eq_true p263
       replace q263 := eq_true q263
       go_wp2_with (first | ((with_reducible refine gate_builtin (b := .append) (xs := #[.tmp 28, .tmp 33]) rfl ?_); at_builtin; refine Kd.R_append (Kd.int .i64) (w0 := w) w.heap.size rfl (.tmp 28) (.tmp 33) 22 3 (.int .i64 0) 8 rfl Try.underlying22 info3 rfl (by decide) (by omega) u5 x5_1 (rd l0 x7_1) [.int .i64 (rd l0 x7_1)] (fun _ => True) (fun _ => False) rfl rfl ?aP (fun _ hk => hk.elim) ?aF ?aO ?aB ?aS ?aL ?_; (case aP => exact rfl); (case aB => exact (by repeat (first | (with_reducible first | exact HB.out | apply below_alloc | apply pw_below_drewN | apply below_drew1) | exact HB.out))); (case aF => exact (fun _ _ => trivial)); (case aO => exact (by (with_reducible repeat (first | apply Kd.R_alloc | apply Kd.R_drewN | apply Kd.R_drew)); exact HO_5.out)); (case aS => exact (below_size (by repeat (first | (with_reducible first | exact HB.out | apply below_alloc | apply pw_below_drewN | apply below_drew1) | exact HB.out)))); (case aL => have := LMc6.out; omega); intro v265 w7 ho hb hg hat; rw [← Ny264.out] at ho; have n0_ := Aside0.mk (hb); have n1_ := Aside0.mk (ho); clear HB; clear HO_5; have HB := n0_; have HO266 := n1_; clear n0_ n1_; clear ho hb hg hat))
       go_roundg k1
       case measure => have := HK1.out; omega
       case rel => exact ⟨(y264), (true), (wrap64 (x7_1 + 1)), (by first | rfl | (simp; done) | (simp [*]; done)), (by first | rfl | (simp; done) | (simp [*]; done)), H', ⟨by have := HK1.out; omega⟩, ⟨by (with_reducible repeat (first | apply Kd.R_alloc | apply Kd.R_drewN | apply Kd.R_drew)); exact HO266.out⟩, ⟨by repeat (first | (with_reducible first | exact HB.out | apply below_alloc | apply pw_below_drewN | apply below_drew1) | exact HB.out)⟩⟩
      ·rw [if_neg c6] at H
       exact absurd H (by simp)
     ·rw [if_neg c5] at H
      exact absurd H (by simp)
    ·replace c4 := Bool.eq_false_iff.mpr c4
     subst c4
     have H1 : (if 0 ≤ x7_1 then (if (rd l0 x7_1) > a1 then (if x5_1.length < 17592186044416 then ((some (x5_1 ++ [a1] : List Int)).bind fun y268 => (if y268.length < 17592186044416 then (thermionlaw04_put.l0 k1 l0 a1 (y268 ++ [rd l0 x7_1]) true (wrap64 (x7_1 + 1))) else (none))) else (none)) else (if x5_1.length < 17592186044416 then (thermionlaw04_put.l0 k1 l0 a1 (x5_1 ++ [rd l0 x7_1]) false (wrap64 (x7_1 + 1))) else (none))) else (none)) = some r := by rw [if_neg (show ¬ (false = true) by decide)] at H; exact H
     clear H
     have H := H1
     clear H1
     by_cases c8 : 0 ≤ x7_1
     ·rw [if_pos c8] at H
      have c8b0 : decide (0 ≤ x7_1) = true := decide_eq_true c8
      clear c8
      by_cases c9 : (rd l0 x7_1) > a1
      ·rw [if_pos c9] at H
       have c9b0 : decide (a1 < (rd l0 x7_1)) = true := decide_eq_true c9
       clear c9
       by_cases c10 : x5_1.length < 17592186044416
       ·rw [if_pos c10] at H
        have LMc10 := Aside0.mk c10
        clear c10
        obtain ⟨y268, hy268⟩ : ∃ y_ : List Int, y_ = (x5_1 ++ [a1]) := ⟨_, rfl⟩
        replace H : (if y268.length < 17592186044416 then (thermionlaw04_put.l0 k1 l0 a1 (y268 ++ [rd l0 x7_1]) true (wrap64 (x7_1 + 1))) else (none)) = some r := by first | (rw [hy268]; with_reducible exact H) | (have H2_ := (Option.bind_some _ _).symm.trans H; rw [hy268]; with_reducible exact H2_) | (have H2_ := (Option.bind_some _ _).symm.trans H; with_reducible exact H2_) | with_reducible exact H | (rw [hy268]; exact H) | exact H
        have Ny268 := Aside0.mk hy268
        clear hy268
        by_cases c11 : y268.length < 17592186044416
        ·rw [if_pos c11] at H
         have LMc11 := Aside0.mk c11
         clear c11
         obtain ⟨y272, hy272⟩ : ∃ y_ : List Int, y_ = (y268 ++ [rd l0 x7_1]) := ⟨_, rfl⟩
         replace H : (thermionlaw04_put.l0 k1 l0 a1 y272 true (wrap64 (x7_1 + 1))) = some r := by first | (rw [hy272]; with_reducible exact H) | (have H2_ := (Option.bind_some _ _).symm.trans H; rw [hy272]; with_reducible exact H2_) | (have H2_ := (Option.bind_some _ _).symm.trans H; with_reducible exact H2_) | with_reducible exact H | (rw [hy272]; exact H) | exact H
         have Ny272 := Aside0.mk hy272
         clear hy272
         have H' := Aside0.mk H
         clear H
         have p267 : 0 ≤ (x7_1 : Int) := of_decide_eq_true (by first | (with_reducible assumption) | assumption)
         have q267 : x7_1 < (l0.length : Int) := of_decide_eq_true (by first | (with_reducible assumption) | assumption)
         obtain ⟨ad267, e267, hx267_0⟩ := Kd.at_int HR0.out x7_1 p267 q267
         cases e267
         replace hx267_0 := (HB.out.cell (World.block_lt_of_cell? w _ hx267_0)).trans hx267_0
         replace p267 := eq_true p267
         replace q267 := eq_true q267
         go_wp2_with (first | ((with_reducible refine gate_builtin (b := .append) (xs := #[.tmp 24, .tmp 26]) rfl ?_); at_builtin; refine Kd.R_append (Kd.int .i64) (w0 := w) w.heap.size rfl (.tmp 24) (.tmp 26) 22 3 (.int .i64 0) 8 rfl Try.underlying22 info3 rfl (by decide) (by omega) u5 x5_1 a1 [.int .i64 a1] (fun _ => True) (fun _ => False) rfl rfl ?aP (fun _ hk => hk.elim) ?aF ?aO ?aB ?aS ?aL ?_; (case aP => exact rfl); (case aB => exact (by repeat (first | (with_reducible first | exact HB.out | apply below_alloc | apply pw_below_drewN | apply below_drew1) | exact HB.out))); (case aF => exact (fun _ _ => trivial)); (case aO => exact (by (with_reducible repeat (first | apply Kd.R_alloc | apply Kd.R_drewN | apply Kd.R_drew)); exact HO_5.out)); (case aS => exact (below_size (by repeat (first | (with_reducible first | exact HB.out | apply below_alloc | apply pw_below_drewN | apply below_drew1) | exact HB.out)))); (case aL => have := LMc10.out; omega); intro v269 w12 ho hb hg hat; rw [← Ny268.out] at ho; have n0_ := Aside0.mk (hb); have n1_ := Aside0.mk (ho); clear HB; clear HO_5; have HB := n0_; have HO270 := n1_; clear n0_ n1_; clear ho hb hg hat; have p271 : 0 ≤ (x7_1 : Int) := of_decide_eq_true (by first | (with_reducible assumption) | assumption); have q271 : x7_1 < (l0.length : Int) := of_decide_eq_true (by first | (with_reducible assumption) | assumption); obtain ⟨ad271, e271, hx271_0⟩ := Kd.at_int HR0.out x7_1 p271 q271; obtain rfl : ad267 = ad271 := (by injection e271); replace hx271_0 := (HB.out.cell (World.block_lt_of_cell? w _ hx271_0)).trans hx271_0; replace p271 := eq_true p271; replace q271 := eq_true q271) | ((with_reducible refine gate_builtin (b := .append) (xs := #[.tmp 28, .tmp 33]) rfl ?_); at_builtin; refine Kd.R_append (Kd.int .i64) (w0 := w) w.heap.size rfl (.tmp 28) (.tmp 33) 22 3 (.int .i64 0) 8 rfl Try.underlying22 info3 rfl (by decide) (by omega) v269 y268 (rd l0 x7_1) [.int .i64 (rd l0 x7_1)] (fun _ => True) (fun _ => False) rfl rfl ?aP (fun _ hk => hk.elim) ?aF ?aO ?aB ?aS ?aL ?_; (case aP => exact rfl); (case aB => exact (by repeat (first | (with_reducible first | exact HB.out | apply below_alloc | apply pw_below_drewN | apply below_drew1) | exact HB.out))); (case aF => exact (fun _ _ => trivial)); (case aO => exact (by (with_reducible repeat (first | apply Kd.R_alloc | apply Kd.R_drewN | apply Kd.R_drew)); exact HO270.out)); (case aS => exact (below_size (by repeat (first | (with_reducible first | exact HB.out | apply below_alloc | apply pw_below_drewN | apply below_drew1) | exact HB.out)))); (case aL => have := LMc11.out; omega); intro v273 w13 ho hb hg hat; rw [← Ny272.out] at ho; have n0_ := Aside0.mk (hb); have n1_ := Aside0.mk (ho); clear HB; clear HO270; have HB := n0_; have HO274 := n1_; clear n0_ n1_; clear ho hb hg hat))
         go_roundg k1
         case measure => have := HK1.out; omega
         case rel => exact ⟨(y272), (true), (wrap64 (x7_1 + 1)), (by first | rfl | (simp; done) | (simp [*]; done)), (by first | rfl | (simp; done) | (simp [*]; done)), H', ⟨by have := HK1.out; omega⟩, ⟨by (with_reducible repeat (first | apply Kd.R_alloc | apply Kd.R_drewN | apply Kd.R_drew)); exact HO274.out⟩, ⟨by repeat (first | (with_reducible first | exact HB.out | apply below_alloc | apply pw_below_drewN | apply below_drew1) | exact HB.out)⟩⟩
        ·rw [if_neg c11] at H
         exact absurd H (by simp)
       ·rw [if_neg c10] at H
        exact absurd H (by simp)
      ·rw [if_neg c9] at H
       have c9b0 : decide (a1 < (rd l0 x7_1)) = false := decide_eq_false c9
       clear c9
       by_cases c14 : x5_1.length < 17592186044416
       ·rw [if_pos c14] at H
        have LMc14 := Aside0.mk c14
        clear c14
        obtain ⟨y276, hy276⟩ : ∃ y_ : List Int, y_ = (x5_1 ++ [rd l0 x7_1]) := ⟨_, rfl⟩
        replace H : (thermionlaw04_put.l0 k1 l0 a1 y276 false (wrap64 (x7_1 + 1))) = some r := by first | (rw [hy276]; with_reducible exact H) | (have H2_ := (Option.bind_some _ _).symm.trans H; rw [hy276]; with_reducible exact H2_) | (have H2_ := (Option.bind_some _ _).symm.trans H; with_reducible exact H2_) | with_reducible exact H | (rw [hy276]; exact H) | exact H
        have Ny276 := Aside0.mk hy276
        clear hy276
        have H' := Aside0.mk H
        clear H
        have p267 : 0 ≤ (x7_1 : Int) := of_decide_eq_true (by first | (with_reducible assumption) | assumption)
        have q267 : x7_1 < (l0.length : Int) := of_decide_eq_true (by first | (with_reducible assumption) | assumption)
        obtain ⟨ad267, e267, hx267_0⟩ := Kd.at_int HR0.out x7_1 p267 q267
        cases e267
        replace hx267_0 := (HB.out.cell (World.block_lt_of_cell? w _ hx267_0)).trans hx267_0
        replace p267 := eq_true p267
        replace q267 := eq_true q267
        have p275 : 0 ≤ (x7_1 : Int) := of_decide_eq_true (by first | (with_reducible assumption) | assumption)
        have q275 : x7_1 < (l0.length : Int) := of_decide_eq_true (by first | (with_reducible assumption) | assumption)
        obtain ⟨ad275, e275, hx275_0⟩ := Kd.at_int HR0.out x7_1 p275 q275
        obtain rfl : ad267 = ad275 := (by injection e275)
        replace hx275_0 := (HB.out.cell (World.block_lt_of_cell? w _ hx275_0)).trans hx275_0
        replace p275 := eq_true p275
        replace q275 := eq_true q275
        go_wp2_with (first | ((with_reducible refine gate_builtin (b := .append) (xs := #[.tmp 28, .tmp 33]) rfl ?_); at_builtin; refine Kd.R_append (Kd.int .i64) (w0 := w) w.heap.size rfl (.tmp 28) (.tmp 33) 22 3 (.int .i64 0) 8 rfl Try.underlying22 info3 rfl (by decide) (by omega) u5 x5_1 (rd l0 x7_1) [.int .i64 (rd l0 x7_1)] (fun _ => True) (fun _ => False) rfl rfl ?aP (fun _ hk => hk.elim) ?aF ?aO ?aB ?aS ?aL ?_; (case aP => exact rfl); (case aB => exact (by repeat (first | (with_reducible first | exact HB.out | apply below_alloc | apply pw_below_drewN | apply below_drew1) | exact HB.out))); (case aF => exact (fun _ _ => trivial)); (case aO => exact (by (with_reducible repeat (first | apply Kd.R_alloc | apply Kd.R_drewN | apply Kd.R_drew)); exact HO_5.out)); (case aS => exact (below_size (by repeat (first | (with_reducible first | exact HB.out | apply below_alloc | apply pw_below_drewN | apply below_drew1) | exact HB.out)))); (case aL => have := LMc14.out; omega); intro v277 w15 ho hb hg hat; rw [← Ny276.out] at ho; have n0_ := Aside0.mk (hb); have n1_ := Aside0.mk (ho); clear HB; clear HO_5; have HB := n0_; have HO278 := n1_; clear n0_ n1_; clear ho hb hg hat))
        go_roundg k1
        case measure => have := HK1.out; omega
        case rel => exact ⟨(y276), (false), (wrap64 (x7_1 + 1)), (by first | rfl | (simp; done) | (simp [*]; done)), (by first | rfl | (simp; done) | (simp [*]; done)), H', ⟨by have := HK1.out; omega⟩, ⟨by (with_reducible repeat (first | apply Kd.R_alloc | apply Kd.R_drewN | apply Kd.R_drew)); exact HO278.out⟩, ⟨by repeat (first | (with_reducible first | exact HB.out | apply below_alloc | apply pw_below_drewN | apply below_drew1) | exact HB.out)⟩⟩
       ·rw [if_neg c14] at H
        exact absurd H (by simp)
     ·rw [if_neg c8] at H
      exact absurd H (by simp)
   ·rw [if_neg c3] at H
    have c3b0 : decide (x7_1 < (l0.length : Int)) = false := decide_eq_false c3
    clear c3
    by_cases c16 : x6_1 = true
    ·subst c16
     have H1 : (some x5_1) = some r := by rw [if_pos rfl] at H; exact H
     clear H
     have H := H1
     clear H1
     obtain rfl := Option.some.inj H
     go_wp2
     go_ret
     exact ⟨_, by first | rfl | (simp [errW_none, errW_some] <;> rfl) | (simp [*, errW_none, errW_some] <;> rfl), by (with_reducible repeat (first | apply Kd.R_alloc | apply Kd.R_drewN | apply Kd.R_drew)); exact HO_5.out, by repeat (first | (with_reducible first | exact HB.out | apply below_alloc | apply pw_below_drewN | apply below_drew1) | exact HB.out)⟩
    ·replace c16 := Bool.eq_false_iff.mpr c16
     subst c16
     have H1 : (if x5_1.length < 17592186044416 then (some (x5_1 ++ [a1])) else (none)) = some r := by rw [if_neg (show ¬ (false = true) by decide)] at H; exact H
     clear H
     have H := H1
     clear H1
     by_cases c17 : x5_1.length < 17592186044416
     ·rw [if_pos c17] at H
      have LMc17 := Aside0.mk c17
      clear c17
      obtain ⟨y279, hy279⟩ : ∃ y_ : List Int, y_ = (x5_1 ++ [a1]) := ⟨_, rfl⟩
      replace H : (some y279) = some r := by first | (rw [hy279]; with_reducible exact H) | (have H2_ := (Option.bind_some _ _).symm.trans H; rw [hy279]; with_reducible exact H2_) | (have H2_ := (Option.bind_some _ _).symm.trans H; with_reducible exact H2_) | with_reducible exact H | (rw [hy279]; exact H) | exact H
      have Ny279 := Aside0.mk hy279
      clear hy279
      obtain rfl := Option.some.inj H
      go_wp2_with (first | ((with_reducible refine gate_builtin (b := .append) (xs := #[.tmp 37, .tmp 39]) rfl ?_); at_builtin; refine Kd.R_append (Kd.int .i64) (w0 := w) w.heap.size rfl (.tmp 37) (.tmp 39) 22 3 (.int .i64 0) 8 rfl Try.underlying22 info3 rfl (by decide) (by omega) u5 x5_1 a1 [.int .i64 a1] (fun _ => True) (fun _ => False) rfl rfl ?aP (fun _ hk => hk.elim) ?aF ?aO ?aB ?aS ?aL ?_; (case aP => exact rfl); (case aB => exact (by repeat (first | (with_reducible first | exact HB.out | apply below_alloc | apply pw_below_drewN | apply below_drew1) | exact HB.out))); (case aF => exact (fun _ _ => trivial)); (case aO => exact (by (with_reducible repeat (first | apply Kd.R_alloc | apply Kd.R_drewN | apply Kd.R_drew)); exact HO_5.out)); (case aS => exact (below_size (by repeat (first | (with_reducible first | exact HB.out | apply below_alloc | apply pw_below_drewN | apply below_drew1) | exact HB.out)))); (case aL => have := LMc17.out; omega); intro v280 w18 ho hb hg hat; rw [← Ny279.out] at ho; have n0_ := Aside0.mk (hb); have n1_ := Aside0.mk (ho); clear HB; clear HO_5; have HB := n0_; have HO281 := n1_; clear n0_ n1_; clear ho hb hg hat))
      go_ret
      exact ⟨_, by first | rfl | (simp [errW_none, errW_some] <;> rfl) | (simp [*, errW_none, errW_some] <;> rfl), by (with_reducible repeat (first | apply Kd.R_alloc | apply Kd.R_drewN | apply Kd.R_drew)); exact HO281.out, by repeat (first | (with_reducible first | exact HB.out | apply below_alloc | apply pw_below_drewN | apply below_drew1) | exact HB.out)⟩
     ·rw [if_neg c17] at H
      exact absurd H (by simp)

end Go.Proofs.Ytbcfphoheijmdaa.Print
end

section
/- state: which error a kit and a list of parts have, and that the Go function's call gives it, or the work of the kit. -/
namespace Go.Proofs.Ytbcfphoheijmdaa.Print
open Go.RowKit Go.Proofs.YtbcfphoheijmdaaW.PrintWords Go.Proofs.YtbcfphoheijmdaaW.PrintLast Go.Proofs.YtbcfphoheijmdaaW.PrintMore Go.Proofs.Ytbcfphoheijmdaa.H
attribute [local go_sem] max2_int min2_int max_two min_two max_three min_three max_four min_four
set_option linter.unusedVariables false
set_option linter.unusedSimpArgs false

/-- The error of place i of a list of parts that are in. -/
def inErr (n : Int) (l : List Int) (i : Nat) : Int := if l.getD i 0 < 0 ∨ n - 1 < l.getD i 0 then 7 else if 0 < i ∧ l.getD i 0 ≤ l.getD (i - 1) 0 then 11 else 0
def stErr (L : List S57) (c : Int) (l : List Int) : Int := if kitErr L c ≠ 0 then kitErr L c else firstErr (inErr L.length l) l.length
theorem inErr_ok {n : Int} {l : List Int} {i : Nat} (h : inErr n l i = 0) : 0 ≤ l.getD i 0 ∧ l.getD i 0 ≤ n - 1 := by
  unfold inErr at h
  split at h
  · omega
  · omega
theorem stErr_ok {L : List S57} {c : Int} {l : List Int} (h : stErr L c l = 0) : kitErr L c = 0 ∧ ∀ x, x ∈ l → 0 ≤ x ∧ x < L.length := by
  unfold stErr at h
  split at h
  · rename_i q; exact absurd h q
  · rename_i q
    refine ⟨by omega, fun x hx => ?_⟩
    obtain ⟨i, hi, rfl⟩ := List.mem_iff_getElem.1 hx
    have h1 := inErr_ok (firstErr_zero h i hi)
    rw [List.getD_eq_getElem?_getD, List.getElem?_eq_getElem hi] at h1
    have h2 : 0 ≤ l[i] ∧ l[i] ≤ (L.length : Int) - 1 := h1
    omega
/-- What state gives. -/
def StRes (w : World) (L : List S57) (c : Int) (A0 : Option Addr) (c0 : Nat) (l : List Int) (e : Ending) (w' : World) : Prop :=
  (stErr L c l ≠ 0 ∧ e = .returned (.tuple #[.pointer none, .int .u32 0, .int .i64 (stErr L c l)]) ∧ Below w.heap.size w w') ∨
  (stErr L c l = 0 ∧ ∃ wb mb vn vb, e = .returned (.tuple #[.pointer (some ⟨wb, 0, none⟩), .int .u32 ((setN l : Nat) : Int), .int .i64 0]) ∧ Work w w' wb mb L c A0 c0 vn vb ∧ Memo w' mb (waysOf L) ∧ Below w.heap.size w w')
theorem Work.from_ {w w0 W : World} {wb mb : Nat} {L : List S57} {c : Int} {A0 : Option Addr} {c0 : Nat} {vn vb : Value} (h : Work w0 W wb mb L c A0 c0 vn vb) (hb : Below w.heap.size w w0) : Work w W wb mb L c A0 c0 vn vb :=
  ⟨h.blk, Kd.R_lower h.needs hb.size, Kd.R_lower h.bars hb.size, h.ne, Nat.le_trans hb.size h.gew, Nat.le_trans hb.size h.gem, below_step hb h.below⟩
set_option maxHeartbeats 3200000 in
set_option maxRecDepth 100000 in
theorem state_calls {w : World} {L : List S57} {c : Int} {A0 : Option Addr} {c0 : Nat} {A1 : Option Addr} {c1 : Nat} {l : List Int} (hH : Holds L) (hR : Kd.C k57 w A0 L.length L) (hc : L.length ≤ c0) (hl : Kd.C (Kd.int .i64) w A1 l.length l) (hc1 : l.length ≤ c1) (hll : l.length ≤ 1000000) :
    Calls Try.prog 94 #[.agg #[.slice A0 L.length c0, .int .i64 c], .slice A1 l.length c1] w (StRes w L c A0 c0 l) := by
  have HM := Aside0.mk (Mem.start w)
  have hck : mount_CheckKit.f L c = some (kitErr L c) := by unfold mount_CheckKit.f; rw [if_pos hH]
  have HCK := Aside0.mk (fun W (hB : Below w.heap.size w W) => mount_CheckKit.calls A0 c0 L c _ W (Kd.C_below hR hB) hc hck)
  have HL := Aside0.mk hl
  have hu49 := Try.underlying49
  by_cases te : kitErr L c = 0
  rotate_left
  · have te1 : (kitErr L c != 0) = true := by simpa using te
    have HE : Aside0 (stErr L c l = kitErr L c ∧ stErr L c l ≠ 0) := ⟨by unfold stErr; rw [if_pos te]; exact ⟨rfl, te⟩⟩
    generalize kitErr L c = E at HE te1 HCK
    clear te hR hl hck hH
    go_enter Try.func94, Try.ntmps94
    go_wp2_with (first
      | ((with_reducible refine gate_dst (N := 2) rfl ?_); refine ev_box HM.out rfl 49 (.tmp 0) rfl (cs := #[.slice A0 L.length c0, .int .i64 c]) rfl ?_; intro g1 w1 hm1 hq1; clear hq1; have HM1 := Aside0.mk hm1; clear hm1 HM; have q1 : w1.cell? ⟨g1, 0, none⟩ = some (.slice A0 L.length c0) := (HM1.out.cell 0).trans rfl; have q2 : w1.cell? ⟨g1, 1, none⟩ = some (.int .i64 c) := (HM1.out.cell 1).trans rfl)
      | (go_at_call 40; refine (HCK.out _ HM1.out.below).mono ?_; rintro e w2 ⟨rfl, hd⟩; have HM2 := Aside0.mk (HM1.out.step hd); clear hd HM1 q1 q2))
    go_ret3
    exact .inl ⟨HE.out.2, by rw [HE.out.1]; rfl, HM2.out.below⟩
  have HE : Aside0 (stErr L c l = firstErr (inErr L.length l) l.length) := ⟨by unfold stErr; rw [if_neg (by omega)]⟩
  have HFI := Aside0.mk (kitErr_fine te)
  have h14 := HFI.out.short
  have HBC := Aside0.mk (fun W (hB : Below w.heap.size w W) => begun_calls HFI.out hH (c := c) (Kd.C_below hR hB) hc)
  rw [te] at HCK
  have HST := Aside0.mk (fun (h : ∀ x, x ∈ l → 0 ≤ x ∧ x < (32 : Int)) W (hB : Below w.heap.size w W) => mount_setOf.calls (l.length + 1) A1 c1 l _ W (Kd.C_below hl hB) hc1 (setOf_eq l h (by omega)))
  clear te hR hl hck hH
  go_enter Try.func94, Try.ntmps94
  go_wp2_with (first
    | ((with_reducible refine gate_dst (N := 2) rfl ?_); refine ev_box HM.out rfl 49 (.tmp 0) rfl (cs := #[.slice A0 L.length c0, .int .i64 c]) rfl ?_; intro g1 w1 hm1 hq1; clear hq1; have HM1 := Aside0.mk hm1; clear hm1 HM; have q1 : w1.cell? ⟨g1, 0, none⟩ = some (.slice A0 L.length c0) := (HM1.out.cell 0).trans rfl; have q2 : w1.cell? ⟨g1, 1, none⟩ = some (.int .i64 c) := (HM1.out.cell 1).trans rfl)
    | (go_at_call 40; refine (HCK.out _ HM1.out.below).mono ?_; rintro e w2 ⟨rfl, hd⟩; have HM2 := Aside0.mk (HM1.out.step hd); clear hd HM1 q1 q2))
  go_loopg [17] l.length (fun k v17 w' => ∃ (i : Nat), v17 = .int .i64 i ∧ Aside0 (i + k = l.length) ∧ Aside0 (∀ j, j < i → inErr L.length l j = 0) ∧ Aside0 (Mem w w' [(g1, #[.slice A0 L.length c0, .int .i64 c], 49)]))
  case atStart => exact ⟨0, rfl, ⟨by omega⟩, ⟨fun j hj => absurd hj (by omega)⟩, HM2⟩
  case round =>
    clear HM2
    obtain ⟨z, rfl, HK3, HZ, HM9⟩ := hrel
    by_cases hz : z < l.length
    · obtain ⟨ad2, e2, y0⟩ := cell_int HL.out z hz
      cases e2
      replace y0 := cell_later HM9.out.below y0
      have d0 : wr.cell? ⟨g1, 0, none⟩ = some (.slice A0 L.length c0) := (HM9.out.cell 0).trans rfl
      have z1 : (0 : Int) ≤ (z : Int) := by omega
      have z2 : (z : Int) < (l.length : Int) := by omega
      have HOE := Aside0.mk (show inErr L.length l z = if l.getD z 0 < 0 ∨ (L.length : Int) - 1 < l.getD z 0 then 7 else if 0 < z ∧ l.getD z 0 ≤ l.getD (z - 1) 0 then 11 else 0 from rfl)
      have HRES : Aside0 (inErr L.length l z ≠ 0 → stErr L c l = inErr L.length l z) := ⟨fun hne => by rw [HE.out]; exact firstErr_at hz HZ.out hne⟩
      generalize hY : l.getD z 0 = Y at y0 HOE
      have HY := Aside0.mk hY
      clear hY
      have w1 : IntKind.i64.wrap ((L.length : Int) - 1) = (L.length : Int) - 1 := IntWalk.i64_in _ (by omega)
      by_cases tin : 0 ≤ Y ∧ Y ≤ (L.length : Int) - 1
      rotate_left
      · have e1 : mount_in.f Y 0 ((L.length : Int) - 1) = some false := by rw [in_eq, decide_eq_false tin]
        have HV : Aside0 (stErr L c l = 7) := ⟨by
          have e : inErr L.length l z = 7 := by rw [HOE.out, if_pos (by omega)]
          rw [HRES.out (by rw [e]; decide), e]⟩
        clear tin HOE HRES
        go_wp2_with (first
          | (go_at_call 102; refine (mount_in.calls _ _ _ _ _ e1).mono ?_; rintro e w' ⟨rfl, hd⟩; have HM2 := Aside0.mk (HM9.out.step hd.below); clear hd HM9))
        go_ret3
        exact .inl ⟨by rw [HV.out]; decide, by rw [HV.out]; rfl, HM2.out.below⟩
      have e1 : mount_in.f Y 0 ((L.length : Int) - 1) = some true := by rw [in_eq, decide_eq_true tin]
      rw [if_neg (by omega)] at HOE
      clear tin
      by_cases tz : 0 < z
      · have tz1 : decide ((z : Int) > 0) = true := decide_eq_true (by omega)
        have tz2 : decide (0 < z) = true := decide_eq_true tz
        obtain ⟨ad3, e3, y1⟩ := cell_int HL.out (z - 1) (by omega)
        cases e3
        replace y1 := cell_later HM9.out.below y1
        generalize hY1 : l.getD (z - 1) 0 = Y1 at y1 HOE
        have HY1 := Aside0.mk hY1
        clear hY1
        have w2 : IntKind.i64.wrap ((z : Int) - 1) = ((z - 1 : Nat) : Int) := (IntWalk.i64_in _ (by omega)).trans (by omega)
        have w3 : (0 : Int) ≤ ((z - 1 : Nat) : Int) := by omega
        have w4 : ((z - 1 : Nat) : Int) < (l.length : Int) := by omega
        by_cases tle : Y ≤ Y1
        · have to1 : decide (Y ≤ Y1) = true := decide_eq_true tle
          have HV : Aside0 (stErr L c l = 11) := ⟨by
            have e : inErr L.length l z = 11 := by rw [HOE.out, if_pos ⟨tz, tle⟩]
            rw [HRES.out (by rw [e]; decide), e]⟩
          clear tle HOE HRES
          go_wp2_with (first
            | (go_at_call 102; refine (mount_in.calls _ _ _ _ _ e1).mono ?_; rintro e w' ⟨rfl, hd⟩; have HM2 := Aside0.mk (HM9.out.step hd.below); replace y1 := cell_later hd.below y1; clear hd HM9))
          go_ret3
          exact .inl ⟨by rw [HV.out]; decide, by rw [HV.out]; rfl, HM2.out.below⟩
        · have to1 : decide (Y ≤ Y1) = false := decide_eq_false tle
          have HV : Aside0 (inErr L.length l z = 0) := ⟨by rw [HOE.out, if_neg (fun q => tle q.2)]⟩
          clear tle HOE HRES
          go_wp2_with (first
            | (go_at_call 102; refine (mount_in.calls _ _ _ _ _ e1).mono ?_; rintro e w' ⟨rfl, hd⟩; have HM2 := Aside0.mk (HM9.out.step hd.below); replace y1 := cell_later hd.below y1; clear hd HM9))
          go_roundg (l.length - (z + 1))
          case measure => have := HK3.out; omega
          case rel => exact ⟨z + 1, by go_num, ⟨by omega⟩, ⟨fun j hj => by
            by_cases qq : j = z
            · subst qq; exact HV.out
            · exact HZ.out j (by omega)⟩, HM2⟩
      · have tz1 : decide ((z : Int) > 0) = false := decide_eq_false (by omega)
        have tz2 : decide (0 < z) = false := decide_eq_false tz
        have HV : Aside0 (inErr L.length l z = 0) := ⟨by rw [HOE.out, if_neg (fun q => tz q.1)]⟩
        clear HOE HRES
        go_wp2_with (first
          | (go_at_call 102; refine (mount_in.calls _ _ _ _ _ e1).mono ?_; rintro e w' ⟨rfl, hd⟩; have HM2 := Aside0.mk (HM9.out.step hd.below); clear hd HM9))
        go_roundg (l.length - (z + 1))
        case measure => have := HK3.out; omega
        case rel => exact ⟨z + 1, by go_num, ⟨by omega⟩, ⟨fun j hj => by
          by_cases qq : j = z
          · subst qq; exact HV.out
          · exact HZ.out j (by omega)⟩, HM2⟩
    · have HV : Aside0 (stErr L c l = 0) := ⟨by rw [HE.out]; exact firstErr_ok (fun j hj => HZ.out j (by omega))⟩
      have d0 : wr.cell? ⟨g1, 0, none⟩ = some (.slice A0 L.length c0) := (HM9.out.cell 0).trans rfl
      have d1 : wr.cell? ⟨g1, 1, none⟩ = some (.int .i64 c) := (HM9.out.cell 1).trans rfl
      go_wp2_with (first
        | (go_at_call 92; refine (HBC.out _ HM9.out.below).mono ?_; rintro e w3 ⟨wb, mb, vn, vb, rfl, hW3, hM3, hB3⟩; have HW3 := Aside0.mk hW3; have HM3 := Aside0.mk hM3; have HB3 := Aside0.mk (HM9.out.step hB3); clear hW3 hM3 hB3 d0 d1)
        | (go_at_call 134; refine (HST.out (fun x hx => by have := (stErr_ok HV.out).2 x hx; omega) _ HB3.out.below).mono ?_; rintro e w4 ⟨rfl, hd⟩; have HB4 := Aside0.mk hd.below; clear hd))
      go_ret3
      exact .inr ⟨HV.out, wb, mb, vn, vb, rfl, (HW3.out.later HB4.out).from_ HM9.out.below, HM3.out.later HB4.out, (HB3.out.step HB4.out).below⟩
end Go.Proofs.Ytbcfphoheijmdaa.Print
end

section
/- May and Guard: the parts that may go in, and that the Go functions' calls give them. -/
namespace Go.Proofs.Ytbcfphoheijmdaa.Print
open Go.RowKit Go.Proofs.YtbcfphoheijmdaaW.PrintWords Go.Proofs.YtbcfphoheijmdaaW.PrintLast Go.Proofs.YtbcfphoheijmdaaW.PrintMore Go.Proofs.Ytbcfphoheijmdaa.H
attribute [local go_sem] max2_int min2_int max_two min_two max_three min_three max_four min_four
attribute [local go_sem ↓] Go.wp_at_zero Go.wp_at_succ
set_option linter.unusedVariables false
set_option linter.unusedSimpArgs false

theorem state_err {w : World} {L : List S57} {c : Int} {A0 : Option Addr} {c0 : Nat} {A1 : Option Addr} {c1 : Nat} {l : List Int} (hH : Holds L) (hR : Kd.C k57 w A0 L.length L) (hc : L.length ≤ c0) (hl : Kd.C (Kd.int .i64) w A1 l.length l) (hc1 : l.length ≤ c1) (hll : l.length ≤ 1000000) (he : stErr L c l ≠ 0) :
    Calls Try.prog 94 #[.agg #[.slice A0 L.length c0, .int .i64 c], .slice A1 l.length c1] w fun e w' => e = .returned (.tuple #[.pointer none, .int .u32 0, .int .i64 (stErr L c l)]) ∧ Below w.heap.size w w' :=
  (state_calls hH hR hc hl hc1 hll).mono fun e w' h => by
    rcases h with ⟨_, h1, h2⟩ | ⟨h0, _⟩
    · exact ⟨h1, h2⟩
    · exact absurd h0 he
theorem state_ok {w : World} {L : List S57} {c : Int} {A0 : Option Addr} {c0 : Nat} {A1 : Option Addr} {c1 : Nat} {l : List Int} (hH : Holds L) (hR : Kd.C k57 w A0 L.length L) (hc : L.length ≤ c0) (hl : Kd.C (Kd.int .i64) w A1 l.length l) (hc1 : l.length ≤ c1) (hll : l.length ≤ 1000000) (he : stErr L c l = 0) :
    Calls Try.prog 94 #[.agg #[.slice A0 L.length c0, .int .i64 c], .slice A1 l.length c1] w fun e w' => ∃ wb mb vn vb, e = .returned (.tuple #[.pointer (some ⟨wb, 0, none⟩), .int .u32 ((setN l : Nat) : Int), .int .i64 0]) ∧ Work w w' wb mb L c A0 c0 vn vb ∧ Memo w' mb (waysOf L) ∧ Below w.heap.size w w' :=
  (state_calls hH hR hc hl hc1 hll).mono fun e w' h => by
    rcases h with ⟨hne, _⟩ | ⟨_, h1⟩
    · exact absurd he hne
    · exact h1
theorem Memo.lt {W : World} {mb : Nat} {val : Nat → Int} (h : Memo W mb val) : mb < W.heap.size := by
  obtain ⟨_, _, _, ho, _⟩ := h
  exact ho.lt
theorem setN_fine {L : List S57} {c : Int} {l : List Int} (h : stErr L c l = 0) : setN l < 2 ^ L.length := setN_lt _ (stErr_ok h).2
def mount_May.f (l0_0 : List (S57)) (a0_1 : Int) (l1 : List Int) : Option (List Int × Int) :=
  if Holds l0_0 ∧ l1.length ≤ 1000000 then (if stErr l0_0 a0_1 l1 = 0 then some (ints (partsOf l0_0 (setN l1) (fun _ => true)), 0) else some ([], stErr l0_0 a0_1 l1)) else none
set_option maxHeartbeats 3200000 in
set_option maxRecDepth 100000 in
theorem mount_May.calls (A0_0 : Option Addr) (c0_0 : Nat) (l0_0 : List (S57)) (a0_1 : Int) (A1 : Option Addr) (c1 : Nat) (l1 : List Int) (r1 : List Int) (r2 : Int) (w : World) (hr0_0 : Kd.C k57 w A0_0 l0_0.length l0_0) (hc0_0 : l0_0.length ≤ c0_0) (hr1 : Kd.C (Kd.int .i64) w A1 l1.length l1) (hc1 : l1.length ≤ c1) (h : mount_May.f l0_0 a0_1 l1 = some (r1, r2)) :
    Calls Try.prog 36 #[.agg #[.slice A0_0 l0_0.length c0_0, .int .i64 a0_1], .slice A1 l1.length c1] w fun e w' => ∃ v0_ : Value, e = .returned (.tuple #[v0_, .int .i64 r2]) ∧ Kd.R (Kd.int .i64) 3 w' w.heap.size (fun _ => True) v0_ r1 ∧ Below w.heap.size w w' := by
  unfold mount_May.f at h
  by_cases hH : Holds l0_0 ∧ l1.length ≤ 1000000
  rotate_left
  · rw [if_neg hH] at h; exact absurd h (by simp)
  rw [if_pos hH] at h
  have HM := Aside0.mk (Mem.start w)
  have hu49 := Try.underlying49
  by_cases te : stErr l0_0 a0_1 l1 = 0
  · rw [if_pos te] at h
    have HF := Aside0.mk (Option.some.inj h)
    have HSC := Aside0.mk (fun W (hB : Below w.heap.size w W) => state_ok hH.1 (Kd.C_below hr0_0 hB) hc0_0 (Kd.C_below hr1 hB) hc1 hH.2 te)
    have HPC := Aside0.mk (fun (W : World) (wb mb : Nat) (vn vb : Value) (hW : Work w W wb mb l0_0 a0_1 A0_0 c0_0 vn vb) (hM : Memo W mb (waysOf l0_0)) => parts_calls (kitErr_fine (stErr_ok te).1) (setN l1) (setN_fine te) 96 #[] (fun _ => true) (fun W => Memo W mb (waysOf l0_0)) every_enters hW hM.lt hM (fun W W1 row h hg hr => h.kept hg (fun e => by have := hr mb e.symm; have := hM.lt; omega)) (fun p W _ _ hI hWW => (every_calls (p : Int) W).mono fun e w' h => ⟨h.1, hI.later h.2.below, (grown_below h.2.below).but _⟩))
    clear h te hr0_0 hr1 hH
    go_enter Try.func36, Try.ntmps36
    go_wp2_with (first
      | ((with_reducible refine gate_dst (N := 2) rfl ?_); refine ev_box HM.out rfl 49 (.tmp 0) rfl (cs := #[.slice A0_0 l0_0.length c0_0, .int .i64 a0_1]) rfl ?_; intro g1 w1 hm1 hq1; clear hq1; have HM1 := Aside0.mk hm1; clear hm1 HM; have q1 : w1.cell? ⟨g1, 0, none⟩ = some (.slice A0_0 l0_0.length c0_0) := (HM1.out.cell 0).trans rfl; have q2 : w1.cell? ⟨g1, 1, none⟩ = some (.int .i64 a0_1) := (HM1.out.cell 1).trans rfl)
      | (go_at_call 94; refine (HSC.out _ HM1.out.below).mono ?_; rintro e w3 ⟨wb, mb, vn, vb, rfl, hW3, hM3, hB3⟩; have HW3 := Aside0.mk (hW3.from_ HM1.out.below); have HM3 := Aside0.mk hM3; clear hW3 hM3 hB3 q1 q2)
      | (go_at_call 95; refine (HPC.out _ _ _ _ _ HW3.out HM3.out).mono ?_; rintro e w4 ⟨v, rfl, hR4, hM4, hg4, hW4⟩; have HR4 := Aside0.mk hR4; have HW4 := Aside0.mk hW4; clear hR4 hM4 hg4 hW4))
    go_ret2
    have e := HF.out
    injection e with e1 e2
    exact ⟨v, by rw [← e2]; rfl, by rw [← e1]; exact Kd.R_mono HR4.out (fun _ _ => trivial), HW4.out.below⟩
  · rw [if_neg te] at h
    have HF := Aside0.mk (Option.some.inj h)
    have HSC := Aside0.mk (fun W (hB : Below w.heap.size w W) => state_err hH.1 (Kd.C_below hr0_0 hB) hc0_0 (Kd.C_below hr1 hB) hc1 hH.2 te)
    have te1 : (stErr l0_0 a0_1 l1 != 0) = true := by simpa using te
    generalize stErr l0_0 a0_1 l1 = E at HF te1 HSC
    clear h te hr0_0 hr1 hH
    go_enter Try.func36, Try.ntmps36
    go_wp2_with (first
      | ((with_reducible refine gate_dst (N := 2) rfl ?_); refine ev_box HM.out rfl 49 (.tmp 0) rfl (cs := #[.slice A0_0 l0_0.length c0_0, .int .i64 a0_1]) rfl ?_; intro g1 w1 hm1 hq1; clear hq1; have HM1 := Aside0.mk hm1; clear hm1 HM; have q1 : w1.cell? ⟨g1, 0, none⟩ = some (.slice A0_0 l0_0.length c0_0) := (HM1.out.cell 0).trans rfl; have q2 : w1.cell? ⟨g1, 1, none⟩ = some (.int .i64 a0_1) := (HM1.out.cell 1).trans rfl)
      | (go_at_call 94; refine (HSC.out _ HM1.out.below).mono ?_; rintro e w3 ⟨rfl, hB3⟩; have HM3 := Aside0.mk (HM1.out.step hB3); clear hB3 q1 q2))
    go_ret2
    have e := HF.out
    injection e with e1 e2
    exact ⟨.slice none 0 0, by rw [← e2]; rfl, by rw [← e1]; exact Kd.R_nil _ _ _ _ _, HM3.out.below⟩
theorem guard_enters (args : Array Value) (W : World) : Sem.run Try.prog (callFunc 99 args) W = .ok (.enter 99 args) W := by
  have h1 : ¬ Try.f99.name = "runtime.NumGoroutine" := by decide
  have h2 : ¬ Try.f99.body = none := fun h => by
    have : Try.f99.body.isSome = false := by rw [h]; rfl
    exact absurd this (by show ¬ (true = false); decide)
  simp [callFunc, go_sem, Try.func99, h1, h2]
/-- Can all other parts still go in behind part p? -/
def leads (L : List S57) (s p : Nat) : Bool := decide (0 < waysOf L (s ||| 2 ^ p))
set_option maxHeartbeats 3200000 in
set_option maxRecDepth 100000 in
theorem guard_one {w0 W : World} {wb mb g6 g7 : Nat} {L : List S57} {c : Int} {A0 : Option Addr} {c0 : Nat} {vn vb : Value} (hF : Fine L) (s p : Nat) (hs : s < 2 ^ L.length) (hp : p < L.length) (hW : Work w0 W wb mb L c A0 c0 vn vb) (hM : Memo W mb (waysOf L))
    (h6 : W.cell? ⟨g6, 0, none⟩ = some (.pointer (some ⟨wb, 0, none⟩))) (h7 : W.cell? ⟨g7, 0, none⟩ = some (.int .u32 (s : Int))) (hn6 : g6 ≠ mb) (hn7 : g7 ≠ mb) :
    Calls Try.prog 99 #[.int .i64 (p : Int), .pointer (some ⟨g6, 0, none⟩), .pointer (some ⟨g7, 0, none⟩)] W fun e w' => e = .returned (.bool (leads L s p)) ∧ (Memo w' mb (waysOf L) ∧ w'.cell? ⟨g6, 0, none⟩ = some (.pointer (some ⟨wb, 0, none⟩)) ∧ w'.cell? ⟨g7, 0, none⟩ = some (.int .u32 (s : Int))) ∧ W.grownBy w' (some mb) := by
  have hs32 : s < 2 ^ 32 := by have := hF.small; omega
  have hw1 := with_u32 (s := s) (p := p) hs32 (by have := hF.short; omega)
  have HOC := Aside0.mk (fun (V : World) (hW : Work w0 V wb mb L c A0 c0 vn vb) (hM : Memo V mb (waysOf L)) => orders_calls hF _ (s ||| 2 ^ p) (Nat.le_refl _) (with_lt hs hp) V hW hM)
  have HW := Aside0.mk hW
  have HM := Aside0.mk hM
  have HLE : Aside0 (leads L s p = decide (0 < waysOf L (s ||| 2 ^ p))) := ⟨rfl⟩
  have HN := Aside0.mk (show some (Addr.mk g6 0 none).block ≠ some mb ∧ some (Addr.mk g7 0 none).block ≠ some mb from ⟨fun e => hn6 (Option.some.inj e), fun e => hn7 (Option.some.inj e)⟩)
  generalize waysOf L (s ||| 2 ^ p) = Y at HOC HLE
  generalize s ||| 2 ^ p = S2 at hw1 HOC
  clear hW hM hn6 hn7
  go_enter Try.func99, Try.ntmps99
  go_wp2_with fail
  go_region_held3 (fun w' => w'.cell? ⟨g6, 0, none⟩ = some (.pointer (some ⟨wb, 0, none⟩)) ∧ w'.cell? ⟨g7, 0, none⟩ = some (.int .u32 (s : Int))) (first | exact ⟨h6, h7⟩ | exact ⟨cell_later HB5.out h6, cell_later HB5.out h7⟩ | exact ⟨HG6.out.cell (cell_later HB5.out h6) HN.out.1, HG6.out.cell (cell_later HB5.out h7) HN.out.2⟩) (first
    | (go_at_call 100; refine (mount_set_with.calls _ _ _ _ hw1).mono ?_; rintro e w5 ⟨rfl, hd⟩; have HB5 : Aside0 (Below W.heap.size W w5) := ⟨below_step (below_drew1 (Below.refl _ _)) hd.below⟩; clear hd hw1)
    | (go_at_call 93; refine (HOC.out _ (HW.out.later HB5.out) (HM.out.later HB5.out)).mono ?_; rintro e w6 ⟨rfl, hM6, hg6⟩; have HM6 := Aside0.mk hM6; have HG6 := Aside0.mk hg6; clear hM6 hg6))
  go_wp2_with fail
  go_ret
  refine ⟨by rw [HLE.out]; rfl, ⟨HM6.out, HG6.out.cell (cell_later HB5.out h6) HN.out.1, HG6.out.cell (cell_later HB5.out h7) HN.out.2⟩, ?_⟩
  exact ((grown_below HB5.out).but (some mb)).andThen HG6.out (fun j hj => .inr hj)
/-- Guard's choice among the parts, its two captured variables in new blocks. -/
theorem guard_parts {w0 w3 : World} {wb mb : Nat} {L : List S57} {c : Int} {A0 : Option Addr} {c0 : Nat} {vn vb : Value} (hF : Fine L) (s : Nat) (hs : s < 2 ^ L.length) (hW : Work w0 w3 wb mb L c A0 c0 vn vb) (hM : Memo w3 mb (waysOf L)) :
    Calls Try.prog 95 #[.pointer (some ⟨wb, 0, none⟩), .int .u32 (s : Int), .func (.func 99) #[] #[.pointer (some ⟨w3.heap.size, 0, none⟩), .pointer (some ⟨w3.heap.size + 1, 0, none⟩)]]
      ((w3.alloc (.cells #[.pointer (some ⟨wb, 0, none⟩)] 129)).alloc (.cells #[.int .u32 (s : Int)] 133)) fun e w' => ∃ v, e = .returned v ∧ (Kd.int .i64).R 3 w' w0.heap.size (fun _ => True) v (ints (partsOf L s (leads L s))) ∧ Below w0.heap.size w0 w' := by
  have hmb := hM.lt
  have b1 : Below w3.heap.size w3 ((w3.alloc (.cells #[.pointer (some ⟨wb, 0, none⟩)] 129)).alloc (.cells #[.int .u32 (s : Int)] 133)) := below_step (below_alloc (Below.refl _ _) _) (below_alloc (Below.refl _ _) _)
  have h6 : ((w3.alloc (.cells #[.pointer (some ⟨wb, 0, none⟩)] 129)).alloc (.cells #[.int .u32 (s : Int)] 133)).heap[w3.heap.size]? = some (.cells #[.pointer (some ⟨wb, 0, none⟩)] 129 (0, 0)) := blk_below (blk_new w3 _) (below_alloc (Below.refl _ _) _)
  have h7 : ((w3.alloc (.cells #[.pointer (some ⟨wb, 0, none⟩)] 129)).alloc (.cells #[.int .u32 (s : Int)] 133)).heap[w3.heap.size + 1]? = some (.cells #[.int .u32 (s : Int)] 133 (0, 0)) := by
    have := blk_new (w3.alloc (.cells #[.pointer (some ⟨wb, 0, none⟩)] 129)) (.cells #[.int .u32 (s : Int)] 133)
    simpa using this
  have hsz : ((w3.alloc (.cells #[.pointer (some ⟨wb, 0, none⟩)] 129)).alloc (.cells #[.int .u32 (s : Int)] 133)).heap.size = w3.heap.size + 2 := by simp
  generalize (w3.alloc (.cells #[.pointer (some ⟨wb, 0, none⟩)] 129)).alloc (.cells #[.int .u32 (s : Int)] 133) = W at b1 h6 h7 hsz
  have hW1 := hW.later b1
  have hM1 := hM.later b1
  refine (parts_calls hF s hs 99 #[.pointer (some ⟨w3.heap.size, 0, none⟩), .pointer (some ⟨w3.heap.size + 1, 0, none⟩)] (leads L s)
    (fun V => Memo V mb (waysOf L) ∧ V.cell? ⟨w3.heap.size, 0, none⟩ = some (.pointer (some ⟨wb, 0, none⟩)) ∧ V.cell? ⟨w3.heap.size + 1, 0, none⟩ = some (.int .u32 (s : Int)))
    guard_enters hW1 hM1.lt ⟨hM1, (blk_cell h6 0).trans rfl, (blk_cell h7 0).trans rfl⟩ (fun V V1 row h hg hr => ?_) (fun p V hp _ hI hWV => ?_)).mono ?_
  · refine ⟨h.1.kept hg (fun e => by have := hr mb e.symm; omega), hg.cell h.2.1 (fun e => ?_), hg.cell h.2.2 (fun e => ?_)⟩
    · have := hr _ e.symm
      have e2 : w3.heap.size < W.heap.size := by omega
      exact absurd (Nat.lt_of_lt_of_le e2 this) (Nat.lt_irrefl _)
    · have := hr _ e.symm
      have e2 : w3.heap.size + 1 < W.heap.size := by omega
      exact absurd (Nat.lt_of_lt_of_le e2 this) (Nat.lt_irrefl _)
  · exact guard_one hF s p hs hp hWV hI.1 hI.2.1 hI.2.2 (by omega) (by omega)
  · rintro e w' ⟨v, rfl, hR, _, _, hW2⟩
    exact ⟨v, rfl, Kd.R_mono hR (fun _ _ => trivial), hW2.below⟩
def mount_Guard.f (l0_0 : List (S57)) (a0_1 : Int) (l1 : List Int) : Option (List Int × Int) :=
  if Holds l0_0 ∧ l1.length ≤ 1000000 then (if stErr l0_0 a0_1 l1 = 0 then some (ints (partsOf l0_0 (setN l1) (leads l0_0 (setN l1))), 0) else some ([], stErr l0_0 a0_1 l1)) else none
set_option maxHeartbeats 3200000 in
set_option maxRecDepth 100000 in
theorem mount_Guard.calls (A0_0 : Option Addr) (c0_0 : Nat) (l0_0 : List (S57)) (a0_1 : Int) (A1 : Option Addr) (c1 : Nat) (l1 : List Int) (r1 : List Int) (r2 : Int) (w : World) (hr0_0 : Kd.C k57 w A0_0 l0_0.length l0_0) (hc0_0 : l0_0.length ≤ c0_0) (hr1 : Kd.C (Kd.int .i64) w A1 l1.length l1) (hc1 : l1.length ≤ c1) (h : mount_Guard.f l0_0 a0_1 l1 = some (r1, r2)) :
    Calls Try.prog 38 #[.agg #[.slice A0_0 l0_0.length c0_0, .int .i64 a0_1], .slice A1 l1.length c1] w fun e w' => ∃ v0_ : Value, e = .returned (.tuple #[v0_, .int .i64 r2]) ∧ Kd.R (Kd.int .i64) 3 w' w.heap.size (fun _ => True) v0_ r1 ∧ Below w.heap.size w w' := by
  unfold mount_Guard.f at h
  by_cases hH : Holds l0_0 ∧ l1.length ≤ 1000000
  rotate_left
  · rw [if_neg hH] at h; exact absurd h (by simp)
  rw [if_pos hH] at h
  have HM := Aside0.mk (Mem.start w)
  have hu49 := Try.underlying49
  by_cases te : stErr l0_0 a0_1 l1 = 0
  · rw [if_pos te] at h
    have HF := Aside0.mk (Option.some.inj h)
    have HSC := Aside0.mk (fun W (hB : Below w.heap.size w W) => state_ok hH.1 (Kd.C_below hr0_0 hB) hc0_0 (Kd.C_below hr1 hB) hc1 hH.2 te)
    have HFI := Aside0.mk (kitErr_fine (stErr_ok te).1)
    have HSL := Aside0.mk (setN_fine te)
    have HGP := Aside0.mk (fun (w3 : World) (wb mb : Nat) (vn vb : Value) (hW : Work w w3 wb mb l0_0 a0_1 A0_0 c0_0 vn vb) (hM : Memo w3 mb (waysOf l0_0)) => guard_parts HFI.out (setN l1) HSL.out hW hM)
    clear h te hr0_0 hr1 hH
    go_enter Try.func38, Try.ntmps38
    go_wp2_with (first
      | ((with_reducible refine gate_dst (N := 2) rfl ?_); refine ev_box HM.out rfl 49 (.tmp 0) rfl (cs := #[.slice A0_0 l0_0.length c0_0, .int .i64 a0_1]) rfl ?_; intro g1 w1 hm1 hq1; clear hq1; have HM1 := Aside0.mk hm1; clear hm1 HM; have q1 : w1.cell? ⟨g1, 0, none⟩ = some (.slice A0_0 l0_0.length c0_0) := (HM1.out.cell 0).trans rfl; have q2 : w1.cell? ⟨g1, 1, none⟩ = some (.int .i64 a0_1) := (HM1.out.cell 1).trans rfl)
      | (go_at_call 94; refine (HSC.out _ HM1.out.below).mono ?_; rintro e w3 ⟨wb, mb, vn, vb, rfl, hW3, hM3, hB3⟩; have HW3 := Aside0.mk (hW3.from_ HM1.out.below); have HM3 := Aside0.mk hM3; clear hW3 hM3 hB3 q1 q2)
      | (go_at_call 95; refine (HGP.out _ _ _ _ _ HW3.out HM3.out).mono ?_; rintro e w4 ⟨v, rfl, hR4, hB4⟩; have HR4 := Aside0.mk hR4; have HB4 := Aside0.mk hB4; clear hR4 hB4))
    go_ret2
    have e := HF.out
    injection e with e1 e2
    exact ⟨v, by rw [← e2]; rfl, by rw [← e1]; exact HR4.out, HB4.out⟩
  · rw [if_neg te] at h
    have HF := Aside0.mk (Option.some.inj h)
    have HSC := Aside0.mk (fun W (hB : Below w.heap.size w W) => state_err hH.1 (Kd.C_below hr0_0 hB) hc0_0 (Kd.C_below hr1 hB) hc1 hH.2 te)
    have te1 : (stErr l0_0 a0_1 l1 != 0) = true := by simpa using te
    generalize stErr l0_0 a0_1 l1 = E at HF te1 HSC
    clear h te hr0_0 hr1 hH
    go_enter Try.func38, Try.ntmps38
    go_wp2_with (first
      | ((with_reducible refine gate_dst (N := 2) rfl ?_); refine ev_box HM.out rfl 49 (.tmp 0) rfl (cs := #[.slice A0_0 l0_0.length c0_0, .int .i64 a0_1]) rfl ?_; intro g1 w1 hm1 hq1; clear hq1; have HM1 := Aside0.mk hm1; clear hm1 HM; have q1 : w1.cell? ⟨g1, 0, none⟩ = some (.slice A0_0 l0_0.length c0_0) := (HM1.out.cell 0).trans rfl; have q2 : w1.cell? ⟨g1, 1, none⟩ = some (.int .i64 a0_1) := (HM1.out.cell 1).trans rfl)
      | (go_at_call 94; refine (HSC.out _ HM1.out.below).mono ?_; rintro e w3 ⟨rfl, hB3⟩; have HM3 := Aside0.mk (HM1.out.step hB3); clear hB3 q1 q2))
    go_ret2
    have e := HF.out
    injection e with e1 e2
    refine ⟨.slice none 0 0, by rw [← e2]; rfl, by rw [← e1]; exact Kd.R_nil _ _ _ _ _, ?_⟩
    first
      | exact HM3.out.below
      | exact below_step HM3.out.below (below_step (below_alloc (Below.refl _ _) _) (below_alloc (Below.refl _ _) _))
end Go.Proofs.Ytbcfphoheijmdaa.Print
end

section
/- What the Go function thermionlaw04_MountGuarded does, as a Lean function, and that its call does so. Printed by a program of this work out of the translation. -/
namespace Go.Proofs.Ytbcfphoheijmdaa.Print
open Go.RowKit Go.Proofs.YtbcfphoheijmdaaW.PrintWords Go.Proofs.YtbcfphoheijmdaaW.PrintLast Go.Proofs.YtbcfphoheijmdaaW.PrintMore
attribute [local go_sem] max2_int min2_int max_two min_two max_three min_three max_four min_four
set_option linter.unusedVariables false
set_option linter.unusedSimpArgs false

/-! ### thermionlaw04_MountGuarded: function 6 -/
mutual
def thermionlaw04_MountGuarded.l0 : Nat → Int → List Int → Int → List (S57) → Int → Option (Bool)
 | 0, _, _, _, _, _ => none
 | k + 1, x5, x7, x397000, x403000, x403001 => if (x7.length : Int) < (x403000.length : Int) then ((mount_Guard.f x403000 x403001 x7).bind fun bt406 => ((mount_May.f x403000 x403001 x7).bind fun bt410 => (if bt406.2 = 0 then (if bt410.2 = 0 then (thermionlaw04_MountGuarded.j1 k x5 x7 bt406.1 bt410.1 ((decide ((bt406.1.length : Int) > 0)) != (decide (x5 > 0))) x397000 x403000 x403001) else (thermionlaw04_MountGuarded.j1 k x5 x7 bt406.1 bt410.1 true x397000 x403000 x403001)) else (thermionlaw04_MountGuarded.j1 k x5 x7 bt406.1 bt410.1 true x397000 x403000 x403001)))) else (if x5 > 0 then ((thermionlaw04_awake.f k).bind fun t405 => (some t405)) else (some false))
def thermionlaw04_MountGuarded.j1 : Nat → Int → List Int → List Int → List Int → Bool → Int → List (S57) → Int → Option (Bool)
 | 0, _, _, _, _, _, _, _, _ => none
 | k + 1, x5, x7, x8, x10, x55, x397000, x403000, x403001 => if x55 = true then (some false) else (thermionlaw04_MountGuarded.l1 k x5 x7 x8 x10 0 x397000 x403000 x403001)
def thermionlaw04_MountGuarded.l1 : Nat → Int → List Int → List Int → List Int → Int → Int → List (S57) → Int → Option (Bool)
 | 0, _, _, _, _, _, _, _, _ => none
 | k + 1, x5, x7, x8, x10, x12, x397000, x403000, x403001 => if x12 < (x8.length : Int) then (if 0 ≤ x12 then ((thermionkit_Has.f k x10 (rd x8 x12)).bind fun t415 => (if t415 = true then ((thermionkit_Has.f k x7 (rd x8 x12)).bind fun t417 => (if t417 = true then (some false) else (thermionlaw04_MountGuarded.l1 k x5 x7 x8 x10 (wrap64 (x12 + 1)) x397000 x403000 x403001))) else (some false))) else (none)) else (if x5 = 0 then ((thermionlaw04_awake.f k).bind fun t418 => (some t418)) else ((thermionkit_Dice_Upto.f x397000 (x8.length : Int)).bind fun bt419 => (if 0 ≤ bt419.1 then (if bt419.1 < (x8.length : Int) then ((thermionlaw04_put.f k x7 (rd x8 bt419.1)).bind fun t422 => (thermionlaw04_MountGuarded.l0 k x5 t422 bt419.2 x403000 x403001)) else (none)) else (none))))
end
def thermionlaw04_MountGuarded.f (k : Nat) (l0 : List Int) : Option (Bool) := (thermionkit_NewDice.f l0).bind fun t395 => ((thermionkit_KitOf.f k t395 8).bind fun bt397 => ((mount_Orders.f bt397.1 bt397.2.1).bind fun bt403 => (if bt403.2 = 0 then (thermionlaw04_MountGuarded.l0 k bt403.1 ([] : List Int) bt397.2.2 bt397.1 bt397.2.1) else (some false))))
theorem thermionlaw04_MountGuarded.mono_l : ∀ k, (∀ y0 y1 y2 y3 y4, LeO (thermionlaw04_MountGuarded.l0 k y0 y1 y2 y3 y4) (thermionlaw04_MountGuarded.l0 (k + 1) y0 y1 y2 y3 y4)) ∧ (∀ y0 y1 y2 y3 y4 y5 y6 y7, LeO (thermionlaw04_MountGuarded.j1 k y0 y1 y2 y3 y4 y5 y6 y7) (thermionlaw04_MountGuarded.j1 (k + 1) y0 y1 y2 y3 y4 y5 y6 y7)) ∧ (∀ y0 y1 y2 y3 y4 y5 y6 y7, LeO (thermionlaw04_MountGuarded.l1 k y0 y1 y2 y3 y4 y5 y6 y7) (thermionlaw04_MountGuarded.l1 (k + 1) y0 y1 y2 y3 y4 y5 y6 y7))
 | 0 => ⟨fun _ _ _ _ _ r h => by simp [thermionlaw04_MountGuarded.l0] at h, fun _ _ _ _ _ _ _ _ r h => by simp [thermionlaw04_MountGuarded.j1] at h, fun _ _ _ _ _ _ _ _ r h => by simp [thermionlaw04_MountGuarded.l1] at h⟩
 | k + 1 => by
  obtain ⟨ih0, ih1, ih2⟩ := thermionlaw04_MountGuarded.mono_l k
  refine ⟨?_, ?_, ?_⟩
  ·intro y0 y1 y2 y3 y4
   unfold thermionlaw04_MountGuarded.l0
   repeat' first
   | (with_reducible exact ih0 _ _ _ _ _)
   | (with_reducible exact ih1 _ _ _ _ _ _ _ _)
   | (with_reducible exact ih2 _ _ _ _ _ _ _ _)
   | (with_reducible exact thermionkit_Has.mono _ _ _)
   | (with_reducible exact thermionkit_KitOf.mono _ _ _)
   | (with_reducible exact thermionlaw04_awake.mono _)
   | (with_reducible exact thermionlaw04_put.mono _ _ _)
   | (with_reducible exact LeO.refl _)
   | (with_reducible exact LeO.none _)
   | (with_reducible refine LeO.ite ?_ ?_)
   | (with_reducible refine LeO.bind ?_ (fun _ => ?_))
   | exact ih0 _ _ _ _ _
   | exact ih1 _ _ _ _ _ _ _ _
   | exact ih2 _ _ _ _ _ _ _ _
   | exact thermionkit_Has.mono _ _ _
   | exact thermionkit_KitOf.mono _ _ _
   | exact thermionlaw04_awake.mono _
   | exact thermionlaw04_put.mono _ _ _
   | exact LeO.none _
   | refine LeO.ite ?_ ?_
   | refine LeO.bind ?_ (fun _ => ?_)
  ·intro y0 y1 y2 y3 y4 y5 y6 y7
   unfold thermionlaw04_MountGuarded.j1
   repeat' first
   | (with_reducible exact ih0 _ _ _ _ _)
   | (with_reducible exact ih1 _ _ _ _ _ _ _ _)
   | (with_reducible exact ih2 _ _ _ _ _ _ _ _)
   | (with_reducible exact thermionkit_Has.mono _ _ _)
   | (with_reducible exact thermionkit_KitOf.mono _ _ _)
   | (with_reducible exact thermionlaw04_awake.mono _)
   | (with_reducible exact thermionlaw04_put.mono _ _ _)
   | (with_reducible exact LeO.refl _)
   | (with_reducible exact LeO.none _)
   | (with_reducible refine LeO.ite ?_ ?_)
   | (with_reducible refine LeO.bind ?_ (fun _ => ?_))
   | exact ih0 _ _ _ _ _
   | exact ih1 _ _ _ _ _ _ _ _
   | exact ih2 _ _ _ _ _ _ _ _
   | exact thermionkit_Has.mono _ _ _
   | exact thermionkit_KitOf.mono _ _ _
   | exact thermionlaw04_awake.mono _
   | exact thermionlaw04_put.mono _ _ _
   | exact LeO.none _
   | refine LeO.ite ?_ ?_
   | refine LeO.bind ?_ (fun _ => ?_)
  ·intro y0 y1 y2 y3 y4 y5 y6 y7
   unfold thermionlaw04_MountGuarded.l1
   repeat' first
   | (with_reducible exact ih0 _ _ _ _ _)
   | (with_reducible exact ih1 _ _ _ _ _ _ _ _)
   | (with_reducible exact ih2 _ _ _ _ _ _ _ _)
   | (with_reducible exact thermionkit_Has.mono _ _ _)
   | (with_reducible exact thermionkit_KitOf.mono _ _ _)
   | (with_reducible exact thermionlaw04_awake.mono _)
   | (with_reducible exact thermionlaw04_put.mono _ _ _)
   | (with_reducible exact LeO.refl _)
   | (with_reducible exact LeO.none _)
   | (with_reducible refine LeO.ite ?_ ?_)
   | (with_reducible refine LeO.bind ?_ (fun _ => ?_))
   | exact ih0 _ _ _ _ _
   | exact ih1 _ _ _ _ _ _ _ _
   | exact ih2 _ _ _ _ _ _ _ _
   | exact thermionkit_Has.mono _ _ _
   | exact thermionkit_KitOf.mono _ _ _
   | exact thermionlaw04_awake.mono _
   | exact thermionlaw04_put.mono _ _ _
   | exact LeO.none _
   | refine LeO.ite ?_ ?_
   | refine LeO.bind ?_ (fun _ => ?_)
theorem thermionlaw04_MountGuarded.mono : ∀ a0 k, LeO (thermionlaw04_MountGuarded.f k a0) (thermionlaw04_MountGuarded.f (k + 1) a0) := by
 intro a0 k
 obtain ⟨ih0, ih1, ih2⟩ := thermionlaw04_MountGuarded.mono_l k
 unfold thermionlaw04_MountGuarded.f
 repeat' first
   | (with_reducible exact ih0 _ _ _ _ _)
   | (with_reducible exact ih1 _ _ _ _ _ _ _ _)
   | (with_reducible exact ih2 _ _ _ _ _ _ _ _)
   | (with_reducible exact thermionkit_Has.mono _ _ _)
   | (with_reducible exact thermionkit_KitOf.mono _ _ _)
   | (with_reducible exact thermionlaw04_awake.mono _)
   | (with_reducible exact thermionlaw04_put.mono _ _ _)
   | (with_reducible exact LeO.refl _)
   | (with_reducible exact LeO.none _)
   | (with_reducible refine LeO.ite ?_ ?_)
   | (with_reducible refine LeO.bind ?_ (fun _ => ?_))
   | exact ih0 _ _ _ _ _
   | exact ih1 _ _ _ _ _ _ _ _
   | exact ih2 _ _ _ _ _ _ _ _
   | exact thermionkit_Has.mono _ _ _
   | exact thermionkit_KitOf.mono _ _ _
   | exact thermionlaw04_awake.mono _
   | exact thermionlaw04_put.mono _ _ _
   | exact LeO.none _
   | refine LeO.ite ?_ ?_
   | refine LeO.bind ?_ (fun _ => ?_)
set_option maxHeartbeats 8000000 in
set_option maxRecDepth 100000 in
theorem thermionlaw04_MountGuarded.calls (k : Nat) (A0 : Option Addr) (c0 : Nat) (l0 : List Int) (r : Bool) (w : World) (hr0 : Kd.C (Kd.int .i64) w A0 l0.length l0) (hc0 : l0.length ≤ c0) (h : thermionlaw04_MountGuarded.f k l0 = some r) :
  Calls Try.prog 6 #[.slice A0 l0.length c0] w fun e w' => e = .returned (.bool r) ∧ Below w.heap.size w w' := by
 have hu49 := Try.underlying49
 have HR0 := Aside0.mk hr0
 have HC0 := Aside0.mk hc0
 clear hr0 hc0
 have HB := Aside0.mk (Below.refl w.heap.size w)
 have H : ((thermionkit_NewDice.f l0).bind fun t395 => ((thermionkit_KitOf.f k t395 8).bind fun bt397 => ((mount_Orders.f bt397.1 bt397.2.1).bind fun bt403 => (if bt403.2 = 0 then (thermionlaw04_MountGuarded.l0 k bt403.1 ([] : List Int) bt397.2.2 bt397.1 bt397.2.1) else (some false))))) = some r := h
 clear h
 replace H := Option.bind_eq_some_iff.mp H
 obtain ⟨t395, A20, H⟩ := H
 replace H : ((thermionkit_KitOf.f k t395 8).bind fun bt397 => ((mount_Orders.f bt397.1 bt397.2.1).bind fun bt403 => (if bt403.2 = 0 then (thermionlaw04_MountGuarded.l0 k bt403.1 ([] : List Int) bt397.2.2 bt397.1 bt397.2.1) else (some false)))) = some r := H
 have A2 := Aside0.mk A20
 clear A20
 replace H := Option.bind_eq_some_iff.mp H
 obtain ⟨⟨t397, t400, t401⟩, A30, H⟩ := H
 replace H : ((mount_Orders.f t397 t400).bind fun bt403 => (if bt403.2 = 0 then (thermionlaw04_MountGuarded.l0 k bt403.1 ([] : List Int) t401 t397 t400) else (some false))) = some r := H
 have A3 := Aside0.mk A30
 clear A30
 replace H := Option.bind_eq_some_iff.mp H
 obtain ⟨⟨t403, t404⟩, A40, H⟩ := H
 replace H : (if t404 = 0 then (thermionlaw04_MountGuarded.l0 k t403 ([] : List Int) t401 t397 t400) else (some false)) = some r := H
 have A4 := Aside0.mk A40
 clear A40
 by_cases c5 : t404 = 0
 ·rw [if_pos c5] at H
  have c5b0 : (t404 == 0) = true := beq_iff_eq.mpr c5
  have c5b1 : (t404 != 0) = false := bne_eq_false_iff_eq.mpr c5
  clear c5
  have H' := Aside0.mk H
  clear H
  go_enter Try.func6, Try.ntmps6
  go_wp2_with (first | ((with_reducible refine gate_callee (f := 19) rfl ?_); refine goesL_ (some 14) rfl rfl Try.func19 (by kernel_rfl) rfl #[.slice A0 l0.length c0] rfl (by (try simp only [List.map_toArray, List.map_cons, List.map_nil]); first | done | rfl | (simp only [List.length_drop, List.length_take]; rfl)) ?_; (with_reducible refine (thermionkit_NewDice.calls _ _ l0 t395 w _ ?side1 ?side2 ?side3 A2.out).mono ?_); (case side1 => repeat (first | (with_reducible first | exact HB.out | apply below_alloc | apply pw_below_drewN | apply below_drew1) | exact HB.out)); (case side2 => exact HR0.out); (case side3 => exact HC0.out); rintro e w6 ⟨g396, rfl, hi, hb, hb2⟩; refine ⟨_, rfl, ?_⟩; have n0_ := Aside0.mk (hb); have n1_ := Aside0.mk (hi); clear HB; have HB := n0_; have HI396 := n1_; clear n0_ n1_; (try clear hb); (try clear hb2); (try clear hk); (try clear hi)) | ((with_reducible refine gate_callee (f := 29) rfl ?_); refine goesL_ (some 16) rfl rfl Try.func29 (by kernel_rfl) rfl #[.pointer (some ⟨g396, 0, none⟩), .int .i64 8] rfl (by (try simp only [List.map_toArray, List.map_cons, List.map_nil]); first | done | rfl | (simp only [List.length_drop, List.length_take]; rfl)) ?_; (with_reducible refine (thermionkit_KitOf.calls k g396 t395 8 t397 t400 t401 w _ ?side1 ?side2 A3.out).mono ?_); (case side1 => repeat (first | (with_reducible first | exact HI396.out | apply IsS118.alloc | apply IsS118.drewN | apply IsS118.drew | apply IsS118.set_0) | exact HI396.out)); (case side2 => repeat (first | (with_reducible first | exact HB.out | apply below_alloc | apply pw_below_drewN | apply below_drew1 | refine below_set ?_ (IsS118.ge HI396.out)) | exact HB.out)); rintro e w7 ⟨v398, rfl, ho0, hi, hb, hk⟩; refine ⟨_, rfl, ?_⟩; have n0_ := Aside0.mk (Kd.S_lower ho0 (below_size (by repeat (first | (with_reducible first | exact HB.out | apply below_alloc | apply pw_below_drewN | apply below_drew1 | refine below_set ?_ (IsS118.ge HI396.out)) | exact HB.out)))); have n1_ := Aside0.mk (hb); have n2_ := Aside0.mk (hi); clear HB; clear HI396; have HO399 := n0_; have HB := n1_; have HI396 := n2_; clear n0_ n1_ n2_; (try clear hb); (try clear hb2); (try clear hk); (try clear hi); (try clear ho0)) | ((with_reducible refine gate_dst (N := 4) rfl ?_); (try (refine gate_guard (by rfl) ?_; dsimp only)); refine box_event ?hg (N := 4) ?hd (cs := #[.slice none 0 0, .int .i64 0]) (t := 49) ?hr ?_; (case hd => rfl); (case hg => rfl); (case hr => first | (go_simp; done) | (go_simp; rfl)); intro gb402 hg w8 hbox hb; have n0_ := Aside0.mk (Kd.S_below (by (with_reducible repeat (first | apply Kd.S_alloc | apply Kd.S_drewN | apply Kd.S_drew)); exact HO399.out) hb); have n1_ := Aside0.mk (IsS118.below (by repeat (first | (with_reducible first | exact HI396.out | apply IsS118.alloc | apply IsS118.drewN | apply IsS118.drew | apply IsS118.set_0) | exact HI396.out)) hb); have n2_ := Aside0.mk (below_step (by repeat (first | (with_reducible first | exact HB.out | apply below_alloc | apply pw_below_drewN | apply below_drew1 | refine below_set ?_ (IsS118.ge HI396.out)) | exact HB.out)) hb); have n3_ := Aside0.mk (hbox); have n4_ := Aside0.mk ((by rw [hg]; exact (below_size (by repeat (first | (with_reducible first | exact HB.out | apply below_alloc | apply pw_below_drewN | apply below_drew1 | refine below_set ?_ (IsS118.ge HI396.out)) | exact HB.out))) : w.heap.size ≤ gb402)); have n5_ := Aside0.mk ((by rw [hg]; exact (below_size (by repeat (first | (with_reducible first | exact HB.out | apply below_alloc | apply pw_below_drewN | apply below_drew1 | refine below_set ?_ (IsS118.ge HI396.out)) | exact HB.out))) : w.heap.size ≤ gb402)); have n6_ := Aside0.mk ((by rw [hg]; exact Nat.ne_of_lt (IsS118.lt (show IsS118 w _ g396 t401 from by repeat (first | (with_reducible first | exact HI396.out | apply IsS118.alloc | apply IsS118.drewN | apply IsS118.drew | apply IsS118.set_0) | exact HI396.out))) : g396 ≠ gb402)); have n7_ := Aside0.mk ((by rw [hg]; exact Nat.ne_of_gt (IsS118.lt (show IsS118 w _ g396 t401 from by repeat (first | (with_reducible first | exact HI396.out | apply IsS118.alloc | apply IsS118.drewN | apply IsS118.drew | apply IsS118.set_0) | exact HI396.out))) : gb402 ≠ g396)); clear HO399; clear HI396; clear HB; have HO399 := n0_; have HI396 := n1_; have HB := n2_; have BK402 := n3_; have GW402 := n4_; have GE402 := n5_; have NB396_402 := n6_; have NB402_396 := n7_; clear n0_ n1_ n2_ n3_ n4_ n5_ n6_ n7_; clear hb hbox hg; obtain ⟨Ao9, co9, eo9⟩ := Kd.S_slice HO399.out; subst eo9; have hnb10 := NB402_396.out; have hnc10 := NB396_402.out; have hcz11_0 : w8.cell? ⟨gb402, 0, none⟩ = some (.slice none 0 0) := (blk_cell BK402.out 0).trans rfl; have hcz11_1 : w8.cell? ⟨gb402, 1, none⟩ = some (.int .i64 0) := (blk_cell BK402.out 1).trans rfl; have hfz11_0 := blk_frozen BK402.out 0; have hfz11_1 := blk_frozen BK402.out 1) | ((with_reducible refine gate_callee (f := 30) rfl ?_); refine goesL_ (some 19) rfl rfl Try.func30 (by kernel_rfl) rfl #[.agg #[.slice Ao9 t397.length co9, .int .i64 t400]] rfl (by (try simp only [List.map_toArray, List.map_cons, List.map_nil]); first | done | rfl | (simp only [List.length_drop, List.length_take]; rfl)) ?_; (with_reducible refine (mount_Orders.calls _ _ t397 t400 t403 t404 _ ?side1 ?side2 A4.out).mono ?_); (case side1 => refine (Kd.S_reads' (e := 57) (base := w.heap.size) (ok := fun k_ => True) (n := t397.length) (c := co9) ?_).2.2; exact (by (with_reducible repeat (first | apply Kd.S_alloc | apply Kd.S_drewN | apply Kd.S_drew)); exact (Kd.S_mono (Kd.S_far (p := ⟨gb402, 1, none⟩) (Kd.S_far (p := ⟨gb402, 0, none⟩) (Kd.S_types HO399.out BK402.out (by decide)) (fun _ hk => hk.2) (.slice Ao9 t397.length co9)) (fun _ hk => hk.2) (.int .i64 t400)) (fun _ h_ => h_.1)))); (case side2 => exact (Kd.S_reads' HO399.out).2.1); rintro e w12 ⟨rfl, hb⟩; refine ⟨_, rfl, ?_⟩; have n0_ := Aside0.mk (Kd.S_below (by (with_reducible repeat (first | apply Kd.S_alloc | apply Kd.S_drewN | apply Kd.S_drew)); exact (Kd.S_mono (Kd.S_far (p := ⟨gb402, 1, none⟩) (Kd.S_far (p := ⟨gb402, 0, none⟩) (Kd.S_types HO399.out BK402.out (by decide)) (fun _ hk => hk.2) (.slice Ao9 t397.length co9)) (fun _ hk => hk.2) (.int .i64 t400)) (fun _ h_ => h_.1))) hb); have n1_ := Aside0.mk (IsS118.below (show IsS118 w ((w8.setCell ⟨gb402, 0, none⟩ (.slice Ao9 t397.length co9)).setCell ⟨gb402, 1, none⟩ (.int .i64 t400)) g396 t401 from by repeat (first | (with_reducible first | exact HI396.out | apply IsS118.alloc | apply IsS118.drewN | apply IsS118.drew | apply IsS118.set_0 | refine IsS118.far ?_ NB396_402.out _) | exact HI396.out)) hb); have n2_ := Aside0.mk (blk_below (g := gb402) (o := .cells #[.slice Ao9 t397.length co9, .int .i64 t400] 49 (0, 0)) (by (with_reducible repeat (first | refine blk_drewN ?_ _ | refine blk_drew ?_ | refine blk_alloc ?_ _)); refine blk_put (cs := #[.slice Ao9 t397.length co9, .int .i64 0]) ?_ 1 _ rfl; (with_reducible repeat (first | refine blk_drewN ?_ _ | refine blk_drew ?_ | refine blk_alloc ?_ _)); refine blk_put (cs := #[.slice none 0 0, .int .i64 0]) ?_ 0 _ rfl; (with_reducible repeat (first | refine blk_drewN ?_ _ | refine blk_drew ?_ | refine blk_alloc ?_ _)); exact BK402.out) hb); have n3_ := Aside0.mk (below_step (by repeat (first | (with_reducible first | exact HB.out | apply below_alloc | apply pw_below_drewN | apply below_drew1 | refine below_set ?_ (IsS118.ge HI396.out) | refine below_set ?_ GE402.out) | exact HB.out)) hb); clear HO399; clear HI396; clear BK402; clear HB; have HO399 := n0_; have HI396 := n1_; have BK402 := n2_; have HB := n3_; clear n0_ n1_ n2_ n3_; (try clear hb); (try clear hb2); (try clear hk); (try clear hi)))
  go_loopg [7] k (fun kq v7 w' => ∃ (x7_1 : List Int) (x397000_1 : Int), Aside0 (thermionlaw04_MountGuarded.l0 kq t403 x7_1 x397000_1 t397 t400 = some r) ∧ Aside0 (kq ≤ k) ∧ Aside0 (Kd.R (Kd.int .i64) 3 w' w.heap.size (fun _ => True) v7 x7_1) ∧ Aside0 (Kd.S k57 57 w' w.heap.size (fun k_ => some k_ ≠ (v7 : Value).ownBlock) (.slice Ao9 t397.length co9) t397) ∧ Aside0 (w'.heap[gb402]? = some (.cells #[(.slice Ao9 t397.length co9), .int .i64 t400] 49 (0, 0))) ∧ Aside0 (IsS118 w w' g396 x397000_1) ∧ Aside0 (Below w.heap.size w w'))
  case atStart => exact ⟨(([] : List Int)), (t401), H', ⟨Nat.le_refl _⟩, ⟨by first | exact Kd.R_nil _ _ _ _ _ | exact Kd.N_nil _ _ _ _ _ | exact Kd.V_nil _ _ _ _ _ | exact Kd.Q_nil _ _ _ _ _ | exact Kd.S_nil _ _ _ _ _⟩, ⟨by (with_reducible repeat (first | apply Kd.S_alloc | apply Kd.S_drewN | apply Kd.S_drew)); exact Kd.S_mono HO399.out (fun _ hk => (by simp [Value.ownBlock]))⟩, ⟨by (with_reducible repeat (first | refine blk_drewN ?_ _ | refine blk_drew ?_ | refine blk_alloc ?_ _)); exact BK402.out⟩, ⟨by repeat (first | (with_reducible first | exact HI396.out | apply IsS118.alloc | apply IsS118.drewN | apply IsS118.drew | apply IsS118.set_0 | refine IsS118.far ?_ NB396_402.out _) | exact HI396.out)⟩, ⟨by repeat (first | (with_reducible first | exact HB.out | apply below_alloc | apply pw_below_drewN | apply below_drew1 | refine below_set ?_ (IsS118.ge HI396.out) | refine below_set ?_ GE402.out) | exact HB.out)⟩⟩
  case round =>
   clear H'
   try clear c1
   try clear c2
   try clear p2
   try clear c3
   try clear c5
   try clear c5b0
   try clear c5b1
   try clear c6
   try clear c10
   try clear hcz11_0
   try clear hcz11_1
   try clear hfz11_0
   try clear hfz11_1
   obtain ⟨x7_1, x397000_1, HA, HK1, HO_7, HO_403000, BK402, HI396, HB⟩ := hrel
   cases gk with
   | zero => exact absurd HA.out (by simp [thermionlaw04_MountGuarded.l0])
   | succ k1 =>
    have H := HA.out
    clear HA
    simp only [thermionlaw04_MountGuarded.l0] at H
    by_cases c13 : (x7_1.length : Int) < (t397.length : Int)
    ·rw [if_pos c13] at H
     have c13b0 : decide ((x7_1.length : Int) < (t397.length : Int)) = true := decide_eq_true c13
     have c13b1 : decide (x7_1.length < t397.length) = true := decide_eq_true (Int.ofNat_lt.mp c13)
     clear c13
     replace H := Option.bind_eq_some_iff.mp H
     obtain ⟨⟨t406, t409⟩, A140, H⟩ := H
     replace H : ((mount_May.f t397 t400 x7_1).bind fun bt410 => (if t409 = 0 then (if bt410.2 = 0 then (thermionlaw04_MountGuarded.j1 k1 t403 x7_1 t406 bt410.1 ((decide ((t406.length : Int) > 0)) != (decide (t403 > 0))) x397000_1 t397 t400) else (thermionlaw04_MountGuarded.j1 k1 t403 x7_1 t406 bt410.1 true x397000_1 t397 t400)) else (thermionlaw04_MountGuarded.j1 k1 t403 x7_1 t406 bt410.1 true x397000_1 t397 t400))) = some r := H
     have A14 := Aside0.mk A140
     clear A140
     replace H := Option.bind_eq_some_iff.mp H
     obtain ⟨⟨t410, t413⟩, A150, H⟩ := H
     replace H : (if t409 = 0 then (if t413 = 0 then (thermionlaw04_MountGuarded.j1 k1 t403 x7_1 t406 t410 ((decide ((t406.length : Int) > 0)) != (decide (t403 > 0))) x397000_1 t397 t400) else (thermionlaw04_MountGuarded.j1 k1 t403 x7_1 t406 t410 true x397000_1 t397 t400)) else (thermionlaw04_MountGuarded.j1 k1 t403 x7_1 t406 t410 true x397000_1 t397 t400)) = some r := H
     have A15 := Aside0.mk A150
     clear A150
     have HC16 := Aside0.mk H
     clear H
     obtain ⟨Ao17, co17, eo17⟩ := Kd.R_slice HO_7.out
     subst eo17
     have hnb18 := NB402_396.out
     have hnc18 := NB396_402.out
     have hcz19_0 : wr.cell? ⟨gb402, 0, none⟩ = some (.slice Ao9 t397.length co9) := (blk_cell BK402.out 0).trans rfl
     have hcz19_1 : wr.cell? ⟨gb402, 1, none⟩ = some (.int .i64 t400) := (blk_cell BK402.out 1).trans rfl
     have hfz19_0 := blk_frozen BK402.out 0
     have hfz19_1 := blk_frozen BK402.out 1
     go_upto_region 10 with (first | ((with_reducible refine gate_callee (f := 38) rfl ?_); refine goesL_ (some 33) rfl rfl Try.func38 (by kernel_rfl) rfl #[.agg #[.slice Ao9 t397.length co9, .int .i64 t400], .slice Ao17 x7_1.length co17] rfl (by (try simp only [List.map_toArray, List.map_cons, List.map_nil]); first | done | rfl | (simp only [List.length_drop, List.length_take]; rfl)) ?_; (with_reducible refine (mount_Guard.calls _ _ t397 t400 _ _ x7_1 t406 t409 _ ?side1 ?side2 ?side3 ?side4 A14.out).mono ?_); (case side1 => repeat (first | exact (Kd.S_reads' HO_403000.out).2.2 | (with_reducible refine Kd.C_alloc ?_ _) | (with_reducible refine Kd.C_drewN ?_ _) | (with_reducible refine Kd.C_drew ?_))); (case side2 => exact (Kd.S_reads' HO_403000.out).2.1); (case side3 => repeat (first | exact (Kd.R_reads' HO_7.out).2.2 | (with_reducible refine Kd.C_alloc ?_ _) | (with_reducible refine Kd.C_drewN ?_ _) | (with_reducible refine Kd.C_drew ?_))); (case side4 => exact (Kd.R_reads' HO_7.out).2.1); rintro e w20 ⟨v407, rfl, ho0, hb⟩; refine ⟨_, rfl, ?_⟩; have n0_ := Aside0.mk (Kd.R_elder' (by (with_reducible repeat (first | apply Kd.R_alloc | apply Kd.R_drewN | apply Kd.R_drew)); exact HO_7.out) (Kd.R_base ho0) hb); have n1_ := Aside0.mk (Kd.S_elder' (by (with_reducible repeat (first | apply Kd.S_alloc | apply Kd.S_drewN | apply Kd.S_drew)); exact HO_403000.out) (Kd.R_base ho0) hb); have n2_ := Aside0.mk (Kd.R_lower (Kd.R_new' ho0 (Kd.R_lt (by (with_reducible repeat (first | apply Kd.R_alloc | apply Kd.R_drewN | apply Kd.R_drew)); exact HO_7.out))) (below_size (by repeat (first | (with_reducible first | exact HB.out | apply below_alloc | apply pw_below_drewN | apply below_drew1 | refine below_set ?_ (IsS118.ge HI396.out) | refine below_set ?_ GE402.out) | exact HB.out)))); have n3_ := Aside0.mk (blk_below (g := gb402) (o := .cells #[.slice Ao9 t397.length co9, .int .i64 t400] 49 (0, 0)) (by (with_reducible repeat (first | refine blk_drewN ?_ _ | refine blk_drew ?_ | refine blk_alloc ?_ _)); exact BK402.out) hb); have n4_ := Aside0.mk (IsS118.below (by repeat (first | (with_reducible first | exact HI396.out | apply IsS118.alloc | apply IsS118.drewN | apply IsS118.drew | apply IsS118.set_0 | refine IsS118.far ?_ NB396_402.out _) | exact HI396.out)) hb); have n5_ := Aside0.mk (below_step (by repeat (first | (with_reducible first | exact HB.out | apply below_alloc | apply pw_below_drewN | apply below_drew1 | refine below_set ?_ (IsS118.ge HI396.out) | refine below_set ?_ GE402.out) | exact HB.out)) hb); clear HO_7; clear HO_403000; clear BK402; clear HI396; clear HB; have HO_7 := n0_; have HO_403000 := n1_; have HO408 := n2_; have BK402 := n3_; have HI396 := n4_; have HB := n5_; clear n0_ n1_ n2_ n3_ n4_ n5_; (try clear hb); (try clear hb2); (try clear hk); (try clear hi); (try clear ho0); have hcz21_0 : w20.cell? ⟨gb402, 0, none⟩ = some (.slice Ao9 t397.length co9) := (blk_cell BK402.out 0).trans rfl; have hcz21_1 : w20.cell? ⟨gb402, 1, none⟩ = some (.int .i64 t400) := (blk_cell BK402.out 1).trans rfl; have hfz21_0 := blk_frozen BK402.out 0; have hfz21_1 := blk_frozen BK402.out 1) | ((with_reducible refine gate_callee (f := 36) rfl ?_); refine goesL_ (some 39) rfl rfl Try.func36 (by kernel_rfl) rfl #[.agg #[.slice Ao9 t397.length co9, .int .i64 t400], .slice Ao17 x7_1.length co17] rfl (by (try simp only [List.map_toArray, List.map_cons, List.map_nil]); first | done | rfl | (simp only [List.length_drop, List.length_take]; rfl)) ?_; (with_reducible refine (mount_May.calls _ _ t397 t400 _ _ x7_1 t410 t413 _ ?side1 ?side2 ?side3 ?side4 A15.out).mono ?_); (case side1 => repeat (first | exact (Kd.S_reads' HO_403000.out).2.2 | (with_reducible refine Kd.C_alloc ?_ _) | (with_reducible refine Kd.C_drewN ?_ _) | (with_reducible refine Kd.C_drew ?_))); (case side2 => exact (Kd.S_reads' HO_403000.out).2.1); (case side3 => repeat (first | exact (Kd.R_reads' HO_7.out).2.2 | (with_reducible refine Kd.C_alloc ?_ _) | (with_reducible refine Kd.C_drewN ?_ _) | (with_reducible refine Kd.C_drew ?_))); (case side4 => exact (Kd.R_reads' HO_7.out).2.1); rintro e w22 ⟨v411, rfl, ho0, hb⟩; refine ⟨_, rfl, ?_⟩; have n0_ := Aside0.mk (Kd.R_elder' (by (with_reducible repeat (first | apply Kd.R_alloc | apply Kd.R_drewN | apply Kd.R_drew)); exact HO_7.out) (Kd.R_base ho0) hb); have n1_ := Aside0.mk (Kd.S_elder' (by (with_reducible repeat (first | apply Kd.S_alloc | apply Kd.S_drewN | apply Kd.S_drew)); exact HO_403000.out) (Kd.R_base ho0) hb); have n2_ := Aside0.mk (Kd.R_elder' (by (with_reducible repeat (first | apply Kd.R_alloc | apply Kd.R_drewN | apply Kd.R_drew)); exact HO408.out) (Kd.R_base ho0) hb); have n3_ := Aside0.mk (Kd.R_lower (Kd.R_new' (Kd.R_new' ho0 (Kd.R_lt (by (with_reducible repeat (first | apply Kd.R_alloc | apply Kd.R_drewN | apply Kd.R_drew)); exact HO_7.out))) (Kd.R_lt (by (with_reducible repeat (first | apply Kd.R_alloc | apply Kd.R_drewN | apply Kd.R_drew)); exact HO408.out))) (below_size (by repeat (first | (with_reducible first | exact HB.out | apply below_alloc | apply pw_below_drewN | apply below_drew1 | refine below_set ?_ (IsS118.ge HI396.out) | refine below_set ?_ GE402.out) | exact HB.out)))); have n4_ := Aside0.mk (blk_below (g := gb402) (o := .cells #[.slice Ao9 t397.length co9, .int .i64 t400] 49 (0, 0)) (by (with_reducible repeat (first | refine blk_drewN ?_ _ | refine blk_drew ?_ | refine blk_alloc ?_ _)); exact BK402.out) hb); have n5_ := Aside0.mk (IsS118.below (by repeat (first | (with_reducible first | exact HI396.out | apply IsS118.alloc | apply IsS118.drewN | apply IsS118.drew | apply IsS118.set_0 | refine IsS118.far ?_ NB396_402.out _) | exact HI396.out)) hb); have n6_ := Aside0.mk (below_step (by repeat (first | (with_reducible first | exact HB.out | apply below_alloc | apply pw_below_drewN | apply below_drew1 | refine below_set ?_ (IsS118.ge HI396.out) | refine below_set ?_ GE402.out) | exact HB.out)) hb); clear HO_7; clear HO_403000; clear HO408; clear BK402; clear HI396; clear HB; have HO_7 := n0_; have HO_403000 := n1_; have HO408 := n2_; have HO412 := n3_; have BK402 := n4_; have HI396 := n5_; have HB := n6_; clear n0_ n1_ n2_ n3_ n4_ n5_ n6_; (try clear hb); (try clear hb2); (try clear hk); (try clear hi); (try clear ho0)))
     (try simp only [Act.put, List.setIfInBounds_toArray, List.set_cons_zero, List.set_cons_succ])
     go_cut [55] (fun v55 wc => ∃ (kq : Nat) (x55_15 : Bool), v55 = .bool x55_15 ∧ Aside0 (thermionlaw04_MountGuarded.j1 kq t403 x7_1 t406 t410 x55_15 x397000_1 t397 t400 = some r) ∧ Aside0 (kq ≤ k1) ∧ Aside0 (Kd.R (Kd.int .i64) 3 wc w.heap.size (fun k_ => some k_ ≠ (v407 : Value).ownBlock ∧ some k_ ≠ (v411 : Value).ownBlock) (.slice Ao17 x7_1.length co17) x7_1) ∧ Aside0 (Kd.R (Kd.int .i64) 3 wc w.heap.size (fun k_ => some k_ ≠ ((.slice Ao17 x7_1.length co17) : Value).ownBlock ∧ some k_ ≠ (v411 : Value).ownBlock) v407 t406) ∧ Aside0 (Kd.R (Kd.int .i64) 3 wc w.heap.size (fun k_ => some k_ ≠ ((.slice Ao17 x7_1.length co17) : Value).ownBlock ∧ some k_ ≠ (v407 : Value).ownBlock) v411 t410) ∧ Aside0 (Kd.S k57 57 wc w.heap.size (fun k_ => some k_ ≠ ((.slice Ao17 x7_1.length co17) : Value).ownBlock ∧ some k_ ≠ (v407 : Value).ownBlock ∧ some k_ ≠ (v411 : Value).ownBlock) (.slice Ao9 t397.length co9) t397) ∧ Aside0 (wc.heap[gb402]? = some (.cells #[(.slice Ao9 t397.length co9), .int .i64 t400] 49 (0, 0))) ∧ Aside0 (IsS118 w wc g396 x397000_1) ∧ Aside0 (Below w.heap.size w wc))
     case first =>
      have H := HC16.out
      clear HC16
      by_cases c23 : t409 = 0
      ·rw [if_pos c23] at H
       have c23b0 : (t409 == 0) = true := beq_iff_eq.mpr c23
       have c23b1 : (t409 != 0) = false := bne_eq_false_iff_eq.mpr c23
       clear c23
       (first | rw [c23b0] | (simp only [i64_w, i32_w]; rw [c23b0]) | skip)
       by_cases c24 : t413 = 0
       ·rw [if_pos c24] at H
        have c24b0 : (t413 == 0) = true := beq_iff_eq.mpr c24
        have c24b1 : (t413 != 0) = false := bne_eq_false_iff_eq.mpr c24
        clear c24
        have H' := Aside0.mk H
        clear H
        obtain ⟨Ao25, co25, eo25⟩ := Kd.R_slice HO408.out
        subst eo25
        go_wp2
        go_meet
        case rel => exact ⟨_, (((decide ((t406.length : Int) > 0)) != (decide (t403 > 0)))), (by first | rfl | (simp; done) | (simp; cases decide (0 < t406.length) <;> cases decide (0 < t403) <;> rfl)), H', ⟨by have := HK1.out; first | omega | exact Nat.le_refl _⟩, ⟨by (with_reducible repeat (first | apply Kd.R_alloc | apply Kd.R_drewN | apply Kd.R_drew)); exact Kd.R_mono HO_7.out (fun _ hk => ⟨hk.1.2, hk.2⟩)⟩, ⟨by (with_reducible repeat (first | apply Kd.R_alloc | apply Kd.R_drewN | apply Kd.R_drew)); exact Kd.R_mono HO408.out (fun _ hk => ⟨hk.1.2, hk.2⟩)⟩, ⟨by (with_reducible repeat (first | apply Kd.R_alloc | apply Kd.R_drewN | apply Kd.R_drew)); exact Kd.R_mono HO412.out (fun _ hk => ⟨hk.1.2, hk.2⟩)⟩, ⟨by (with_reducible repeat (first | apply Kd.S_alloc | apply Kd.S_drewN | apply Kd.S_drew)); exact Kd.S_mono HO_403000.out (fun _ hk => ⟨hk.1.1, ⟨hk.1.2, hk.2⟩⟩)⟩, ⟨by (with_reducible repeat (first | refine blk_drewN ?_ _ | refine blk_drew ?_ | refine blk_alloc ?_ _)); exact BK402.out⟩, ⟨by repeat (first | (with_reducible first | exact HI396.out | apply IsS118.alloc | apply IsS118.drewN | apply IsS118.drew | apply IsS118.set_0 | refine IsS118.far ?_ NB396_402.out _) | exact HI396.out)⟩, ⟨by repeat (first | (with_reducible first | exact HB.out | apply below_alloc | apply pw_below_drewN | apply below_drew1 | refine below_set ?_ (IsS118.ge HI396.out) | refine below_set ?_ GE402.out) | exact HB.out)⟩⟩
       ·rw [if_neg c24] at H
        have c24b0 : (t413 == 0) = false := beq_eq_false_iff_ne.mpr c24
        have c24b1 : (t413 != 0) = true := bne_iff_ne.mpr c24
        have H' := Aside0.mk H
        clear H
        go_wp2
        go_meet
        case rel => exact ⟨_, (true), (by first | rfl | (simp; done) | (simp [*]; done)), H', ⟨by have := HK1.out; first | omega | exact Nat.le_refl _⟩, ⟨by (with_reducible repeat (first | apply Kd.R_alloc | apply Kd.R_drewN | apply Kd.R_drew)); exact Kd.R_mono HO_7.out (fun _ hk => ⟨hk.1.2, hk.2⟩)⟩, ⟨by (with_reducible repeat (first | apply Kd.R_alloc | apply Kd.R_drewN | apply Kd.R_drew)); exact Kd.R_mono HO408.out (fun _ hk => ⟨hk.1.2, hk.2⟩)⟩, ⟨by (with_reducible repeat (first | apply Kd.R_alloc | apply Kd.R_drewN | apply Kd.R_drew)); exact Kd.R_mono HO412.out (fun _ hk => ⟨hk.1.2, hk.2⟩)⟩, ⟨by (with_reducible repeat (first | apply Kd.S_alloc | apply Kd.S_drewN | apply Kd.S_drew)); exact Kd.S_mono HO_403000.out (fun _ hk => ⟨hk.1.1, ⟨hk.1.2, hk.2⟩⟩)⟩, ⟨by (with_reducible repeat (first | refine blk_drewN ?_ _ | refine blk_drew ?_ | refine blk_alloc ?_ _)); exact BK402.out⟩, ⟨by repeat (first | (with_reducible first | exact HI396.out | apply IsS118.alloc | apply IsS118.drewN | apply IsS118.drew | apply IsS118.set_0 | refine IsS118.far ?_ NB396_402.out _) | exact HI396.out)⟩, ⟨by repeat (first | (with_reducible first | exact HB.out | apply below_alloc | apply pw_below_drewN | apply below_drew1 | refine below_set ?_ (IsS118.ge HI396.out) | refine below_set ?_ GE402.out) | exact HB.out)⟩⟩
      ·rw [if_neg c23] at H
       have c23b0 : (t409 == 0) = false := beq_eq_false_iff_ne.mpr c23
       have c23b1 : (t409 != 0) = true := bne_iff_ne.mpr c23
       (first | rw [c23b0] | (simp only [i64_w, i32_w]; rw [c23b0]) | skip)
       have H' := Aside0.mk H
       clear H
       go_wp2
       go_meet
       case rel => exact ⟨_, (true), (by first | rfl | (simp; done) | (simp [*]; done)), H', ⟨by have := HK1.out; first | omega | exact Nat.le_refl _⟩, ⟨by (with_reducible repeat (first | apply Kd.R_alloc | apply Kd.R_drewN | apply Kd.R_drew)); exact Kd.R_mono HO_7.out (fun _ hk => ⟨hk.1.2, hk.2⟩)⟩, ⟨by (with_reducible repeat (first | apply Kd.R_alloc | apply Kd.R_drewN | apply Kd.R_drew)); exact Kd.R_mono HO408.out (fun _ hk => ⟨hk.1.2, hk.2⟩)⟩, ⟨by (with_reducible repeat (first | apply Kd.R_alloc | apply Kd.R_drewN | apply Kd.R_drew)); exact Kd.R_mono HO412.out (fun _ hk => ⟨hk.1.2, hk.2⟩)⟩, ⟨by (with_reducible repeat (first | apply Kd.S_alloc | apply Kd.S_drewN | apply Kd.S_drew)); exact Kd.S_mono HO_403000.out (fun _ hk => ⟨hk.1.1, ⟨hk.1.2, hk.2⟩⟩)⟩, ⟨by (with_reducible repeat (first | refine blk_drewN ?_ _ | refine blk_drew ?_ | refine blk_alloc ?_ _)); exact BK402.out⟩, ⟨by repeat (first | (with_reducible first | exact HI396.out | apply IsS118.alloc | apply IsS118.drewN | apply IsS118.drew | apply IsS118.set_0 | refine IsS118.far ?_ NB396_402.out _) | exact HI396.out)⟩, ⟨by repeat (first | (with_reducible first | exact HB.out | apply below_alloc | apply pw_below_drewN | apply below_drew1 | refine below_set ?_ (IsS118.ge HI396.out) | refine below_set ?_ GE402.out) | exact HB.out)⟩⟩
     case rest =>
      clear HC16
      try clear c1
      try clear c2
      try clear p2
      try clear c3
      try clear c5
      try clear c5b0
      try clear c5b1
      try clear c6
      try clear c10
      try clear c13
      try clear c13b0
      try clear c13b1
      try clear c18
      try clear c19
      try clear c23
      try clear c23b0
      try clear c23b1
      try clear c24
      try clear c24b0
      try clear c24b1
      try clear hcz11_0
      try clear hcz11_1
      try clear hcz19_0
      try clear hcz19_1
      try clear hcz21_0
      try clear hcz21_1
      try clear hfz11_0
      try clear hfz11_1
      try clear hfz19_0
      try clear hfz19_1
      try clear hfz21_0
      try clear hfz21_1
      try clear p2
      obtain ⟨kq, x55_15, rfl, HA, HJ15, HO_7, HO_8, HO_10, HO_403000, BK402, HI396, HB⟩ := hcut
      cases kq with
      | zero => exact absurd HA.out (by simp [thermionlaw04_MountGuarded.j1])
      | succ kj15 =>
       have H := HA.out
       clear HA
       simp only [thermionlaw04_MountGuarded.j1] at H
       by_cases c26 : x55_15 = true
       ·subst c26
        have H1 : (some false) = some r := by rw [if_pos rfl] at H; exact H
        clear H
        have H := H1
        clear H1
        obtain rfl := Option.some.inj H
        go_wp2
        go_ret
        exact ⟨by first | rfl | (simp [errW_none, errW_some] <;> rfl) | (simp [*, errW_none, errW_some] <;> rfl), by repeat (first | (with_reducible first | exact HB.out | apply below_alloc | apply pw_below_drewN | apply below_drew1 | refine below_set ?_ (IsS118.ge HI396.out) | refine below_set ?_ GE402.out) | exact HB.out)⟩
       ·replace c26 := Bool.eq_false_iff.mpr c26
        subst c26
        have H1 : (thermionlaw04_MountGuarded.l1 kj15 t403 x7_1 t406 t410 0 x397000_1 t397 t400) = some r := by rw [if_neg (show ¬ (false = true) by decide)] at H; exact H
        clear H
        have H := H1
        clear H1
        have H' := Aside0.mk H
        clear H
        go_wp2
        go_loopg [12] kj15 (fun kq v12 w' => ∃ (x12_3 : Int), v12 = .int .i64 x12_3 ∧ Aside0 (thermionlaw04_MountGuarded.l1 kq t403 x7_1 t406 t410 x12_3 x397000_1 t397 t400 = some r) ∧ Aside0 (kq ≤ kj15) ∧ Aside0 (Kd.R (Kd.int .i64) 3 w' w.heap.size (fun k_ => some k_ ≠ (v407 : Value).ownBlock ∧ some k_ ≠ (v411 : Value).ownBlock) (.slice Ao17 x7_1.length co17) x7_1) ∧ Aside0 (Kd.R (Kd.int .i64) 3 w' w.heap.size (fun k_ => some k_ ≠ ((.slice Ao17 x7_1.length co17) : Value).ownBlock ∧ some k_ ≠ (v411 : Value).ownBlock) v407 t406) ∧ Aside0 (Kd.R (Kd.int .i64) 3 w' w.heap.size (fun k_ => some k_ ≠ ((.slice Ao17 x7_1.length co17) : Value).ownBlock ∧ some k_ ≠ (v407 : Value).ownBlock) v411 t410) ∧ Aside0 (Kd.S k57 57 w' w.heap.size (fun k_ => some k_ ≠ ((.slice Ao17 x7_1.length co17) : Value).ownBlock ∧ some k_ ≠ (v407 : Value).ownBlock ∧ some k_ ≠ (v411 : Value).ownBlock) (.slice Ao9 t397.length co9) t397) ∧ Aside0 (w'.heap[gb402]? = some (.cells #[(.slice Ao9 t397.length co9), .int .i64 t400] 49 (0, 0))) ∧ Aside0 (IsS118 w w' g396 x397000_1) ∧ Aside0 (Below w.heap.size w w'))
        case atStart => exact ⟨(0), (by first | rfl | (simp; done) | (simp [*]; done)), H', ⟨Nat.le_refl _⟩, ⟨by (with_reducible repeat (first | apply Kd.R_alloc | apply Kd.R_drewN | apply Kd.R_drew)); exact HO_7.out⟩, ⟨by (with_reducible repeat (first | apply Kd.R_alloc | apply Kd.R_drewN | apply Kd.R_drew)); exact HO_8.out⟩, ⟨by (with_reducible repeat (first | apply Kd.R_alloc | apply Kd.R_drewN | apply Kd.R_drew)); exact HO_10.out⟩, ⟨by (with_reducible repeat (first | apply Kd.S_alloc | apply Kd.S_drewN | apply Kd.S_drew)); exact HO_403000.out⟩, ⟨by (with_reducible repeat (first | refine blk_drewN ?_ _ | refine blk_drew ?_ | refine blk_alloc ?_ _)); exact BK402.out⟩, ⟨by repeat (first | (with_reducible first | exact HI396.out | apply IsS118.alloc | apply IsS118.drewN | apply IsS118.drew | apply IsS118.set_0 | refine IsS118.far ?_ NB396_402.out _) | exact HI396.out)⟩, ⟨by repeat (first | (with_reducible first | exact HB.out | apply below_alloc | apply pw_below_drewN | apply below_drew1 | refine below_set ?_ (IsS118.ge HI396.out) | refine below_set ?_ GE402.out) | exact HB.out)⟩⟩
        case round =>
         clear H'
         try clear c1
         try clear c2
         try clear p2
         try clear c3
         try clear c5
         try clear c5b0
         try clear c5b1
         try clear c6
         try clear c10
         try clear c13
         try clear c13b0
         try clear c13b1
         try clear c18
         try clear c19
         try clear c23
         try clear c23b0
         try clear c23b1
         try clear c24
         try clear c24b0
         try clear c24b1
         try clear c26
         try clear hcz11_0
         try clear hcz11_1
         try clear hcz19_0
         try clear hcz19_1
         try clear hcz21_0
         try clear hcz21_1
         try clear hfz11_0
         try clear hfz11_1
         try clear hfz19_0
         try clear hfz19_1
         try clear hfz21_0
         try clear hfz21_1
         try clear p2
         obtain ⟨x12_3, rfl, HA, HK3, HO_7, HO_8, HO_10, HO_403000, BK402, HI396, HB⟩ := hrel
         cases gk with
         | zero => exact absurd HA.out (by simp [thermionlaw04_MountGuarded.l1])
         | succ k3 =>
          have H := HA.out
          clear HA
          simp only [thermionlaw04_MountGuarded.l1] at H
          by_cases c27 : x12_3 < (t406.length : Int)
          ·rw [if_pos c27] at H
           have c27b0 : decide (x12_3 < (t406.length : Int)) = true := decide_eq_true c27
           clear c27
           by_cases c28 : 0 ≤ x12_3
           ·rw [if_pos c28] at H
            have c28b0 : decide (0 ≤ x12_3) = true := decide_eq_true c28
            clear c28
            replace H := Option.bind_eq_some_iff.mp H
            obtain ⟨t415, A290, H⟩ := H
            replace H : (if t415 = true then ((thermionkit_Has.f k3 x7_1 (rd t406 x12_3)).bind fun t417 => (if t417 = true then (some false) else (thermionlaw04_MountGuarded.l1 k3 t403 x7_1 t406 t410 (wrap64 (x12_3 + 1)) x397000_1 t397 t400))) else (some false)) = some r := H
            have A29 := Aside0.mk A290
            clear A290
            by_cases c30 : t415 = true
            ·subst c30
             have H1 : ((thermionkit_Has.f k3 x7_1 (rd t406 x12_3)).bind fun t417 => (if t417 = true then (some false) else (thermionlaw04_MountGuarded.l1 k3 t403 x7_1 t406 t410 (wrap64 (x12_3 + 1)) x397000_1 t397 t400))) = some r := by rw [if_pos rfl] at H; exact H
             clear H
             have H := H1
             clear H1
             replace H := Option.bind_eq_some_iff.mp H
             obtain ⟨t417, A310, H⟩ := H
             replace H : (if t417 = true then (some false) else (thermionlaw04_MountGuarded.l1 k3 t403 x7_1 t406 t410 (wrap64 (x12_3 + 1)) x397000_1 t397 t400)) = some r := H
             have A31 := Aside0.mk A310
             clear A310
             by_cases c32 : t417 = true
             ·subst c32
              have H1 : (some false) = some r := by rw [if_pos rfl] at H; exact H
              clear H
              have H := H1
              clear H1
              obtain rfl := Option.some.inj H
              obtain ⟨Ao33, co33, eo33⟩ := Kd.R_slice HO_8.out
              subst eo33
              have p414 : 0 ≤ (x12_3 : Int) := of_decide_eq_true (by first | (with_reducible assumption) | assumption)
              have q414 : x12_3 < (t406.length : Int) := of_decide_eq_true (by first | (with_reducible assumption) | assumption)
              obtain ⟨ad414, e414, hx414_0⟩ := Kd.at_int (Kd.R_reads' HO_8.out).2.2 x12_3 p414 q414
              cases e414
              replace p414 := eq_true p414
              replace q414 := eq_true q414
              obtain ⟨Ao34, co34, eo34⟩ := Kd.R_slice HO_10.out
              subst eo34
              go_wp2_with (first | ((with_reducible refine gate_callee (f := 32) rfl ?_); refine goesL_ (some 67) rfl rfl Try.func32 (by kernel_rfl) rfl #[.slice Ao34 t410.length co34, .int .i64 (rd t406 x12_3)] rfl (by (try simp only [List.map_toArray, List.map_cons, List.map_nil]); first | done | rfl | (simp only [List.length_drop, List.length_take]; rfl)) ?_; (with_reducible refine (thermionkit_Has.calls k3 _ _ t410 (rd t406 x12_3) true _ ?side1 ?side2 A29.out).mono ?_); (case side1 => repeat (first | exact (Kd.R_reads' HO_10.out).2.2 | (with_reducible refine Kd.C_alloc ?_ _) | (with_reducible refine Kd.C_drewN ?_ _) | (with_reducible refine Kd.C_drew ?_))); (case side2 => exact (Kd.R_reads' HO_10.out).2.1); rintro e w' ⟨rfl, ⟨nd, rfl⟩⟩; refine ⟨_, rfl, ?_⟩; have p416 : 0 ≤ (x12_3 : Int) := of_decide_eq_true (by first | (with_reducible assumption) | assumption); have q416 : x12_3 < (t406.length : Int) := of_decide_eq_true (by first | (with_reducible assumption) | assumption); obtain ⟨ad416, e416, hx416_0⟩ := Kd.at_int (Kd.R_reads' HO_8.out).2.2 x12_3 p416 q416; obtain rfl : ad414 = ad416 := (by injection e416); replace p416 := eq_true p416; replace q416 := eq_true q416) | (go_at_call 32; (with_reducible refine (thermionkit_Has.calls k3 _ _ x7_1 (rd t406 x12_3) true _ ?side1 ?side2 A31.out).mono ?_); (case side1 => repeat (first | exact (Kd.R_reads' HO_7.out).2.2 | (with_reducible refine Kd.C_alloc ?_ _) | (with_reducible refine Kd.C_drewN ?_ _) | (with_reducible refine Kd.C_drew ?_))); (case side2 => exact (Kd.R_reads' HO_7.out).2.1); rintro e w' ⟨rfl, ⟨nd, rfl⟩⟩))
              go_ret
              exact ⟨by first | rfl | (simp [errW_none, errW_some] <;> rfl) | (simp [*, errW_none, errW_some] <;> rfl), by repeat (first | (with_reducible first | exact HB.out | apply below_alloc | apply pw_below_drewN | apply below_drew1 | refine below_set ?_ (IsS118.ge HI396.out) | refine below_set ?_ GE402.out) | exact HB.out)⟩
             ·replace c32 := Bool.eq_false_iff.mpr c32
              subst c32
              have H1 : (thermionlaw04_MountGuarded.l1 k3 t403 x7_1 t406 t410 (wrap64 (x12_3 + 1)) x397000_1 t397 t400) = some r := by rw [if_neg (show ¬ (false = true) by decide)] at H; exact H
              clear H
              have H := H1
              clear H1
              have H' := Aside0.mk H
              clear H
              obtain ⟨Ao35, co35, eo35⟩ := Kd.R_slice HO_8.out
              subst eo35
              have p414 : 0 ≤ (x12_3 : Int) := of_decide_eq_true (by first | (with_reducible assumption) | assumption)
              have q414 : x12_3 < (t406.length : Int) := of_decide_eq_true (by first | (with_reducible assumption) | assumption)
              obtain ⟨ad414, e414, hx414_0⟩ := Kd.at_int (Kd.R_reads' HO_8.out).2.2 x12_3 p414 q414
              cases e414
              replace p414 := eq_true p414
              replace q414 := eq_true q414
              obtain ⟨Ao36, co36, eo36⟩ := Kd.R_slice HO_10.out
              subst eo36
              go_wp2_with (first | ((with_reducible refine gate_callee (f := 32) rfl ?_); refine goesL_ (some 67) rfl rfl Try.func32 (by kernel_rfl) rfl #[.slice Ao36 t410.length co36, .int .i64 (rd t406 x12_3)] rfl (by (try simp only [List.map_toArray, List.map_cons, List.map_nil]); first | done | rfl | (simp only [List.length_drop, List.length_take]; rfl)) ?_; (with_reducible refine (thermionkit_Has.calls k3 _ _ t410 (rd t406 x12_3) true _ ?side1 ?side2 A29.out).mono ?_); (case side1 => repeat (first | exact (Kd.R_reads' HO_10.out).2.2 | (with_reducible refine Kd.C_alloc ?_ _) | (with_reducible refine Kd.C_drewN ?_ _) | (with_reducible refine Kd.C_drew ?_))); (case side2 => exact (Kd.R_reads' HO_10.out).2.1); rintro e w' ⟨rfl, ⟨nd, rfl⟩⟩; refine ⟨_, rfl, ?_⟩; have p416 : 0 ≤ (x12_3 : Int) := of_decide_eq_true (by first | (with_reducible assumption) | assumption); have q416 : x12_3 < (t406.length : Int) := of_decide_eq_true (by first | (with_reducible assumption) | assumption); obtain ⟨ad416, e416, hx416_0⟩ := Kd.at_int (Kd.R_reads' HO_8.out).2.2 x12_3 p416 q416; obtain rfl : ad414 = ad416 := (by injection e416); replace p416 := eq_true p416; replace q416 := eq_true q416) | (go_at_call 32; (with_reducible refine (thermionkit_Has.calls k3 _ _ x7_1 (rd t406 x12_3) false _ ?side1 ?side2 A31.out).mono ?_); (case side1 => repeat (first | exact (Kd.R_reads' HO_7.out).2.2 | (with_reducible refine Kd.C_alloc ?_ _) | (with_reducible refine Kd.C_drewN ?_ _) | (with_reducible refine Kd.C_drew ?_))); (case side2 => exact (Kd.R_reads' HO_7.out).2.1); rintro e w' ⟨rfl, ⟨nd, rfl⟩⟩))
              go_roundg k3
              case measure => have := HK1.out; have := HJ15.out; have := HK3.out; omega
              case rel => exact ⟨(wrap64 (x12_3 + 1)), (by first | rfl | (simp; done) | (simp [*]; done)), H', ⟨by have := HK1.out; have := HJ15.out; have := HK3.out; omega⟩, ⟨by (with_reducible repeat (first | apply Kd.R_alloc | apply Kd.R_drewN | apply Kd.R_drew)); exact HO_7.out⟩, ⟨by (with_reducible repeat (first | apply Kd.R_alloc | apply Kd.R_drewN | apply Kd.R_drew)); exact HO_8.out⟩, ⟨by (with_reducible repeat (first | apply Kd.R_alloc | apply Kd.R_drewN | apply Kd.R_drew)); exact HO_10.out⟩, ⟨by (with_reducible repeat (first | apply Kd.S_alloc | apply Kd.S_drewN | apply Kd.S_drew)); exact HO_403000.out⟩, ⟨by (with_reducible repeat (first | refine blk_drewN ?_ _ | refine blk_drew ?_ | refine blk_alloc ?_ _)); exact BK402.out⟩, ⟨by repeat (first | (with_reducible first | exact HI396.out | apply IsS118.alloc | apply IsS118.drewN | apply IsS118.drew | apply IsS118.set_0 | refine IsS118.far ?_ NB396_402.out _) | exact HI396.out)⟩, ⟨by repeat (first | (with_reducible first | exact HB.out | apply below_alloc | apply pw_below_drewN | apply below_drew1 | refine below_set ?_ (IsS118.ge HI396.out) | refine below_set ?_ GE402.out) | exact HB.out)⟩⟩
            ·replace c30 := Bool.eq_false_iff.mpr c30
             subst c30
             have H1 : (some false) = some r := by rw [if_neg (show ¬ (false = true) by decide)] at H; exact H
             clear H
             have H := H1
             clear H1
             obtain rfl := Option.some.inj H
             obtain ⟨Ao37, co37, eo37⟩ := Kd.R_slice HO_8.out
             subst eo37
             have p414 : 0 ≤ (x12_3 : Int) := of_decide_eq_true (by first | (with_reducible assumption) | assumption)
             have q414 : x12_3 < (t406.length : Int) := of_decide_eq_true (by first | (with_reducible assumption) | assumption)
             obtain ⟨ad414, e414, hx414_0⟩ := Kd.at_int (Kd.R_reads' HO_8.out).2.2 x12_3 p414 q414
             cases e414
             replace p414 := eq_true p414
             replace q414 := eq_true q414
             obtain ⟨Ao38, co38, eo38⟩ := Kd.R_slice HO_10.out
             subst eo38
             go_wp2_with (first | ((with_reducible refine gate_callee (f := 32) rfl ?_); refine goesL_ (some 67) rfl rfl Try.func32 (by kernel_rfl) rfl #[.slice Ao38 t410.length co38, .int .i64 (rd t406 x12_3)] rfl (by (try simp only [List.map_toArray, List.map_cons, List.map_nil]); first | done | rfl | (simp only [List.length_drop, List.length_take]; rfl)) ?_; (with_reducible refine (thermionkit_Has.calls k3 _ _ t410 (rd t406 x12_3) false _ ?side1 ?side2 A29.out).mono ?_); (case side1 => repeat (first | exact (Kd.R_reads' HO_10.out).2.2 | (with_reducible refine Kd.C_alloc ?_ _) | (with_reducible refine Kd.C_drewN ?_ _) | (with_reducible refine Kd.C_drew ?_))); (case side2 => exact (Kd.R_reads' HO_10.out).2.1); rintro e w' ⟨rfl, ⟨nd, rfl⟩⟩; refine ⟨_, rfl, ?_⟩))
             go_ret
             exact ⟨by first | rfl | (simp [errW_none, errW_some] <;> rfl) | (simp [*, errW_none, errW_some] <;> rfl), by repeat (first | (with_reducible first | exact HB.out | apply below_alloc | apply pw_below_drewN | apply below_drew1 | refine below_set ?_ (IsS118.ge HI396.out) | refine below_set ?_ GE402.out) | exact HB.out)⟩
           ·rw [if_neg c28] at H
            exact absurd H (by simp)
          ·rw [if_neg c27] at H
           have c27b0 : decide (x12_3 < (t406.length : Int)) = false := decide_eq_false c27
           clear c27
           by_cases c39 : t403 = 0
           ·rw [if_pos c39] at H
            have c39b0 : (t403 == 0) = true := beq_iff_eq.mpr c39
            have c39b1 : (t403 != 0) = false := bne_eq_false_iff_eq.mpr c39
            clear c39
            replace H := Option.bind_eq_some_iff.mp H
            obtain ⟨t418, A400, H⟩ := H
            replace H : (some t418) = some r := H
            have A40 := Aside0.mk A400
            clear A400
            obtain rfl := Option.some.inj H
            obtain ⟨Ao41, co41, eo41⟩ := Kd.R_slice HO_8.out
            subst eo41
            go_wp2_with (first | ((with_reducible refine gate_callee (f := 21) rfl ?_); refine goesL_ (some 79) rfl rfl Try.func21 (by kernel_rfl) rfl #[] rfl (by (try simp only [List.map_toArray, List.map_cons, List.map_nil]); first | done | rfl | (simp only [List.length_drop, List.length_take]; rfl)) ?_; (with_reducible refine (thermionlaw04_awake.calls k3  t418 _ A40.out).mono ?_); rintro e w42 ⟨rfl, hb⟩; refine ⟨_, rfl, ?_⟩; have n0_ := Aside0.mk (Kd.R_below (by (with_reducible repeat (first | apply Kd.R_alloc | apply Kd.R_drewN | apply Kd.R_drew)); exact HO_7.out) hb); have n1_ := Aside0.mk (Kd.R_below (by (with_reducible repeat (first | apply Kd.R_alloc | apply Kd.R_drewN | apply Kd.R_drew)); exact HO_8.out) hb); have n2_ := Aside0.mk (Kd.R_below (by (with_reducible repeat (first | apply Kd.R_alloc | apply Kd.R_drewN | apply Kd.R_drew)); exact HO_10.out) hb); have n3_ := Aside0.mk (Kd.S_below (by (with_reducible repeat (first | apply Kd.S_alloc | apply Kd.S_drewN | apply Kd.S_drew)); exact HO_403000.out) hb); have n4_ := Aside0.mk (blk_below (g := gb402) (o := .cells #[.slice Ao9 t397.length co9, .int .i64 t400] 49 (0, 0)) (by (with_reducible repeat (first | refine blk_drewN ?_ _ | refine blk_drew ?_ | refine blk_alloc ?_ _)); exact BK402.out) hb); have n5_ := Aside0.mk (IsS118.below (by repeat (first | (with_reducible first | exact HI396.out | apply IsS118.alloc | apply IsS118.drewN | apply IsS118.drew | apply IsS118.set_0 | refine IsS118.far ?_ NB396_402.out _) | exact HI396.out)) hb); have n6_ := Aside0.mk (below_step (by repeat (first | (with_reducible first | exact HB.out | apply below_alloc | apply pw_below_drewN | apply below_drew1 | refine below_set ?_ (IsS118.ge HI396.out) | refine below_set ?_ GE402.out) | exact HB.out)) hb); clear HO_7; clear HO_8; clear HO_10; clear HO_403000; clear BK402; clear HI396; clear HB; have HO_7 := n0_; have HO_8 := n1_; have HO_10 := n2_; have HO_403000 := n3_; have BK402 := n4_; have HI396 := n5_; have HB := n6_; clear n0_ n1_ n2_ n3_ n4_ n5_ n6_; (try clear hb); (try clear hb2); (try clear hk); (try clear hi)))
            go_ret
            exact ⟨by first | rfl | (simp [errW_none, errW_some] <;> rfl) | (simp [*, errW_none, errW_some] <;> rfl), by repeat (first | (with_reducible first | exact HB.out | apply below_alloc | apply pw_below_drewN | apply below_drew1 | refine below_set ?_ (IsS118.ge HI396.out) | refine below_set ?_ GE402.out) | exact HB.out)⟩
           ·rw [if_neg c39] at H
            have c39b0 : (t403 == 0) = false := beq_eq_false_iff_ne.mpr c39
            have c39b1 : (t403 != 0) = true := bne_iff_ne.mpr c39
            replace H := Option.bind_eq_some_iff.mp H
            obtain ⟨⟨t419, t420⟩, A430, H⟩ := H
            replace H : (if 0 ≤ t419 then (if t419 < (t406.length : Int) then ((thermionlaw04_put.f k3 x7_1 (rd t406 t419)).bind fun t422 => (thermionlaw04_MountGuarded.l0 k3 t403 t422 t420 t397 t400)) else (none)) else (none)) = some r := H
            have A43 := Aside0.mk A430
            clear A430
            by_cases c44 : 0 ≤ t419
            ·rw [if_pos c44] at H
             have c44b0 : decide (0 ≤ t419) = true := decide_eq_true c44
             clear c44
             by_cases c45 : t419 < (t406.length : Int)
             ·rw [if_pos c45] at H
              have c45b0 : decide (t419 < (t406.length : Int)) = true := decide_eq_true c45
              clear c45
              replace H := Option.bind_eq_some_iff.mp H
              obtain ⟨t422, A460, H⟩ := H
              replace H : (thermionlaw04_MountGuarded.l0 k3 t403 t422 t420 t397 t400) = some r := H
              have A46 := Aside0.mk A460
              clear A460
              have H' := Aside0.mk H
              clear H
              obtain ⟨Ao47, co47, eo47⟩ := Kd.R_slice HO_8.out
              subst eo47
              go_wp2_with (first | ((with_reducible refine gate_callee (f := 43) rfl ?_); refine goesL_ (some 85) rfl rfl Try.func43 (by kernel_rfl) rfl #[.pointer (some ⟨g396, 0, none⟩), .int .i64 (t406.length : Int)] rfl (by (try simp only [List.map_toArray, List.map_cons, List.map_nil]); first | done | rfl | (simp only [List.length_drop, List.length_take]; rfl)) ?_; (with_reducible refine (thermionkit_Dice_Upto.calls g396 x397000_1 (t406.length : Int) t419 t420 w _ ?side1 ?side2 A43.out).mono ?_); (case side1 => repeat (first | (with_reducible first | exact HI396.out | apply IsS118.alloc | apply IsS118.drewN | apply IsS118.drew | apply IsS118.set_0 | refine IsS118.far ?_ NB396_402.out _) | exact HI396.out)); (case side2 => repeat (first | (with_reducible first | exact HB.out | apply below_alloc | apply pw_below_drewN | apply below_drew1 | refine below_set ?_ (IsS118.ge HI396.out) | refine below_set ?_ GE402.out) | exact HB.out)); rintro e w48 ⟨rfl, hi, hb, hk⟩; refine ⟨_, rfl, ?_⟩; have n0_ := Aside0.mk (Kd.R_mono (Kd.R_keep (IsS118.apart (show IsS118 w _ g396 x397000_1 from by repeat (first | (with_reducible first | exact HI396.out | apply IsS118.alloc | apply IsS118.drewN | apply IsS118.drew | apply IsS118.set_0 | refine IsS118.far ?_ NB396_402.out _) | exact HI396.out)) (by (with_reducible repeat (first | apply Kd.R_alloc | apply Kd.R_drewN | apply Kd.R_drew)); exact HO_7.out) (by decide)) hk (fun _ h => h.2)) (fun _ h => h.1)); have n1_ := Aside0.mk (Kd.R_mono (Kd.R_keep (IsS118.apart (show IsS118 w _ g396 x397000_1 from by repeat (first | (with_reducible first | exact HI396.out | apply IsS118.alloc | apply IsS118.drewN | apply IsS118.drew | apply IsS118.set_0 | refine IsS118.far ?_ NB396_402.out _) | exact HI396.out)) (by (with_reducible repeat (first | apply Kd.R_alloc | apply Kd.R_drewN | apply Kd.R_drew)); exact HO_8.out) (by decide)) hk (fun _ h => h.2)) (fun _ h => h.1)); have n2_ := Aside0.mk (Kd.R_mono (Kd.R_keep (IsS118.apart (show IsS118 w _ g396 x397000_1 from by repeat (first | (with_reducible first | exact HI396.out | apply IsS118.alloc | apply IsS118.drewN | apply IsS118.drew | apply IsS118.set_0 | refine IsS118.far ?_ NB396_402.out _) | exact HI396.out)) (by (with_reducible repeat (first | apply Kd.R_alloc | apply Kd.R_drewN | apply Kd.R_drew)); exact HO_10.out) (by decide)) hk (fun _ h => h.2)) (fun _ h => h.1)); have n3_ := Aside0.mk (Kd.S_mono (Kd.S_keep (IsS118.apartS (show IsS118 w _ g396 x397000_1 from by repeat (first | (with_reducible first | exact HI396.out | apply IsS118.alloc | apply IsS118.drewN | apply IsS118.drew | apply IsS118.set_0 | refine IsS118.far ?_ NB396_402.out _) | exact HI396.out)) (by (with_reducible repeat (first | apply Kd.S_alloc | apply Kd.S_drewN | apply Kd.S_drew)); exact HO_403000.out) (by decide)) hk (fun _ h => h.2)) (fun _ h => h.1)); have n4_ := Aside0.mk (KeepBut.blk hk (g' := gb402) (o := .cells #[.slice Ao9 t397.length co9, .int .i64 t400] 49 (0, 0)) (by (with_reducible repeat (first | refine blk_drewN ?_ _ | refine blk_drew ?_ | refine blk_alloc ?_ _)); exact BK402.out) NB402_396.out (by simp)); have n5_ := Aside0.mk (hb); have n6_ := Aside0.mk (hi); clear HO_7; clear HO_8; clear HO_10; clear HO_403000; clear BK402; clear HB; clear HI396; have HO_7 := n0_; have HO_8 := n1_; have HO_10 := n2_; have HO_403000 := n3_; have BK402 := n4_; have HB := n5_; have HI396 := n6_; clear n0_ n1_ n2_ n3_ n4_ n5_ n6_; (try clear hb); (try clear hb2); (try clear hk); (try clear hi); have p421 : 0 ≤ (t419 : Int) := of_decide_eq_true (by first | (with_reducible assumption) | assumption); have q421 : t419 < (t406.length : Int) := of_decide_eq_true (by first | (with_reducible assumption) | assumption); obtain ⟨ad421, e421, hx421_0⟩ := Kd.at_int (Kd.R_reads' HO_8.out).2.2 t419 p421 q421; cases e421; replace p421 := eq_true p421; replace q421 := eq_true q421) | ((with_reducible refine gate_callee (f := 33) rfl ?_); refine goesL_ (some 88) rfl rfl Try.func33 (by kernel_rfl) rfl #[.slice Ao17 x7_1.length co17, .int .i64 (rd t406 t419)] rfl (by (try simp only [List.map_toArray, List.map_cons, List.map_nil]); first | done | rfl | (simp only [List.length_drop, List.length_take]; rfl)) ?_; (with_reducible refine (thermionlaw04_put.calls k3 _ _ x7_1 (rd t406 t419) t422 _ ?side1 ?side2 A46.out).mono ?_); (case side1 => repeat (first | exact (Kd.R_reads' HO_7.out).2.2 | (with_reducible refine Kd.C_alloc ?_ _) | (with_reducible refine Kd.C_drewN ?_ _) | (with_reducible refine Kd.C_drew ?_))); (case side2 => exact (Kd.R_reads' HO_7.out).2.1); rintro e w49 ⟨v423, rfl, ho0, hb⟩; refine ⟨_, rfl, ?_⟩; have n0_ := Aside0.mk (Kd.R_elder' (by (with_reducible repeat (first | apply Kd.R_alloc | apply Kd.R_drewN | apply Kd.R_drew)); exact HO_7.out) (Kd.R_base ho0) hb); have n1_ := Aside0.mk (Kd.R_elder' (by (with_reducible repeat (first | apply Kd.R_alloc | apply Kd.R_drewN | apply Kd.R_drew)); exact HO_8.out) (Kd.R_base ho0) hb); have n2_ := Aside0.mk (Kd.R_elder' (by (with_reducible repeat (first | apply Kd.R_alloc | apply Kd.R_drewN | apply Kd.R_drew)); exact HO_10.out) (Kd.R_base ho0) hb); have n3_ := Aside0.mk (Kd.S_elder' (by (with_reducible repeat (first | apply Kd.S_alloc | apply Kd.S_drewN | apply Kd.S_drew)); exact HO_403000.out) (Kd.R_base ho0) hb); have n4_ := Aside0.mk (Kd.R_lower (Kd.R_new' (Kd.R_new' (Kd.R_new' ho0 (Kd.R_lt (by (with_reducible repeat (first | apply Kd.R_alloc | apply Kd.R_drewN | apply Kd.R_drew)); exact HO_7.out))) (Kd.R_lt (by (with_reducible repeat (first | apply Kd.R_alloc | apply Kd.R_drewN | apply Kd.R_drew)); exact HO_8.out))) (Kd.R_lt (by (with_reducible repeat (first | apply Kd.R_alloc | apply Kd.R_drewN | apply Kd.R_drew)); exact HO_10.out))) (below_size (by repeat (first | (with_reducible first | exact HB.out | apply below_alloc | apply pw_below_drewN | apply below_drew1 | refine below_set ?_ (IsS118.ge HI396.out) | refine below_set ?_ GE402.out) | exact HB.out)))); have n5_ := Aside0.mk (blk_below (g := gb402) (o := .cells #[.slice Ao9 t397.length co9, .int .i64 t400] 49 (0, 0)) (by (with_reducible repeat (first | refine blk_drewN ?_ _ | refine blk_drew ?_ | refine blk_alloc ?_ _)); exact BK402.out) hb); have n6_ := Aside0.mk (IsS118.below (by repeat (first | (with_reducible first | exact HI396.out | apply IsS118.alloc | apply IsS118.drewN | apply IsS118.drew | apply IsS118.set_0 | refine IsS118.far ?_ NB396_402.out _) | exact HI396.out)) hb); have n7_ := Aside0.mk (below_step (by repeat (first | (with_reducible first | exact HB.out | apply below_alloc | apply pw_below_drewN | apply below_drew1 | refine below_set ?_ (IsS118.ge HI396.out) | refine below_set ?_ GE402.out) | exact HB.out)) hb); clear HO_7; clear HO_8; clear HO_10; clear HO_403000; clear BK402; clear HI396; clear HB; have HO_7 := n0_; have HO_8 := n1_; have HO_10 := n2_; have HO_403000 := n3_; have HO424 := n4_; have BK402 := n5_; have HI396 := n6_; have HB := n7_; clear n0_ n1_ n2_ n3_ n4_ n5_ n6_ n7_; (try clear hb); (try clear hb2); (try clear hk); (try clear hi); (try clear ho0)))
              go_roundg k3
              case measure => have := HK1.out; have := HJ15.out; have := HK3.out; omega
              case rel => exact ⟨(t422), (t420), H', ⟨by have := HK1.out; have := HJ15.out; have := HK3.out; omega⟩, ⟨by (with_reducible repeat (first | apply Kd.R_alloc | apply Kd.R_drewN | apply Kd.R_drew)); exact Kd.R_mono HO424.out (fun _ hk => trivial)⟩, ⟨by (with_reducible repeat (first | apply Kd.S_alloc | apply Kd.S_drewN | apply Kd.S_drew)); exact Kd.S_mono HO_403000.out (fun _ hk => hk.2)⟩, ⟨by (with_reducible repeat (first | refine blk_drewN ?_ _ | refine blk_drew ?_ | refine blk_alloc ?_ _)); exact BK402.out⟩, ⟨by repeat (first | (with_reducible first | exact HI396.out | apply IsS118.alloc | apply IsS118.drewN | apply IsS118.drew | apply IsS118.set_0 | refine IsS118.far ?_ NB396_402.out _) | exact HI396.out)⟩, ⟨by repeat (first | (with_reducible first | exact HB.out | apply below_alloc | apply pw_below_drewN | apply below_drew1 | refine below_set ?_ (IsS118.ge HI396.out) | refine below_set ?_ GE402.out) | exact HB.out)⟩⟩
             ·rw [if_neg c45] at H
              exact absurd H (by simp)
            ·rw [if_neg c44] at H
             exact absurd H (by simp)
    ·rw [if_neg c13] at H
     have c13b0 : decide ((x7_1.length : Int) < (t397.length : Int)) = false := decide_eq_false c13
     have c13b1 : decide (x7_1.length < t397.length) = false := decide_eq_false (fun h => c13 (Int.ofNat_lt.mpr h))
     clear c13
     by_cases c50 : t403 > 0
     ·rw [if_pos c50] at H
      have c50b0 : decide (0 < t403) = true := decide_eq_true c50
      clear c50
      replace H := Option.bind_eq_some_iff.mp H
      obtain ⟨t405, A510, H⟩ := H
      replace H : (some t405) = some r := H
      have A51 := Aside0.mk A510
      clear A510
      obtain rfl := Option.some.inj H
      obtain ⟨Ao52, co52, eo52⟩ := Kd.R_slice HO_7.out
      subst eo52
      have hnb53 := NB402_396.out
      have hnc53 := NB396_402.out
      have hcz54_0 : wr.cell? ⟨gb402, 0, none⟩ = some (.slice Ao9 t397.length co9) := (blk_cell BK402.out 0).trans rfl
      have hcz54_1 : wr.cell? ⟨gb402, 1, none⟩ = some (.int .i64 t400) := (blk_cell BK402.out 1).trans rfl
      have hfz54_0 := blk_frozen BK402.out 0
      have hfz54_1 := blk_frozen BK402.out 1
      go_wp2_with (first | (go_at_call 21; (with_reducible refine (thermionlaw04_awake.calls k1  t405 _ A51.out).mono ?_); rintro e w55 ⟨rfl, hb⟩; have n0_ := Aside0.mk (Kd.R_below (by (with_reducible repeat (first | apply Kd.R_alloc | apply Kd.R_drewN | apply Kd.R_drew)); exact HO_7.out) hb); have n1_ := Aside0.mk (Kd.S_below (by (with_reducible repeat (first | apply Kd.S_alloc | apply Kd.S_drewN | apply Kd.S_drew)); exact HO_403000.out) hb); have n2_ := Aside0.mk (blk_below (g := gb402) (o := .cells #[.slice Ao9 t397.length co9, .int .i64 t400] 49 (0, 0)) (by (with_reducible repeat (first | refine blk_drewN ?_ _ | refine blk_drew ?_ | refine blk_alloc ?_ _)); exact BK402.out) hb); have n3_ := Aside0.mk (IsS118.below (by repeat (first | (with_reducible first | exact HI396.out | apply IsS118.alloc | apply IsS118.drewN | apply IsS118.drew | apply IsS118.set_0 | refine IsS118.far ?_ NB396_402.out _) | exact HI396.out)) hb); have n4_ := Aside0.mk (below_step (by repeat (first | (with_reducible first | exact HB.out | apply below_alloc | apply pw_below_drewN | apply below_drew1 | refine below_set ?_ (IsS118.ge HI396.out) | refine below_set ?_ GE402.out) | exact HB.out)) hb); clear HO_7; clear HO_403000; clear BK402; clear HI396; clear HB; have HO_7 := n0_; have HO_403000 := n1_; have BK402 := n2_; have HI396 := n3_; have HB := n4_; clear n0_ n1_ n2_ n3_ n4_; (try clear hb); (try clear hb2); (try clear hk); (try clear hi)))
      go_ret
      exact ⟨by first | rfl | (simp [errW_none, errW_some] <;> rfl) | (simp [*, errW_none, errW_some] <;> rfl), by repeat (first | (with_reducible first | exact HB.out | apply below_alloc | apply pw_below_drewN | apply below_drew1 | refine below_set ?_ (IsS118.ge HI396.out) | refine below_set ?_ GE402.out) | exact HB.out)⟩
     ·rw [if_neg c50] at H
      have c50b0 : decide (0 < t403) = false := decide_eq_false c50
      clear c50
      obtain rfl := Option.some.inj H
      obtain ⟨Ao56, co56, eo56⟩ := Kd.R_slice HO_7.out
      subst eo56
      have hnb57 := NB402_396.out
      have hnc57 := NB396_402.out
      have hcz58_0 : wr.cell? ⟨gb402, 0, none⟩ = some (.slice Ao9 t397.length co9) := (blk_cell BK402.out 0).trans rfl
      have hcz58_1 : wr.cell? ⟨gb402, 1, none⟩ = some (.int .i64 t400) := (blk_cell BK402.out 1).trans rfl
      have hfz58_0 := blk_frozen BK402.out 0
      have hfz58_1 := blk_frozen BK402.out 1
      go_wp2
      go_ret
      exact ⟨by first | rfl | (simp [errW_none, errW_some] <;> rfl) | (simp [*, errW_none, errW_some] <;> rfl), by repeat (first | (with_reducible first | exact HB.out | apply below_alloc | apply pw_below_drewN | apply below_drew1 | refine below_set ?_ (IsS118.ge HI396.out) | refine below_set ?_ GE402.out) | exact HB.out)⟩
 ·rw [if_neg c5] at H
  have c5b0 : (t404 == 0) = false := beq_eq_false_iff_ne.mpr c5
  have c5b1 : (t404 != 0) = true := bne_iff_ne.mpr c5
  obtain rfl := Option.some.inj H
  go_enter Try.func6, Try.ntmps6
  go_wp2_with (first | ((with_reducible refine gate_callee (f := 19) rfl ?_); refine goesL_ (some 14) rfl rfl Try.func19 (by kernel_rfl) rfl #[.slice A0 l0.length c0] rfl (by (try simp only [List.map_toArray, List.map_cons, List.map_nil]); first | done | rfl | (simp only [List.length_drop, List.length_take]; rfl)) ?_; (with_reducible refine (thermionkit_NewDice.calls _ _ l0 t395 w _ ?side1 ?side2 ?side3 A2.out).mono ?_); (case side1 => repeat (first | (with_reducible first | exact HB.out | apply below_alloc | apply pw_below_drewN | apply below_drew1) | exact HB.out)); (case side2 => exact HR0.out); (case side3 => exact HC0.out); rintro e w59 ⟨g396, rfl, hi, hb, hb2⟩; refine ⟨_, rfl, ?_⟩; have n0_ := Aside0.mk (hb); have n1_ := Aside0.mk (hi); clear HB; have HB := n0_; have HI396 := n1_; clear n0_ n1_; (try clear hb); (try clear hb2); (try clear hk); (try clear hi)) | ((with_reducible refine gate_callee (f := 29) rfl ?_); refine goesL_ (some 16) rfl rfl Try.func29 (by kernel_rfl) rfl #[.pointer (some ⟨g396, 0, none⟩), .int .i64 8] rfl (by (try simp only [List.map_toArray, List.map_cons, List.map_nil]); first | done | rfl | (simp only [List.length_drop, List.length_take]; rfl)) ?_; (with_reducible refine (thermionkit_KitOf.calls k g396 t395 8 t397 t400 t401 w _ ?side1 ?side2 A3.out).mono ?_); (case side1 => repeat (first | (with_reducible first | exact HI396.out | apply IsS118.alloc | apply IsS118.drewN | apply IsS118.drew | apply IsS118.set_0) | exact HI396.out)); (case side2 => repeat (first | (with_reducible first | exact HB.out | apply below_alloc | apply pw_below_drewN | apply below_drew1 | refine below_set ?_ (IsS118.ge HI396.out)) | exact HB.out)); rintro e w60 ⟨v398, rfl, ho0, hi, hb, hk⟩; refine ⟨_, rfl, ?_⟩; have n0_ := Aside0.mk (Kd.S_lower ho0 (below_size (by repeat (first | (with_reducible first | exact HB.out | apply below_alloc | apply pw_below_drewN | apply below_drew1 | refine below_set ?_ (IsS118.ge HI396.out)) | exact HB.out)))); have n1_ := Aside0.mk (hb); have n2_ := Aside0.mk (hi); clear HB; clear HI396; have HO399 := n0_; have HB := n1_; have HI396 := n2_; clear n0_ n1_ n2_; (try clear hb); (try clear hb2); (try clear hk); (try clear hi); (try clear ho0)) | ((with_reducible refine gate_dst (N := 4) rfl ?_); (try (refine gate_guard (by rfl) ?_; dsimp only)); refine box_event ?hg (N := 4) ?hd (cs := #[.slice none 0 0, .int .i64 0]) (t := 49) ?hr ?_; (case hd => rfl); (case hg => rfl); (case hr => first | (go_simp; done) | (go_simp; rfl)); intro gb402 hg w61 hbox hb; have n0_ := Aside0.mk (Kd.S_below (by (with_reducible repeat (first | apply Kd.S_alloc | apply Kd.S_drewN | apply Kd.S_drew)); exact HO399.out) hb); have n1_ := Aside0.mk (IsS118.below (by repeat (first | (with_reducible first | exact HI396.out | apply IsS118.alloc | apply IsS118.drewN | apply IsS118.drew | apply IsS118.set_0) | exact HI396.out)) hb); have n2_ := Aside0.mk (below_step (by repeat (first | (with_reducible first | exact HB.out | apply below_alloc | apply pw_below_drewN | apply below_drew1 | refine below_set ?_ (IsS118.ge HI396.out)) | exact HB.out)) hb); have n3_ := Aside0.mk (hbox); have n4_ := Aside0.mk ((by rw [hg]; exact (below_size (by repeat (first | (with_reducible first | exact HB.out | apply below_alloc | apply pw_below_drewN | apply below_drew1 | refine below_set ?_ (IsS118.ge HI396.out)) | exact HB.out))) : w.heap.size ≤ gb402)); have n5_ := Aside0.mk ((by rw [hg]; exact (below_size (by repeat (first | (with_reducible first | exact HB.out | apply below_alloc | apply pw_below_drewN | apply below_drew1 | refine below_set ?_ (IsS118.ge HI396.out)) | exact HB.out))) : w.heap.size ≤ gb402)); have n6_ := Aside0.mk ((by rw [hg]; exact Nat.ne_of_lt (IsS118.lt (show IsS118 w _ g396 t401 from by repeat (first | (with_reducible first | exact HI396.out | apply IsS118.alloc | apply IsS118.drewN | apply IsS118.drew | apply IsS118.set_0) | exact HI396.out))) : g396 ≠ gb402)); have n7_ := Aside0.mk ((by rw [hg]; exact Nat.ne_of_gt (IsS118.lt (show IsS118 w _ g396 t401 from by repeat (first | (with_reducible first | exact HI396.out | apply IsS118.alloc | apply IsS118.drewN | apply IsS118.drew | apply IsS118.set_0) | exact HI396.out))) : gb402 ≠ g396)); clear HO399; clear HI396; clear HB; have HO399 := n0_; have HI396 := n1_; have HB := n2_; have BK402 := n3_; have GW402 := n4_; have GE402 := n5_; have NB396_402 := n6_; have NB402_396 := n7_; clear n0_ n1_ n2_ n3_ n4_ n5_ n6_ n7_; clear hb hbox hg; obtain ⟨Ao62, co62, eo62⟩ := Kd.S_slice HO399.out; subst eo62; have hnb63 := NB402_396.out; have hnc63 := NB396_402.out; have hcz64_0 : w61.cell? ⟨gb402, 0, none⟩ = some (.slice none 0 0) := (blk_cell BK402.out 0).trans rfl; have hcz64_1 : w61.cell? ⟨gb402, 1, none⟩ = some (.int .i64 0) := (blk_cell BK402.out 1).trans rfl; have hfz64_0 := blk_frozen BK402.out 0; have hfz64_1 := blk_frozen BK402.out 1) | ((with_reducible refine gate_callee (f := 30) rfl ?_); refine goesL_ (some 19) rfl rfl Try.func30 (by kernel_rfl) rfl #[.agg #[.slice Ao62 t397.length co62, .int .i64 t400]] rfl (by (try simp only [List.map_toArray, List.map_cons, List.map_nil]); first | done | rfl | (simp only [List.length_drop, List.length_take]; rfl)) ?_; (with_reducible refine (mount_Orders.calls _ _ t397 t400 t403 t404 _ ?side1 ?side2 A4.out).mono ?_); (case side1 => refine (Kd.S_reads' (e := 57) (base := w.heap.size) (ok := fun k_ => True) (n := t397.length) (c := co62) ?_).2.2; exact (by (with_reducible repeat (first | apply Kd.S_alloc | apply Kd.S_drewN | apply Kd.S_drew)); exact (Kd.S_mono (Kd.S_far (p := ⟨gb402, 1, none⟩) (Kd.S_far (p := ⟨gb402, 0, none⟩) (Kd.S_types HO399.out BK402.out (by decide)) (fun _ hk => hk.2) (.slice Ao62 t397.length co62)) (fun _ hk => hk.2) (.int .i64 t400)) (fun _ h_ => h_.1)))); (case side2 => exact (Kd.S_reads' HO399.out).2.1); rintro e w65 ⟨rfl, hb⟩; refine ⟨_, rfl, ?_⟩; have n0_ := Aside0.mk (Kd.S_below (by (with_reducible repeat (first | apply Kd.S_alloc | apply Kd.S_drewN | apply Kd.S_drew)); exact (Kd.S_mono (Kd.S_far (p := ⟨gb402, 1, none⟩) (Kd.S_far (p := ⟨gb402, 0, none⟩) (Kd.S_types HO399.out BK402.out (by decide)) (fun _ hk => hk.2) (.slice Ao62 t397.length co62)) (fun _ hk => hk.2) (.int .i64 t400)) (fun _ h_ => h_.1))) hb); have n1_ := Aside0.mk (IsS118.below (show IsS118 w ((w61.setCell ⟨gb402, 0, none⟩ (.slice Ao62 t397.length co62)).setCell ⟨gb402, 1, none⟩ (.int .i64 t400)) g396 t401 from by repeat (first | (with_reducible first | exact HI396.out | apply IsS118.alloc | apply IsS118.drewN | apply IsS118.drew | apply IsS118.set_0 | refine IsS118.far ?_ NB396_402.out _) | exact HI396.out)) hb); have n2_ := Aside0.mk (blk_below (g := gb402) (o := .cells #[.slice Ao62 t397.length co62, .int .i64 t400] 49 (0, 0)) (by (with_reducible repeat (first | refine blk_drewN ?_ _ | refine blk_drew ?_ | refine blk_alloc ?_ _)); refine blk_put (cs := #[.slice Ao62 t397.length co62, .int .i64 0]) ?_ 1 _ rfl; (with_reducible repeat (first | refine blk_drewN ?_ _ | refine blk_drew ?_ | refine blk_alloc ?_ _)); refine blk_put (cs := #[.slice none 0 0, .int .i64 0]) ?_ 0 _ rfl; (with_reducible repeat (first | refine blk_drewN ?_ _ | refine blk_drew ?_ | refine blk_alloc ?_ _)); exact BK402.out) hb); have n3_ := Aside0.mk (below_step (by repeat (first | (with_reducible first | exact HB.out | apply below_alloc | apply pw_below_drewN | apply below_drew1 | refine below_set ?_ (IsS118.ge HI396.out) | refine below_set ?_ GE402.out) | exact HB.out)) hb); clear HO399; clear HI396; clear BK402; clear HB; have HO399 := n0_; have HI396 := n1_; have BK402 := n2_; have HB := n3_; clear n0_ n1_ n2_ n3_; (try clear hb); (try clear hb2); (try clear hk); (try clear hi)))
  go_ret
  exact ⟨by first | rfl | (simp [errW_none, errW_some] <;> rfl) | (simp [*, errW_none, errW_some] <;> rfl), by repeat (first | (with_reducible first | exact HB.out | apply below_alloc | apply pw_below_drewN | apply below_drew1 | refine below_set ?_ (IsS118.ge HI396.out) | refine below_set ?_ GE402.out) | exact HB.out)⟩

/-- THE ONE PURE STATEMENT of thermionlaw04_MountGuarded: yours. -/
def thermionlaw04_MountGuarded.Pure : Prop := ∀ (l0 : List Int), l0.length ≤ maxLen → l0.length * 8 ≤ 140737488351232 → (∀ x ∈ l0, (Lit.int .i64 x).wf = true) → ∃ k, thermionlaw04_MountGuarded.f k l0 = some true
end Go.Proofs.Ytbcfphoheijmdaa.Print
end

section
/- What the Go function thermionkit_Dice_Between does, as a Lean function, and that its call does so. Printed by a program of this work out of the translation. -/
namespace Go.Proofs.Ytbcfphoheijmdaa.Print
open Go.RowKit Go.Proofs.YtbcfphoheijmdaaW.PrintWords Go.Proofs.YtbcfphoheijmdaaW.PrintLast Go.Proofs.YtbcfphoheijmdaaW.PrintMore
attribute [local go_sem] max2_int min2_int max_two min_two max_three min_three max_four min_four
set_option linter.unusedVariables false
set_option linter.unusedSimpArgs false

/-! ### thermionkit_Dice_Between: function 84 -/
def thermionkit_Dice_Between.f (s0_0 : Int) (a1 : Int) (a2 : Int) : Option (Int × Int) := (thermionkit_Dice_Upto.f s0_0 (wrap64 ((wrap64 (a2 - a1)) + 1))).bind fun bt105 => (some (wrap64 (a1 + bt105.1), bt105.2))
set_option maxHeartbeats 8000000 in
set_option maxRecDepth 100000 in
theorem thermionkit_Dice_Between.calls (g : Nat) (s0_0 : Int) (a1 : Int) (a2 : Int) (r1 : Int) (r2 : Int) (w0 w : World) (hI : IsS118 w0 w g s0_0) (hB : Below w0.heap.size w0 w) (h : thermionkit_Dice_Between.f s0_0 a1 a2 = some (r1, r2)) :
  Calls Try.prog 84 #[.pointer (some ⟨g, 0, none⟩), .int .i64 a1, .int .i64 a2] w fun e w' => e = .returned (.int .i64 r1) ∧ IsS118 w0 w' g r2 ∧ Below w0.heap.size w0 w' ∧ KeepBut w w' g none := by
 have HI0 := Aside0.mk hI
 have HK := Aside0.mk (KeepBut.refl w g none)
 have HL := Aside0.mk hB.size
 clear hI
 have HW0 := Aside0.mk hB.size
 have HB := Aside0.mk hB
 clear hB
 have H : ((thermionkit_Dice_Upto.f s0_0 (wrap64 ((wrap64 (a2 - a1)) + 1))).bind fun bt105 => (some (wrap64 (a1 + bt105.1), bt105.2))) = some (r1, r2) := h
 clear h
 replace H := Option.bind_eq_some_iff.mp H
 obtain ⟨⟨t105, t106⟩, A40, H⟩ := H
 replace H : (some (wrap64 (a1 + t105), t106)) = some (r1, r2) := H
 have A4 := Aside0.mk A40
 clear A40
 simp only [Option.some.injEq, Prod.mk.injEq] at H
 obtain ⟨rfl, rfl⟩ := H
 go_enter Try.func84, Try.ntmps84
 go_wp2_with (first | ((with_reducible refine gate_callee (f := 43) rfl ?_); refine goesL_ (some 13) rfl rfl Try.func43 (by kernel_rfl) rfl #[.pointer (some ⟨g, 0, none⟩), .int .i64 (wrap64 ((wrap64 (a2 - a1)) + 1))] rfl (by (try simp only [List.map_toArray, List.map_cons, List.map_nil]); first | done | rfl | (simp only [List.length_drop, List.length_take]; rfl)) ?_; (with_reducible refine (thermionkit_Dice_Upto.calls g s0_0 (wrap64 ((wrap64 (a2 - a1)) + 1)) t105 t106 w0 _ ?side1 ?side2 A4.out).mono ?_); (case side1 => repeat (first | (with_reducible first | exact HI0.out | apply IsS118.alloc | apply IsS118.drewN | apply IsS118.drew | apply IsS118.set_0) | exact HI0.out)); (case side2 => repeat (first | (with_reducible first | exact HB.out | apply below_alloc | apply pw_below_drewN | apply below_drew1 | refine below_set ?_ (IsS118.ge HI0.out)) | exact HB.out)); rintro e w5 ⟨rfl, hi, hb, hk⟩; refine ⟨_, rfl, ?_⟩; have n0_ := Aside0.mk (KeepBut.trans (by repeat (first | (with_reducible first | exact HK.out | apply KeepBut.set_ | apply keep_drewN | apply keep_drew | apply keep_alloc) | exact HK.out)) hk (.inl rfl)); have n1_ := Aside0.mk (hb); have n2_ := Aside0.mk (hi); clear HK; clear HB; clear HI0; have HK := n0_; have HB := n1_; have HI0 := n2_; clear n0_ n1_ n2_; (try clear hb); (try clear hb2); (try clear hk); (try clear hi)))
 go_ret
 exact ⟨by first | rfl | (simp [errW_none, errW_some] <;> rfl) | (simp [*, errW_none, errW_some] <;> rfl), by repeat (first | (with_reducible first | exact HI0.out | apply IsS118.alloc | apply IsS118.drewN | apply IsS118.drew | apply IsS118.set_0) | exact HI0.out), by repeat (first | (with_reducible first | exact HB.out | apply below_alloc | apply pw_below_drewN | apply below_drew1 | refine below_set ?_ (IsS118.ge HI0.out)) | exact HB.out), by repeat (first | (with_reducible first | exact HK.out | apply KeepBut.set_ | apply keep_drewN | apply keep_drew | apply keep_alloc) | exact HK.out)⟩

end Go.Proofs.Ytbcfphoheijmdaa.Print
end

section
/- Plain laws: what the dice deal. -/
namespace Go.Proofs.Ytbcfphoheijmdaa.Print
open Go.RowKit Go.Proofs.YtbcfphoheijmdaaW.PrintWords Go.Proofs.YtbcfphoheijmdaaW.PrintLast Go.Proofs.YtbcfphoheijmdaaW.PrintMore Go.Proofs.Ytbcfphoheijmdaa.H
set_option linter.unusedVariables false
set_option linter.unusedSimpArgs false

theorem u64_nonneg (x : Int) : 0 ≤ IntKind.u64.wrap x := by
  simp only [IntKind.wrap, IntKind.signed, IntKind.bits]
  simp
  omega
theorem next_two (s : Int) : ∃ v, thermionkit_Dice_next.f s = some (v, nextWord s) ∧ 0 ≤ v := ⟨_, rfl, by unfold Go.bits; exact u64_nonneg _⟩
theorem upto_eq (s n : Int) (h1 : 1 ≤ n) (h2 : n ≤ 9223372036854775807) : ∃ r, thermionkit_Dice_Upto.f s n = some (r, nextWord s) ∧ 0 ≤ r ∧ r < n := by
  obtain ⟨v, hv, h0⟩ := next_two s
  have hw : IntKind.u64.wrap n = n := by
    simp only [IntKind.wrap, IntKind.signed, IntKind.bits]
    simp
    omega
  have ht : Int.tmod v n = v % n := Int.tmod_eq_emod_of_nonneg h0
  have hm0 := Int.emod_nonneg v (show n ≠ 0 by omega)
  have hm1 := Int.emod_lt_of_pos v (show 0 < n by omega)
  refine ⟨v % n, ?_, hm0, hm1⟩
  unfold thermionkit_Dice_Upto.f
  rw [hv]
  simp only [Option.bind_some]
  rw [if_neg (by omega), hw, if_neg (by omega), ht, IntWalk.wrap64_in _ (by omega)]
theorem one_eq (s n : Int) (h1 : 1 ≤ n) (h2 : n ≤ 9223372036854775807) : ∃ b, thermionkit_Dice_One.f s n = some (b, nextWord s) := by
  obtain ⟨r, hr, _, _⟩ := upto_eq s n h1 h2
  unfold thermionkit_Dice_One.f
  rw [hr]
  exact ⟨_, rfl⟩
end Go.Proofs.Ytbcfphoheijmdaa.Print
end

section
/- Plain laws: what the dice deal, what lists of parts are. -/
namespace Go.Proofs.Ytbcfphoheijmdaa.Print
open Go.RowKit Go.Proofs.YtbcfphoheijmdaaW.PrintWords Go.Proofs.YtbcfphoheijmdaaW.PrintLast Go.Proofs.YtbcfphoheijmdaaW.PrintMore Go.Proofs.Ytbcfphoheijmdaa.H
set_option linter.unusedVariables false
set_option linter.unusedSimpArgs false

/-- A list of other parts that rises, of the part own, all before m. -/
structure Others (own m : Int) (l : List Int) : Prop where
  lo : ∀ x, x ∈ l → 0 ≤ x ∧ x < m ∧ x ≠ own
  up : l.Pairwise (· < ·)
theorem Others.nil (own m : Int) : Others own m [] := ⟨by simp, .nil⟩
theorem Others.snoc {own m : Int} {l : List Int} (h : Others own m l) (h0 : 0 ≤ m) (hne : m ≠ own) : Others own (m + 1) (l ++ [m]) := by
  refine ⟨fun x hx => ?_, ?_⟩
  · rcases List.mem_append.1 hx with q | q
    · have := h.lo x q; omega
    · rw [List.mem_singleton.1 q]; omega
  · rw [List.pairwise_append]
    exact ⟨h.up, by simp, fun a ha b hb => by rw [List.mem_singleton.1 hb]; exact (h.lo a ha).2.1⟩
theorem Others.wider {own m n : Int} {l : List Int} (h : Others own m l) (hn : m ≤ n) : Others own n l := ⟨fun x hx => by have := h.lo x hx; omega, h.up⟩
theorem Others.length {own m : Int} {l : List Int} (h : Others own m l) (hm : 0 ≤ m) : l.length ≤ m.toNat := by
  have := few m.toNat (l.map Int.toNat) (by
    rw [List.pairwise_map]
    refine List.Pairwise.imp_of_mem ?_ h.up
    intro a b ha hb hab
    have := h.lo a ha
    have := h.lo b hb
    omega) (fun x hx => by
    obtain ⟨y, hy, rfl⟩ := List.mem_map.1 hx
    have := h.lo y hy
    omega)
  simpa using this
theorem Others.err {own n : Int} {l : List Int} (h : Others own n l) : othersErr n own l = 0 := by
  refine firstErr_ok (fun i hi => ?_)
  have e : l.getD i 0 = l[i] := by rw [List.getD_eq_getElem?_getD, List.getElem?_eq_getElem hi]; rfl
  have h1 := h.lo l[i] (List.getElem_mem _)
  unfold otherErr
  rw [e, if_neg (by omega), if_neg (by omega), if_neg]
  rintro ⟨h2, h3⟩
  have e2 : l.getD (i - 1) 0 = l[i - 1] := by rw [List.getD_eq_getElem?_getD, List.getElem?_eq_getElem (by omega)]; rfl
  rw [e2] at h3
  have := List.pairwise_iff_getElem.1 h.up (i - 1) i (by omega) hi (by omega)
  omega
/-- A part that is valid as number own of n. -/
structure Part (n own : Int) (p : S57) : Prop where
  needs : Others own n p.f0
  bars : Others own n p.f1
  jig : 0 ≤ p.f2 ∧ p.f2 < 4
  ticks : 0 ≤ p.f3 ∧ p.f3 < 20
theorem Part.err {n own : Int} {p : S57} (h : Part n own p) : partErr n own p = 0 := by
  unfold partErr
  have e : firstErr (fun i => othersErr n own (listOf p i)) 2 = 0 := firstErr_ok (fun i hi => by
    rcases (by omega : i = 0 ∨ i = 1) with rfl | rfl
    · exact h.needs.err
    · exact h.bars.err)
  rw [e, if_neg (by omega), if_neg (by have := h.jig; have := h.ticks; omega)]
/-- A kit as KitOf makes it. -/
structure KitFine (most : Nat) (L : List S57) (c : Int) : Prop where
  length : L.length ≤ most
  change : 0 ≤ c ∧ c < 30
  part : ∀ i, i < L.length → Part L.length i (L.getD i z57)
theorem KitFine.err {most : Nat} {L : List S57} {c : Int} (h : KitFine most L c) (hm : most ≤ 14) : kitErr L c = 0 := by
  unfold kitErr
  rw [if_neg (by have := h.length; omega), if_neg (by have := h.change; omega)]
  exact firstErr_ok (fun i hi => (h.part i hi).err)
theorem KitFine.holds {most : Nat} {L : List S57} {c : Int} (h : KitFine most L c) (hm : most ≤ 14) : Holds L := by
  intro p hp
  obtain ⟨i, hi, rfl⟩ := List.mem_iff_getElem.1 hp
  have h1 := h.part i hi
  have e : L.getD i z57 = L[i] := by rw [List.getD_eq_getElem?_getD, List.getElem?_eq_getElem hi]; rfl
  rw [e] at h1
  have := h1.needs.length (by omega)
  have := h1.bars.length (by omega)
  have := h.length
  omega
end Go.Proofs.Ytbcfphoheijmdaa.Print
end

section
/- Plain laws: KitOf makes valid kits. -/
namespace Go.Proofs.Ytbcfphoheijmdaa.Print
open Go.RowKit Go.Proofs.YtbcfphoheijmdaaW.PrintWords Go.Proofs.YtbcfphoheijmdaaW.PrintLast Go.Proofs.YtbcfphoheijmdaaW.PrintMore Go.Proofs.Ytbcfphoheijmdaa.H
set_option linter.unusedVariables false
set_option linter.unusedSimpArgs false

theorem kit_inner {n i : Nat} (hi : i < n) (hn : n ≤ 14) (L : List S57) (c jig ticks : Int) (hL : L.length = i) (G : List S57 × Int × Int → Prop)
    (hk : ∀ s ne ba, Others i n ne → Others i n ba → ∃ k r, thermionkit_KitOf.l0 k n (i + 1 : Nat) s (L ++ [⟨ne, ba, jig, ticks⟩]) c = some r ∧ G r) :
    ∀ (d j : Nat) (s : Int) (ne ba : List Int), j + d = n → Others i j ne → Others i j ba → ∃ k r, thermionkit_KitOf.l1 k n i j s L c ne ba jig ticks = some r ∧ G r := by
  intro d
  induction d with
  | zero =>
    intro j s ne ba hj h1 h2
    have e : j = n := by omega
    subst e
    obtain ⟨k, r, hr, hg⟩ := hk s ne ba h1 h2
    refine ⟨k + 1, r, ?_, hg⟩
    rw [thermionkit_KitOf.l1, if_neg (by omega), if_pos (by omega)]
    have hw : wrap64 ((i : Int) + 1) = ((i + 1 : Nat) : Int) := by rw [IntWalk.wrap64_in _ (by omega)]; omega
    rw [hw]
    exact hr
  | succ d ih =>
    intro j s ne ba hj h1 h2
    have hw : wrap64 ((j : Int) + 1) = ((j + 1 : Nat) : Int) := by rw [IntWalk.wrap64_in _ (by omega)]; omega
    have w1 : Others i (j + 1 : Nat) ne := h1.wider (by omega)
    have w2 : Others i (j + 1 : Nat) ba := h2.wider (by omega)
    have l1 := h1.length (by omega)
    have l2 := h2.length (by omega)
    by_cases e : j = i
    · obtain ⟨k, r, hr, hg⟩ := ih (j + 1) s ne ba (by omega) w1 w2
      refine ⟨k + 1, r, ?_, hg⟩
      rw [thermionkit_KitOf.l1, if_pos (by omega), if_pos (by omega), hw]
      exact hr
    · have s1 : Others i (j + 1 : Nat) (ne ++ [(j : Int)]) := h1.snoc (by omega) (by omega)
      have s2 : Others i (j + 1 : Nat) (ba ++ [(j : Int)]) := h2.snoc (by omega) (by omega)
      have jj : ∀ (b : Bool) (s : Int), ∃ k r, thermionkit_KitOf.j2 k n i j b s L c ne ba jig ticks = some r ∧ G r := by
        intro b s
        cases b with
        | true =>
          obtain ⟨k, r, hr, hg⟩ := ih (j + 1) s _ ba (by omega) s1 w2
          refine ⟨k + 1, r, ?_, hg⟩
          rw [thermionkit_KitOf.j2, if_pos rfl, if_pos (by omega), hw]
          exact hr
        | false =>
          obtain ⟨b2, hb2⟩ := one_eq s 9 (by omega) (by omega)
          cases b2 with
          | true =>
            obtain ⟨k, r, hr, hg⟩ := ih (j + 1) (nextWord s) ne _ (by omega) w1 s2
            refine ⟨k + 1, r, ?_, hg⟩
            rw [thermionkit_KitOf.j2, if_neg (by simp), hb2]
            simp only [Option.bind_some]
            rw [if_pos trivial, if_pos (by omega), hw]
            exact hr
          | false =>
            obtain ⟨k, r, hr, hg⟩ := ih (j + 1) (nextWord s) ne ba (by omega) w1 w2
            refine ⟨k + 1, r, ?_, hg⟩
            rw [thermionkit_KitOf.j2, if_neg (by simp), hb2]
            simp only [Option.bind_some]
            rw [if_neg (by simp), hw]
            exact hr
      by_cases q : j < i
      · obtain ⟨b, hb⟩ := one_eq s 4 (by omega) (by omega)
        obtain ⟨k, r, hr, hg⟩ := jj b (nextWord s)
        refine ⟨k + 1, r, ?_, hg⟩
        rw [thermionkit_KitOf.l1, if_pos (by omega), if_neg (by omega), if_pos (by omega), hb]
        exact hr
      · obtain ⟨k, r, hr, hg⟩ := jj false s
        refine ⟨k + 1, r, ?_, hg⟩
        rw [thermionkit_KitOf.l1, if_pos (by omega), if_neg (by omega), if_neg (by omega)]
        exact hr
theorem kit_outer {n : Nat} (hn : n ≤ 14) (c : Int) : ∀ (d i : Nat) (s : Int) (L : List S57), i + d = n → L.length = i → (∀ q, q < i → Part n q (L.getD q z57)) →
    ∃ k r, thermionkit_KitOf.l0 k n i s L c = some r ∧ r.1.length = n ∧ r.2.1 = c ∧ ∀ q, q < n → Part n q (r.1.getD q z57) := by
  intro d
  induction d with
  | zero =>
    intro i s L hi hL hP
    have e : i = n := by omega
    subst e
    refine ⟨1, (L, c, s), ?_, hL, rfl, hP⟩
    rw [thermionkit_KitOf.l0, if_neg (by omega)]
  | succ d ih =>
    intro i s L hi hL hP
    obtain ⟨jig, hj, j0, j1⟩ := upto_eq s 4 (by omega) (by omega)
    obtain ⟨tk, ht, t0, t1⟩ := upto_eq (nextWord s) 20 (by omega) (by omega)
    obtain ⟨k, r, hr, hg⟩ := kit_inner (i := i) (by omega) hn L c jig tk hL (fun r => r.1.length = n ∧ r.2.1 = c ∧ ∀ q, q < n → Part n q (r.1.getD q z57))
      (fun s ne ba h1 h2 => by
        obtain ⟨k, r, hr, hg⟩ := ih (i + 1) s (L ++ [⟨ne, ba, jig, tk⟩]) (by omega) (by simp [hL]) (fun q hq => by
          by_cases e : q < i
          · have := hP q e
            rw [List.getD_eq_getElem?_getD, List.getElem?_append_left (by omega), ← List.getD_eq_getElem?_getD]
            exact this
          · have e2 : q = i := by omega
            subst e2
            rw [List.getD_eq_getElem?_getD, List.getElem?_append_right (by omega), hL, Nat.sub_self]
            exact ⟨h1, h2, ⟨j0, j1⟩, ⟨t0, t1⟩⟩)
        exact ⟨k, r, hr, hg⟩)
      n 0 (nextWord (nextWord s)) [] [] (by omega) (Others.nil _ _) (Others.nil _ _)
    refine ⟨k + 1, r, ?_, hg⟩
    rw [thermionkit_KitOf.l0, if_pos (by omega), hj]
    simp only [Option.bind_some]
    rw [ht]
    exact hr
end Go.Proofs.Ytbcfphoheijmdaa.Print
end

section
/- Plain laws: KitOf makes valid kits (the whole). -/
namespace Go.Proofs.Ytbcfphoheijmdaa.Print
open Go.RowKit Go.Proofs.YtbcfphoheijmdaaW.PrintWords Go.Proofs.YtbcfphoheijmdaaW.PrintLast Go.Proofs.YtbcfphoheijmdaaW.PrintMore Go.Proofs.Ytbcfphoheijmdaa.H
set_option linter.unusedVariables false
set_option linter.unusedSimpArgs false
theorem kitOf_of {k : Nat} {s c n s1 s2 most : Int} {r : List S57 × Int × Int} (h1 : thermionkit_Dice_Upto.f s 30 = some (c, s1)) (h2 : thermionkit_Dice_Upto.f s1 (wrap64 (most + 1)) = some (n, s2)) (h3 : thermionkit_KitOf.l0 k n 0 s2 [] c = some r) : thermionkit_KitOf.f k s most = some r := by
  unfold thermionkit_KitOf.f
  rw [h1, Option.bind_some, h2, Option.bind_some]
  exact h3
theorem kitOf_fine (s : Int) (most : Nat) (hm : most ≤ 14) : ∃ k L c s', thermionkit_KitOf.f k s most = some (L, c, s') ∧ KitFine most L c := by
  obtain ⟨c, hc, c0, c1⟩ := upto_eq s 30 (by omega) (by omega)
  generalize nextWord s = s1 at hc
  obtain ⟨n, hn, n0, n1⟩ := upto_eq s1 (most + 1) (by omega) (by omega)
  generalize nextWord s1 = s2 at hn
  obtain ⟨m, rfl⟩ : ∃ m : Nat, n = m := ⟨n.toNat, by omega⟩
  obtain ⟨k, r, hr, hl, he, hp⟩ := kit_outer (n := m) (by omega) c m 0 s2 [] (by omega) rfl (fun q hq => absurd hq (by omega))
  rw [show ((0 : Nat) : Int) = 0 from rfl] at hr
  rw [← IntWalk.wrap64_in (most + 1 : Int) (by omega)] at hn
  have hf := kitOf_of hc hn hr
  obtain ⟨L, c', s'⟩ := r
  have he2 : c' = c := he
  have hl2 : L.length = m := hl
  subst he2
  refine ⟨k, L, c', s', hf, ?_, ⟨c0, c1⟩, ?_⟩
  · omega
  · intro i hi
    rw [hl2] at hi ⊢
    exact hp i hi
end Go.Proofs.Ytbcfphoheijmdaa.Print
end

section
/- Plain laws: how many orders there are at most; when there is one. -/
namespace Go.Proofs.Ytbcfphoheijmdaa.Print
open Go.RowKit Go.Proofs.YtbcfphoheijmdaaW.PrintWords Go.Proofs.YtbcfphoheijmdaaW.PrintLast Go.Proofs.YtbcfphoheijmdaaW.PrintMore Go.Proofs.Ytbcfphoheijmdaa.H
set_option linter.unusedVariables false
set_option linter.unusedSimpArgs false

theorem sum_facts (f : Nat → Int) (B : Int) (hB : 0 ≤ B) : ∀ (l : List Nat) (a : Int), 0 ≤ a → a + l.length * B ≤ 9223372036854775807 → (∀ p, p ∈ l → 0 ≤ f p ∧ f p ≤ B) →
    a ≤ l.foldl (fun a p => wrap64 (a + f p)) a ∧ l.foldl (fun a p => wrap64 (a + f p)) a ≤ a + l.length * B ∧ (a < l.foldl (fun a p => wrap64 (a + f p)) a → ∃ p, p ∈ l ∧ 0 < f p) ∧ ∀ p, p ∈ l → a + f p ≤ l.foldl (fun a p => wrap64 (a + f p)) a := by
  intro l
  induction l with
  | nil => intro a h0 h1 _; simp
  | cons q l ih =>
    intro a h0 h1 hf
    have hq := hf q (by simp)
    have e1 : ((q :: l).length : Int) * B = l.length * B + B := by
      rw [List.length_cons, Int.natCast_add, Int.add_mul]; omega
    rw [e1] at h1 ⊢
    have hlb : 0 ≤ (l.length : Int) * B := Int.mul_nonneg (by omega) hB
    rw [List.foldl_cons, IntWalk.wrap64_in (a + f q) (by omega)]
    obtain ⟨g1, g2, g3, g4⟩ := ih (a + f q) (by omega) (by omega) (fun p hp => hf p (by simp [hp]))
    refine ⟨by omega, by omega, fun h => ?_, fun p hp => ?_⟩
    · by_cases z : 0 < f q
      · exact ⟨q, by simp, z⟩
      · obtain ⟨p, hp, hpp⟩ := g3 (by omega)
        exact ⟨p, by simp [hp], hpp⟩
    · rcases List.mem_cons.1 hp with rfl | hp
      · exact g1
      · have := g4 p hp; omega
def fac : Nat → Int
  | 0 => 1
  | k + 1 => (k + 1 : Int) * fac k
theorem fac_pos : ∀ k, 1 ≤ fac k := by
  intro k
  induction k with
  | zero => simp [fac]
  | succ k ih =>
    have : (1 : Int) * 1 ≤ (k + 1 : Int) * fac k := Int.mul_le_mul (by omega) ih (by omega) (by omega)
    simpa [fac] using this
theorem fac_mono : ∀ k, fac k ≤ fac (k + 1) := by
  intro k
  have h := fac_pos k
  have : (1 : Int) * fac k ≤ (k + 1 : Int) * fac k := Int.mul_le_mul_of_nonneg_right (by omega) (by omega)
  simpa [fac] using this
theorem fac_le : ∀ {j k : Nat}, j ≤ k → fac j ≤ fac k := by
  intro j k h
  induction k with
  | zero => rw [show j = 0 by omega]; exact Int.le_refl _
  | succ k ih =>
    by_cases e : j = k + 1
    · rw [e]; exact Int.le_refl _
    · exact Int.le_trans (ih (by omega)) (fac_mono k)
theorem fac14 : fac 14 = 87178291200 := by decide
theorem parts_few (L : List S57) (s : Nat) (is : Nat → Bool) : (partsOf L s is).length ≤ missing L.length s := by
  unfold partsOf partsTo missing
  rw [← List.countP_eq_length_filter, ← List.countP_eq_length_filter]
  refine List.countP_mono_left (fun p _ h => ?_)
  rw [Bool.and_eq_true] at h
  have h3 := h.1
  unfold canGo at h3
  rw [Bool.and_eq_true, Bool.and_eq_true] at h3
  exact h3.1.1
theorem missing_le (n s : Nat) : missing n s ≤ n := by
  unfold missing
  exact Nat.le_trans (List.length_filter_le _ _) (by simp)
theorem ways_facts {L : List S57} (hL : L.length ≤ 14) : ∀ (k s : Nat), missing L.length s = k → 0 ≤ waysOf L s ∧ waysOf L s ≤ fac k := by
  intro k
  induction k with
  | zero =>
    intro s hs
    unfold waysOf
    rw [hs, ways]
    split <;> simp [fac]
  | succ k ih =>
    intro s hs
    by_cases e : s = 2 ^ L.length - 1
    · rw [e, waysOf_all]
      exact ⟨by omega, fac_pos _⟩
    · rw [waysOf_step e]
      unfold sumW
      have hk : k + 1 ≤ 14 := by have := missing_le L.length s; omega
      have hc := parts_few L s (fun _ => true)
      rw [hs] at hc
      have hfk := fac_pos k
      have hm : ((partsOf L s (fun _ => true)).length : Int) * fac k ≤ (k + 1 : Int) * fac k := Int.mul_le_mul_of_nonneg_right (by omega) (by omega)
      have hf : (k + 1 : Int) * fac k = fac (k + 1) := rfl
      have hb := fac_le hk
      rw [fac14] at hb
      obtain ⟨g1, g2, _, _⟩ := sum_facts (fun p => waysOf L (s ||| 2 ^ p)) (fac k) (by omega) (partsOf L s (fun _ => true)) 0 (by omega) (by omega) (fun p hp => by
        have h1 := partsOf_mem hp
        have := missing_with h1.1 h1.2.1
        exact ih _ (by omega))
      exact ⟨g1, by omega⟩
/-- If there is an order from a state on, some part may go in behind which there is one; and the other way round. -/
theorem ways_pos {L : List S57} (hL : L.length ≤ 14) {s : Nat} (hs : s ≠ 2 ^ L.length - 1) : (0 < waysOf L s ↔ ∃ p, p ∈ partsOf L s (leads L s)) := by
  have hmem : ∀ p, p ∈ partsOf L s (leads L s) ↔ p ∈ partsOf L s (fun _ => true) ∧ 0 < waysOf L (s ||| 2 ^ p) := by
    intro p
    unfold partsOf partsTo leads
    simp only [List.mem_filter, Bool.and_true, Bool.and_eq_true, decide_eq_true_eq]
    constructor
    · rintro ⟨h1, h2, h3⟩; exact ⟨⟨h1, h2⟩, h3⟩
    · rintro ⟨⟨h1, h2⟩, h3⟩; exact ⟨h1, h2, h3⟩
  rw [waysOf_step hs]
  unfold sumW
  have hc := parts_few L s (fun _ => true)
  have hml := missing_le L.length s
  have hb : fac (missing L.length s) ≤ fac 14 := fac_le (by omega)
  rw [fac14] at hb
  have hfk := fac_pos (missing L.length s)
  have hm : ((partsOf L s (fun _ => true)).length : Int) * fac (missing L.length s) ≤ 14 * 87178291200 := Int.mul_le_mul (by omega) hb (by omega) (by omega)
  obtain ⟨g1, g2, g3, g4⟩ := sum_facts (fun p => waysOf L (s ||| 2 ^ p)) (fac (missing L.length s)) (by omega) (partsOf L s (fun _ => true)) 0 (by omega) (by omega) (fun p hp => by
    have h1 := partsOf_mem hp
    have h2 := missing_with h1.1 h1.2.1
    have h3 := ways_facts hL (missing L.length (s ||| 2 ^ p)) (s ||| 2 ^ p) rfl
    exact ⟨h3.1, Int.le_trans h3.2 (fac_le (by omega))⟩)
  constructor
  · intro h
    obtain ⟨p, hp, hpp⟩ := g3 h
    exact ⟨p, (hmem p).2 ⟨hp, hpp⟩⟩
  · rintro ⟨p, hp⟩
    obtain ⟨h1, h2⟩ := (hmem p).1 hp
    have := g4 p h1
    omega
end Go.Proofs.Ytbcfphoheijmdaa.Print
end

section
/- Plain laws: put and Has. -/
namespace Go.Proofs.Ytbcfphoheijmdaa.Print
open Go.RowKit Go.Proofs.YtbcfphoheijmdaaW.PrintWords Go.Proofs.YtbcfphoheijmdaaW.PrintLast Go.Proofs.YtbcfphoheijmdaaW.PrintMore Go.Proofs.Ytbcfphoheijmdaa.H
set_option linter.unusedVariables false
set_option linter.unusedSimpArgs false

/-- A state with one part more. -/
def putTo (a : Int) : List Int → List Int
  | [] => [a]
  | x :: xs => if a < x then a :: x :: xs else x :: putTo a xs
theorem rd_at (l : List Int) (i : Nat) (hi : i < l.length) : rd l (i : Int) = l[i] := by simp [rd, hi]
theorem put_done (l : List Int) (a : Int) (hl : l.length ≤ 1000000) : ∀ (d i : Nat) (out : List Int), i + d = l.length → out.length ≤ i + 1 →
    thermionlaw04_put.l0 (d + 1) l a out true (i : Int) = some (out ++ l.drop i) := by
  intro d
  induction d with
  | zero =>
    intro i out hi ho
    rw [List.drop_eq_nil_of_le (by omega), thermionlaw04_put.l0, if_neg (by omega), if_pos rfl, List.append_nil]
  | succ d ih =>
    intro i out hi ho
    have hil : i < l.length := by omega
    have hw : wrap64 ((i : Int) + 1) = ((i + 1 : Nat) : Int) := by rw [IntWalk.wrap64_in _ (by omega)]; omega
    rw [List.drop_eq_getElem_cons hil, thermionlaw04_put.l0, if_pos (by omega), if_pos rfl, if_pos (by omega), if_pos (by omega), hw, rd_at l i hil, ih (i + 1) (out ++ [l[i]]) (by omega) (by simp; omega)]
    rw [List.append_assoc]
    rfl
theorem put_at (l : List Int) (a : Int) (hl : l.length ≤ 1000000) : ∀ (d i : Nat) (out : List Int), i + d = l.length → out.length ≤ i →
    thermionlaw04_put.l0 (d + 1) l a out false (i : Int) = some (out ++ putTo a (l.drop i)) := by
  intro d
  induction d with
  | zero =>
    intro i out hi ho
    rw [List.drop_eq_nil_of_le (by omega), thermionlaw04_put.l0, if_neg (by omega), if_neg (by simp), if_pos (by omega)]
    rfl
  | succ d ih =>
    intro i out hi ho
    have hil : i < l.length := by omega
    have hw : wrap64 ((i : Int) + 1) = ((i + 1 : Nat) : Int) := by rw [IntWalk.wrap64_in _ (by omega)]; omega
    rw [List.drop_eq_getElem_cons hil, thermionlaw04_put.l0, if_pos (by omega), if_neg (by simp), if_pos (by omega), rd_at l i hil]
    by_cases q : l[i] > a
    · rw [if_pos q, if_pos (by omega), Option.bind_some, if_pos (by simp; omega), hw, putTo, if_pos q, put_done l a hl d (i + 1) (out ++ [a] ++ [l[i]]) (by omega) (by simp; omega)]
      rw [List.append_assoc, List.append_assoc]
      rfl
    · rw [if_neg q, if_pos (by omega), hw, putTo, if_neg q, ih (i + 1) (out ++ [l[i]]) (by omega) (by simp; omega)]
      rw [List.append_assoc]
      rfl
theorem put_eq (l : List Int) (a : Int) (hl : l.length ≤ 1000000) : thermionlaw04_put.f (l.length + 1) l a = some (putTo a l) := put_at l a hl l.length 0 [] (by omega) (by simp)
theorem has_at (l : List Int) (n : Int) (hl : l.length ≤ 1000000) : ∀ (d i : Nat), i + d = l.length → thermionkit_Has.l0 (d + 1) l n (i : Int) = some (decide (n ∈ l.drop i)) := by
  intro d
  induction d with
  | zero =>
    intro i hi
    rw [List.drop_eq_nil_of_le (by omega), thermionkit_Has.l0, if_neg (by omega)]
    simp
  | succ d ih =>
    intro i hi
    have hil : i < l.length := by omega
    have hw : wrap64 ((i : Int) + 1) = ((i + 1 : Nat) : Int) := by rw [IntWalk.wrap64_in _ (by omega)]; omega
    rw [List.drop_eq_getElem_cons hil, thermionkit_Has.l0, if_pos (by omega), if_pos (by omega), rd_at l i hil]
    by_cases q : l[i] = n
    · rw [if_pos q, q]; simp
    · rw [if_neg q, hw, ih (i + 1) (by omega)]
      congr 1
      rw [decide_eq_decide, List.mem_cons]
      exact ⟨fun h => .inr h, fun h => h.resolve_left (fun e => q e.symm)⟩
theorem has_eq_mem (l : List Int) (n : Int) (hl : l.length ≤ 1000000) : thermionkit_Has.f (l.length + 1) l n = some (decide (n ∈ l)) := has_at l n hl l.length 0 (by omega)
theorem putTo_mem (a x : Int) : ∀ l : List Int, x ∈ putTo a l ↔ x = a ∨ x ∈ l := by
  intro l
  induction l with
  | nil => simp [putTo]
  | cons y l ih =>
    unfold putTo
    split
    · simp
    · simp only [List.mem_cons, ih]
      constructor
      · rintro (h | h | h) <;> simp [h]
      · rintro (h | h | h) <;> simp [h]
theorem putTo_length (a : Int) : ∀ l : List Int, (putTo a l).length = l.length + 1 := by
  intro l
  induction l with
  | nil => rfl
  | cons y l ih =>
    unfold putTo
    split
    · rfl
    · simp [ih]
theorem putTo_up (a : Int) : ∀ l : List Int, l.Pairwise (· < ·) → a ∉ l → (putTo a l).Pairwise (· < ·) := by
  intro l
  induction l with
  | nil => intro _ _; simp [putTo]
  | cons y l ih =>
    intro h hn
    rw [List.pairwise_cons] at h
    unfold putTo
    split
    · rename_i q
      rw [List.pairwise_cons, List.pairwise_cons]
      refine ⟨fun z hz => ?_, h⟩
      rcases List.mem_cons.1 hz with rfl | hz
      · exact q
      · have := h.1 z hz; omega
    · rename_i q
      rw [List.pairwise_cons]
      refine ⟨fun z hz => ?_, ih h.2 (fun e => hn (by simp [e]))⟩
      rcases (putTo_mem a z l).1 hz with rfl | hz
      · have : z ≠ y := fun e => hn (by simp [e])
        omega
      · exact h.1 z hz
theorem setN_put {a : Nat} {l : List Int} (h : ∀ p, p ∈ l → 0 ≤ p) : setN (putTo (a : Int) l) = setN l ||| 2 ^ a := by
  apply Nat.eq_of_testBit_eq
  intro q
  rw [testBit_with, testBit_setN l q h, testBit_setN (putTo (a : Int) l) q (fun p hp => by
    rcases (putTo_mem _ _ _).1 hp with rfl | hp
    · omega
    · exact h p hp)]
  by_cases e : a = q
  · subst e
    simp [putTo_mem]
  · have : ¬ (q : Int) = a := by omega
    simp [putTo_mem, e, this]
end Go.Proofs.Ytbcfphoheijmdaa.Print
end

section
/- The chapter's examples that every statement of this layer asks: their values. -/
namespace Go.Proofs.Ytbcfphoheijmdaa.Print
open Go.RowKit Go.Proofs.YtbcfphoheijmdaaW.PrintWords
theorem awake_true : thermionlaw04_awake.f 8 = some true := by kernel_rfl
end Go.Proofs.Ytbcfphoheijmdaa.Print
end

section
/- The pure statement of MountGuarded. -/
namespace Go.Proofs.Ytbcfphoheijmdaa.Print
open Go.RowKit Go.Proofs.YtbcfphoheijmdaaW.PrintWords Go.Proofs.YtbcfphoheijmdaaW.PrintLast Go.Proofs.YtbcfphoheijmdaaW.PrintMore Go.Proofs.Ytbcfphoheijmdaa.H
set_option linter.unusedVariables false
set_option linter.unusedSimpArgs false

theorem up_fuel {α : Type} {f : Nat → Option α} (hm : ∀ k, LeO (f k) (f (k + 1))) {k : Nat} {r : α} (h : f k = some r) : ∀ m, k ≤ m → f m = some r := by
  intro m hkm
  induction m with
  | zero => rw [show k = 0 by omega] at h; exact h
  | succ m ih =>
    by_cases e : k = m + 1
    · rw [← e]; exact h
    · exact hm m r (ih (by omega))
theorem awake_from {k : Nat} (h : 8 ≤ k) : thermionlaw04_awake.f k = some true := up_fuel thermionlaw04_awake.mono awake_true k h
theorem has_from {l : List Int} {n : Int} (hl : l.length ≤ 1000000) {k : Nat} (h : l.length + 1 ≤ k) : thermionkit_Has.f k l n = some (decide (n ∈ l)) := up_fuel (thermionkit_Has.mono l n) (has_eq_mem l n hl) k h
theorem put_from {l : List Int} {a : Int} (hl : l.length ≤ 1000000) {k : Nat} (h : l.length + 1 ≤ k) : thermionlaw04_put.f k l a = some (putTo a l) := up_fuel (thermionlaw04_put.mono l a) (put_eq l a hl) k h
/-- A list of parts that are in. -/
structure In (n : Nat) (l : List Int) : Prop where
  lo : ∀ x, x ∈ l → 0 ≤ x ∧ x < n
  up : l.Pairwise (· < ·)
theorem In.st {L : List S57} {c : Int} {l : List Int} (h : In L.length l) (hk : kitErr L c = 0) : stErr L c l = 0 := by
  unfold stErr
  rw [if_neg (by omega)]
  refine firstErr_ok (fun i hi => ?_)
  have e : l.getD i 0 = l[i] := by rw [List.getD_eq_getElem?_getD, List.getElem?_eq_getElem hi]; rfl
  have h1 := h.lo l[i] (List.getElem_mem _)
  unfold inErr
  rw [e, if_neg (by omega), if_neg]
  rintro ⟨h2, h3⟩
  have e2 : l.getD (i - 1) 0 = l[i - 1] := by rw [List.getD_eq_getElem?_getD, List.getElem?_eq_getElem (by omega)]; rfl
  rw [e2] at h3
  have := List.pairwise_iff_getElem.1 h.up (i - 1) i (by omega) hi (by omega)
  omega
/-- Fewer than all are in: not all are. -/
theorem In.notAll {n : Nat} {l : List Int} (h : In n l) (hl : l.length < n) : setN l ≠ 2 ^ n - 1 := by
  intro e
  have hall : ∀ q, q < n → (q : Int) ∈ l := by
    intro q hq
    have h1 := testBit_setN l q (fun p hp => (h.lo p hp).1)
    rw [e, Nat.testBit_two_pow_sub_one, decide_eq_true hq] at h1
    exact of_decide_eq_true h1.symm
  have hsub : ∀ (m : Nat), m ≤ n → ∃ l' : List Int, l'.length + m = l.length ∧ ∀ q, m ≤ q → q < n → (q : Int) ∈ l' := by
    intro m
    induction m with
    | zero => intro _; exact ⟨l, by omega, fun q _ hq => hall q hq⟩
    | succ m ih =>
      intro hm
      obtain ⟨l', h1, h2⟩ := ih (by omega)
      have h3 := h2 m (by omega) (by omega)
      refine ⟨l'.erase (m : Int), ?_, fun q hq hq2 => ?_⟩
      · have := List.length_erase_of_mem h3
        have : 0 < l'.length := List.length_pos_of_mem h3
        omega
      · exact (List.mem_erase_of_ne (by omega)).2 (h2 q (by omega) hq2)
  obtain ⟨l', h1, _⟩ := hsub n (Nat.le_refl _)
  omega
theorem guard_eq {L : List S57} {c : Int} {l : List Int} (h : KitFine 8 L c) (hl : In L.length l) (hs : l.length ≤ 1000000) : mount_Guard.f L c l = some (ints (partsOf L (setN l) (leads L (setN l))), 0) := by
  unfold mount_Guard.f
  rw [if_pos ⟨h.holds (by omega), hs⟩, if_pos (hl.st (h.err (by omega)))]
theorem may_eq {L : List S57} {c : Int} {l : List Int} (h : KitFine 8 L c) (hl : In L.length l) (hs : l.length ≤ 1000000) : mount_May.f L c l = some (ints (partsOf L (setN l) (fun _ => true)), 0) := by
  unfold mount_May.f
  rw [if_pos ⟨h.holds (by omega), hs⟩, if_pos (hl.st (h.err (by omega)))]
theorem guard_in {L : List S57} {l : List Int} (hl : In L.length l) {x : Int} (hx : x ∈ ints (partsOf L (setN l) (leads L (setN l)))) :
    x ∈ ints (partsOf L (setN l) (fun _ => true)) ∧ x ∉ l ∧ 0 ≤ x ∧ x < L.length ∧ 0 < waysOf L (setN (putTo x l)) := by
  unfold ints at hx ⊢
  obtain ⟨p, hp, rfl⟩ := List.mem_map.1 hx
  have h1 := partsOf_mem hp
  refine ⟨List.mem_map.2 ⟨p, ?_, rfl⟩, fun e => ?_, by omega, by omega, ?_⟩
  · unfold partsOf partsTo at hp ⊢
    rw [List.mem_filter] at hp ⊢
    exact ⟨hp.1, by rw [h1.2.2.1]; rfl⟩
  · have h2 := testBit_setN l p (fun p hp => (hl.lo p hp).1)
    rw [h1.2.1, decide_eq_true e] at h2
    exact absurd h2 (by simp)
  · rw [setN_put (fun p hp => (hl.lo p hp).1)]
    have := h1.2.2.2
    unfold leads at this
    exact of_decide_eq_true this
theorem In.put {n : Nat} {l : List Int} {x : Int} (h : In n l) (h0 : 0 ≤ x) (h1 : x < n) (h2 : x ∉ l) : In n (putTo x l) :=
  ⟨fun y hy => by
    rcases (putTo_mem x y l).1 hy with rfl | hy
    · exact ⟨h0, h1⟩
    · exact h.lo y hy, putTo_up x l h.up h2⟩
theorem check_list {L : List S57} {c n w : Int} {l g m : List Int} (hl : l.length ≤ 1000000) (hm : m.length ≤ 1000000) (hgl : g.length ≤ 1000000) (hg : ∀ x, x ∈ g → x ∈ m ∧ x ∉ l) {k0 : Nat} (hk0 : 2000000 ≤ k0)
    (hz : thermionlaw04_MountGuarded.l1 k0 n l g m (g.length : Int) w L c = some true) : ∀ (d i : Nat), i + d = g.length → thermionlaw04_MountGuarded.l1 (k0 + d) n l g m (i : Int) w L c = some true := by
  intro d
  induction d with
  | zero => intro i hi; rw [show i = g.length by omega]; exact hz
  | succ d ih =>
    intro i hi
    have hil : i < g.length := by omega
    have hw : wrap64 ((i : Int) + 1) = ((i + 1 : Nat) : Int) := by rw [IntWalk.wrap64_in _ (by omega)]; omega
    have hx := hg g[i] (List.getElem_mem _)
    rw [show k0 + (d + 1) = (k0 + d) + 1 by omega, thermionlaw04_MountGuarded.l1, if_pos (by omega), if_pos (by omega), rd_at g i hil, has_from hm (by omega), Option.bind_some, if_pos (by simp [hx.1]), has_from hl (by omega), Option.bind_some, if_neg (by simp [hx.2]), hw]
    exact ih (i + 1) (by omega)
theorem ints_len (l : List Nat) : (ints l).length = l.length := by simp [ints]
theorem main_loop {L : List S57} {c n : Int} (h : KitFine 8 L c) (hn : 0 < n) : ∀ (d : Nat) (l : List Int) (w : Int), In L.length l → l.length + d = L.length → 0 < waysOf L (setN l) → ∃ k, 2000000 ≤ k ∧ thermionlaw04_MountGuarded.l0 k n l w L c = some true := by
  have h8 := h.length
  intro d
  induction d with
  | zero =>
    intro l w hl hd _
    refine ⟨2000001, by omega, ?_⟩
    rw [thermionlaw04_MountGuarded.l0, if_neg (by omega), if_pos (by omega), awake_from (by omega)]
    rfl
  | succ d ih =>
    intro l w hl hd hw
    have hlen : l.length ≤ 1000000 := by omega
    obtain ⟨p, hp⟩ := (ways_pos (by omega) (hl.notAll (by omega))).1 hw
    have hg := guard_eq h hl hlen
    have hm := may_eq h hl hlen
    have hgi : ∀ x, x ∈ ints (partsOf L (setN l) (leads L (setN l))) → _ := fun x hx => guard_in hl hx
    have hgl : (ints (partsOf L (setN l) (leads L (setN l)))).length ≤ 14 := by
      rw [ints_len]; exact Nat.le_trans (partsTo_length _ _ _ _) (by omega)
    have hml : (ints (partsOf L (setN l) (fun _ => true))).length ≤ 14 := by
      rw [ints_len]; exact Nat.le_trans (partsTo_length _ _ _ _) (by omega)
    have hpos : 0 < (ints (partsOf L (setN l) (leads L (setN l)))).length := by
      rw [ints_len]; exact List.length_pos_of_mem hp
    generalize ints (partsOf L (setN l) (leads L (setN l))) = g at hg hgi hgl hpos
    generalize ints (partsOf L (setN l) (fun _ => true)) = m at hm hgi hml
    obtain ⟨r, hr, r0, r1⟩ := upto_eq w (g.length : Int) (by omega) (by omega)
    generalize nextWord w = w2 at hr
    obtain ⟨q, rfl⟩ : ∃ q : Nat, r = q := ⟨r.toNat, by omega⟩
    have hq : q < g.length := by omega
    have hx := hgi g[q] (List.getElem_mem _)
    obtain ⟨k, hk, hrun⟩ := ih (putTo g[q] l) w2 (hl.put hx.2.2.1 hx.2.2.2.1 hx.2.1) (by rw [putTo_length]; omega) hx.2.2.2.2
    have hz : thermionlaw04_MountGuarded.l1 (k + 1) n l g m (g.length : Int) w L c = some true := by
      rw [thermionlaw04_MountGuarded.l1, if_neg (by omega), if_neg (by omega), hr, Option.bind_some, if_pos (by omega), if_pos (by omega), rd_at g q hq, put_from hlen (by omega), Option.bind_some]
      exact hrun
    have hc := check_list (c := c) (n := n) (w := w) hlen (by omega) (by omega) (fun x hx => ⟨(hgi x hx).1, (hgi x hx).2.1⟩) (k0 := k + 1) (by omega) hz g.length 0 (by omega)
    refine ⟨k + 1 + g.length + 1 + 1, by omega, ?_⟩
    rw [thermionlaw04_MountGuarded.l0, if_pos (by omega), hg, Option.bind_some, hm, Option.bind_some, if_pos rfl, if_pos rfl, thermionlaw04_MountGuarded.j1, if_neg]
    · exact hc
    · rw [decide_eq_true (show (g.length : Int) > 0 by omega), decide_eq_true (show n > 0 by omega)]
      simp
theorem guarded_from {L : List S57} {c w : Int} (h : KitFine 8 L c) : ∃ k, 2000000 ≤ k ∧ thermionlaw04_MountGuarded.l0 k (waysOf L 0) [] w L c = some true := by
  have h8 := h.length
  have hl : In L.length [] := ⟨by simp, .nil⟩
  have hs : setN [] = 0 := rfl
  by_cases hn : 0 < waysOf L 0
  · exact main_loop h hn L.length [] w hl (by simp) (by rw [hs]; exact hn)
  · have h0 : waysOf L 0 = 0 := by
      have := (ways_facts (L := L) (by omega) _ 0 rfl).1
      omega
    have hL : 0 < L.length := by
      rcases Nat.eq_zero_or_pos L.length with e | e
      · have h1 := waysOf_all L
        rw [e] at h1
        have : waysOf L 0 = 1 := h1
        omega
      · exact e
    have hg := guard_eq h hl (by simp)
    have hm := may_eq h hl (by simp)
    have he : partsOf L (setN []) (leads L (setN [])) = [] := by
      cases hq : partsOf L (setN []) (leads L (setN [])) with
      | nil => rfl
      | cons p t =>
        have := (ways_pos (by omega) (hl.notAll (by simpa using hL))).2 ⟨p, by rw [hq]; simp⟩
        rw [hs] at this
        omega
    rw [he] at hg
    rw [h0]
    refine ⟨2000003, by omega, ?_⟩
    rw [thermionlaw04_MountGuarded.l0, if_pos (by simp; omega), hg, Option.bind_some, hm, Option.bind_some, if_pos rfl, if_pos rfl, thermionlaw04_MountGuarded.j1, if_neg (by simp [ints]), thermionlaw04_MountGuarded.l1, if_neg (by simp [ints]), if_pos rfl, awake_from (by omega)]
    rfl
theorem thermionlaw04_MountGuarded.pure : thermionlaw04_MountGuarded.Pure := by
  intro l0 _ _ _
  obtain ⟨w, hw⟩ : ∃ w, thermionkit_NewDice.f l0 = some w := ⟨_, rfl⟩
  obtain ⟨k1, L, c, w2, hk, hf⟩ := kitOf_fine w 8 (by omega)
  obtain ⟨k2, _, hr⟩ := guarded_from (w := w2) hf
  have ho : mount_Orders.f L c = some (waysOf L 0, 0) := by
    unfold mount_Orders.f
    rw [if_pos (hf.holds (by omega)), if_pos (hf.err (by omega))]
  refine ⟨max k1 k2, ?_⟩
  unfold thermionlaw04_MountGuarded.f
  have hk' : thermionkit_KitOf.f (max k1 k2) w 8 = some (L, c, w2) := up_fuel (thermionkit_KitOf.mono w 8) hk _ (Nat.le_max_left _ _)
  have hr' := up_fuel (fun k => (thermionlaw04_MountGuarded.mono_l k).1 (waysOf L 0) [] w2 L c) hr (max k1 k2) (Nat.le_max_right _ _)
  rw [hw, Option.bind_some, hk', Option.bind_some, ho, Option.bind_some, if_pos rfl]
  exact hr'
end Go.Proofs.Ytbcfphoheijmdaa.Print
namespace Go.Proofs.Ytbcfphoheijmdaa.Pure
end Go.Proofs.Ytbcfphoheijmdaa.Pure
end
