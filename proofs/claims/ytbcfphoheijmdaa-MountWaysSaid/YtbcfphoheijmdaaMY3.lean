/- Part 3 of the texts of a claim about Ytbcfphoheijmdaa, put together by a program of this work: what the Go functions do, and that their calls do so. -/
import Derived.Test.YtbcfphoheijmdaaMY2
section
/- begun: that the Go function's call makes the work of a kit. -/
namespace Go.Proofs.Ytbcfphoheijmdaa.Print
open Go.RowKit Go.Proofs.YtbcfphoheijmdaaW.PrintWords Go.Proofs.YtbcfphoheijmdaaW.PrintLast Go.Proofs.YtbcfphoheijmdaaW.PrintMore Go.Proofs.Ytbcfphoheijmdaa.H
attribute [local go_sem] max2_int min2_int max_two min_two max_three min_three max_four min_four
attribute [local go_sem ↓] Go.wp_at_zero Go.wp_at_succ
set_option linter.unusedVariables false
set_option linter.unusedSimpArgs false

theorem setsTo_next (L : List S57) (f : S57 → List Int) (i : Nat) : setsTo L f (i + 1) = setsTo L f i ++ [((setN (f (L.getD i z57)) : Nat) : Int)] := by
  unfold setsTo
  rw [List.range_succ, List.map_append]
  rfl
theorem Mem.add {w W W1 : World} {l : List (Nat × Array Value × TypeId)} {g : Nat} {cs : Array Value} {t : TypeId} (h : Mem w W l) (h2 : Mem W W1 [(g, cs, t)]) : Mem w W1 ((g, cs, t) :: l) := by
  refine ⟨below_step h.below h2.below, fun p hp => ?_, fun p hp => ?_, .cons (fun p hp => ?_) h.apart⟩
  · rcases List.mem_cons.1 hp with rfl | hp
    · exact h2.head
    · exact blk_below (h.blk p hp) h2.below
  · rcases List.mem_cons.1 hp with rfl | hp
    · exact Nat.le_trans h.below.size h2.geh
    · exact h.ge p hp
  · have := blk_lt (h.blk p hp)
    have := h2.geh
    show g ≠ p.1
    omega
theorem Bg.add {w0 W W1 : World} {l : List (Nat × Array Value × TypeId)} {mb : Nat} {vn vb : Value} {xs ys : List Int} {q : List (Nat × Int)} {g : Nat} {cs : Array Value} {t : TypeId} (h : Bg w0 W l mb vn xs vb ys q) (h2 : Mem W W1 [(g, cs, t)]) (ht : 133 ≠ t) : Bg w0 W1 ((g, cs, t) :: l) mb vn xs vb ys q := by
  have h3 := h.later h2.below
  refine ⟨Mem.add h.mem h2, fun p hp => ?_, h3.map, h3.gem, h3.rn, h3.rb, h3.sep, h3.src⟩
  rcases List.mem_cons.1 hp with rfl | hp
  · exact ht
  · exact h.types p hp
theorem Bg.drop {w0 W : World} {l : List (Nat × Array Value × TypeId)} {p : Nat × Array Value × TypeId} {mb : Nat} {vn vb : Value} {xs ys : List Int} {q : List (Nat × Int)} (h : Bg w0 W (p :: l) mb vn xs vb ys q) : Bg w0 W l mb vn xs vb ys q :=
  ⟨h.mem.drop, fun p hp => h.types p (List.mem_cons_of_mem _ hp), h.map, h.gem, h.rn, h.rb, h.sep, h.src⟩
theorem Memo.of_map {W : World} {mb : Nat} {val : Nat → Int} (h : W.heap[mb]? = some (.map #[] 0)) : Memo W mb val := by
  obtain ⟨n, D, hn, ⟨es, clock, hb, F, hs, hD⟩, hM⟩ := Memo.made W val
  have hb2 : (W.alloc (.map #[] 0)).heap[W.heap.size]? = some (.map #[] 0) := blk_new W _
  rw [hb2] at hb
  injection hb with hb
  injection hb with e1 e2
  subst e1
  subst e2
  exact ⟨n, D, hn, ⟨#[], 0, h, F, hs, hD⟩, hM⟩
theorem cellsOf {w0 W : World} {l : List (Nat × Array Value × TypeId)} {mb g wb : Nat} {vn vb vn0 vb0 a b c d e f m n : Value} {xs ys : List Int} {q : List (Nat × Int)} (h : Bg w0 W ((g, #[a, b, c, d], 57) :: (wb, #[e, f, vn0, vb0, m, n], 158) :: l) mb vn xs vb ys q) :
    W.cell? ⟨wb, 2, none⟩ = some vn0 ∧ W.cell? ⟨wb, 3, none⟩ = some vb0 ∧ W.cell? ⟨g, 0, none⟩ = some a ∧ W.cell? ⟨g, 1, none⟩ = some b :=
  ⟨(blk_cell h.mem.second 2).trans rfl, (blk_cell h.mem.second 3).trans rfl, (h.mem.cell 0).trans rfl, (h.mem.cell 1).trans rfl⟩
theorem Bg.put2 {w0 W : World} {l : List (Nat × Array Value × TypeId)} {mb g wb : Nat} {vn vb vn0 vb0 e f m n v : Value} {cs : Array Value} {xs ys : List Int} {q : List (Nat × Int)} (h : Bg w0 W ((g, cs, 57) :: (wb, #[e, f, vn0, vb0, m, n], 158) :: l) mb vn xs vb ys q) (hv : v = vn) :
    Bg w0 (W.setCell ⟨wb, 2, none⟩ v) ((g, cs, 57) :: (wb, #[e, f, v, vb0, m, n], 158) :: l) mb vn xs vb ys q := by
  have hm := (h.mem.swap.put 2 v (cs' := #[e, f, v, vb0, m, n]) rfl).swap
  have hw : ∀ k, k ≠ wb → (W.setCell ⟨wb, 2, none⟩ v).heap[k]? = W.heap[k]? := fun k hk => Below.heap_setCell W ⟨wb, 2, none⟩ v k hk
  have hty : ∀ k cells, W.heap[k]? = some (.cells cells 133 (0, 0)) → k ≠ wb := fun k cells hc e => by
    subst e
    rw [h.mem.second] at hc
    simp at hc
  have hmb : mb ≠ wb := fun e => by
    have := h.map
    rw [e, h.mem.second] at this
    simp at this
  refine ⟨hm, fun p hp => ?_, (hw mb hmb).trans h.map, h.gem, Kd.R_mono (Kd.R_step (Kd.R_bound h.rn) (fun k hk _ => hw k ?_)) (fun _ _ => trivial), Kd.R_mono (Kd.R_step (Kd.R_bound h.rb) (fun k hk _ => hw k ?_)) (fun _ _ => trivial), h.sep, fun p hp => ⟨(hw _ (hty _ _ (h.src p hp).1)).trans (h.src p hp).1, (h.src p hp).2⟩⟩
  · have := h.types
    simp only [List.mem_cons] at hp this
    rcases hp with rfl | rfl | hp
    · exact this _ (.inl rfl)
    · show (133 : Nat) ≠ 158; decide
    · exact this _ (.inr (.inr hp))
  · obtain ⟨_, _, _, t, ht, cells, hc⟩ := hk
    have : t = 133 := by simpa [Kd.int, Kd.scalar] using ht
    subst this
    exact hty _ _ hc
  · obtain ⟨_, _, _, t, ht, cells, hc⟩ := hk
    have : t = 133 := by simpa [Kd.int, Kd.scalar] using ht
    subst this
    exact hty _ _ hc
theorem Bg.put3 {w0 W : World} {l : List (Nat × Array Value × TypeId)} {mb g wb : Nat} {vn vb vn0 vb0 e f m n v : Value} {cs : Array Value} {xs ys : List Int} {q : List (Nat × Int)} (h : Bg w0 W ((g, cs, 57) :: (wb, #[e, f, vn0, vb0, m, n], 158) :: l) mb vn xs vb ys q) (hv : v = vb) :
    Bg w0 (W.setCell ⟨wb, 3, none⟩ v) ((g, cs, 57) :: (wb, #[e, f, vn0, v, m, n], 158) :: l) mb vn xs vb ys q := by
  have hm := (h.mem.swap.put 3 v (cs' := #[e, f, vn0, v, m, n]) rfl).swap
  have hw : ∀ k, k ≠ wb → (W.setCell ⟨wb, 3, none⟩ v).heap[k]? = W.heap[k]? := fun k hk => Below.heap_setCell W ⟨wb, 3, none⟩ v k hk
  have hty : ∀ k cells, W.heap[k]? = some (.cells cells 133 (0, 0)) → k ≠ wb := fun k cells hc e => by
    subst e
    rw [h.mem.second] at hc
    simp at hc
  have hmb : mb ≠ wb := fun e => by
    have := h.map
    rw [e, h.mem.second] at this
    simp at this
  refine ⟨hm, fun p hp => ?_, (hw mb hmb).trans h.map, h.gem, Kd.R_mono (Kd.R_step (Kd.R_bound h.rn) (fun k hk _ => hw k ?_)) (fun _ _ => trivial), Kd.R_mono (Kd.R_step (Kd.R_bound h.rb) (fun k hk _ => hw k ?_)) (fun _ _ => trivial), h.sep, fun p hp => ⟨(hw _ (hty _ _ (h.src p hp).1)).trans (h.src p hp).1, (h.src p hp).2⟩⟩
  · have := h.types
    simp only [List.mem_cons] at hp this
    rcases hp with rfl | rfl | hp
    · exact this _ (.inl rfl)
    · show (133 : Nat) ≠ 158; decide
    · exact this _ (.inr (.inr hp))
  · obtain ⟨_, _, _, t, ht, cells, hc⟩ := hk
    have : t = 133 := by simpa [Kd.int, Kd.scalar] using ht
    subst this
    exact hty _ _ hc
  · obtain ⟨_, _, _, t, ht, cells, hc⟩ := hk
    have : t = 133 := by simpa [Kd.int, Kd.scalar] using ht
    subst this
    exact hty _ _ hc
set_option maxHeartbeats 3200000 in
set_option maxRecDepth 100000 in
theorem begun_calls {w : World} {L : List S57} {c : Int} {A0 : Option Addr} {c0 : Nat} (hF : Fine L) (hH : Holds L) (hR : Kd.C k57 w A0 L.length L) (hc : L.length ≤ c0) :
    Calls Try.prog 92 #[.agg #[.slice A0 L.length c0, .int .i64 c]] w fun e w' => ∃ wb mb vn vb, e = .returned (.pointer (some ⟨wb, 0, none⟩)) ∧ Work w w' wb mb L c A0 c0 vn vb ∧ Memo w' mb (waysOf L) ∧ Below w.heap.size w w' := by
  have HR := Aside0.mk hR
  have HM := Aside0.mk (Mem.start w)
  have HH := Aside0.mk hH
  clear hR hH
  have hu49 := Try.underlying49
  have hu57 := Try.underlying57
  have hu158 := Try.underlying158
  have h14 := hF.short
  go_enter Try.func92, Try.ntmps92
  go_wp2_with (first
    | ((with_reducible refine gate_dst (N := 1) rfl ?_); refine ev_box HM.out rfl 49 (.tmp 0) rfl (cs := #[.slice A0 L.length c0, .int .i64 c]) rfl ?_; intro g1 w1 hm1 hq1; clear hq1; have HM1 := Aside0.mk hm1; clear hm1 HM; have c1 : w1.cell? ⟨g1, 0, none⟩ = some (.slice A0 L.length c0) := (HM1.out.cell 0).trans rfl; have c2 : w1.cell? ⟨g1, 1, none⟩ = some (.int .i64 c) := (HM1.out.cell 1).trans rfl))
  have i0 : (0 : Int) ≤ (L.length : Int) := by omega
  have i1 : (L.length : Int) ≤ 32 := by omega
  have hmk := fun W => run_makeMap (P := Try.prog) 156 W
  have hp2 : (2 : Nat) ^ L.length ≤ 2 ^ 14 := hF.small
  have hp1 : 0 < (2 : Nat) ^ L.length := Nat.two_pow_pos _
  have u1 : IntKind.u32.wrap (2 ^ L.length) = ((2 ^ L.length : Nat) : Int) := by
    have := wrap_u32 (a := 2 ^ L.length) (by omega)
    rw [Int.natCast_pow] at this ⊢
    exact this
  have u2 : IntKind.u32.wrap (((2 ^ L.length : Nat) : Int) - 1) = ((2 ^ L.length - 1 : Nat) : Int) := by
    have := wrap_u32 (a := 2 ^ L.length - 1) (by omega)
    rw [show (((2 ^ L.length : Nat) : Int) - 1) = ((2 ^ L.length - 1 : Nat) : Int) by omega]
    exact this
  generalize hALL : 2 ^ L.length - 1 = ALL at u2
  have HALL := Aside0.mk hALL
  clear hALL
  generalize hALL0 : ((2 ^ L.length : Nat) : Int) = ALL0 at u1 u2
  clear hALL0 hp1 hp2
  go_region_held3 (fun w' => w'.cell? ⟨g1, 0, none⟩ = some (.slice A0 L.length c0) ∧ w'.cell? ⟨g1, 1, none⟩ = some (.int .i64 c)) (first | exact ⟨c1, c2⟩ | exact ⟨(HM1.out.drew.alloc _).cell 0, (HM1.out.drew.alloc _).cell 1⟩ | exact ⟨((HM1.out.drew.alloc _).alloc _).cell 0, ((HM1.out.drew.alloc _).alloc _).cell 1⟩) (fail)
  clear hmk
  go_wp2_with fail
  have HB0 : Aside0 (Bg w (((w1.alloc (Obj.map #[] 0)).alloc (Obj.cells #[Value.slice A0 L.length c0, Value.int IntKind.i64 c, Value.slice none 0 0, Value.slice none 0 0, Value.int IntKind.u32 ↑ALL, Value.map (some w1.heap.size)] 158)).drew) [(w1.heap.size + 1, #[Value.slice A0 L.length c0, Value.int IntKind.i64 c, Value.slice none 0 0, Value.slice none 0 0, Value.int IntKind.u32 ↑ALL, Value.map (some w1.heap.size)], 158), (g1, #[.slice A0 L.length c0, .int .i64 c], 49)] w1.heap.size (.slice none 0 0) (setsTo L S57.f0 0) (.slice none 0 0) (setsTo L S57.f1 0) []) := ⟨by
    have h1 := HM1.out.alloc (Obj.map #[] 0)
    have h2 := (h1.new (g := w1.heap.size + 1) (by simp) (by have := blk_new (w1.alloc (Obj.map #[] 0)) (Obj.cells #[Value.slice A0 L.length c0, Value.int IntKind.i64 c, Value.slice none 0 0, Value.slice none 0 0, Value.int IntKind.u32 ↑ALL, Value.map (some w1.heap.size)] 158); simpa using this) (below_alloc (Below.refl _ _) _)).drew
    exact ⟨h2, by simp, by have := blk_new w1 (Obj.map #[] 0); exact (blk_below (blk_below this (below_alloc (Below.refl _ _) _)) (below_drew1 (Below.refl _ _))), HM1.out.below.size, Kd.R_nil _ _ _ _ _, Kd.R_nil _ _ _ _ _, by simp [Value.ownBlock], by simp⟩⟩
  have HMZ := Aside0.mk (show w1.heap.size ≠ w1.heap.size + 1 by omega)
  generalize w1.heap.size + 1 = wb at HB0 HMZ
  generalize w1.heap.size = mb at HB0 HMZ
  go_loopg [18] L.length (fun k v18 w' => ∃ (i : Nat) (vn vb : Value) (q : List (Nat × Int)), v18 = .int .i64 i ∧ Aside0 (i + k = L.length) ∧ Aside0 (Bg w w' [(wb, #[Value.slice A0 L.length c0, Value.int IntKind.i64 c, vn, vb, Value.int IntKind.u32 ↑ALL, Value.map (some mb)], 158), (g1, #[.slice A0 L.length c0, .int .i64 c], 49)] mb vn (setsTo L S57.f0 i) vb (setsTo L S57.f1 i) q))
  case atStart => exact ⟨0, _, _, [], rfl, ⟨by omega⟩, HB0⟩
  case round =>
    clear HB0 HM1 c1 c2
    obtain ⟨i, vn, vb, q, rfl, HK, HBG⟩ := hrel
    by_cases hi : i < L.length
    · obtain ⟨ad, A3, c3, A4, c4, e0, x0, x1, x2, x3, b0, h0, b1, h1⟩ := at57 HR.out i hi
      cases e0
      have HXN := Aside0.mk (setsTo_next L S57.f0 i)
      have HXB := Aside0.mk (setsTo_next L S57.f1 i)
      have HEN := Aside0.mk (setOf_eq (L.getD i z57).f0 (fun p hp => by have := hF.needs i hi p hp; omega) (by have := HH.out (L.getD i z57) (by rw [List.getD_eq_getElem?_getD, List.getElem?_eq_getElem hi]; exact List.getElem_mem _); omega))
      have HEB := Aside0.mk (setOf_eq (L.getD i z57).f1 (fun p hp => by have := hF.bars i hi p hp; omega) (by have := HH.out (L.getD i z57) (by rw [List.getD_eq_getElem?_getD, List.getElem?_eq_getElem hi]; exact List.getElem_mem _); omega))
      generalize L.getD i z57 = X at x0 x1 x2 x3 b0 h0 b1 h1 HXN HXB HEN HEB
      generalize ((setN X.f0 : Nat) : Int) = xn at HXN HEN
      generalize ((setN X.f1 : Nat) : Int) = xb at HXB HEB
      have HCN := Aside0.mk (fun W (hB : Below w.heap.size w W) => mount_setOf.calls _ A3 c3 X.f0 xn W (Kd.C_below h0 hB) b0 HEN.out)
      have HCB := Aside0.mk (fun W (hB : Below w.heap.size w W) => mount_setOf.calls _ A4 c4 X.f1 xb W (Kd.C_below h1 hB) b1 HEB.out)
      clear h0 h1 b0 b1
      replace x0 := cell_later HBG.out.mem.below x0
      replace x1 := cell_later HBG.out.mem.below x1
      replace x2 := cell_later HBG.out.mem.below x2
      replace x3 := cell_later HBG.out.mem.below x3
      have hk1 : (0 : Int) ≤ (i : Int) := by omega
      have hk2 : (i : Int) < (L.length : Int) := by omega
      have HMR := Aside0.mk (Mem.start wr)
      go_wp2_with (first
        | ((with_reducible refine gate_dst (N := 5) rfl ?_); refine ev_new HMR.out rfl 57 rfl info57 ?_; intro g3 w3 hm3 hq1; have HM6 := Aside0.mk hm3; clear hm3 hq1 HMR)
        | (refine ev_store HM6.out rfl 57 (.tmp 5) (.tmp 21) rfl rfl (cs := #[.slice A3 X.f0.length c3, .slice A4 X.f1.length c4, .int .i64 X.f2, .int .i64 X.f3]) rfl size57 rfl rfl (by simp [Value.oneCell']) ?_; intro w4 hm4 hq2; have HBG := Aside0.mk (HBG.out.add hm4 (by decide)); clear hm4 hq2 HM6))
      clear x0 x1 x2 x3
      have HBG := Aside0.mk (HBG.out.later (below_drew1 (Below.refl _ _)))
      refine wp_region_noPanic ?_
      refine H.wp_region_T [22, 25] (S := fun w' => w'.cell? ⟨wb, 2, none⟩ = some vn ∧ w'.cell? ⟨wb, 3, none⟩ = some vb ∧ w'.cell? ⟨g3, 0, none⟩ = some (.slice A3 X.f0.length c3) ∧ w'.cell? ⟨g3, 1, none⟩ = some (.slice A4 X.f1.length c4)) (by kernel_rfl) (cellsOf HBG.out) (fun hHeld => ?_)
      clear hi
      refine H.wpAnyT_takeY (i := 0) (v := .pointer (some ⟨wb, 0, none⟩)) rfl (by decide) (by kernel_rfl) (by kernel_rfl) (by kernel_rfl) (fun _ _ _ h => h) (Or.inl ⟨by rfl, ?_⟩) hHeld ?_
      · (intro w_ hSw; go_simp; try rfl)
      try simp only [Act.put, List.setIfInBounds_toArray, List.set_cons_zero, List.set_cons_succ]
      refine H.wpAnyT_takeY (i := 1) (v := .pointer (some ⟨wb, 0, none⟩)) rfl (by decide) (by kernel_rfl) (by kernel_rfl) (by kernel_rfl) (fun _ _ _ h => h) (Or.inl ⟨by rfl, ?_⟩) hHeld ?_
      · (intro w_ hSw; go_simp; try rfl)
      try simp only [Act.put, List.setIfInBounds_toArray, List.set_cons_zero, List.set_cons_succ]
      refine H.wpAnyT_takeY (i := 2) (v := .pointer (some ⟨wb, 0, none⟩)) rfl (by decide) (by kernel_rfl) (by kernel_rfl) (by kernel_rfl) (fun _ _ _ h => h) (Or.inl ⟨by rfl, ?_⟩) hHeld ?_
      · (intro w_ hSw; go_simp; try rfl)
      try simp only [Act.put, List.setIfInBounds_toArray, List.set_cons_zero, List.set_cons_succ]
      refine H.wpAnyT_takeY (i := 3) (v := .pointer (some ⟨wb, 0, none⟩)) rfl (by decide) (by kernel_rfl) (by kernel_rfl) (by kernel_rfl) (fun _ _ _ h => h) (Or.inl ⟨by rfl, ?_⟩) hHeld ?_
      · (intro w_ hSw; go_simp; try rfl)
      try simp only [Act.put, List.setIfInBounds_toArray, List.set_cons_zero, List.set_cons_succ]
      refine H.wpAnyT_takeY (i := 4) (v := .pointer (some ⟨wb, 2, none⟩)) rfl (by decide) (by kernel_rfl) (by kernel_rfl) (by kernel_rfl) (fun _ _ _ h => h) (Or.inl ⟨by rfl, ?_⟩) hHeld ?_
      · (intro w_ hSw; go_simp; try rfl)
      try simp only [Act.put, List.setIfInBounds_toArray, List.set_cons_zero, List.set_cons_succ]
      refine H.wpAnyT_take (i := 5) (v := vn) rfl (by decide) (by kernel_rfl) (by kernel_rfl) (by kernel_rfl) (by kernel_rfl) (fun _ _ _ h => h) (Or.inl ⟨by rfl, ?_⟩) hHeld ?_
      · (intro w_ hSw; (try dsimp only at hSw); obtain ⟨q1, q2, q3, q4⟩ := hSw; go_simp; try rfl)
      try simp only [Act.put, List.setIfInBounds_toArray, List.set_cons_zero, List.set_cons_succ]
      refine H.wpAnyT_takeY (i := 6) (v := .pointer (some ⟨g3, 0, none⟩)) rfl (by decide) (by kernel_rfl) (by kernel_rfl) (by kernel_rfl) (fun _ _ _ h => h) (Or.inl ⟨by rfl, ?_⟩) hHeld ?_
      · (intro w_ hSw; go_simp; try rfl)
      try simp only [Act.put, List.setIfInBounds_toArray, List.set_cons_zero, List.set_cons_succ]
      refine H.wpAnyT_take (i := 7) (v := .slice A3 X.f0.length c3) rfl (by decide) (by kernel_rfl) (by kernel_rfl) (by kernel_rfl) (by kernel_rfl) (fun _ _ _ h => h) (Or.inl ⟨by rfl, ?_⟩) hHeld ?_
      · (intro w_ hSw; (try dsimp only at hSw); obtain ⟨q1, q2, q3, q4⟩ := hSw; go_simp; try rfl)
      try simp only [Act.put, List.setIfInBounds_toArray, List.set_cons_zero, List.set_cons_succ]
      refine H.wpAnyT_takeY (i := 11) (v := .pointer (some ⟨wb, 0, none⟩)) rfl (by decide) (by kernel_rfl) (by kernel_rfl) (by kernel_rfl) (fun _ _ _ h => h) (Or.inl ⟨by rfl, ?_⟩) hHeld ?_
      · (intro w_ hSw; go_simp; try rfl)
      try simp only [Act.put, List.setIfInBounds_toArray, List.set_cons_zero, List.set_cons_succ]
      refine H.wpAnyT_takeY (i := 12) (v := .pointer (some ⟨wb, 0, none⟩)) rfl (by decide) (by kernel_rfl) (by kernel_rfl) (by kernel_rfl) (fun _ _ _ h => h) (Or.inl ⟨by rfl, ?_⟩) hHeld ?_
      · (intro w_ hSw; go_simp; try rfl)
      try simp only [Act.put, List.setIfInBounds_toArray, List.set_cons_zero, List.set_cons_succ]
      refine H.wpAnyT_takeY (i := 13) (v := .pointer (some ⟨wb, 3, none⟩)) rfl (by decide) (by kernel_rfl) (by kernel_rfl) (by kernel_rfl) (fun _ _ _ h => h) (Or.inl ⟨by rfl, ?_⟩) hHeld ?_
      · (intro w_ hSw; go_simp; try rfl)
      try simp only [Act.put, List.setIfInBounds_toArray, List.set_cons_zero, List.set_cons_succ]
      refine H.wpAnyT_take (i := 14) (v := vb) rfl (by decide) (by kernel_rfl) (by kernel_rfl) (by kernel_rfl) (by kernel_rfl) (fun _ _ _ h => h) (Or.inl ⟨by rfl, ?_⟩) hHeld ?_
      · (intro w_ hSw; (try dsimp only at hSw); obtain ⟨q1, q2, q3, q4⟩ := hSw; go_simp; try rfl)
      try simp only [Act.put, List.setIfInBounds_toArray, List.set_cons_zero, List.set_cons_succ]
      refine H.wpAnyT_takeY (i := 15) (v := .pointer (some ⟨g3, 1, none⟩)) rfl (by decide) (by kernel_rfl) (by kernel_rfl) (by kernel_rfl) (fun _ _ _ h => h) (Or.inl ⟨by rfl, ?_⟩) hHeld ?_
      · (intro w_ hSw; go_simp; try rfl)
      try simp only [Act.put, List.setIfInBounds_toArray, List.set_cons_zero, List.set_cons_succ]
      refine H.wpAnyT_take (i := 16) (v := .slice A4 X.f1.length c4) rfl (by decide) (by kernel_rfl) (by kernel_rfl) (by kernel_rfl) (by kernel_rfl) (fun _ _ _ h => h) (Or.inl ⟨by rfl, ?_⟩) hHeld ?_
      · (intro w_ hSw; (try dsimp only at hSw); obtain ⟨q1, q2, q3, q4⟩ := hSw; go_simp; try rfl)
      try simp only [Act.put, List.setIfInBounds_toArray, List.set_cons_zero, List.set_cons_succ]
      refine H.wpAnyT_ready (rs := [8]) (by kernel_rfl) (by simp) ?_
      refine H.AllT.cons (i := 8) rfl (by decide) (fun K hK => ?_) H.AllT.nil
      go_simp
      go_at_call 134
      refine (HCN.out _ HBG.out.mem.below).mono ?_
      rintro e W5n ⟨rfl, hd⟩
      have HBG := Aside0.mk (HBG.out.later hd.below)
      refine hK.out _ _ (cellsOf HBG.out) (fun hHeld => ?_)
      clear hK K
      try simp only [Act.put, List.setIfInBounds_toArray, List.set_cons_zero, List.set_cons_succ]
      refine H.wpAnyT_ready (rs := [9]) (by kernel_rfl) (by simp) ?_
      refine H.AllT.cons (i := 9) rfl (by decide) (fun K hK => ?_) H.AllT.nil
      go_simp
      have HBG := Aside0.mk (HBG.out.built xn)
      refine hK.out _ _ (cellsOf HBG.out) (fun hHeld => ?_)
      clear hK K
      try simp only [Act.put, List.setIfInBounds_toArray, List.set_cons_zero, List.set_cons_succ]
      refine H.wpAnyT_ready (rs := [10]) (by kernel_rfl) (by simp) ?_
      refine H.AllT.cons (i := 10) rfl (by decide) (fun K hK => ?_) H.AllT.nil
      refine Kd.R_append_rows_step (Kd.int .u32) (Rr := fun (x : Int) (cs : List Value) => cs = [.int .u32 x]) (w0 := w) w.heap.size (by rfl) (.tmp 27) (.tmp 31) 155 133 (.int .u32 0) 4 rfl Try.underlying155 info133 rfl (by decide) (by omega) vn _ [xn] _ 1 1 (fun _ => True) (fun _ => False) (by rfl) (by rfl) HBG.out.rn (HBG.out.row (x := xn) (by simp)) (fun x cs h => h) (fun _ hk => hk.elim) (fun _ _ => trivial) HBG.out.mem.below HBG.out.mem.below.size (by simp only [setsTo, List.length_map, List.length_range]; omega) ?_
      intro vn1 W6n hR6 hB6 hg6 hat6
      have HBG := Aside0.mk (HBG.out.app hg6 hR6 hat6)
      clear hR6 hB6 hg6 hat6
      refine hK.out _ _ (cellsOf HBG.out) (fun hHeld => ?_)
      clear hK K
      try simp only [Act.put, List.setIfInBounds_toArray, List.set_cons_zero, List.set_cons_succ]
      refine H.wpAnyT_ready (rs := [17]) (by kernel_rfl) (by simp) ?_
      refine H.AllT.cons (i := 17) rfl (by decide) (fun K hK => ?_) H.AllT.nil
      go_simp
      go_at_call 134
      refine (HCB.out _ HBG.out.mem.below).mono ?_
      rintro e W5b ⟨rfl, hd⟩
      have HBG := Aside0.mk (HBG.out.later hd.below)
      refine hK.out _ _ (cellsOf HBG.out) (fun hHeld => ?_)
      clear hK K
      try simp only [Act.put, List.setIfInBounds_toArray, List.set_cons_zero, List.set_cons_succ]
      refine H.wpAnyT_ready (rs := [18]) (by kernel_rfl) (by simp) ?_
      refine H.AllT.cons (i := 18) rfl (by decide) (fun K hK => ?_) H.AllT.nil
      go_simp
      have HBG := Aside0.mk (HBG.out.built xb)
      refine hK.out _ _ (cellsOf HBG.out) (fun hHeld => ?_)
      clear hK K
      try simp only [Act.put, List.setIfInBounds_toArray, List.set_cons_zero, List.set_cons_succ]
      refine H.wpAnyT_ready (rs := [19]) (by kernel_rfl) (by simp) ?_
      refine H.AllT.cons (i := 19) rfl (by decide) (fun K hK => ?_) H.AllT.nil
      refine Kd.R_append_rows_step (Kd.int .u32) (Rr := fun (x : Int) (cs : List Value) => cs = [.int .u32 x]) (w0 := w) w.heap.size (by rfl) (.tmp 36) (.tmp 40) 155 133 (.int .u32 0) 4 rfl Try.underlying155 info133 rfl (by decide) (by omega) vb _ [xb] _ 1 1 (fun _ => True) (fun _ => False) (by rfl) (by rfl) HBG.out.swap.rn (HBG.out.swap.row (x := xb) (by simp)) (fun x cs h => h) (fun _ hk => hk.elim) (fun _ _ => trivial) HBG.out.mem.below HBG.out.mem.below.size (by simp only [setsTo, List.length_map, List.length_range]; omega) ?_
      intro vb1 W6b hR6 hB6 hg6 hat6
      have HBG := Aside0.mk (HBG.out.swap.app hg6 hR6 hat6).swap
      clear hR6 hB6 hg6 hat6
      refine hK.out _ _ (cellsOf HBG.out) (fun hHeld => ?_)
      clear hK K
      try simp only [Act.put, List.setIfInBounds_toArray, List.set_cons_zero, List.set_cons_succ]
      obtain ⟨An, cn, rfl⟩ := Kd.R_slice HBG.out.rn
      obtain ⟨Ab, cb, rfl⟩ := Kd.R_slice HBG.out.rb
      simp only [List.length_append, List.length_cons, List.length_nil, Nat.zero_add] at HBG
      refine H.wpAnyT_takeY (i := 20) (v := .pointer (some ⟨wb, 0, none⟩)) rfl (by decide) (by kernel_rfl) (by kernel_rfl) (by kernel_rfl) (fun _ _ _ h => h) (Or.inl ⟨by rfl, ?_⟩) hHeld ?_
      · (intro w_ hSw; go_simp; try rfl)
      try simp only [Act.put, List.setIfInBounds_toArray, List.set_cons_zero, List.set_cons_succ]
      refine H.wpAnyT_takeY (i := 21) (v := .pointer (some ⟨wb, 2, none⟩)) rfl (by decide) (by kernel_rfl) (by kernel_rfl) (by kernel_rfl) (fun _ _ _ h => h) (Or.inl ⟨by rfl, ?_⟩) hHeld ?_
      · (intro w_ hSw; go_simp; try rfl)
      try simp only [Act.put, List.setIfInBounds_toArray, List.set_cons_zero, List.set_cons_succ]
      have f2 : W6b.frozen? ⟨wb, 2, none⟩ = false := blk_frozen HBG.out.mem.second _
      have s2 := hHeld.1
      refine H.wpAnyT_ready (rs := [22]) (by kernel_rfl) (by simp) ?_
      refine H.AllT.last (i := 22) rfl (by decide) (fun K hK => ?_) H.AllT.nil
      go_simp
      refine hK.out _ _ ?_
      clear hK K s2 f2
      have s4 := hHeld.2.1
      have f4 : W6b.frozen? ⟨wb, 3, none⟩ = false := blk_frozen HBG.out.mem.second _
      clear hHeld
      try simp only [Act.put, List.setIfInBounds_toArray, List.set_cons_zero, List.set_cons_succ]
      have HP := Aside0.mk (HBG.out.put2 rfl)
      have f3 := blk_frozen HP.out.mem.second 3
      have s3 := (blk_cell HP.out.mem.second 3).trans rfl
      refine wpAny_take (i := 23) (v := .pointer (some ⟨wb, 0, none⟩)) rfl (by kernel_rfl) (by kernel_rfl) (by kernel_rfl) (fun _ _ _ h => h) (Or.inl ⟨by rfl, ?_⟩) ?_
      · (intro w_; go_simp; try rfl)
      try simp only [Act.put, List.setIfInBounds_toArray, List.set_cons_zero, List.set_cons_succ]
      refine wpAny_take (i := 24) (v := .pointer (some ⟨wb, 3, none⟩)) rfl (by kernel_rfl) (by kernel_rfl) (by kernel_rfl) (fun _ _ _ h => h) (Or.inl ⟨by rfl, ?_⟩) ?_
      · (intro w_; go_simp; try rfl)
      try simp only [Act.put, List.setIfInBounds_toArray, List.set_cons_zero, List.set_cons_succ]
      refine wpAny_ready (rs := [25]) (by kernel_rfl) (by simp) ?_
      refine AllReady.cons (i := 25) rfl (fun K hK => ?_) AllReady.nil
      have HKK := Aside0.mk hK
      clear hK
      go_simp
      refine HKK.out _ _ ?_
      clear HKK s3 f3 s4 f4
      try simp only [Act.put, List.setIfInBounds_toArray, List.set_cons_zero, List.set_cons_succ]
      refine wpAny_done (by kernel_rfl) ?_ _
      have HQ := Aside0.mk (HP.out.put3 rfl)
      clear HP
      refine NoPanic.normal ?_
      go_wp2_with fail
      go_roundg (L.length - (i + 1))
      case measure => have := HK.out; omega
      case rel => exact ⟨i + 1, _, _, _, by go_num, ⟨by omega⟩, ⟨by rw [HXN.out, HXB.out]; exact HQ.out.drop⟩⟩
    · have HIL : Aside0 (i = L.length) := ⟨by have := HK.out; omega⟩
      go_wp2_with fail
      go_ret
      refine ⟨wb, mb, vn, vb, rfl, ?_, ?_, HBG.out.mem.below⟩
      · have hBB := HBG.out
        rw [HIL.out] at hBB
        refine ⟨by rw [HALL.out]; exact hBB.mem.head, ?_, ?_, HMZ.out.symm, hBB.mem.geh, hBB.gem, hBB.mem.below⟩
        · exact Kd.R_reok rfl hBB.rn (fun k hk => ⟨fun e => Kd.R_ne hBB.rn hBB.mem.head (by decide) (by rw [hk, e]), fun e => Bg.mapNe hBB.rn hBB.map (by rw [hk, e])⟩)
        · exact Kd.R_reok rfl hBB.rb (fun k hk => ⟨fun e => Kd.R_ne hBB.rb hBB.mem.head (by decide) (by rw [hk, e]), fun e => Bg.mapNe hBB.rb hBB.map (by rw [hk, e])⟩)
      · exact Memo.of_map HBG.out.map
end Go.Proofs.Ytbcfphoheijmdaa.Print
end

section
/- Orders: the Go function's call gives the number of orders of a kit. -/
namespace Go.Proofs.Ytbcfphoheijmdaa.Print
open Go.RowKit Go.Proofs.YtbcfphoheijmdaaW.PrintWords Go.Proofs.YtbcfphoheijmdaaW.PrintLast Go.Proofs.YtbcfphoheijmdaaW.PrintMore Go.Proofs.Ytbcfphoheijmdaa.H
attribute [local go_sem] max2_int min2_int max_two min_two max_three min_three max_four min_four
set_option linter.unusedVariables false
set_option linter.unusedSimpArgs false

theorem otherErr_ok {n own : Int} {l : List Int} {i : Nat} (h : otherErr n own l i = 0) : 0 ≤ l.getD i 0 ∧ l.getD i 0 ≤ n - 1 := by
  unfold otherErr at h
  split at h
  · omega
  · omega
theorem listed_ok {n own : Int} {l : List Int} (h : othersErr n own l = 0) : ∀ x, x ∈ l → 0 ≤ x ∧ x < n := by
  intro x hx
  obtain ⟨i, hi, rfl⟩ := List.mem_iff_getElem.1 hx
  have h1 := otherErr_ok (firstErr_zero h i hi)
  rw [List.getD_eq_getElem?_getD, List.getElem?_eq_getElem hi] at h1
  have h2 : 0 ≤ l[i] ∧ l[i] ≤ n - 1 := h1
  omega
theorem partErr_ok {n own : Int} {p : S57} (h : partErr n own p = 0) : (∀ x, x ∈ p.f0 → 0 ≤ x ∧ x < n) ∧ (∀ x, x ∈ p.f1 → 0 ≤ x ∧ x < n) ∧ 0 ≤ p.f2 ∧ p.f2 ≤ 8 ∧ 0 ≤ p.f3 ∧ p.f3 ≤ 10000 := by
  unfold partErr at h
  split at h
  · rename_i q
    exact absurd h q
  · rename_i q
    have q : firstErr (fun i => othersErr n own (listOf p i)) 2 = 0 := by
      by_cases z : firstErr (fun i => othersErr n own (listOf p i)) 2 = 0
      · exact z
      · exact absurd z q
    have z0 := firstErr_zero q 0 (by omega)
    have z1 := firstErr_zero q 1 (by omega)
    refine ⟨listed_ok z0, listed_ok z1, ?_⟩
    split at h
    · omega
    · omega
theorem kitErr_ok {L : List S57} {c : Int} (h : kitErr L c = 0) : L.length ≤ 14 ∧ 0 ≤ c ∧ c ≤ 10000 ∧ ∀ i, i < L.length → partErr L.length i (L.getD i z57) = 0 := by
  unfold kitErr at h
  split at h
  · omega
  · split at h
    · omega
    · exact ⟨by omega, by omega, by omega, firstErr_zero h⟩
theorem kitErr_fine {L : List S57} {c : Int} (h : kitErr L c = 0) : Fine L := by
  obtain ⟨h1, _, _, h2⟩ := kitErr_ok h
  exact ⟨h1, fun p hp x hx => (partErr_ok (h2 p hp)).1 x hx, fun p hp x hx => (partErr_ok (h2 p hp)).2.1 x hx⟩
def mount_Orders.f (l0_0 : List (S57)) (a0_1 : Int) : Option (Int × Int) := if Holds l0_0 then (if kitErr l0_0 a0_1 = 0 then some (waysOf l0_0 0, 0) else some (0, kitErr l0_0 a0_1)) else none
set_option maxHeartbeats 3200000 in
set_option maxRecDepth 100000 in
theorem mount_Orders.calls (A0_0 : Option Addr) (c0_0 : Nat) (l0_0 : List (S57)) (a0_1 : Int) (r1 : Int) (r2 : Int) (w : World) (hr0_0 : Kd.C k57 w A0_0 l0_0.length l0_0) (hc0_0 : l0_0.length ≤ c0_0) (h : mount_Orders.f l0_0 a0_1 = some (r1, r2)) :
    Calls Try.prog 30 #[.agg #[.slice A0_0 l0_0.length c0_0, .int .i64 a0_1]] w fun e w' => e = .returned (.tuple #[.int .i64 r1, .int .i64 r2]) ∧ Below w.heap.size w w' := by
  have HH : Holds l0_0 := by
    unfold mount_Orders.f at h
    split at h
    · assumption
    · exact absurd h (by simp)
  unfold mount_Orders.f at h
  rw [if_pos HH] at h
  have HR := Aside0.mk hr0_0
  have HM := Aside0.mk (Mem.start w)
  have hck : mount_CheckKit.f l0_0 a0_1 = some (kitErr l0_0 a0_1) := by unfold mount_CheckKit.f; rw [if_pos HH]
  have HCK := Aside0.mk (fun W (hB : Below w.heap.size w W) => mount_CheckKit.calls A0_0 c0_0 l0_0 a0_1 _ W (Kd.C_below hr0_0 hB) hc0_0 hck)
  have hu49 := Try.underlying49
  by_cases te : kitErr l0_0 a0_1 = 0
  · rw [if_pos te] at h
    have HF := Aside0.mk (Option.some.inj h)
    have HFI := kitErr_fine te
    have HBC := Aside0.mk (fun W (hB : Below w.heap.size w W) => begun_calls HFI HH (c := a0_1) (Kd.C_below hr0_0 hB) hc0_0)
    have HOC := Aside0.mk (fun (w0 W : World) (wb mb : Nat) (vn vb : Value) (hW : Work w0 W wb mb l0_0 a0_1 A0_0 c0_0 vn vb) (hM : Memo W mb (waysOf l0_0)) => orders_calls HFI _ 0 (Nat.le_refl _) (Nat.two_pow_pos _) W hW hM)
    rw [te] at HCK
    clear h te hr0_0 hck HFI
    go_enter Try.func30, Try.ntmps30
    go_wp2_with (first
      | ((with_reducible refine gate_dst (N := 1) rfl ?_); refine ev_box HM.out rfl 49 (.tmp 0) rfl (cs := #[.slice A0_0 l0_0.length c0_0, .int .i64 a0_1]) rfl ?_; intro g1 w1 hm1 hq1; clear hq1; have HM1 := Aside0.mk hm1; clear hm1 HM; have c1 : w1.cell? ⟨g1, 0, none⟩ = some (.slice A0_0 l0_0.length c0_0) := (HM1.out.cell 0).trans rfl; have c2 : w1.cell? ⟨g1, 1, none⟩ = some (.int .i64 a0_1) := (HM1.out.cell 1).trans rfl)
      | (go_at_call 40; refine (HCK.out _ HM1.out.below).mono ?_; rintro e w2 ⟨rfl, hd⟩; have HM2 := Aside0.mk (HM1.out.step hd); clear hd HM1 c1 c2; have c1 : w2.cell? ⟨g1, 0, none⟩ = some (.slice A0_0 l0_0.length c0_0) := (HM2.out.cell 0).trans rfl; have c2 : w2.cell? ⟨g1, 1, none⟩ = some (.int .i64 a0_1) := (HM2.out.cell 1).trans rfl)
      | (go_at_call 92; refine (HBC.out _ HM2.out.below).mono ?_; rintro e w3 ⟨wb, mb, vn, vb, rfl, hW3, hM3, hB3⟩; have HW3 := Aside0.mk hW3; have HM3 := Aside0.mk hM3; have HB3 := Aside0.mk hB3; clear hW3 hM3 hB3 c1 c2)
      | (go_at_call 93; refine (HOC.out _ _ _ _ _ _ HW3.out HM3.out).mono ?_; rintro e w4 ⟨rfl, hM4, hg4⟩; have HG4 := Aside0.mk hg4; clear hM4 hg4))
    go_ret2
    have e := HF.out
    injection e with e1 e2
    exact ⟨by rw [← e1, ← e2]; rfl, (HM2.out.step HB3.out).below.grown HG4.out (HM2.out.step HB3.out).below.size (fun k hk => by rw [← Option.some.inj hk]; exact Nat.le_trans HM2.out.below.size HW3.out.gem)⟩
  · rw [if_neg te] at h
    have HF := Aside0.mk (Option.some.inj h)
    have te1 : (kitErr l0_0 a0_1 != 0) = true := by simpa using te
    generalize kitErr l0_0 a0_1 = E at HF te1 HCK
    clear h te hr0_0 hck
    go_enter Try.func30, Try.ntmps30
    go_wp2_with (first
      | ((with_reducible refine gate_dst (N := 1) rfl ?_); refine ev_box HM.out rfl 49 (.tmp 0) rfl (cs := #[.slice A0_0 l0_0.length c0_0, .int .i64 a0_1]) rfl ?_; intro g1 w1 hm1 hq1; clear hq1; have HM1 := Aside0.mk hm1; clear hm1 HM; have c1 : w1.cell? ⟨g1, 0, none⟩ = some (.slice A0_0 l0_0.length c0_0) := (HM1.out.cell 0).trans rfl; have c2 : w1.cell? ⟨g1, 1, none⟩ = some (.int .i64 a0_1) := (HM1.out.cell 1).trans rfl)
      | (go_at_call 40; refine (HCK.out _ HM1.out.below).mono ?_; rintro e w2 ⟨rfl, hd⟩; have HM2 := Aside0.mk (HM1.out.step hd); clear hd HM1 c1 c2))
    go_ret2
    have e := HF.out
    injection e with e1 e2
    exact ⟨by rw [← e1, ← e2]; rfl, HM2.out.below⟩
end Go.Proofs.Ytbcfphoheijmdaa.Print
end

section
/- table.over: what the Go method leaves of a table. -/
namespace Go.Proofs.Ytbcfphoheijmdaa.H
open Go.RowKit Go.Proofs.YtbcfphoheijmdaaW.PrintWords Go.Proofs.YtbcfphoheijmdaaW.PrintLast Go.Proofs.YtbcfphoheijmdaaW.PrintMore
attribute [local go_sem] max2_int min2_int max_two min_two max_three min_three max_four min_four
set_option linter.unusedVariables false
set_option linter.unusedSimpArgs false

theorem info125 : (Try.prog.info? 125).map (fun i => (i.zero, i.size, i.bytes)) = some (some (.agg (Array.replicate 576 (.int .i64 0))), 576, 4608) := by kernel_rfl
theorem size125 : (Try.prog.info? 125).map (·.size) = some 576 := by kernel_rfl

/-- What 'over' leaves at a place. -/
def ovr (T : List Int) (m a b : Nat) : Int :=
  if T.getD (a * 24 + m) 0 < 1099511627776 ∧ T.getD (m * 24 + b) 0 < 1099511627776 then min (T.getD (a * 24 + b) 0) (T.getD (a * 24 + m) 0 + T.getD (m * 24 + b) 0) else T.getD (a * 24 + b) 0
/-- The table behind the places (a', b') before (a, b). -/
def OvTo (T U : List Int) (m n a b : Nat) : Prop :=
  U.length = 576 ∧ ∀ x y, x < 24 → y < 24 → U.getD (x * 24 + y) 0 = if (x < a ∨ x = a ∧ y < b) ∧ x < n ∧ y < n then ovr T m x y else T.getD (x * 24 + y) 0

theorem getD_set_ne {T : List Int} {i j : Nat} {v : Int} (h : i ≠ j) : (T.set i v).getD j 0 = T.getD j 0 := by
  simp [List.getD_eq_getElem?_getD, List.getElem?_set, h]
theorem getD_set_eq {T : List Int} {i : Nat} {v : Int} (h : i < T.length) : (T.set i v).getD i 0 = v := by
  simp [List.getD_eq_getElem?_getD, h]
theorem OvTo.put {T U : List Int} {m n a b : Nat} {X Y Z : Int} (h : OvTo T U m n a b) (ha : a < n) (hb : b < n) (hn : n ≤ 24) (h1 : T.getD (a * 24 + m) 0 = X) (h2 : T.getD (m * 24 + b) 0 = Y) (h3 : U.getD (a * 24 + b) 0 = Z) (t1 : X < 1099511627776) (t2 : Y < 1099511627776) :
    OvTo T (U.set (a * 24 + b) (if Z ≤ X + Y then Z else X + Y)) m n a (b + 1) := by
  have h4 : T.getD (a * 24 + b) 0 = Z := by rw [← h3, h.2 a b (by omega) (by omega), if_neg (by omega)]
  refine ⟨by simp [h.1], fun x y hx hy => ?_⟩
  by_cases q : x = a ∧ y = b
  · obtain ⟨rfl, rfl⟩ := q
    rw [getD_set_eq (by rw [h.1]; omega), if_pos (show (x < x ∨ x = x ∧ y < y + 1) ∧ x < n ∧ y < n by omega)]
    unfold ovr
    rw [h1, h2, h4, if_pos (show X < 1099511627776 ∧ Y < 1099511627776 from And.intro t1 t2)]
    split <;> omega
  · rw [getD_set_ne (by omega), h.2 x y hx hy]
    by_cases c : (x < a ∨ x = a ∧ y < b) ∧ x < n ∧ y < n
    · rw [if_pos c, if_pos (by omega)]
    · rw [if_neg c, if_neg (by omega)]
theorem OvTo.skip {T U : List Int} {m n a b : Nat} (h : OvTo T U m n a b) (e : T.getD (a * 24 + b) 0 = ovr T m a b) : OvTo T U m n a (b + 1) := by
  refine ⟨h.1, fun x y hx hy => ?_⟩
  rw [h.2 x y hx hy]
  by_cases c : (x < a ∨ x = a ∧ y < b) ∧ x < n ∧ y < n
  · rw [if_pos c, if_pos (by omega)]
  · rw [if_neg c]
    by_cases d : (x < a ∨ x = a ∧ y < b + 1) ∧ x < n ∧ y < n
    · rw [if_pos d]
      obtain ⟨rfl, rfl⟩ : x = a ∧ y = b := by omega
      exact e
    · rw [if_neg d]
theorem OvTo.next {T U : List Int} {m n a b : Nat} (h : OvTo T U m n a b) (hb : n ≤ b) : OvTo T U m n (a + 1) 0 := by
  refine ⟨h.1, fun x y hx hy => ?_⟩
  rw [h.2 x y hx hy]
  by_cases c : (x < a ∨ x = a ∧ y < b) ∧ x < n ∧ y < n
  · rw [if_pos c, if_pos (by omega)]
  · rw [if_neg c, if_neg (by omega)]
theorem OvTo.done {T U : List Int} {m n a b : Nat} (h : OvTo T U m n a b) (ha : n ≤ a) : OvTo T U m n n 0 := by
  refine ⟨h.1, fun x y hx hy => ?_⟩
  rw [h.2 x y hx hy]
  by_cases c : (x < a ∨ x = a ∧ y < b) ∧ x < n ∧ y < n
  · rw [if_pos c, if_pos (by omega)]
  · rw [if_neg c, if_neg (by omega)]

set_option maxHeartbeats 800000 in
set_option maxRecDepth 100000 in
theorem over_calls (T : List Int) (m n : Nat) (hT : T.length = 576) (hm : m < 24) (hn : n ≤ 24) (hbd : ∀ i, -4611686018427387904 ≤ T.getD i 0 ∧ T.getD i 0 ≤ 4611686018427387904) (w : World) :
    Calls Try.prog 133 #[.agg (nums .i64 T).toArray, .int .i64 m, .int .i64 n] w fun e w' => ∃ U, OvTo T U m n n 0 ∧ e = .returned (.agg (nums .i64 U).toArray) ∧ Below w.heap.size w w' := by
  have HS := Aside0.mk (size_nums hT)
  have HT := Aside0.mk hT
  have HBD := Aside0.mk hbd
  have HM := Aside0.mk (Mem.start w)
  clear hT hbd
  generalize hA : (nums .i64 T).toArray = A at HS ⊢
  have HA := Aside0.mk hA
  clear hA
  go_enter Try.func133, Try.ntmps133
  go_wp2_with (first
    | ((with_reducible refine gate_dst (N := 3) rfl ?_); refine ev_box HM.out rfl 125 (.tmp 0) rfl (cs := A) rfl ?_; intro g1 w1 hm1 hq1; clear hq1; have HM1 := Aside0.mk hm1; clear hm1 HM)
    | ((with_reducible refine gate_dst (N := 6) rfl ?_); refine ev_new HM1.out rfl 125 rfl info125 ?_; intro g2 w2 hm2 hq1; clear hq1; have HM2 := Aside0.mk hm2; clear hm2 HM1)
    | ((with_reducible refine gate_dst (N := 10) rfl ?_); refine ev_load HM2.out.second rfl 125 (.tmp 3) rfl rfl _ Try.underlying125 rfl size125 HS.out ?_)
    | ((with_reducible refine gate_dst (N := 7) rfl ?_); refine ev_new HM2.out rfl 125 rfl info125 ?_; intro g3 w3 hm3 hq1; clear hq1; have HM3 := Aside0.mk hm3; clear hm3 HM2)
    | (refine ev_store HM3.out rfl 125 (.tmp 7) (.tmp 10) rfl rfl rfl size125 (by simp) HS.out (by rw [← HA.out]; exact one_nums T) ?_; intro w4 hm4 hq1; clear hq1; have HM4 := Aside0.mk hm4; clear hm4 HM3))
  have H0 : Aside0 (Mem w w4 [(g3, (nums .i64 T).toArray, 125), (g2, Array.replicate 576 (.int .i64 0), 125), (g1, A, 125)]) := ⟨by rw [HA.out]; exact HM4.out⟩
  clear HM4
  go_loopg [12] n (fun k v12 w' => ∃ (a : Nat) (U : List Int), v12 = .int .i64 a ∧ Aside0 (a + k = n) ∧ Aside0 (OvTo T U m n a 0) ∧ Aside0 (Mem w w' [(g3, (nums .i64 U).toArray, 125), (g2, Array.replicate 576 (.int .i64 0), 125), (g1, A, 125)]))
  case atStart => exact ⟨0, T, rfl, ⟨by omega⟩, ⟨HT.out, fun x y _ _ => by simp⟩, H0⟩
  case round =>
    clear H0
    obtain ⟨a, U, rfl, HK, HU, HM⟩ := hrel
    by_cases ha : a < n
    · go_wp2_with fail
      go_loopg [16] n (fun k v16 w' => ∃ (b : Nat) (U : List Int), v16 = .int .i64 b ∧ Aside0 (b + k = n) ∧ Aside0 (OvTo T U m n a b) ∧ Aside0 (Mem w w' [(g3, (nums .i64 U).toArray, 125), (g2, Array.replicate 576 (.int .i64 0), 125), (g1, A, 125)]))
      case atStart => exact ⟨0, U, rfl, ⟨by omega⟩, HU, HM⟩
      case round =>
        clear HU HM U
        obtain ⟨b, U, rfl, HK2, HU, HM⟩ := hrel
        by_cases hb : b < n
        · have c1 : wr.cell? ⟨g1, a * 24 + m, none⟩ = some (.int .i64 (T.getD (a * 24 + m) 0)) := by rw [blk_cell HM.out.third, ← HA.out, get_nums _ _ (by rw [HT.out]; omega)]
          have c2 : wr.cell? ⟨g1, m * 24 + b, none⟩ = some (.int .i64 (T.getD (m * 24 + b) 0)) := by rw [blk_cell HM.out.third, ← HA.out, get_nums _ _ (by rw [HT.out]; omega)]
          have c3 : wr.cell? ⟨g3, a * 24 + b, none⟩ = some (.int .i64 (U.getD (a * 24 + b) 0)) := by rw [HM.out.cell, get_nums _ _ (by rw [HU.out.1]; omega)]
          have f3 : wr.frozen? ⟨g3, a * 24 + b, none⟩ = false := HM.out.frozen _
          have b1 := (HBD.out (a * 24 + m)).1
          have b2 := (HBD.out (a * 24 + m)).2
          have b3 := (HBD.out (m * 24 + b)).1
          have b4 := (HBD.out (m * 24 + b)).2
          generalize hX : T.getD (a * 24 + m) 0 = X at c1 b1 b2
          generalize hY : T.getD (m * 24 + b) 0 = Y at c2 b3 b4
          generalize hZ : U.getD (a * 24 + b) 0 = Z at c3
          have HX := Aside0.mk hX
          have HY := Aside0.mk hY
          have HZ := Aside0.mk hZ
          clear hX hY hZ
          by_cases t1 : X < 1099511627776
          · by_cases t2 : Y < 1099511627776
            · go_wp2_with fail
              have i1 : (0 : Int) ≤ (a : Int) := by omega
              have i2 : (a : Int) < 24 := by omega
              have i3 : (0 : Int) ≤ (b : Int) := by omega
              have i4 : (b : Int) < 24 := by omega
              have i5 : (0 : Int) ≤ (m : Int) := by omega
              have i6 : (m : Int) < 24 := by omega
              have HP := HU.out.put ha hb hn HX.out HY.out HZ.out t1 t2
              by_cases t3 : Z ≤ X + Y
              all_goals
                first | rw [if_pos t3] at HP | rw [if_neg t3] at HP
                have HQ := Aside0.mk HP
                clear HP
                have i7 : IntKind.i64.wrap (X + Y) = X + Y := IntWalk.i64_in _ (by omega)
                go_still_tail 21, (by kernel_rfl)
                clear i7
                go_wp2_with fail
                go_roundg (gk - 1)
                case measure => have := HK2.out; omega
                case rel => exact ⟨b + 1, _, by go_num, ⟨by have := HK2.out; omega⟩, HQ, ⟨(HM.out.put _ _ (set_nums _ _ _)).drew⟩⟩
            · go_wp2_with fail
              go_roundg (gk - 1)
              case measure => have := HK2.out; omega
              case rel => exact ⟨b + 1, U, by go_num, ⟨by have := HK2.out; omega⟩, ⟨HU.out.skip (by unfold ovr; rw [HX.out, HY.out, if_neg (by omega)])⟩, HM⟩
          · go_wp2_with fail
            go_roundg (gk - 1)
            case measure => have := HK2.out; omega
            case rel => exact ⟨b + 1, U, by go_num, ⟨by have := HK2.out; omega⟩, ⟨HU.out.skip (by unfold ovr; rw [HX.out, if_neg (by omega)])⟩, HM⟩
        · go_wp2_with fail
          go_roundg (n - (a + 1))
          case measure => have := HK.out; omega
          case rel => exact ⟨a + 1, U, by go_num, ⟨by have := HK.out; omega⟩, ⟨HU.out.next (by omega)⟩, HM⟩
    · go_wp2_with (first | ((with_reducible refine gate_dst (N := 56) rfl ?_); refine ev_load HM.out.head rfl 125 (.tmp 7) rfl rfl _ Try.underlying125 rfl size125 (size_nums HU.out.1) ?_) | (refine ev_store HM.out.swap rfl 125 (.tmp 6) (.tmp 56) rfl rfl rfl size125 (by simp) (size_nums HU.out.1) (one_nums U) ?_; intro w5 hm5 hq1; clear hq1; have HM5 := Aside0.mk hm5; clear hm5 HM))
      refine bodyPost_ret (results_cell_row rfl _ _ _ _ _ _ _ rfl HM5.out.head Try.underlying125 rfl (by rw [size125, size_nums HU.out.1])) rfl ⟨U, HU.out.done (by omega), rfl, HM5.out.below⟩
end Go.Proofs.Ytbcfphoheijmdaa.H
end

section
/- The tables of a chain, as Lean functions: what links say, and what the ways over ever more points make of it. -/
namespace Go.Proofs.Ytbcfphoheijmdaa.Print
open Go.RowKit Go.Proofs.YtbcfphoheijmdaaW.PrintWords Go.Proofs.YtbcfphoheijmdaaW.PrintLast Go.Proofs.YtbcfphoheijmdaaW.PrintMore Go.Proofs.Ytbcfphoheijmdaa.H
set_option linter.unusedVariables false
set_option linter.unusedSimpArgs false

/-- The table before any link: nothing bounds two points, but a point and itself. -/
def baseTab : List Int := (List.range 576).map (fun i => if i / 24 = i % 24 then 0 else 1099511627776)
/-- A link more. -/
def linkStep (T : List Int) (l : S35) : List Int :=
  let T1 := T.set (l.f0.toNat * 24 + l.f1.toNat) (mn (T.getD (l.f0.toNat * 24 + l.f1.toNat) 0) l.f2.f1)
  T1.set (l.f1.toNat * 24 + l.f0.toNat) (mn (T1.getD (l.f1.toNat * 24 + l.f0.toNat) 0) (-l.f2.f0))
def initTab (L : List S35) : List Int := L.foldl linkStep baseTab
/-- The ways over the point m. -/
def overTab (T : List Int) (m n : Nat) : List Int := (List.range 576).map (fun i => if i / 24 < n ∧ i % 24 < n then ovr T m (i / 24) (i % 24) else T.getD i 0)
/-- Is a point behind itself? -/
def negDiag (n : Nat) (T : List Int) : Bool := (List.range n).any (fun a => decide (T.getD (a * 24 + a) 0 < 0))
/-- The ways over k points from m on; 12 if a point comes behind itself. -/
def floyd (n : Nat) : Nat → Nat → List Int → List Int × Int
  | 0, _, T => (T, 0)
  | k + 1, m, T => if negDiag n (overTab T m n) then (overTab T m n, 12) else floyd n k (m + 1) (overTab T m n)
/-- The tight table of a chain, and the error. -/
def tightOf (P : Int) (L : List S35) : List Int × Int :=
  if chainErr P L = 0 then floyd P.toNat P.toNat 0 (initTab L) else (List.replicate 576 0, chainErr P L)

theorem OvTo.tab {T U : List Int} {m n : Nat} (h : OvTo T U m n n 0) : U = overTab T m n := by
  refine Is.list (n := 576) (f := fun i => if i / 24 < n ∧ i % 24 < n then ovr T m (i / 24) (i % 24) else T.getD i 0) ⟨h.1, fun j hj => ?_⟩
  have := h.2 (j / 24) (j % 24) (by omega) (by omega)
  rw [show j / 24 * 24 + j % 24 = j by omega] at this
  rw [this]
  show _ = if j / 24 < n ∧ j % 24 < n then ovr T m (j / 24) (j % 24) else T.getD j 0
  by_cases c : j / 24 < n ∧ j % 24 < n
  · rw [if_pos c, if_pos (by omega)]
  · rw [if_neg c, if_neg (by omega)]
theorem overTab_length (T : List Int) (m n : Nat) : (overTab T m n).length = 576 := by simp [overTab]
theorem getD_map_range (N : Nat) (f : Nat → Int) (i : Nat) : ((List.range N).map f).getD i 0 = if i < N then f i else 0 := by
  by_cases h : i < N
  · simp [List.getD_eq_getElem?_getD, h]
  · simp [List.getD_eq_getElem?_getD, h]
theorem baseTab_length : baseTab.length = 576 := by simp [baseTab]
theorem linkStep_length (T : List Int) (l : S35) : (linkStep T l).length = T.length := by simp [linkStep]
theorem initTab_length (L : List S35) : (initTab L).length = 576 := by
  have : ∀ (L : List S35) (T : List Int), (L.foldl linkStep T).length = T.length := by
    intro L
    induction L with
    | nil => intro T; rfl
    | cons l L ih => intro T; rw [List.foldl_cons, ih, linkStep_length]
  rw [initTab, this, baseTab_length]
theorem initTab_snoc (L : List S35) (l : S35) : initTab (L ++ [l]) = linkStep (initTab L) l := by simp [initTab]

/-- Numbers that stay small. -/
def Small (B : Int) (T : List Int) : Prop := ∀ i, -B ≤ T.getD i 0 ∧ T.getD i 0 ≤ 1099511627776
theorem mn_le (a b : Int) : mn a b ≤ a ∧ mn a b ≤ b ∧ (mn a b = a ∨ mn a b = b) := by unfold mn; split <;> omega
theorem Small.set {B : Int} {T : List Int} {i : Nat} {v : Int} (h : Small B T) (h1 : -B ≤ v) (h2 : v ≤ 1099511627776) : Small B (T.set i v) := by
  intro j
  by_cases q : i = j
  · subst q
    by_cases c : i < T.length
    · rw [H.getD_set_eq c]; exact ⟨h1, h2⟩
    · rw [List.set_eq_of_length_le (by omega)]; exact h i
  · rw [H.getD_set_ne q]; exact h j
theorem Small.base {B : Int} (hB : 0 ≤ B) : Small B baseTab := by
  intro j
  unfold baseTab
  rw [getD_map_range]
  split
  · split <;> omega
  · omega
theorem Small.link {T : List Int} {l : S35} (h : Small 1000000 T) (h1 : l.f2.f0 ≤ l.f2.f1) (h2 : -1000000 ≤ l.f2.f0) (h3 : l.f2.f1 ≤ 1000000) : Small 1000000 (linkStep T l) := by
  have s1 : Small 1000000 (T.set (l.f0.toNat * 24 + l.f1.toNat) (mn (T.getD (l.f0.toNat * 24 + l.f1.toNat) 0) l.f2.f1)) := by
    have := mn_le (T.getD (l.f0.toNat * 24 + l.f1.toNat) 0) l.f2.f1
    have := h (l.f0.toNat * 24 + l.f1.toNat)
    exact h.set (by omega) (by omega)
  have := mn_le ((T.set (l.f0.toNat * 24 + l.f1.toNat) (mn (T.getD (l.f0.toNat * 24 + l.f1.toNat) 0) l.f2.f1)).getD (l.f1.toNat * 24 + l.f0.toNat) 0) (-l.f2.f0)
  have := s1 (l.f1.toNat * 24 + l.f0.toNat)
  exact s1.set (by omega) (by omega)
theorem Small.init {P : Int} (L : List S35) (h : ∀ l, l ∈ L → linkErr P l = 0) : Small 1000000 (initTab L) := by
  have : ∀ (L : List S35) (T : List Int), (∀ l, l ∈ L → linkErr P l = 0) → Small 1000000 T → Small 1000000 (L.foldl linkStep T) := by
    intro L
    induction L with
    | nil => intro T _ h; exact h
    | cons l L ih =>
      intro T h hT
      have hl := linkErr_ok (h l (by simp))
      exact ih _ (fun l' h' => h l' (by simp [h'])) (hT.link hl.2.2.2.2.2.1 hl.2.2.2.2.2.2.1 hl.2.2.2.2.2.2.2)
  exact this L _ h (Small.base (by omega))
theorem Small.over {B : Int} {T : List Int} {m n : Nat} (h : Small B T) (hB : 0 ≤ B) : Small (2 * B) (overTab T m n) := by
  intro j
  unfold overTab
  rw [getD_map_range]
  have h0 := h j
  split
  · split
    · unfold ovr
      have h1 := h (j / 24 * 24 + m)
      have h2 := h (m * 24 + j % 24)
      have h3 := h (j / 24 * 24 + j % 24)
      split <;> omega
    · omega
  · omega
theorem Small.mono {B C : Int} {T : List Int} (h : Small B T) (hBC : B ≤ C) : Small C T := fun i => by have := h i; omega
end Go.Proofs.Ytbcfphoheijmdaa.Print
end

section
/- tight: the table of a chain, and the error, as the Go function gives them. -/
namespace Go.Proofs.Ytbcfphoheijmdaa.Print
open Go.RowKit Go.Proofs.YtbcfphoheijmdaaW.PrintWords Go.Proofs.YtbcfphoheijmdaaW.PrintLast Go.Proofs.YtbcfphoheijmdaaW.PrintMore Go.Proofs.Ytbcfphoheijmdaa.H
attribute [local go_sem] max2_int min2_int max_two min_two max_three min_three max_four min_four
set_option linter.unusedVariables false
set_option linter.unusedSimpArgs false

/-- Two results, of which the first is a whole array in memory. -/
theorem results_row_tmp {P : Program} {fn : Func} {p q : Tmp} {ty : TypeId} (h : fn.results = #[.cell p ty, .tmp q]) (tmps : Array Value) (w : World) (g : Nat) (t : TypeId) (cs : Array Value) (fr : Nat × Nat) (d : TypeDesc)
    (hp : tmps.getD p undef = .pointer (some ⟨g, 0, none⟩)) (hg : w.heap[g]? = some (.cells cs t fr))
    (hu : P.underlying ty = some d) (hd : (match d with | .struct _ | .array _ _ => true | _ => false) = true) (hi : (P.info? ty).map (·.size) = some cs.size) :
    (results fn tmps).run P w = .ok (.tuple #[.agg cs, tmps.getD q undef]) w := by
  have hp' : tmps[p]?.getD undef = .pointer (some ⟨g, 0, none⟩) := by simpa using hp
  simp [results, h, hp', asAddr, run_loadVar_row w g t ty cs fr d hg hu hd hi]

theorem chainErr_ok {P : Int} {L : List S35} (h : chainErr P L = 0) : 1 ≤ P ∧ P ≤ 24 ∧ L.length ≤ 80 ∧ ∀ l, l ∈ L → linkErr P l = 0 := by
  unfold chainErr at h
  split at h
  · omega
  · split at h
    · omega
    · refine ⟨by omega, by omega, by omega, ?_⟩
      split at h
      · rename_i l hl
        have := List.find?_some hl
        simp [h] at this
      · rename_i hl
        intro l hm
        have := List.find?_eq_none.1 hl l hm
        simpa using this
theorem negDiag_true {n a : Nat} {T : List Int} (ha : a < n) (h : T.getD (a * 24 + a) 0 < 0) : negDiag n T = true := by
  unfold negDiag
  rw [List.any_eq_true]
  exact ⟨a, by simpa using ha, by simpa using h⟩
theorem negDiag_false {n : Nat} {T : List Int} (h : ∀ a, a < n → ¬ T.getD (a * 24 + a) 0 < 0) : negDiag n T = false := by
  unfold negDiag
  rw [List.any_eq_false]
  intro a ha
  simpa using h a (by simpa using ha)
theorem floyd_neg {n k m : Nat} {T : List Int} (h : negDiag n (overTab T m n) = true) : floyd n (k + 1) m T = (overTab T m n, 12) := by rw [floyd, if_pos h]
theorem floyd_next {n k m : Nat} {T : List Int} (h : negDiag n (overTab T m n) = false) : floyd n (k + 1) m T = floyd n k (m + 1) (overTab T m n) := by rw [floyd, if_neg (by rw [h]; simp)]
/-- How small the numbers of the table stay. -/
def bnd (m : Nat) : Int := 1000000 * 2 ^ m
theorem bnd_succ (m : Nat) : bnd (m + 1) = 2 * bnd m := by unfold bnd; rw [Int.pow_succ]; omega
theorem bnd_le (m : Nat) (h : m ≤ 24) : 0 ≤ bnd m ∧ bnd m ≤ 16777216000000 := by
  have : ∀ k : Nat, k ≤ 24 → bnd (24 - k) ≤ 16777216000000 ∧ 0 ≤ bnd (24 - k) := by
    intro k
    induction k with
    | zero => intro _; unfold bnd; decide
    | succ k ih =>
      intro hk
      have := ih (by omega)
      have e := bnd_succ (24 - (k + 1))
      rw [show 24 - (k + 1) + 1 = 24 - k by omega] at e
      omega
  have := this (24 - m) (by omega)
  rw [show 24 - (24 - m) = m by omega] at this
  exact ⟨this.2, this.1⟩
theorem Small.wide {B : Int} {T : List Int} (h : Small B T) (hB : B ≤ 16777216000000) : ∀ i, -4611686018427387904 ≤ T.getD i 0 ∧ T.getD i 0 ≤ 4611686018427387904 := fun i => by have := h i; omega
set_option maxHeartbeats 3200000 in
set_option maxRecDepth 100000 in
theorem tight_calls (P : Int) (A : Option Addr) (c : Nat) (L : List S35) (w : World) (hr : Kd.C k35 w A L.length L) (hc : L.length ≤ c) :
    Calls Try.prog 89 #[.agg #[.int .i64 P, .slice A L.length c]] w fun e w' => e = .returned (.tuple #[.agg (nums .i64 (tightOf P L).1).toArray, .int .i64 (tightOf P L).2]) ∧ Below w.heap.size w w' := by
  have HR := Aside0.mk hr
  have HM := Aside0.mk (Mem.start w)
  clear hr
  have hu27 := Try.underlying27
  have HCE := Aside0.mk (show mount_CheckChain.f P L = some (chainErr P L) from rfl)
  by_cases t1 : chainErr P L = 0
  rotate_left
  · have HF : Aside0 (tightOf P L = (List.replicate 576 0, chainErr P L)) := ⟨if_neg t1⟩
    rw [HF.out]
    generalize hE : chainErr P L = E at t1 HCE
    clear hE
    have t2 : (E != 0) = true := by simpa using t1
    generalize hZ : (nums .i64 (List.replicate 576 0)).toArray = Z
    have HZ := Aside0.mk hZ
    clear hZ t1
    go_enter Try.func89, Try.ntmps89
    go_wp2_with (first
      | ((with_reducible refine gate_dst (N := 1) rfl ?_); refine ev_box HM.out rfl 27 (.tmp 0) rfl (cs := #[.int .i64 P, .slice A L.length c]) rfl ?_; intro g1 w1 hm1 hq1; clear hq1; have HM1 := Aside0.mk hm1; clear hm1 HM)
      | ((with_reducible refine gate_dst (N := 2) rfl ?_); refine ev_new HM1.out rfl 125 rfl info125 ?_; intro g2 w2 hm2 hq1; clear hq1; have HM2 := Aside0.mk hm2; clear hm2 HM1)
      | ((with_reducible refine gate_dst (N := 4) rfl ?_); refine ev_new HM2.out rfl 125 rfl info125 ?_; intro g3 w3 hm3 hq1; clear hq1; have HM3 := Aside0.mk hm3; clear hm3 HM2; rw [zero_nums, HZ.out] at HM3)
      | ((with_reducible refine gate_dst (N := 12) rfl ?_); refine ev_load HM3.out.third rfl 27 (.tmp 1) rfl rfl _ Try.underlying27 rfl (n := 2) (by kernel_rfl) rfl ?_)
      | (go_at_call 53; refine (mount_CheckChain.calls _ _ _ _ _ _ (Kd.C_below HR.out HM3.out.below) hc HCE.out).mono ?_; rintro e w' ⟨rfl, hd⟩; have HM4 := Aside0.mk (HM3.out.step hd); clear hd HM3)
      | ((with_reducible refine gate_dst (N := 16) rfl ?_); refine ev_load HM4.out.head rfl 125 (.tmp 4) rfl rfl _ Try.underlying125 rfl size125 (by rw [← HZ.out]; exact size_nums (by simp)) ?_)
      | (refine ev_store HM4.out.swap rfl 125 (.tmp 2) (.tmp 16) rfl rfl rfl size125 (by rw [← HZ.out]; exact size_nums (by simp)) (by rw [← HZ.out]; exact size_nums (by simp)) (by rw [← HZ.out]; exact one_nums _) ?_; intro w5 hm5 hq1; clear hq1; have HM5 := Aside0.mk hm5; clear hm5 HM4))
    refine bodyPost_ret (results_row_tmp rfl _ _ _ _ _ _ _ rfl HM5.out.head Try.underlying125 rfl (by rw [size125, ← HZ.out, size_nums (n := 576) (by simp)])) rfl ⟨rfl, HM5.out.below⟩
  obtain ⟨n, rfl⟩ : ∃ n : Nat, P = n := ⟨P.toNat, by have := chainErr_ok t1; omega⟩
  have HOK := Aside0.mk (chainErr_ok t1)
  have hn1 : 1 ≤ n := by have := HOK.out.1; omega
  have hn2 : n ≤ 24 := by have := HOK.out.2.1; omega
  have hL : L.length ≤ 80 := HOK.out.2.2.1
  have HF : Aside0 (tightOf n L = floyd n n 0 (initTab L)) := ⟨if_pos t1⟩
  rw [t1] at HCE
  clear t1
  go_enter Try.func89, Try.ntmps89
  go_wp2_with (first
    | ((with_reducible refine gate_dst (N := 1) rfl ?_); refine ev_box HM.out rfl 27 (.tmp 0) rfl (cs := #[.int .i64 (n : Int), .slice A L.length c]) rfl ?_; intro g1 w1 hm1 hq1; clear hq1; have HM1 := Aside0.mk hm1; clear hm1 HM)
    | ((with_reducible refine gate_dst (N := 2) rfl ?_); refine ev_new HM1.out rfl 125 rfl info125 ?_; intro g2 w2 hm2 hq1; clear hq1; have HM2 := Aside0.mk hm2; clear hm2 HM1)
    | ((with_reducible refine gate_dst (N := 4) rfl ?_); refine ev_new HM2.out rfl 125 rfl info125 ?_; intro g3 w3 hm3 hq1; clear hq1; have HM3 := Aside0.mk hm3; clear hm3 HM2)
    | ((with_reducible refine gate_dst (N := 12) rfl ?_); refine ev_load HM3.out.third rfl 27 (.tmp 1) rfl rfl _ Try.underlying27 rfl (n := 2) (by kernel_rfl) rfl ?_)
    | (go_at_call 53; refine (mount_CheckChain.calls _ _ _ _ _ _ (Kd.C_below HR.out HM3.out.below) hc HCE.out).mono ?_; rintro e w' ⟨rfl, hd⟩; have HM4 := Aside0.mk (HM3.out.step hd); clear hd HM3))
  rw [zero_nums] at HM4
  -- the base
  go_loopg [18] 24 (fun k v18 w' => ∃ (a : Nat) (U : List Int), v18 = .int .i64 a ∧ Aside0 (a + k = 24) ∧ Aside0 (Is 576 U (fun i => if i < a * 24 then (if i / 24 = i % 24 then 0 else 1099511627776) else 0)) ∧ Aside0 (Mem w w' [(g3, (nums .i64 U).toArray, 125), (g2, (nums .i64 (List.replicate 576 0)).toArray, 125), (g1, #[.int .i64 (n : Int), .slice A L.length c], 27)]))
  case atStart => exact ⟨0, _, rfl, ⟨rfl⟩, ⟨(Is.zero 576).congr (fun j hj => (if_neg (by omega)).symm)⟩, HM4⟩
  case round =>
    clear HM4
    obtain ⟨a, U, rfl, HK, HU, HM⟩ := hrel
    by_cases ha : a < 24
    · go_wp2_with fail
      go_loopg [21] 24 (fun k v21 w' => ∃ (b : Nat) (U : List Int), v21 = .int .i64 b ∧ Aside0 (b + k = 24) ∧ Aside0 (Is 576 U (fun i => if i < a * 24 + b then (if i / 24 = i % 24 then 0 else 1099511627776) else 0)) ∧ Aside0 (Mem w w' [(g3, (nums .i64 U).toArray, 125), (g2, (nums .i64 (List.replicate 576 0)).toArray, 125), (g1, #[.int .i64 (n : Int), .slice A L.length c], 27)]))
      case atStart => exact ⟨0, U, rfl, ⟨by omega⟩, HU, HM⟩
      case round =>
        obtain ⟨b, V, rfl, HK2, HV, HN⟩ := hrel
        by_cases hb : b < 24
        · have c1 : wr.cell? ⟨g3, a * 24 + b, none⟩ = some (.int .i64 (V.getD (a * 24 + b) 0)) := by rw [HN.out.cell, get_nums _ _ (by rw [HV.out.1]; omega)]
          have f1 : wr.frozen? ⟨g3, a * 24 + b, none⟩ = false := HN.out.frozen _
          generalize hX : V.getD (a * 24 + b) 0 = X at c1
          have HX := Aside0.mk hX
          clear hX
          by_cases hab : a = b
          · have hab1 : ((a : Int) != (b : Int)) = false := by simp; omega
            have HAB := Aside0.mk hab
            clear hab
            go_wp2_with fail
            go_roundg (24 - (b + 1))
            case measure => have := HK2.out; omega
            case rel => exact ⟨b + 1, V, by go_num, ⟨by omega⟩, ⟨HV.out.congr (fun j hj => by
              by_cases q : j = a * 24 + b
              · subst q
                rw [if_neg (by omega), if_pos (by omega), if_pos (by have := HAB.out; omega)]
              · exact if_step q)⟩, HN⟩
          · have hab1 : ((a : Int) != (b : Int)) = true := by simp; omega
            have HAB := Aside0.mk hab
            clear hab
            go_wp2_with fail
            go_roundg (24 - (b + 1))
            case measure => have := HK2.out; omega
            case rel => exact ⟨b + 1, _, by go_num, ⟨by omega⟩, ⟨HV.out.set (by omega) ((if_pos (by omega)).trans (if_neg (by have := HAB.out; omega))) (fun j hj q => if_step q)⟩, ⟨HN.out.put _ _ (set_nums _ _ _)⟩⟩
        · go_wp2_with fail
          go_roundg (24 - (a + 1))
          case measure => have := HK.out; omega
          case rel => exact ⟨a + 1, V, by go_num, ⟨by omega⟩, ⟨HV.out.congr (fun j hj => by
            have := HK2.out
            by_cases q : j < a * 24 + b
            · rw [if_pos q, if_pos (show j < (a + 1) * 24 by omega)]
            · rw [if_neg q, if_neg (show ¬ j < (a + 1) * 24 by omega)])⟩, HN⟩
    · have HU2 : Aside0 (U = initTab []) := ⟨by rw [(HU.out.congr (g := fun i => if i / 24 = i % 24 then 0 else 1099511627776) (fun j hj => if_pos (by omega))).list]; rfl⟩
      have c1 : wr.cell? ⟨g1, 1, none⟩ = some (.slice A L.length c) := (blk_cell HM.out.third 1).trans rfl
      go_wp2_with fail
      clear c1
      -- the links
      go_loopg [36] L.length (fun k v36 w' => ∃ (i : Nat) (U : List Int), v36 = .int .i64 i ∧ Aside0 (i + k = L.length) ∧ Aside0 (U = initTab (L.take i)) ∧ Aside0 (Mem w w' [(g3, (nums .i64 U).toArray, 125), (g2, (nums .i64 (List.replicate 576 0)).toArray, 125), (g1, #[.int .i64 (n : Int), .slice A L.length c], 27)]))
      case atStart => exact ⟨0, U, rfl, ⟨by omega⟩, HU2, HM⟩
      case round =>
        obtain ⟨k, T, rfl, HK2, HT, HN⟩ := hrel
        by_cases hk : k < L.length
        · obtain ⟨ad, e0, x0, x1, x2, x3⟩ := at35 (Kd.C_below HR.out HN.out.below) k hk
          have HOKk := HOK.out.2.2.2 L[k] (List.getElem_mem hk)
          have HTn := Aside0.mk (show initTab (L.take (k + 1)) = linkStep T L[k] by rw [take_at _ _ hk, initTab_snoc, HT.out])
          generalize hX : L[k] = X at x0 x1 x2 x3 HOKk HTn
          clear hX
          cases e0
          have hk1 : (0 : Int) ≤ (k : Int) := by omega
          have hk2 : (k : Int) < (L.length : Int) := by omega
          obtain ⟨q1, q2, q3, q4, q5, q6, q7, q8⟩ := linkErr_ok HOKk
          clear HOKk
          go_wp2_with (first
            | ((with_reducible refine gate_dst (N := 9) rfl ?_); refine ev_new HN.out rfl 35 rfl info35 ?_; intro g4 w4 hm4 hq1; have HM5 := Aside0.mk hm4; clear hm4)
            | (refine ev_store HM5.out rfl 35 (.tmp 9) (.tmp 39) rfl rfl (cs := #[.int .i64 X.f0, .int .i64 X.f1, .int .i64 X.f2.f0, .int .i64 X.f2.f1]) rfl size35 rfl rfl (by simp [Value.oneCell']) ?_; intro w5 hm5 hq1; clear hq1; have HM6 := Aside0.mk hm5; clear hm5 HM5))
          have d0 : w5.cell? ⟨g4, 0, none⟩ = some (.int .i64 X.f0) := (HM6.out.cell 0).trans rfl
          have d1 : w5.cell? ⟨g4, 1, none⟩ = some (.int .i64 X.f1) := (HM6.out.cell 1).trans rfl
          have d2 : w5.cell? ⟨g4, 2, none⟩ = some (.int .i64 X.f2.f0) := (HM6.out.cell 2).trans rfl
          have d3 : w5.cell? ⟨g4, 3, none⟩ = some (.int .i64 X.f2.f1) := (HM6.out.cell 3).trans rfl
          obtain ⟨f, hf⟩ : ∃ f : Nat, X.f0 = f := ⟨X.f0.toNat, by omega⟩
          obtain ⟨t, ht⟩ : ∃ t : Nat, X.f1 = t := ⟨X.f1.toNat, by omega⟩
          generalize hlo : X.f2.f0 = lo at d2 q6 q7
          generalize hhi : X.f2.f1 = hi at d3 q6 q8
          have HLT := Aside0.mk (show T.length = 576 by rw [HT.out, initTab_length])
          have HTn2 : Aside0 (initTab (L.take (k + 1)) = (T.set (f * 24 + t) (mn (T.getD (f * 24 + t) 0) hi)).set (t * 24 + f) (mn ((T.set (f * 24 + t) (mn (T.getD (f * 24 + t) 0) hi)).getD (t * 24 + f) 0) (-lo))) := ⟨by rw [HTn.out]; unfold linkStep; simp only [hf, ht, hlo, hhi, Int.toNat_natCast]⟩
          have HCS : Aside0 (#[Value.int .i64 X.f0, .int .i64 X.f1, .int .i64 X.f2.f0, .int .i64 X.f2.f1] = #[Value.int .i64 (f : Int), .int .i64 (t : Int), .int .i64 lo, .int .i64 hi]) := ⟨by rw [hf, ht, hlo, hhi]⟩
          rw [HCS.out] at HM6
          rw [hf] at d0 q1 q2 q5
          rw [ht] at d1 q3 q4 q5
          clear HTn HCS x0 x1 x2 x3 hf ht hlo hhi
          have i1 : (0 : Int) ≤ (f : Int) := by omega
          have i2 : (f : Int) < 24 := by omega
          have i3 : (0 : Int) ≤ (t : Int) := by omega
          have i4 : (t : Int) < 24 := by omega
          have HNE := Aside0.mk q5
          clear q5 q1 q2 q3 q4
          have e1 : w5.cell? ⟨g3, f * 24 + t, none⟩ = some (.int .i64 (T.getD (f * 24 + t) 0)) := by rw [blk_cell HM6.out.second, get_nums _ _ (by rw [HLT.out]; omega)]
          have e2 : w5.frozen? ⟨g3, f * 24 + t, none⟩ = false := blk_frozen HM6.out.second _
          have HS1 := Aside0.mk (fun v => (HM6.out.swap.put (f * 24 + t) (.int .i64 v) (set_nums T (f * 24 + t) v)).swap.drew)
          generalize hY : T.getD (f * 24 + t) 0 = Y at e1 HTn2
          clear hY
          have HMN : Aside0 (mn Y hi = if hi < Y then hi else Y) := ⟨rfl⟩
          rw [HMN.out] at HTn2
          clear HMN
          have hnl : IntKind.i64.wrap (-lo) = -lo := IntWalk.i64_in _ (by omega)
          have HNL := Aside0.mk hnl
          clear hnl
          by_cases tm : hi < Y
          · rw [if_pos tm] at HTn2
            go_still_tail 17, (by kernel_rfl)
            go_wp2_with fail
            generalize hW : (w5.setCell ⟨g3, f * 24 + t, none⟩ (.int .i64 hi)).drew = W7
            have HM7 := HS1.out hi
            rw [hW] at HM7
            have hl7 : (T.set (f * 24 + t) hi).length = 576 := by rw [List.length_set]; exact HLT.out
            generalize T.set (f * 24 + t) hi = T1 at HM7 HTn2 hl7
            clear hW HS1 d0 d1 d2 d3 e1 e2 HM6
            have HM8 := Aside0.mk HM7
            have HL7 := Aside0.mk hl7
            clear HM7 hl7
            have d0 : W7.cell? ⟨g4, 0, none⟩ = some (.int .i64 (f : Int)) := (HM8.out.cell 0).trans rfl
            have d1 : W7.cell? ⟨g4, 1, none⟩ = some (.int .i64 (t : Int)) := (HM8.out.cell 1).trans rfl
            have d2 : W7.cell? ⟨g4, 2, none⟩ = some (.int .i64 lo) := (HM8.out.cell 2).trans rfl
            have e1 : W7.cell? ⟨g3, t * 24 + f, none⟩ = some (.int .i64 (T1.getD (t * 24 + f) 0)) := by rw [blk_cell HM8.out.second, get_nums _ _ (by rw [HL7.out]; omega)]
            have e2 : W7.frozen? ⟨g3, t * 24 + f, none⟩ = false := blk_frozen HM8.out.second _
            generalize hY2 : T1.getD (t * 24 + f) 0 = Y2 at e1 HTn2
            clear hY2
            have HMN : Aside0 (mn Y2 (-lo) = if -lo < Y2 then -lo else Y2) := ⟨rfl⟩
            rw [HMN.out] at HTn2
            clear HMN
            have HS2 := Aside0.mk (fun v => (HM8.out.swap.put (t * 24 + f) (.int .i64 v) (set_nums T1 (t * 24 + f) v)).swap.drop.drew)
            by_cases tm2 : -lo < Y2
            all_goals
              first | rw [if_pos tm2] at HTn2 | rw [if_neg tm2] at HTn2
              have hnl := HNL.out
              go_still_tail 18, (by kernel_rfl)
              clear hnl
              go_wp2_with fail
              go_roundg (L.length - (k + 1))
              case measure => have := HK2.out; omega
              case rel => exact ⟨k + 1, _, by go_num, ⟨by have := HK2.out; omega⟩, ⟨HTn2.out.symm⟩, ⟨HS2.out _⟩⟩
          · rw [if_neg tm] at HTn2
            go_still_tail 17, (by kernel_rfl)
            go_wp2_with fail
            generalize hW : (w5.setCell ⟨g3, f * 24 + t, none⟩ (.int .i64 Y)).drew = W7
            have HM7 := HS1.out Y
            rw [hW] at HM7
            have hl7 : (T.set (f * 24 + t) Y).length = 576 := by rw [List.length_set]; exact HLT.out
            generalize T.set (f * 24 + t) Y = T1 at HM7 HTn2 hl7
            clear hW HS1 d0 d1 d2 d3 e1 e2 HM6
            have HM8 := Aside0.mk HM7
            have HL7 := Aside0.mk hl7
            clear HM7 hl7
            have d0 : W7.cell? ⟨g4, 0, none⟩ = some (.int .i64 (f : Int)) := (HM8.out.cell 0).trans rfl
            have d1 : W7.cell? ⟨g4, 1, none⟩ = some (.int .i64 (t : Int)) := (HM8.out.cell 1).trans rfl
            have d2 : W7.cell? ⟨g4, 2, none⟩ = some (.int .i64 lo) := (HM8.out.cell 2).trans rfl
            have e1 : W7.cell? ⟨g3, t * 24 + f, none⟩ = some (.int .i64 (T1.getD (t * 24 + f) 0)) := by rw [blk_cell HM8.out.second, get_nums _ _ (by rw [HL7.out]; omega)]
            have e2 : W7.frozen? ⟨g3, t * 24 + f, none⟩ = false := blk_frozen HM8.out.second _
            generalize hY2 : T1.getD (t * 24 + f) 0 = Y2 at e1 HTn2
            clear hY2
            have HMN : Aside0 (mn Y2 (-lo) = if -lo < Y2 then -lo else Y2) := ⟨rfl⟩
            rw [HMN.out] at HTn2
            clear HMN
            have HS2 := Aside0.mk (fun v => (HM8.out.swap.put (t * 24 + f) (.int .i64 v) (set_nums T1 (t * 24 + f) v)).swap.drop.drew)
            by_cases tm2 : -lo < Y2
            all_goals
              first | rw [if_pos tm2] at HTn2 | rw [if_neg tm2] at HTn2
              have hnl := HNL.out
              go_still_tail 18, (by kernel_rfl)
              clear hnl
              go_wp2_with fail
              go_roundg (L.length - (k + 1))
              case measure => have := HK2.out; omega
              case rel => exact ⟨k + 1, _, by go_num, ⟨by have := HK2.out; omega⟩, ⟨HTn2.out.symm⟩, ⟨HS2.out _⟩⟩
        · have d0 : wr.cell? ⟨g1, 0, none⟩ = some (.int .i64 (n : Int)) := (blk_cell HN.out.third 0).trans rfl
          have HT2 : Aside0 (T = initTab L) := ⟨by rw [HT.out, List.take_of_length_le (by omega)]⟩
          have hp1 : (1 : Int) ≤ (n : Int) := by omega
          go_wp2_with fail
          clear d0
          -- the ways over ever more points
          go_loopg [78] n (fun k v78 w' => ∃ (m : Nat) (T : List Int), v78 = .int .i64 m ∧ Aside0 (m + k = n) ∧ Aside0 (T.length = 576 ∧ Small (bnd m) T ∧ floyd n (n - m) m T = floyd n n 0 (initTab L)) ∧ Aside0 (Mem w w' [(g3, (nums .i64 T).toArray, 125), (g2, (nums .i64 (List.replicate 576 0)).toArray, 125), (g1, #[.int .i64 (n : Int), .slice A L.length c], 27)]))
          case atStart => exact ⟨0, T, rfl, ⟨by omega⟩, ⟨by rw [HT2.out, initTab_length], by rw [HT2.out]; exact Small.init L HOK.out.2.2.2, by rw [HT2.out]; rfl⟩, HN⟩
          case round =>
            obtain ⟨m, T3, rfl, HK3, HT3, HN3⟩ := hrel
            by_cases hm : m < n
            · have hb3 := bnd_le m (by omega)
              have HOC := Aside0.mk (fun W => over_calls T3 m n HT3.out.1 (by omega) hn2 (HT3.out.2.1.wide (by omega)) W)
              have d0 : wr.cell? ⟨g1, 0, none⟩ = some (.int .i64 (n : Int)) := (blk_cell HN3.out.third 0).trans rfl
              go_wp2_with (first
                | ((with_reducible refine gate_dst (N := 81) rfl ?_); refine ev_load HN3.out.head rfl 125 (.tmp 4) rfl rfl _ Try.underlying125 rfl size125 (size_nums HT3.out.1) ?_)
                | (go_at_call 133; refine (HOC.out _).mono ?_; rintro e w6 ⟨U, hU, rfl, hd⟩; have HU5 := Aside0.mk hU; clear hU; have HM5 := Aside0.mk (HN3.out.step hd); clear hd)
                | (refine ev_store HM5.out rfl 125 (.tmp 4) (.tmp 85) rfl rfl rfl size125 (size_nums HT3.out.1) (size_nums HU5.out.1) (one_nums U) ?_; intro w7 hm7 hq1; clear hq1; have HM6 := Aside0.mk hm7; clear hm7 HM5; have d2 : w7.cell? ⟨g1, 0, none⟩ = some (.int .i64 (n : Int)) := (blk_cell HM6.out.third 0).trans rfl))
              have HUT := Aside0.mk (OvTo.tab HU5.out)
              have HUL := Aside0.mk HU5.out.1
              clear HU5 d0 d2
              go_loopg [88] n (fun k v88 w' => ∃ (a : Nat), v88 = .int .i64 a ∧ Aside0 (a + k = n) ∧ Aside0 (∀ x, x < a → ¬ U.getD (x * 24 + x) 0 < 0) ∧ Aside0 (Mem w w' [(g3, (nums .i64 U).toArray, 125), (g2, (nums .i64 (List.replicate 576 0)).toArray, 125), (g1, #[.int .i64 (n : Int), .slice A L.length c], 27)]))
              case atStart => exact ⟨0, rfl, ⟨by omega⟩, ⟨fun x hx => absurd hx (by omega)⟩, HM6⟩
              case round =>
                obtain ⟨a, rfl, HK4, HD, HN4⟩ := hrel
                by_cases ha : a < n
                · have e1 : wr.cell? ⟨g3, a * 24 + a, none⟩ = some (.int .i64 (U.getD (a * 24 + a) 0)) := by rw [HN4.out.cell, get_nums _ _ (by rw [HUL.out]; omega)]
                  generalize hV : U.getD (a * 24 + a) 0 = V at e1
                  have HV := Aside0.mk hV
                  clear hV
                  by_cases tv : V < 0
                  · have HFL : Aside0 (tightOf (n : Int) L = (U, 12)) := ⟨by
                      rw [HF.out, ← HT3.out.2.2, show n - m = (n - m - 1) + 1 by omega, floyd_neg (by rw [← HUT.out]; exact negDiag_true ha (by rw [HV.out]; exact tv)), ← HUT.out]⟩
                    go_wp2_with (first
                      | ((with_reducible refine gate_dst (N := 97) rfl ?_); refine ev_load HN4.out.head rfl 125 (.tmp 4) rfl rfl _ Try.underlying125 rfl size125 (size_nums HUL.out) ?_)
                      | (refine ev_store HN4.out.swap rfl 125 (.tmp 2) (.tmp 97) rfl rfl rfl size125 (size_nums (by simp)) (size_nums HUL.out) (one_nums U) ?_; intro w8 hm8 hq1; clear hq1; have HM8 := Aside0.mk hm8; clear hm8 HN4))
                    refine bodyPost_ret (results_row_tmp rfl _ _ _ _ _ _ _ rfl HM8.out.head Try.underlying125 rfl (by rw [size125, size_nums HUL.out])) rfl ⟨by rw [HFL.out]; rfl, HM8.out.below⟩
                  · have HD2 : Aside0 (∀ x, x < a + 1 → ¬ U.getD (x * 24 + x) 0 < 0) := ⟨fun x hx => by
                      by_cases q : x = a
                      · subst q; rw [HV.out]; exact tv
                      · exact HD.out x (by omega)⟩
                    go_wp2_with fail
                    go_roundg (n - (a + 1))
                    case measure => have := HK4.out; omega
                    case rel => exact ⟨a + 1, by go_num, ⟨by omega⟩, HD2, HN4⟩
                · have HNX : Aside0 (floyd n (n - (m + 1)) (m + 1) U = floyd n n 0 (initTab L)) := ⟨by
                    rw [← HT3.out.2.2, show n - m = (n - (m + 1)) + 1 by omega, floyd_next (by rw [← HUT.out]; exact negDiag_false (fun x hx => HD.out x (by omega))), ← HUT.out]⟩
                  go_wp2_with fail
                  go_roundg (n - (m + 1))
                  case measure => have := HK3.out; omega
                  case rel => exact ⟨m + 1, U, by go_num, ⟨by omega⟩, ⟨HUL.out, by rw [bnd_succ, HUT.out]; exact HT3.out.2.1.over (by omega), HNX.out⟩, HN4⟩
            · have HFL : Aside0 (tightOf (n : Int) L = (T3, 0)) := ⟨by rw [HF.out, ← HT3.out.2.2, show n - m = 0 by omega]; rfl⟩
              go_wp2_with (first
                | ((with_reducible refine gate_dst (N := 100) rfl ?_); refine ev_load HN3.out.head rfl 125 (.tmp 4) rfl rfl _ Try.underlying125 rfl size125 (size_nums HT3.out.1) ?_)
                | (refine ev_store HN3.out.swap rfl 125 (.tmp 2) (.tmp 100) rfl rfl rfl size125 (size_nums (by simp)) (size_nums HT3.out.1) (one_nums T3) ?_; intro w8 hm8 hq1; clear hq1; have HM8 := Aside0.mk hm8; clear hm8 HN3))
              refine bodyPost_ret (results_row_tmp rfl _ _ _ _ _ _ _ rfl HM8.out.head Try.underlying125 rfl (by rw [size125, size_nums HT3.out.1])) rfl ⟨by rw [HFL.out]; rfl, HM8.out.below⟩
end Go.Proofs.Ytbcfphoheijmdaa.Print
end

section
/- table.span: the range between two points that the Go method reads off a table. -/
namespace Go.Proofs.Ytbcfphoheijmdaa.Print
open Go.RowKit Go.Proofs.YtbcfphoheijmdaaW.PrintWords Go.Proofs.YtbcfphoheijmdaaW.PrintLast Go.Proofs.YtbcfphoheijmdaaW.PrintMore Go.Proofs.Ytbcfphoheijmdaa.H
set_option linter.unusedVariables false
set_option linter.unusedSimpArgs false

theorem info32a : (Try.prog.info? 32).map (fun i => (i.zero, i.size, i.bytes)) = some (some (.agg #[.int .i64 0, .int .i64 0]), 2, 16) := by kernel_rfl
theorem size32 : (Try.prog.info? 32).map (·.size) = some 2 := by kernel_rfl
/-- The tight range from a to b. -/
def spanOf (T : List Int) (a b : Nat) : S32 := ⟨-(T.getD (b * 24 + a) 0), T.getD (a * 24 + b) 0⟩
set_option maxHeartbeats 800000 in
set_option maxRecDepth 100000 in
theorem span_calls (T : List Int) (a b : Nat) (hT : T.length = 576) (ha : a < 24) (hb : b < 24) (hbd : ∀ i, -4611686018427387904 ≤ T.getD i 0 ∧ T.getD i 0 ≤ 4611686018427387904) (w : World) :
    Calls Try.prog 90 #[.agg (nums .i64 T).toArray, .int .i64 a, .int .i64 b] w fun e w' => e = .returned (.agg #[.int .i64 (spanOf T a b).f0, .int .i64 (spanOf T a b).f1]) ∧ Below w.heap.size w w' := by
  have HM := Aside0.mk (Mem.start w)
  have HT := Aside0.mk hT
  have hX1 := (hbd (b * 24 + a)).1
  have hX2 := (hbd (b * 24 + a)).2
  clear hT hbd
  have HC1 := Aside0.mk (get_nums T (b * 24 + a) (by rw [HT.out]; omega))
  have HC2 := Aside0.mk (get_nums T (a * 24 + b) (by rw [HT.out]; omega))
  unfold spanOf
  generalize hX : T.getD (b * 24 + a) 0 = X at hX1 hX2 HC1 ⊢
  generalize hY : T.getD (a * 24 + b) 0 = Y at HC2 ⊢
  clear hX hY
  have HS := Aside0.mk (size_nums HT.out)
  generalize (nums .i64 T).toArray = A at HC1 HC2 HS ⊢
  have i1 : (0 : Int) ≤ (a : Int) := by omega
  have i2 : (a : Int) < 24 := by omega
  have i3 : (0 : Int) ≤ (b : Int) := by omega
  have i4 : (b : Int) < 24 := by omega
  have hu32 := Try.underlying32
  go_enter Try.func90, Try.ntmps90
  go_wp2_with (first
    | ((with_reducible refine gate_dst (N := 3) rfl ?_); refine ev_box HM.out rfl 125 (.tmp 0) rfl (cs := A) rfl ?_; intro g1 w1 hm1 hq1; clear hq1; have HM1 := Aside0.mk hm1; clear hm1 HM)
    | ((with_reducible refine gate_dst (N := 6) rfl ?_); refine ev_new HM1.out rfl 32 rfl info32a ?_; intro g2 w2 hm2 hq1; clear hq1; have HM2 := Aside0.mk hm2; clear hm2 HM1))
  have c1 : w2.cell? ⟨g1, b * 24 + a, none⟩ = some (.int .i64 X) := by rw [blk_cell HM2.out.second]; exact HC1.out
  have c2 : w2.cell? ⟨g1, a * 24 + b, none⟩ = some (.int .i64 Y) := by rw [blk_cell HM2.out.second]; exact HC2.out
  have c3 : w2.cell? ⟨g2, 0, none⟩ = some (.int .i64 0) := (HM2.out.cell 0).trans rfl
  have c4 : w2.cell? ⟨g2, 1, none⟩ = some (.int .i64 0) := (HM2.out.cell 1).trans rfl
  have f3 : w2.frozen? ⟨g2, 0, none⟩ = false := HM2.out.frozen _
  have f4 : w2.frozen? ⟨g2, 1, none⟩ = false := HM2.out.frozen _
  have hn : IntKind.i64.wrap (-X) = -X := IntWalk.i64_in _ (by omega)
  go_still_tail 12, (by kernel_rfl)
  clear hn
  go_wp2_with fail
  have HM3 := ((HM2.out.put 0 (.int .i64 (-X)) rfl).put 1 (.int .i64 Y) rfl).drew
  exact bodyPost_ret (results_cell_row rfl _ _ _ _ _ _ _ rfl HM3.head Try.underlying32 rfl size32) rfl ⟨rfl, HM3.below⟩
end Go.Proofs.Ytbcfphoheijmdaa.Print
end

section
/- Tight: the tight ranges of a chain, and that the Go function's call gives them. -/
namespace Go.Proofs.Ytbcfphoheijmdaa.Print
open Go.RowKit Go.Proofs.YtbcfphoheijmdaaW.PrintWords Go.Proofs.YtbcfphoheijmdaaW.PrintLast Go.Proofs.YtbcfphoheijmdaaW.PrintMore Go.Proofs.Ytbcfphoheijmdaa.H
attribute [local go_sem] max2_int min2_int max_two min_two max_three min_three max_four min_four
attribute [local go_sem ↓] Go.wp_at_zero Go.wp_at_succ
set_option linter.unusedVariables false
set_option linter.unusedSimpArgs false

/-- The tight ranges as rows. -/
def rowsOf (n : Nat) (T : List Int) : List (List S32) := (List.range n).map (fun a => (List.range n).map (fun b => spanOf T a b))
def tightRes (P : Int) (L : List S35) : List (List S32) × Int := if (tightOf P L).2 = 0 then (rowsOf P.toNat (tightOf P L).1, 0) else ([], (tightOf P L).2)
def mount_Tight.f (a0_0 : Int) (l0_1 : List (S35)) : Option ((List (List (S32))) × Int) := some (tightRes a0_0 l0_1)

theorem floyd_small {n : Nat} : ∀ (k m : Nat) (T : List Int), m + k ≤ 24 → Small (bnd m) T → T.length = 576 → Small (bnd 24) (floyd n k m T).1 ∧ (floyd n k m T).1.length = 576
  | 0, m, T, h, hs, hl => ⟨hs.mono (by
      have : ∀ j, m + j ≤ 24 → bnd m ≤ bnd (m + j) := by
        intro j
        induction j with
        | zero => intro _; exact Int.le_refl _
        | succ j ih => intro hj; have := ih (by omega); have e := bnd_succ (m + j); have := bnd_le (m + j) (by omega); rw [← Nat.add_assoc, e]; omega
      have := this (24 - m) (by omega)
      rwa [show m + (24 - m) = 24 by omega] at this), hl⟩
  | k + 1, m, T, h, hs, hl => by
    have hb := bnd_le m (by omega)
    have h1 : Small (bnd (m + 1)) (overTab T m n) := by rw [bnd_succ]; exact hs.over hb.1
    rw [floyd]
    split
    · exact floyd_small (n := n) 0 (m + 1) _ (by omega) h1 (overTab_length _ _ _)
    · exact floyd_small k (m + 1) _ (by omega) h1 (overTab_length _ _ _)
theorem tightOf_small {P : Int} {L : List S35} (h : (tightOf P L).2 = 0) : chainErr P L = 0 ∧ (tightOf P L).1.length = 576 ∧ Small (bnd 24) (tightOf P L).1 := by
  unfold tightOf at h ⊢
  split at h
  · rename_i hc
    rw [if_pos hc]
    have hok := chainErr_ok hc
    have := floyd_small (n := P.toNat) P.toNat 0 (initTab L) (by omega) (Small.init L hok.2.2.2) (initTab_length L)
    exact ⟨hc, this.2, this.1⟩
  · rename_i hc
    exact absurd h hc

/-- The rows on the way: those before a whole, of row a the first b ranges. -/
def rowsTo (n : Nat) (T : List Int) (a b : Nat) : List (List S32) := (List.range n).map (fun j => if j < a then (List.range n).map (fun b => spanOf T j b) else if j = a then (List.range b).map (fun b => spanOf T j b) else [])
theorem rowsTo_length (n : Nat) (T : List Int) (a b : Nat) : (rowsTo n T a b).length = n := by simp [rowsTo]
theorem rowsTo_start (n : Nat) (T : List Int) : rowsTo n T 0 0 = List.replicate n [] := by
  apply List.ext_getElem
  · simp [rowsTo]
  · intro i h1 h2
    simp [rowsTo]
theorem rowsTo_get (n : Nat) (T : List Int) (a b : Nat) (ha : a < n) : (rowsTo n T a b).getD a [] = (List.range b).map (fun b => spanOf T a b) := by
  simp [rowsTo, List.getD_eq_getElem?_getD, ha]
theorem rowsTo_next (n : Nat) (T : List Int) (a b : Nat) (hb : b = n) : rowsTo n T a b = rowsTo n T (a + 1) 0 := by
  subst hb
  apply List.ext_getElem
  · simp [rowsTo]
  · intro i h1 h2
    simp only [rowsTo, List.getElem_map, List.getElem_range]
    by_cases q : i < a
    · rw [if_pos q, if_pos (by omega)]
    · by_cases q2 : i = a
      · rw [if_neg q, if_pos q2, if_pos (by omega)]
      · rw [if_neg q, if_neg q2, if_neg (by omega)]
        by_cases q3 : i = a + 1
        · rw [if_pos q3]; rfl
        · rw [if_neg q3]
theorem rowsTo_done (n : Nat) (T : List Int) (a b : Nat) (ha : n ≤ a) : rowsTo n T a b = rowsOf n T := by
  apply List.ext_getElem
  · simp [rowsTo, rowsOf]
  · intro i h1 h2
    have hi : i < n := by simpa [rowsTo] using h1
    simp only [rowsTo, rowsOf, List.getElem_map, List.getElem_range]
    rw [if_pos (by omega)]
theorem rowsTo_set (n : Nat) (T : List Int) (a b : Nat) : (rowsTo n T a b).set a ((List.range b).map (fun b => spanOf T a b) ++ [spanOf T a b]) = rowsTo n T a (b + 1) := by
  apply List.ext_getElem
  · simp [rowsTo]
  · intro i h1 h2
    rw [List.getElem_set]
    simp only [rowsTo, List.getElem_map, List.getElem_range]
    by_cases q : a = i
    · subst q
      rw [if_pos rfl, if_neg (by omega), if_pos rfl, List.range_succ, List.map_append]
      rfl
    · rw [if_neg q]
      by_cases q2 : i < a
      · rw [if_pos q2, if_pos q2]
      · rw [if_neg q2, if_neg q2, if_neg (by omega), if_neg (by omega)]
theorem rangeAt_blk {W : World} {g : Nat} {T : List Value} {t : TypeId} (h : W.heap[g]? = some (.cells T.toArray t (0, 0))) : W.rangeAt g 0 T := fun j v hv => by
  rw [Nat.zero_add, blk_cell h j, List.getElem?_toArray]
  exact hv
set_option maxHeartbeats 3200000 in
set_option maxRecDepth 100000 in
theorem mount_Tight.calls (a0_0 : Int) (A0_1 : Option Addr) (c0_1 : Nat) (l0_1 : List (S35)) (r1 : List (List (S32))) (r2 : Int) (w : World) (hr0_1 : Kd.C k35 w A0_1 l0_1.length l0_1) (hc0_1 : l0_1.length ≤ c0_1) (h : mount_Tight.f a0_0 l0_1 = some (r1, r2)) :
    Calls Try.prog 24 #[.agg #[.int .i64 a0_0, .slice A0_1 l0_1.length c0_1]] w fun e w' => ∃ v0_ : Value, e = .returned (.tuple #[v0_, .int .i64 r2]) ∧ Kd.S (Kd.slice 32 k32) 45 w' w.heap.size (fun _ => True) v0_ r1 ∧ Below w.heap.size w w' := by
  have HF := Aside0.mk (Option.some.inj h)
  have HR := Aside0.mk hr0_1
  have HM := Aside0.mk (Mem.start w)
  clear h hr0_1
  have hu27 := Try.underlying27
  have HTC := Aside0.mk (fun W hW => tight_calls a0_0 A0_1 c0_1 l0_1 W hW hc0_1)
  have HLT : Aside0 ((tightOf a0_0 l0_1).1.length = 576) := ⟨by
    by_cases hc : chainErr a0_0 l0_1 = 0
    · unfold tightOf; rw [if_pos hc]; exact (floyd_small (n := a0_0.toNat) a0_0.toNat 0 (initTab l0_1) (by have := chainErr_ok hc; omega) (Small.init _ (chainErr_ok hc).2.2.2) (initTab_length _)).2
    · unfold tightOf; rw [if_neg hc]; simp⟩
  by_cases t1 : (tightOf a0_0 l0_1).2 = 0
  rotate_left
  · have HF2 : Aside0 (r1 = [] ∧ r2 = (tightOf a0_0 l0_1).2) := ⟨by have := HF.out; unfold tightRes at this; rw [if_neg t1] at this; exact ⟨(congrArg Prod.fst this).symm, (congrArg Prod.snd this).symm⟩⟩
    generalize (tightOf a0_0 l0_1).2 = E at t1 HTC HF2
    generalize (tightOf a0_0 l0_1).1 = T at HTC HLT
    have t2 : (E != 0) = true := by simpa using t1
    clear t1
    go_enter Try.func24, Try.ntmps24
    go_wp2_with (first
      | ((with_reducible refine gate_dst (N := 1) rfl ?_); refine ev_box HM.out rfl 27 (.tmp 0) rfl (cs := #[.int .i64 a0_0, .slice A0_1 l0_1.length c0_1]) rfl ?_; intro g1 w1 hm1 hq1; clear hq1; have HM1 := Aside0.mk hm1; clear hm1 HM)
      | ((with_reducible refine gate_dst (N := 10) rfl ?_); refine ev_load HM1.out.head rfl 27 (.tmp 1) rfl rfl _ Try.underlying27 rfl (n := 2) (by kernel_rfl) rfl ?_)
      | (go_at_call 89; refine (HTC.out _ (Kd.C_below HR.out HM1.out.below)).mono ?_; rintro e w' ⟨rfl, hd⟩; have HM2 := Aside0.mk (HM1.out.step hd); clear hd HM1)
      | ((with_reducible refine gate_dst (N := 4) rfl ?_); refine ev_new HM2.out rfl 125 rfl info125 ?_; intro g3 w3 hm3 hq1; clear hq1; have HM3 := Aside0.mk hm3; clear hm3 HM2)
      | (refine ev_store HM3.out rfl 125 (.tmp 4) (.tmp 12) rfl rfl rfl size125 (by simp) (size_nums HLT.out) (one_nums _) ?_; intro w5 hm5 hq1; clear hq1; have HM5 := Aside0.mk hm5; clear hm5 HM3))
    go_ret2
    exact ⟨.slice none 0 0, by rw [HF2.out.2]; rfl, by rw [HF2.out.1]; exact Kd.S_nil _ _ _ _ _, HM5.out.below⟩
  obtain ⟨hce, _, hsm⟩ := tightOf_small t1
  have HOK := Aside0.mk (chainErr_ok hce)
  have HF2 : Aside0 (r1 = rowsOf a0_0.toNat (tightOf a0_0 l0_1).1 ∧ r2 = 0) := ⟨by have := HF.out; unfold tightRes at this; rw [if_pos t1] at this; exact ⟨(congrArg Prod.fst this).symm, (congrArg Prod.snd this).symm⟩⟩
  rw [t1] at HTC
  have HBD := Aside0.mk (hsm.wide (bnd_le 24 (by omega)).2)
  clear t1 hce hsm HF
  generalize (tightOf a0_0 l0_1).1 = T at HTC HLT HF2 HBD
  obtain ⟨n, rfl⟩ : ∃ n : Nat, a0_0 = n := ⟨a0_0.toNat, by have := HOK.out; omega⟩
  have hn1 : 1 ≤ n := by have := HOK.out.1; omega
  have hn2 : n ≤ 24 := by have := HOK.out.2.1; omega
  clear HOK
  go_enter Try.func24, Try.ntmps24
  go_wp2_with (first
    | ((with_reducible refine gate_dst (N := 1) rfl ?_); refine ev_box HM.out rfl 27 (.tmp 0) rfl (cs := #[.int .i64 (n : Int), .slice A0_1 l0_1.length c0_1]) rfl ?_; intro g1 w1 hm1 hq1; clear hq1; have HM1 := Aside0.mk hm1; clear hm1 HM)
    | ((with_reducible refine gate_dst (N := 10) rfl ?_); refine ev_load HM1.out.head rfl 27 (.tmp 1) rfl rfl _ Try.underlying27 rfl (n := 2) (by kernel_rfl) rfl ?_)
    | (go_at_call 89; refine (HTC.out _ (Kd.C_below HR.out HM1.out.below)).mono ?_; rintro e w' ⟨rfl, hd⟩; have HM2 := Aside0.mk (HM1.out.step hd); clear hd HM1)
    | ((with_reducible refine gate_dst (N := 4) rfl ?_); refine ev_new HM2.out rfl 125 rfl info125 ?_; intro g3 w3 hm3 hq1; clear hq1; have HM3 := Aside0.mk hm3; clear hm3 HM2)
    | (refine ev_store HM3.out rfl 125 (.tmp 4) (.tmp 12) rfl rfl rfl size125 (by simp) (size_nums HLT.out) (one_nums _) ?_; intro w5 hm5 hq1; clear hq1; have HM5 := Aside0.mk hm5; clear hm5 HM3; have c0 : w5.cell? ⟨g1, 0, none⟩ = some (.int .i64 (n : Int)) := (blk_cell HM5.out.second 0).trans rfl)
    | ((with_reducible refine gate_dst (N := 19) rfl ?_); refine ev_make HM5.out rfl 36 (.tmp 18) rfl n rfl 45 (.slice none 0 0) 24 Try.underlying36 info45 rfl (by omega) (by unfold maxLen; omega) ?_; intro g6 w6 hm6 hq6; have HM6 := Aside0.mk hm6; clear hm6 HM5 hq6))
  have HRA : Aside0 (RowsAt k32 32 w6 w.heap.size g6 (fun _ => 0) (List.replicate n (.slice none 0 0)) (rowsTo n T 0 0)) := ⟨by rw [rowsTo_start]; exact RowsAt.start _ _ _ _ _ _ _⟩
  go_loopg [22] n (fun k v22 w' => ∃ (a : Nat) (f : Nat → Nat) (vs : List Value), v22 = .int .i64 a ∧ Aside0 (a + k = n) ∧ Aside0 (Mem w w' [(g6, vs.toArray, 45), (g3, (nums .i64 T).toArray, 125), (g1, #[.int .i64 (n : Int), .slice A0_1 l0_1.length c0_1], 27)]) ∧ Aside0 (RowsAt k32 32 w' w.heap.size g6 f vs (rowsTo n T a 0) ∧ ∀ k, w'.heap.size ≤ k → f k = a))
  case atStart => exact ⟨0, _, _, rfl, ⟨by omega⟩, HM6, ⟨HRA.out, fun _ _ => rfl⟩⟩
  case round =>
    clear HM6 HRA
    obtain ⟨a, f, vs, rfl, HK, HM, HRA⟩ := hrel
    by_cases ha : a < n
    · have d0 : wr.cell? ⟨g1, 0, none⟩ = some (.int .i64 (n : Int)) := (blk_cell HM.out.third 0).trans rfl
      go_wp2_with fail
      clear d0
      go_loopg [27] n (fun k v27 w' => ∃ (b : Nat) (f : Nat → Nat) (vs : List Value), v27 = .int .i64 b ∧ Aside0 (b + k = n) ∧ Aside0 (Mem w w' [(g6, vs.toArray, 45), (g3, (nums .i64 T).toArray, 125), (g1, #[.int .i64 (n : Int), .slice A0_1 l0_1.length c0_1], 27)]) ∧ Aside0 (RowsAt k32 32 w' w.heap.size g6 f vs (rowsTo n T a b) ∧ ∀ k, w'.heap.size ≤ k → f k = a))
      case atStart => exact ⟨0, f, vs, rfl, ⟨by omega⟩, HM, HRA⟩
      case round =>
        obtain ⟨b, f2, vs2, rfl, HK2, HN, HRB⟩ := hrel
        by_cases hb : b < n
        · have HRow := HRB.out.1.2 a (by rw [rowsTo_length]; exact ha)
          rw [rowsTo_get _ _ _ _ ha] at HRow
          have hvl : a < vs2.length := by rw [HRB.out.1.1, rowsTo_length]; exact ha
          have HVA := Aside0.mk (show vs2.toArray[a]? = some (vs2.getD a undef) by
            rw [List.getD_eq_getElem?_getD, List.getElem?_eq_getElem hvl]
            simp [hvl])
          have c1 : wr.cell? ⟨g6, a, none⟩ = some (vs2.getD a undef) := by rw [HN.out.cell]; exact HVA.out
          have f1 : wr.frozen? ⟨g6, a, none⟩ = false := HN.out.frozen _
          generalize hV : vs2.getD a undef = v at c1 HRow HVA
          have HV := Aside0.mk hV
          have HROW := Aside0.mk HRow
          clear hV HRow hvl
          have i1 : (0 : Int) ≤ (a : Int) := by omega
          have i2 : (a : Int) < (n : Int) := by omega
          have HSP := Aside0.mk (fun W => span_calls T a b HLT.out (by omega) (by omega) HBD.out W)
          go_wp2_with fail
          have hu125 := Try.underlying125
          have hi125 : (Try.prog.info? 125).map (·.size) = some (nums .i64 T).length := by rw [size125]; simp [nums, HLT.out]
          have hfr : ∀ k, wr.heap.size ≤ k → f2 k = a ∧ k ≠ g6 := fun k hk => ⟨HRB.out.2 k hk, by have := blk_lt HN.out.head; omega⟩
          have HFR := Aside0.mk hfr
          clear hfr
          have HLX := Aside0.mk (show ((List.range b).map (fun b => spanOf T a b)).length = b by simp)
          generalize hXS : (List.range b).map (fun b => spanOf T a b) = XS at HROW HLX
          have HXS := Aside0.mk hXS
          clear hXS
          refine wp_region_noPanic ?_
          refine H.wp_region_T [13] (S := fun w' => w'.cell? ⟨g6, a, none⟩ = some v ∧ w'.rangeAt g3 0 (nums .i64 T)) (by kernel_rfl) ⟨(HN.out.drew.cell a).trans HVA.out, rangeAt_blk HN.out.drew.second⟩ (fun hHeld => ?_)
          refine H.wpAnyT_takeY (i := 0) (v := .slice (some ⟨g6, 0, none⟩) n n) rfl (by decide) (by kernel_rfl) (by kernel_rfl) (by kernel_rfl) (fun _ _ _ h => h) (Or.inl ⟨by rfl, ?_⟩) hHeld ?_
          · (intro w_ hSw; go_simp; try rfl)
          try simp only [Act.put, List.setIfInBounds_toArray, List.set_cons_zero, List.set_cons_succ]
          refine H.wpAnyT_takeY (i := 1) (v := .int .i64 (a : Int)) rfl (by decide) (by kernel_rfl) (by kernel_rfl) (by kernel_rfl) (fun _ _ _ h => h) (Or.inl ⟨by rfl, ?_⟩) hHeld ?_
          · (intro w_ hSw; go_simp; try rfl)
          try simp only [Act.put, List.setIfInBounds_toArray, List.set_cons_zero, List.set_cons_succ]
          refine H.wpAnyT_takeY (i := 2) (v := .slice (some ⟨g6, 0, none⟩) n n) rfl (by decide) (by kernel_rfl) (by kernel_rfl) (by kernel_rfl) (fun _ _ _ h => h) (Or.inl ⟨by rfl, ?_⟩) hHeld ?_
          · (intro w_ hSw; go_simp; try rfl)
          try simp only [Act.put, List.setIfInBounds_toArray, List.set_cons_zero, List.set_cons_succ]
          refine H.wpAnyT_takeY (i := 3) (v := .int .i64 (a : Int)) rfl (by decide) (by kernel_rfl) (by kernel_rfl) (by kernel_rfl) (fun _ _ _ h => h) (Or.inl ⟨by rfl, ?_⟩) hHeld ?_
          · (intro w_ hSw; go_simp; try rfl)
          try simp only [Act.put, List.setIfInBounds_toArray, List.set_cons_zero, List.set_cons_succ]
          refine H.wpAnyT_takeY (i := 4) (v := .pointer (some ⟨g6, a, none⟩)) rfl (by decide) (by kernel_rfl) (by kernel_rfl) (by kernel_rfl) (fun _ _ _ h => h) (Or.inl ⟨by rfl, ?_⟩) hHeld ?_
          · (intro w_ hSw; go_simp; try rfl)
          try simp only [Act.put, List.setIfInBounds_toArray, List.set_cons_zero, List.set_cons_succ]
          refine H.wpAnyT_take (i := 5) (v := v) rfl (by decide) (by kernel_rfl) (by kernel_rfl) (by kernel_rfl) (by kernel_rfl) (fun _ _ _ h => h) (Or.inl ⟨by rfl, ?_⟩) hHeld ?_
          · (intro w_ hSw; (try dsimp only at hSw); obtain ⟨q1, q2⟩ := hSw; go_simp; try rfl)
          try simp only [Act.put, List.setIfInBounds_toArray, List.set_cons_zero, List.set_cons_succ]
          refine H.wpAnyT_take (i := 6) (v := .agg (nums .i64 T).toArray) rfl (by decide) (by kernel_rfl) (by kernel_rfl) (by kernel_rfl) (by kernel_rfl) (fun _ _ _ h => h) (yieldsIf_load_mid (by rfl) _ _ rfl _ _ rfl _ _ (fun w_ hSw => hSw.2) hu125 rfl hi125) hHeld ?_
          try simp only [Act.put, List.setIfInBounds_toArray, List.set_cons_zero, List.set_cons_succ]
          refine H.wpAnyT_takeY (i := 7) (v := .int .i64 (a : Int)) rfl (by decide) (by kernel_rfl) (by kernel_rfl) (by kernel_rfl) (fun _ _ _ h => h) (Or.inl ⟨by rfl, ?_⟩) hHeld ?_
          · (intro w_ hSw; go_simp; try rfl)
          try simp only [Act.put, List.setIfInBounds_toArray, List.set_cons_zero, List.set_cons_succ]
          refine H.wpAnyT_takeY (i := 8) (v := .int .i64 (b : Int)) rfl (by decide) (by kernel_rfl) (by kernel_rfl) (by kernel_rfl) (fun _ _ _ h => h) (Or.inl ⟨by rfl, ?_⟩) hHeld ?_
          · (intro w_ hSw; go_simp; try rfl)
          try simp only [Act.put, List.setIfInBounds_toArray, List.set_cons_zero, List.set_cons_succ]
          refine H.wpAnyT_ready (rs := [9]) (by kernel_rfl) (by simp) ?_
          refine H.AllT.cons (i := 9) rfl (by decide) (fun K hK => ?_) H.AllT.nil
          go_simp
          go_at_call 90
          refine (HSP.out _).mono ?_
          rintro e w7 ⟨rfl, hd7⟩
          have HM7 := Aside0.mk (HN.out.drew.step hd7)
          have HR7 := Aside0.mk (Kd.R_below (Kd.R_drew HROW.out) hd7)
          have HS7 := Aside0.mk hd7.size
          have HRB7 := Aside0.mk ((HRB.out.1.below (below_drew1 (Below.refl _ _))).below hd7)
          have c7 : w7.cell? ⟨g6, a, none⟩ = some v := (HM7.out.cell a).trans HVA.out
          have c7a : ∀ o, (w7.alloc o).cell? ⟨g6, a, none⟩ = some v := (fun o => ((HM7.out.alloc o).cell a).trans HVA.out)
          clear hd7
          refine hK.out _ _ (⟨c7, rangeAt_blk HM7.out.second⟩) (fun hHeld => ?_)
          clear hK K
          try simp only [Act.put, List.setIfInBounds_toArray, List.set_cons_zero, List.set_cons_succ]
          refine H.wpAnyT_ready (rs := [10]) (by kernel_rfl) (by simp) ?_
          refine H.AllT.cons (i := 10) rfl (by decide) (fun K hK => ?_) H.AllT.nil
          go_simp
          refine hK.out _ _ (⟨c7a _, rangeAt_blk (HM7.out.alloc _).second⟩) (fun hHeld => ?_)
          clear hK K
          try simp only [Act.put, List.setIfInBounds_toArray, List.set_cons_zero, List.set_cons_succ]
          refine H.wpAnyT_ready (rs := [11]) (by kernel_rfl) (by simp) ?_
          refine H.AllT.cons (i := 11) rfl (by decide) (fun K hK => ?_) H.AllT.nil
          refine Kd.R_append_step k32 (w0 := w) w.heap.size (by rfl) (.tmp 35) (.tmp 40) 45 32 (.agg #[.int .i64 0, .int .i64 0]) 16 rfl Try.underlying45 info32 rfl (by decide) (by omega) v XS (spanOf T a b) [.int .i64 (spanOf T a b).f0, .int .i64 (spanOf T a b).f1] (fun k => f2 k = a ∧ k ≠ g6) (fun _ => False) (by rfl) (by rfl) (k32_mkM _ _ _ _) (fun _ hk => hk.elim) (fun k hk => HFR.out k (Nat.le_trans HS7.out hk)) HR7.out HM7.out.below HM7.out.below.size (by rw [HLX.out]; omega) ?_
          intro v1 w8 hR8 hB8 hg8 hat8
          obtain ⟨A1, n1, he1⟩ := Kd.R_slice hR8
          subst he1
          rw [List.length_append, List.length_singleton] at hR8
          have HM8 := Aside0.mk (HM7.out.grownR HR7.out hg8 (by simp))
          have HR8 := Aside0.mk hR8
          have HG8 := Aside0.mk hg8
          have c8 : w8.cell? ⟨g6, a, none⟩ = some v := (HM8.out.cell a).trans HVA.out
          have f8 : w8.frozen? ⟨g6, a, none⟩ = false := HM8.out.frozen _
          clear hR8 hB8 hg8 hat8
          refine hK.out _ _ (⟨c8, rangeAt_blk HM8.out.second⟩) (fun hHeld => ?_)
          clear hK K
          try simp only [Act.put, List.setIfInBounds_toArray, List.set_cons_zero, List.set_cons_succ]
          refine H.wpAnyT_takeY (i := 12) (v := .pointer (some ⟨g6, a, none⟩)) rfl (by decide) (by kernel_rfl) (by kernel_rfl) (by kernel_rfl) (fun _ _ _ h => h) (Or.inl ⟨by rfl, ?_⟩) hHeld ?_
          · (intro w_ hSw; go_simp; try rfl)
          try simp only [Act.put, List.setIfInBounds_toArray, List.set_cons_zero, List.set_cons_succ]
          refine H.wpAnyT_ready (rs := [13]) (by kernel_rfl) (by simp) ?_
          refine H.AllT.last (i := 13) rfl (by decide) (fun K hK => ?_) H.AllT.nil
          go_simp
          refine hK.out _ _ ?_
          clear hK K
          try simp only [Act.put, List.setIfInBounds_toArray, List.set_cons_zero, List.set_cons_succ]
          refine wpAny_done (by kernel_rfl) ?_ _
          refine NoPanic.normal ?_
          (
            go_wp2_with fail
            go_roundg (n - (b + 1))
            case measure => have := HK2.out; omega
            case rel => exact ⟨b + 1, f2, vs2.set a (.slice A1 (XS.length + 1) n1), by go_num, ⟨by omega⟩, ⟨HM8.out.put a _ (by simp)⟩, ⟨by
              have := (HRB7.out.put (by rw [rowsTo_length]; exact ha) HV.out HG8.out HR8.out).far a (.slice A1 (XS.length + 1) n1)
              rwa [← HXS.out, rowsTo_set, HXS.out] at this, fun k hk => HRB.out.2 k (Nat.le_trans HS7.out (Nat.le_trans HG8.out.size (by rw [World.size_setCell] at hk; exact hk)))⟩⟩)
        · have HO2 : Aside0 (RowsAt k32 32 wr w.heap.size g6 (fun k => if k < wr.heap.size then f2 k else a + 1) vs2 (rowsTo n T (a + 1) 0) ∧ ∀ k, wr.heap.size ≤ k → (if k < wr.heap.size then f2 k else a + 1) = a + 1) := ⟨by rw [← rowsTo_next n T a b (by have := HK2.out; omega)]; exact HRB.out.1.owner (fun k hk => if_pos hk), fun k hk => if_neg (by omega)⟩
          go_wp2_with fail
          go_roundg (n - (a + 1))
          case measure => have := HK.out; omega
          case rel => exact ⟨a + 1, _, vs2, by go_num, ⟨by omega⟩, HN, HO2⟩
    · have HWH := HRA.out.1.whole HM.out.head HM.out.geh (by rw [rowsTo_length]; unfold maxLen; omega)
      rw [rowsTo_length, rowsTo_done n T a 0 (by omega)] at HWH
      have HW2 := Aside0.mk HWH
      clear HWH
      go_wp2_with fail
      go_ret2
      exact ⟨.slice (some ⟨g6, 0, none⟩) n n, by rw [HF2.out.2]; rfl, by rw [HF2.out.1]; exact HW2.out, HM.out.below⟩
end Go.Proofs.Ytbcfphoheijmdaa.Print
end

section
/- What the Go function thermionlaw04_awake does, as a Lean function, and that its call does so. Printed by a program of this work out of the translation. -/
namespace Go.Proofs.Ytbcfphoheijmdaa.Print
open Go.RowKit Go.Proofs.YtbcfphoheijmdaaW.PrintWords Go.Proofs.YtbcfphoheijmdaaW.PrintLast Go.Proofs.YtbcfphoheijmdaaW.PrintMore
attribute [local go_sem] max2_int min2_int max_two min_two max_three min_three max_four min_four
set_option linter.unusedVariables false
set_option linter.unusedSimpArgs false

/-! ### thermionlaw04_awake: function 21 -/
def thermionlaw04_awake.f (k : Nat)  : Option (Bool) := (thermionlaw04_chain.f).bind fun bt144 => ((mount_Tight.f bt144.1 bt144.2).bind fun bt148 => ((thermionlaw04_kit.f).bind fun bt152 => ((mount_Orders.f bt152.1 bt152.2).bind fun bt156 => (if bt148.2 = 0 then (if (bt148.1.length : Int) = 3 then (if 0 < (bt148.1.length : Int) then ((thermionlaw04_of.f 10 12).bind fun bt159 => ((thermionlaw04_of.f 17 18).bind fun bt161 => ((thermionkit_SameRanges.f k (rd_L6 bt148.1 0) (([(⟨0, 0⟩ : S32), (⟨bt159.1, bt159.2⟩ : S32), (⟨bt161.1, bt161.2⟩ : S32)] : List (S32)))).bind fun t166 => (if t166 = true then (if bt156.1 = 2 then (some (bt156.2 == 0)) else (some false)) else (some false))))) else (none)) else (some false)) else (some false)))))
theorem thermionlaw04_awake.mono : ∀ k, LeO (thermionlaw04_awake.f k ) (thermionlaw04_awake.f (k + 1) ) := by
 intro  k
 unfold thermionlaw04_awake.f
 repeat' first
   | (with_reducible exact thermionkit_SameRanges.mono _ _ _)
   | (with_reducible exact LeO.refl _)
   | (with_reducible exact LeO.none _)
   | (with_reducible refine LeO.ite ?_ ?_)
   | (with_reducible refine LeO.bind ?_ (fun _ => ?_))
   | exact thermionkit_SameRanges.mono _ _ _
   | exact LeO.none _
   | refine LeO.ite ?_ ?_
   | refine LeO.bind ?_ (fun _ => ?_)
def thermionlaw04_awake.T3 : Bool × List (List Nat × List Nat) := (true, [([], []), ([0], [0]), ([1], [1]), ([2], [2]), ([3, 2], [2, 3]), ([4, 2], [2, 4]), ([2, 5], [2, 5]), ([6, 2], [6]), ([7], [7]), ([8, 7], [7, 8]), ([9, 7], [7, 9]), ([7], [7]), ([7, 7], [7]), ([12, 7], [7]), ([11, 12, 13, 7], [7, 11, 12, 13]), ([10, 14, 13, 7], [7, 10, 14]), ([7, 15], [7, 15]), ([16, 15], [16]), ([17], [17]), ([18, 17], [17, 18]), ([17, 19], [17, 19]), ([20, 17], [20]), ([21], [21]), ([22, 21], [21, 22]), ([21, 23], [21, 23]), ([24, 21, 0, 1, 2, 3, 4, 5, 6, 7, 8, 9, 10, 11, 12, 13, 14, 15, 16, 17, 18, 19, 20, 21, 22, 23, 24], [24])])
def thermionlaw04_awake.B3 : List Nat := [0, 1, 3, 7, 15, 31, 63, 127, 255, 511, 1023, 255, 255, 4351, 14591, 32767, 65535, 131071, 262143, 524287, 1048575, 2097151, 4194303, 8388607, 16777215, 33554431]
theorem thermionlaw04_awake.tab3 : rtab .any (opsOf Try.f21 3) = thermionlaw04_awake.T3 := by kernel_rfl
theorem thermionlaw04_awake.bits3 : waitsOk thermionlaw04_awake.T3.2 thermionlaw04_awake.B3 = true := by kernel_rfl
set_option maxHeartbeats 8000000 in
set_option maxRecDepth 100000 in
theorem thermionlaw04_awake.calls (k : Nat)  (r : Bool) (w : World) (h : thermionlaw04_awake.f k  = some r) :
  Calls Try.prog 21 #[] w fun e w' => e = .returned (.bool r) ∧ Below w.heap.size w w' := by
 have hu32 := Try.underlying32
 have HB := Aside0.mk (Below.refl w.heap.size w)
 have H : ((thermionlaw04_chain.f).bind fun bt144 => ((mount_Tight.f bt144.1 bt144.2).bind fun bt148 => ((thermionlaw04_kit.f).bind fun bt152 => ((mount_Orders.f bt152.1 bt152.2).bind fun bt156 => (if bt148.2 = 0 then (if (bt148.1.length : Int) = 3 then (if 0 < (bt148.1.length : Int) then ((thermionlaw04_of.f 10 12).bind fun bt159 => ((thermionlaw04_of.f 17 18).bind fun bt161 => ((thermionkit_SameRanges.f k (rd_L6 bt148.1 0) (([(⟨0, 0⟩ : S32), (⟨bt159.1, bt159.2⟩ : S32), (⟨bt161.1, bt161.2⟩ : S32)] : List (S32)))).bind fun t166 => (if t166 = true then (if bt156.1 = 2 then (some (bt156.2 == 0)) else (some false)) else (some false))))) else (none)) else (some false)) else (some false)))))) = some r := h
 clear h
 replace H := Option.bind_eq_some_iff.mp H
 obtain ⟨⟨t144, t145⟩, A10, H⟩ := H
 replace H : ((mount_Tight.f t144 t145).bind fun bt148 => ((thermionlaw04_kit.f).bind fun bt152 => ((mount_Orders.f bt152.1 bt152.2).bind fun bt156 => (if bt148.2 = 0 then (if (bt148.1.length : Int) = 3 then (if 0 < (bt148.1.length : Int) then ((thermionlaw04_of.f 10 12).bind fun bt159 => ((thermionlaw04_of.f 17 18).bind fun bt161 => ((thermionkit_SameRanges.f k (rd_L6 bt148.1 0) (([(⟨0, 0⟩ : S32), (⟨bt159.1, bt159.2⟩ : S32), (⟨bt161.1, bt161.2⟩ : S32)] : List (S32)))).bind fun t166 => (if t166 = true then (if bt156.1 = 2 then (some (bt156.2 == 0)) else (some false)) else (some false))))) else (none)) else (some false)) else (some false))))) = some r := H
 have A1 := Aside0.mk A10
 clear A10
 replace H := Option.bind_eq_some_iff.mp H
 obtain ⟨⟨t148, t151⟩, A20, H⟩ := H
 replace H : ((thermionlaw04_kit.f).bind fun bt152 => ((mount_Orders.f bt152.1 bt152.2).bind fun bt156 => (if t151 = 0 then (if (t148.length : Int) = 3 then (if 0 < (t148.length : Int) then ((thermionlaw04_of.f 10 12).bind fun bt159 => ((thermionlaw04_of.f 17 18).bind fun bt161 => ((thermionkit_SameRanges.f k (rd_L6 t148 0) (([(⟨0, 0⟩ : S32), (⟨bt159.1, bt159.2⟩ : S32), (⟨bt161.1, bt161.2⟩ : S32)] : List (S32)))).bind fun t166 => (if t166 = true then (if bt156.1 = 2 then (some (bt156.2 == 0)) else (some false)) else (some false))))) else (none)) else (some false)) else (some false)))) = some r := H
 have A2 := Aside0.mk A20
 clear A20
 replace H := Option.bind_eq_some_iff.mp H
 obtain ⟨⟨t152, t155⟩, A30, H⟩ := H
 replace H : ((mount_Orders.f t152 t155).bind fun bt156 => (if t151 = 0 then (if (t148.length : Int) = 3 then (if 0 < (t148.length : Int) then ((thermionlaw04_of.f 10 12).bind fun bt159 => ((thermionlaw04_of.f 17 18).bind fun bt161 => ((thermionkit_SameRanges.f k (rd_L6 t148 0) (([(⟨0, 0⟩ : S32), (⟨bt159.1, bt159.2⟩ : S32), (⟨bt161.1, bt161.2⟩ : S32)] : List (S32)))).bind fun t166 => (if t166 = true then (if bt156.1 = 2 then (some (bt156.2 == 0)) else (some false)) else (some false))))) else (none)) else (some false)) else (some false))) = some r := H
 have A3 := Aside0.mk A30
 clear A30
 replace H := Option.bind_eq_some_iff.mp H
 obtain ⟨⟨t156, t157⟩, A40, H⟩ := H
 replace H : (if t151 = 0 then (if (t148.length : Int) = 3 then (if 0 < (t148.length : Int) then ((thermionlaw04_of.f 10 12).bind fun bt159 => ((thermionlaw04_of.f 17 18).bind fun bt161 => ((thermionkit_SameRanges.f k (rd_L6 t148 0) (([(⟨0, 0⟩ : S32), (⟨bt159.1, bt159.2⟩ : S32), (⟨bt161.1, bt161.2⟩ : S32)] : List (S32)))).bind fun t166 => (if t166 = true then (if t156 = 2 then (some (t157 == 0)) else (some false)) else (some false))))) else (none)) else (some false)) else (some false)) = some r := H
 have A4 := Aside0.mk A40
 clear A40
 by_cases c5 : t151 = 0
 ·rw [if_pos c5] at H
  have c5b0 : (t151 == 0) = true := beq_iff_eq.mpr c5
  have c5b1 : (t151 != 0) = false := bne_eq_false_iff_eq.mpr c5
  clear c5
  by_cases c6 : (t148.length : Int) = 3
  ·rw [if_pos c6] at H
   have c6b0 : ((t148.length : Int) == 3) = true := beq_iff_eq.mpr c6
   have c6b1 : ((t148.length : Int) != 3) = false := bne_eq_false_iff_eq.mpr c6
   clear c6
   by_cases c7 : 0 < (t148.length : Int)
   ·rw [if_pos c7] at H
    have c7b0 : decide (0 < (t148.length : Int)) = true := decide_eq_true c7
    have c7b1 : decide (0 < t148.length) = true := decide_eq_true (by omega)
    clear c7
    replace H := Option.bind_eq_some_iff.mp H
    obtain ⟨⟨t159, t160⟩, A80, H⟩ := H
    replace H : ((thermionlaw04_of.f 17 18).bind fun bt161 => ((thermionkit_SameRanges.f k (rd_L6 t148 0) (([(⟨0, 0⟩ : S32), (⟨t159, t160⟩ : S32), (⟨bt161.1, bt161.2⟩ : S32)] : List (S32)))).bind fun t166 => (if t166 = true then (if t156 = 2 then (some (t157 == 0)) else (some false)) else (some false)))) = some r := H
    have A8 := Aside0.mk A80
    clear A80
    replace H := Option.bind_eq_some_iff.mp H
    obtain ⟨⟨t161, t162⟩, A90, H⟩ := H
    replace H : ((thermionkit_SameRanges.f k (rd_L6 t148 0) (([(⟨0, 0⟩ : S32), (⟨t159, t160⟩ : S32), (⟨t161, t162⟩ : S32)] : List (S32)))).bind fun t166 => (if t166 = true then (if t156 = 2 then (some (t157 == 0)) else (some false)) else (some false))) = some r := H
    have A9 := Aside0.mk A90
    clear A90
    obtain ⟨y163, hy163⟩ : ∃ y_ : List (S32), y_ = (([(⟨0, 0⟩ : S32), (⟨t159, t160⟩ : S32), (⟨t161, t162⟩ : S32)] : List (S32))) := ⟨_, rfl⟩
    replace H : ((thermionkit_SameRanges.f k (rd_L6 t148 0) y163).bind fun t166 => (if t166 = true then (if t156 = 2 then (some (t157 == 0)) else (some false)) else (some false))) = some r := by first | (rw [hy163]; with_reducible exact H) | (have H2_ := (Option.bind_some _ _).symm.trans H; rw [hy163]; with_reducible exact H2_) | (have H2_ := (Option.bind_some _ _).symm.trans H; with_reducible exact H2_) | with_reducible exact H | (rw [hy163]; exact H) | exact H
    have Ny163 := Aside0.mk hy163
    clear hy163
    replace H := Option.bind_eq_some_iff.mp H
    obtain ⟨t166, A100, H⟩ := H
    replace H : (if t166 = true then (if t156 = 2 then (some (t157 == 0)) else (some false)) else (some false)) = some r := H
    have A10 := Aside0.mk A100
    clear A100
    by_cases c11 : t166 = true
    ·subst c11
     have H1 : (if t156 = 2 then (some (t157 == 0)) else (some false)) = some r := by rw [if_pos rfl] at H; exact H
     clear H
     have H := H1
     clear H1
     by_cases c12 : t156 = 2
     ·rw [if_pos c12] at H
      have c12b0 : (t156 == 2) = true := beq_iff_eq.mpr c12
      have c12b1 : (t156 != 2) = false := bne_eq_false_iff_eq.mpr c12
      clear c12
      obtain rfl := Option.some.inj H
      go_enter Try.func21, Try.ntmps21
      try go_wp2_with (first | ((with_reducible refine gate_callee (f := 87) rfl ?_); refine goesL_ (some 6) rfl rfl Try.func87 (by kernel_rfl) rfl #[] rfl (by (try simp only [List.map_toArray, List.map_cons, List.map_nil]); first | done | rfl | (simp only [List.length_drop, List.length_take]; rfl)) ?_; (with_reducible refine (thermionlaw04_chain.calls  t144 t145 _ A1.out).mono ?_); rintro e w13 ⟨v146, rfl, ho0, hb⟩; refine ⟨_, rfl, ?_⟩; have n0_ := Aside0.mk (Kd.R_lower ho0 (below_size (by repeat (first | (with_reducible first | exact HB.out | apply below_alloc | apply pw_below_drewN | apply below_drew1) | exact HB.out)))); have n1_ := Aside0.mk (below_step (by repeat (first | (with_reducible first | exact HB.out | apply below_alloc | apply pw_below_drewN | apply below_drew1) | exact HB.out)) hb); clear HB; have HO147 := n0_; have HB := n1_; clear n0_ n1_; (try clear hb); (try clear hb2); (try clear hk); (try clear hi); (try clear ho0); obtain ⟨Ao14, co14, eo14⟩ := Kd.R_slice HO147.out; subst eo14) | ((with_reducible refine gate_callee (f := 24) rfl ?_); refine goesL_ (some 7) rfl rfl Try.func24 (by kernel_rfl) rfl #[.agg #[.int .i64 t144, .slice Ao14 t145.length co14]] rfl (by (try simp only [List.map_toArray, List.map_cons, List.map_nil]); first | done | rfl | (simp only [List.length_drop, List.length_take]; rfl)) ?_; (with_reducible refine (mount_Tight.calls t144 _ _ t145 t148 t151 _ ?side1 ?side2 A2.out).mono ?_); (case side1 => repeat (first | exact (Kd.R_reads' HO147.out).2.2 | (with_reducible refine Kd.C_alloc ?_ _) | (with_reducible refine Kd.C_drewN ?_ _) | (with_reducible refine Kd.C_drew ?_))); (case side2 => exact (Kd.R_reads' HO147.out).2.1); rintro e w15 ⟨v149, rfl, ho0, hb⟩; refine ⟨_, rfl, ?_⟩; have n0_ := Aside0.mk (Kd.R_below (by (with_reducible repeat (first | apply Kd.R_alloc | apply Kd.R_drewN | apply Kd.R_drew)); exact HO147.out) hb); have n1_ := Aside0.mk (Kd.N_lower (Kd.N_mono (ok' := fun k_ => some k_ ≠ (.slice Ao14 t145.length co14 : Value).ownBlock) (Kd.S_N (Kd.S_bound ho0)) (fun k_ hk_ => (Kd.fresh' (Kd.R_lt (by (with_reducible repeat (first | apply Kd.R_alloc | apply Kd.R_drewN | apply Kd.R_drew)); exact HO147.out)) k_ hk_.2.1))) (below_size (by repeat (first | (with_reducible first | exact HB.out | apply below_alloc | apply pw_below_drewN | apply below_drew1) | exact HB.out)))); have n2_ := Aside0.mk (below_step (by repeat (first | (with_reducible first | exact HB.out | apply below_alloc | apply pw_below_drewN | apply below_drew1) | exact HB.out)) hb); clear HO147; clear HB; have HO147 := n0_; have HO150 := n1_; have HB := n2_; clear n0_ n1_ n2_; (try clear hb); (try clear hb2); (try clear hk); (try clear hi); (try clear ho0)) | ((with_reducible refine gate_callee (f := 59) rfl ?_); refine goesL_ (some 11) rfl rfl Try.func59 (by kernel_rfl) rfl #[] rfl (by (try simp only [List.map_toArray, List.map_cons, List.map_nil]); first | done | rfl | (simp only [List.length_drop, List.length_take]; rfl)) ?_; (with_reducible refine (thermionlaw04_kit.calls  t152 t155 _ A3.out).mono ?_); rintro e w16 ⟨v153, rfl, ho0, hb⟩; refine ⟨_, rfl, ?_⟩; have n0_ := Aside0.mk (Kd.R_below (by (with_reducible repeat (first | apply Kd.R_alloc | apply Kd.R_drewN | apply Kd.R_drew)); exact HO147.out) hb); have n1_ := Aside0.mk (Kd.N_elder' (by (with_reducible repeat (first | apply Kd.N_alloc | apply Kd.N_drewN | apply Kd.N_drew)); exact HO150.out) (Kd.N_base ho0) hb); have n2_ := Aside0.mk (Kd.N_lower (Kd.N_mono (ok' := fun k_ => some k_ ≠ (.slice Ao14 t145.length co14 : Value).ownBlock ∧ some k_ ≠ (v149 : Value).ownBlock) ho0 (fun k_ hk_ => ⟨(Kd.fresh' (Kd.R_lt (by (with_reducible repeat (first | apply Kd.R_alloc | apply Kd.R_drewN | apply Kd.R_drew)); exact HO147.out)) k_ hk_), (Kd.fresh' (Kd.N_lt (by (with_reducible repeat (first | apply Kd.N_alloc | apply Kd.N_drewN | apply Kd.N_drew)); exact HO150.out)) k_ hk_)⟩)) (below_size (by repeat (first | (with_reducible first | exact HB.out | apply below_alloc | apply pw_below_drewN | apply below_drew1) | exact HB.out)))); have n3_ := Aside0.mk (below_step (by repeat (first | (with_reducible first | exact HB.out | apply below_alloc | apply pw_below_drewN | apply below_drew1) | exact HB.out)) hb); clear HO147; clear HO150; clear HB; have HO147 := n0_; have HO150 := n1_; have HO154 := n2_; have HB := n3_; clear n0_ n1_ n2_ n3_; (try clear hb); (try clear hb2); (try clear hk); (try clear hi); (try clear ho0); obtain ⟨Ao17, co17, eo17⟩ := Kd.N_slice HO154.out; subst eo17) | ((with_reducible refine gate_callee (f := 30) rfl ?_); refine goesL_ (some 12) rfl rfl Try.func30 (by kernel_rfl) rfl #[.agg #[.slice Ao17 t152.length co17, .int .i64 t155]] rfl (by (try simp only [List.map_toArray, List.map_cons, List.map_nil]); first | done | rfl | (simp only [List.length_drop, List.length_take]; rfl)) ?_; (with_reducible refine (mount_Orders.calls _ _ t152 t155 t156 t157 _ ?side1 ?side2 A4.out).mono ?_); (case side1 => repeat (first | exact (Kd.N_reads' HO154.out).2.2 | (with_reducible refine Kd.C_alloc ?_ _) | (with_reducible refine Kd.C_drewN ?_ _) | (with_reducible refine Kd.C_drew ?_))); (case side2 => exact (Kd.N_reads' HO154.out).2.1); rintro e w18 ⟨rfl, hb⟩; refine ⟨_, rfl, ?_⟩; have n0_ := Aside0.mk (Kd.R_below (by (with_reducible repeat (first | apply Kd.R_alloc | apply Kd.R_drewN | apply Kd.R_drew)); exact HO147.out) hb); have n1_ := Aside0.mk (Kd.N_below (by (with_reducible repeat (first | apply Kd.N_alloc | apply Kd.N_drewN | apply Kd.N_drew)); exact HO150.out) hb); have n2_ := Aside0.mk (Kd.N_below (by (with_reducible repeat (first | apply Kd.N_alloc | apply Kd.N_drewN | apply Kd.N_drew)); exact HO154.out) hb); have n3_ := Aside0.mk (below_step (by repeat (first | (with_reducible first | exact HB.out | apply below_alloc | apply pw_below_drewN | apply below_drew1) | exact HB.out)) hb); clear HO147; clear HO150; clear HO154; clear HB; have HO147 := n0_; have HO150 := n1_; have HO154 := n2_; have HB := n3_; clear n0_ n1_ n2_ n3_; (try clear hb); (try clear hb2); (try clear hk); (try clear hi)))
      have n0_ := Aside0.mk (Kd.R_drew HO147.out)
      have n1_ := Aside0.mk (Kd.N_drew HO150.out)
      have n2_ := Aside0.mk (Kd.N_drew HO154.out)
      have n3_ := Aside0.mk (below_drew1 HB.out)
      clear HO147
      clear HO150
      clear HO154
      clear HB
      have HO147 := n0_
      have HO150 := n1_
      have HO154 := n2_
      have HB := n3_
      clear n0_ n1_ n2_ n3_
      obtain ⟨Ao20, co20, eo20⟩ := Kd.N_slice HO150.out
      (first | subst eo20 | (injection eo20 with f1_ f2_ f3_; have f4_ := f1_.symm; have f5_ := f3_.symm; clear f1_ f2_ f3_; subst f4_; subst f5_))
      have p158 : 0 ≤ (0 : Int) := (by omega)
      have q158 : 0 < (t148.length : Int) := of_decide_eq_true (by first | (with_reducible assumption) | assumption)
      obtain ⟨ad158, A158_0, c158_0, e158, hx158_0, hl158_0, hi158_0⟩ := at_L6 (Kd.N_reads' HO150.out).2.2 0 p158 q158
      cases e158
      obtain ⟨ce158, hce158, hMe158, hcc158⟩ := Kd.N_get HO150.out [] 0 p158 (by first | exact q158 | exact of_decide_eq_true (by first | (with_reducible assumption) | assumption) | (have e_ := (Kd.N_reads' HO150.out).1; omega))
      obtain ⟨ua158_0, uc158_0, rfl, ul158_0, ge158_0⟩ := Kd.FK_slice_open hMe158
      have hv158_0 := hcc158 0 _ rfl
      rw [Nat.add_zero, show ((Kd.slice 32 k32)).sz = 1 from rfl, Nat.mul_one] at hv158_0
      replace hv158_0 := Option.some.inj (hv158_0.symm.trans hx158_0)
      injection hv158_0 with hva_ hvn_ hvc_
      rw [hva_] at ge158_0
      rw [hvc_] at ul158_0
      have HL158_0 := Aside0.mk (show Kd.V k32 32 _ w.heap.size _ _ (rd_L6 t148 0) from Kd.V_mk ul158_0 ge158_0)
      clear hva_ hvn_ hvc_ ge158_0 ul158_0
      clear hcc158 hce158
      have qi158 : (0 < t148.length) = True := eq_true (by omega)
      (try rw [show ((0 : Int)).toNat = 0 from rfl] at hx158_0)
      (try rw [Addr.add_zero'] at hx158_0)
      have HR158_0 := Aside0.mk hi158_0
      have HC158_0 := Aside0.mk hl158_0
      clear hi158_0 hl158_0
      replace p158 := eq_true p158
      replace q158 := eq_true q158
      refine start_ (n := 26) (S := fun w' => w'.cell? ad158 = some (.slice A158_0 (rd_L6 t148 0).length c158_0)) (ds := []) #[false, false, false, false, false, false, false, false, false, false, false, false, false, false, false, false, false, false, false, false, false, false, false, false, false, false] (by kernel_rfl) rfl rfl (hx158_0) (fun hHeld => ?_); refine with_tabW thermionlaw04_awake.tab3 thermionlaw04_awake.bits3 (fun HT_ HW_ => ?_)
      generalize w18.drew = w19 at HO147 HO150 HO154 HB HL158_0 HR158_0 hx158_0 hHeld ⊢
      refine pure_ (i := 0) (N := some 15) (v := ?_) (a' := ?_) #[true, false, false, false, false, false, false, false, false, false, false, false, false, false, false, false, false, false, false, false, false, false, false, false, false, false] rfl rfl (any_of HT_.out (by kernel_rfl)) (fun _ _ _ h => h) (Or.inl ⟨by rfl, ?_⟩) ?_ ?_
      rotate_left
      ·intro w'
       go_simp
       with_reducible rfl
      rotate_left
      ·simp only [Act.put, List.setIfInBounds_toArray, List.set_cons_zero, List.set_cons_succ, i64_w, i32_w]
       rfl
      refine pure_ (i := 1) (N := some 16) (v := ?_) (a' := ?_) #[true, true, false, false, false, false, false, false, false, false, false, false, false, false, false, false, false, false, false, false, false, false, false, false, false, false] rfl rfl (any_of HT_.out (by kernel_rfl)) (fun _ _ _ h => h) (Or.inl ⟨by rfl, ?_⟩) ?_ ?_
      rotate_left
      ·intro w'
       go_simp
       with_reducible rfl
      rotate_left
      ·simp only [Act.put, List.setIfInBounds_toArray, List.set_cons_zero, List.set_cons_succ, i64_w, i32_w]
       rfl
      refine pure_ (i := 2) (N := some 17) (v := ?_) (a' := ?_) #[true, true, true, false, false, false, false, false, false, false, false, false, false, false, false, false, false, false, false, false, false, false, false, false, false, false] rfl rfl (any_of HT_.out (by kernel_rfl)) (fun _ _ _ h => h) (Or.inl ⟨by rfl, ?_⟩) ?_ ?_
      rotate_left
      ·intro w'
       go_simp
       with_reducible rfl
      rotate_left
      ·simp only [Act.put, List.setIfInBounds_toArray, List.set_cons_zero, List.set_cons_succ, i64_w, i32_w]
       rfl
      refine pure_ (i := 3) (N := some 18) (v := ?_) (a' := ?_) #[true, true, true, true, false, false, false, false, false, false, false, false, false, false, false, false, false, false, false, false, false, false, false, false, false, false] rfl rfl (any_of HT_.out (by kernel_rfl)) (fun _ _ _ h => h) (Or.inl ⟨by rfl, ?_⟩) ?_ ?_
      rotate_left
      ·intro w'
       go_simp
       with_reducible rfl
      rotate_left
      ·simp only [Act.put, List.setIfInBounds_toArray, List.set_cons_zero, List.set_cons_succ, i64_w, i32_w]
       rfl
      refine pure_ (i := 4) (N := some 19) (v := ?_) (a' := ?_) #[true, true, true, true, true, false, false, false, false, false, false, false, false, false, false, false, false, false, false, false, false, false, false, false, false, false] rfl rfl (any_of HT_.out (by kernel_rfl)) (fun _ _ _ h => h) (Or.inl ⟨by rfl, ?_⟩) ?_ ?_
      rotate_left
      ·intro w'
       go_simp
       with_reducible rfl
      rotate_left
      ·simp only [Act.put, List.setIfInBounds_toArray, List.set_cons_zero, List.set_cons_succ, i64_w, i32_w]
       rfl
      refine pure_ (i := 5) (N := some 20) (v := ?_) (a' := ?_) #[true, true, true, true, true, true, false, false, false, false, false, false, false, false, false, false, false, false, false, false, false, false, false, false, false, false] rfl rfl (any_of HT_.out (by kernel_rfl)) (fun _ _ _ h => h) (Or.inl ⟨by rfl, ?_⟩) ?_ ?_
      rotate_left
      ·intro w'
       go_simp
       with_reducible rfl
      rotate_left
      ·simp only [Act.put, List.setIfInBounds_toArray, List.set_cons_zero, List.set_cons_succ, i64_w, i32_w]
       rfl
      refine pure_ (i := 6) (N := some 21) (v := ?_) (a' := ?_) #[true, true, true, true, true, true, true, false, false, false, false, false, false, false, false, false, false, false, false, false, false, false, false, false, false, false] rfl rfl (any_of HT_.out (by kernel_rfl)) (fun _ _ _ h => h) (Or.inl ⟨by rfl, ?_⟩) ?_ ?_
      rotate_left
      ·intro w'
       go_simp
       with_reducible rfl
      rotate_left
      ·simp only [Act.put, List.setIfInBounds_toArray, List.set_cons_zero, List.set_cons_succ, i64_w, i32_w]
       rfl
      refine pure_ (i := 7) (N := some 22) (v := ?_) (a' := ?_) #[true, true, true, true, true, true, true, true, false, false, false, false, false, false, false, false, false, false, false, false, false, false, false, false, false, false] rfl rfl (any_of HT_.out (by kernel_rfl)) (fun _ _ _ h => h) (Or.inl ⟨by rfl, ?_⟩) ?_ ?_
      rotate_left
      ·intro w'
       go_simp
       with_reducible rfl
      rotate_left
      ·simp only [Act.put, List.setIfInBounds_toArray, List.set_cons_zero, List.set_cons_succ, i64_w, i32_w]
       rfl
      refine pure_ (i := 8) (N := some 23) (v := ?_) (a' := ?_) #[true, true, true, true, true, true, true, true, true, false, false, false, false, false, false, false, false, false, false, false, false, false, false, false, false, false] rfl rfl (any_of HT_.out (by kernel_rfl)) (fun _ _ _ h => h) (Or.inl ⟨by rfl, ?_⟩) ?_ ?_
      rotate_left
      ·intro w'
       go_simp
       with_reducible rfl
      rotate_left
      ·simp only [Act.put, List.setIfInBounds_toArray, List.set_cons_zero, List.set_cons_succ, i64_w, i32_w]
       rfl
      refine pure_ (i := 9) (N := some 24) (v := ?_) (a' := ?_) #[true, true, true, true, true, true, true, true, true, true, false, false, false, false, false, false, false, false, false, false, false, false, false, false, false, false] rfl rfl (any_of HT_.out (by kernel_rfl)) (fun _ _ _ h => h) (Or.inl ⟨by rfl, ?_⟩) ?_ ?_
      rotate_left
      ·intro w'
       go_simp
       with_reducible rfl
      rotate_left
      ·simp only [Act.put, List.setIfInBounds_toArray, List.set_cons_zero, List.set_cons_succ, i64_w, i32_w]
       rfl
      refine pure_ (i := 11) (N := some 26) (v := ?_) (a' := ?_) #[true, true, true, true, true, true, true, true, true, true, false, true, false, false, false, false, false, false, false, false, false, false, false, false, false, false] rfl rfl (any_of HT_.out (by kernel_rfl)) (fun _ _ _ h => h) (Or.inl ⟨by rfl, ?_⟩) ?_ ?_
      rotate_left
      ·intro w'
       go_simp
       with_reducible rfl
      rotate_left
      ·simp only [Act.put, List.setIfInBounds_toArray, List.set_cons_zero, List.set_cons_succ, i64_w, i32_w]
       rfl
      refine take_ (i := 10) (N := some 25) (v := ?_) (a' := ?_) #[true, true, true, true, true, true, true, true, true, true, true, true, false, false, false, false, false, false, false, false, false, false, false, false, false, false] rfl rfl (take_ofW HT_.out HW_.out (by kernel_rfl)) (fun _ _ _ h => h) (Or.inl ⟨by rfl, ?_⟩) hHeld ?_ ?_
      rotate_left
      ·intro w' s0
       go_simp
       with_reducible rfl
      rotate_left
      ·simp only [Act.put, List.setIfInBounds_toArray, List.set_cons_zero, List.set_cons_succ, i64_w, i32_w]
       rfl
      refine one_ (i := 12) (N := some 27) #[true, true, true, true, true, true, true, true, true, true, true, true, true, false, false, false, false, false, false, false, false, false, false, false, false, false] rfl rfl (one_of HT_.out (by kernel_rfl)) (by decide) (fun K hK => ?_)
      refine goes_ Try.func52 (by kernel_rfl) rfl #[.int .i64 10, .int .i64 12] (by rfl) rfl rfl (by (try simp only [List.map_toArray, List.map_cons, List.map_nil]); first | done | rfl | (simp only [List.length_drop, List.length_take]; rfl)) ?_
      with_reducible refine (thermionlaw04_of.calls 10 12 t159 t160 _ A8.out).mono ?_
      rintro e w21 ⟨rfl, hb⟩
      have HS0_ := (hb.cell (World.block_lt_of_cell? _ _ (hHeld))).trans (hHeld)
      refine ⟨_, rfl, ?_⟩
      have n0_ := Aside0.mk (Kd.R_below (by (with_reducible repeat (first | apply Kd.R_alloc | apply Kd.R_drewN | apply Kd.R_drew)); exact HO147.out) hb)
      have n1_ := Aside0.mk (Kd.N_below (by (with_reducible repeat (first | apply Kd.N_alloc | apply Kd.N_drewN | apply Kd.N_drew)); exact HO150.out) hb)
      have n2_ := Aside0.mk (Kd.N_below (by (with_reducible repeat (first | apply Kd.N_alloc | apply Kd.N_drewN | apply Kd.N_drew)); exact HO154.out) hb)
      have n3_ := Aside0.mk (Kd.V_below (by (with_reducible repeat (first | apply Kd.V_alloc | apply Kd.V_drewN | apply Kd.V_drew)); exact HL158_0.out) hb)
      have n4_ := Aside0.mk (Kd.C_below (by repeat (first | (with_reducible exact HR158_0.out) | (with_reducible refine Kd.C_alloc ?_ _) | (with_reducible refine Kd.C_drewN ?_ _) | (with_reducible refine Kd.C_drew ?_) | exact HR158_0.out)) hb)
      have n5_ := Aside0.mk (below_step (by repeat (first | (with_reducible first | exact HB.out | apply below_alloc | apply pw_below_drewN | apply below_drew1) | exact HB.out)) hb)
      clear HO147
      clear HO150
      clear HO154
      clear HL158_0
      clear HR158_0
      clear HB
      have HO147 := n0_
      have HO150 := n1_
      have HO154 := n2_
      have HL158_0 := n3_
      have HR158_0 := n4_
      have HB := n5_
      clear n0_ n1_ n2_ n3_ n4_ n5_
      (try clear hb)
      (try clear hb2)
      (try clear hk)
      (try clear hi)
      refine hK.out _ _ (HS0_) (fun hHeld => ?_)
      clear hK K
      refine norm_ (a' := ?_) ?_ ?_
      rotate_left
      ·show Act.put _ (some 27) _ = _
       simp only [Act.put, List.setIfInBounds_toArray, List.set_cons_zero, List.set_cons_succ, i64_w, i32_w]
       rfl
      refine one_ (i := 13) (N := some 28) #[true, true, true, true, true, true, true, true, true, true, true, true, true, true, false, false, false, false, false, false, false, false, false, false, false, false] rfl rfl (one_of HT_.out (by kernel_rfl)) (by decide) (fun K hK => ?_)
      refine goes_ Try.func52 (by kernel_rfl) rfl #[.int .i64 17, .int .i64 18] (by rfl) rfl rfl (by (try simp only [List.map_toArray, List.map_cons, List.map_nil]); first | done | rfl | (simp only [List.length_drop, List.length_take]; rfl)) ?_
      with_reducible refine (thermionlaw04_of.calls 17 18 t161 t162 _ A9.out).mono ?_
      rintro e w22 ⟨rfl, hb⟩
      have HS0_ := (hb.cell (World.block_lt_of_cell? _ _ (hHeld))).trans (hHeld)
      refine ⟨_, rfl, ?_⟩
      have n0_ := Aside0.mk (Kd.R_below (by (with_reducible repeat (first | apply Kd.R_alloc | apply Kd.R_drewN | apply Kd.R_drew)); exact HO147.out) hb)
      have n1_ := Aside0.mk (Kd.N_below (by (with_reducible repeat (first | apply Kd.N_alloc | apply Kd.N_drewN | apply Kd.N_drew)); exact HO150.out) hb)
      have n2_ := Aside0.mk (Kd.N_below (by (with_reducible repeat (first | apply Kd.N_alloc | apply Kd.N_drewN | apply Kd.N_drew)); exact HO154.out) hb)
      have n3_ := Aside0.mk (Kd.V_below (by (with_reducible repeat (first | apply Kd.V_alloc | apply Kd.V_drewN | apply Kd.V_drew)); exact HL158_0.out) hb)
      have n4_ := Aside0.mk (Kd.C_below (by repeat (first | (with_reducible exact HR158_0.out) | (with_reducible refine Kd.C_alloc ?_ _) | (with_reducible refine Kd.C_drewN ?_ _) | (with_reducible refine Kd.C_drew ?_) | exact HR158_0.out)) hb)
      have n5_ := Aside0.mk (below_step (by repeat (first | (with_reducible first | exact HB.out | apply below_alloc | apply pw_below_drewN | apply below_drew1) | exact HB.out)) hb)
      clear HO147
      clear HO150
      clear HO154
      clear HL158_0
      clear HR158_0
      clear HB
      have HO147 := n0_
      have HO150 := n1_
      have HO154 := n2_
      have HL158_0 := n3_
      have HR158_0 := n4_
      have HB := n5_
      clear n0_ n1_ n2_ n3_ n4_ n5_
      (try clear hb)
      (try clear hb2)
      (try clear hk)
      (try clear hi)
      refine hK.out _ _ (HS0_) (fun hHeld => ?_)
      clear hK K
      refine norm_ (a' := ?_) ?_ ?_
      rotate_left
      ·show Act.put _ (some 28) _ = _
       simp only [Act.put, List.setIfInBounds_toArray, List.set_cons_zero, List.set_cons_succ, i64_w, i32_w]
       rfl
      refine one_ (i := 14) (N := some 29) #[true, true, true, true, true, true, true, true, true, true, true, true, true, true, true, false, false, false, false, false, false, false, false, false, false, false] rfl rfl (one_of HT_.out (by kernel_rfl)) (by decide) (fun K hK => ?_)
      refine Kd.R_lit_step k32 _ 32 ?hg (N := 29) ?hd (xs := ([(⟨0, 0⟩ : S32), (⟨t159, t160⟩ : S32), (⟨t161, t162⟩ : S32)] : List (S32))) (inner := [.int .i64 0, .int .i64 0, .int .i64 t159, .int .i64 t160, .int .i64 t161, .int .i64 t162]) (ok := fun _ => True) (okp := fun _ => True) ?hr ?hp (fun _ hk => hk) trivial (Below.refl _ _) (Nat.le_refl _) (by simp) ?_; (case hd => rfl); (case hg => rfl); (case hr => first | (go_simp; done) | (go_simp; rfl)); (case hp => exact (Reps.c2 (show Kd.M k32 _ _ _ (⟨0, 0⟩ : S32) [.int .i64 0, .int .i64 0] from (k32_mkM _ _ _ (⟨0, 0⟩ : S32) )) (Reps.c2 (show Kd.M k32 _ _ _ (⟨t159, t160⟩ : S32) [.int .i64 t159, .int .i64 t160] from (k32_mkM _ _ _ (⟨t159, t160⟩ : S32) )) (Reps.c2 (show Kd.M k32 _ _ _ (⟨t161, t162⟩ : S32) [.int .i64 t161, .int .i64 t162] from (k32_mkM _ _ _ (⟨t161, t162⟩ : S32) )) (Reps.none _ _)))))
      intro v164 w23 ho24 hb hg_ hnew_
      have HS0_ := (hb.cell (World.block_lt_of_cell? _ _ (hHeld))).trans (hHeld)
      clear hg_ hnew_
      (first | rw [← Ny163.out] at ho24 | (simp only [Int.reduceToNat] at ho24; rw [← Ny163.out] at ho24))
      have n0_ := Aside0.mk (Kd.R_below (by (with_reducible repeat (first | apply Kd.R_alloc | apply Kd.R_drewN | apply Kd.R_drew)); exact HO147.out) hb)
      have n1_ := Aside0.mk (Kd.N_elder' (by (with_reducible repeat (first | apply Kd.N_alloc | apply Kd.N_drewN | apply Kd.N_drew)); exact HO150.out) (Kd.R_base ho24) hb)
      have n2_ := Aside0.mk (Kd.N_elder' (by (with_reducible repeat (first | apply Kd.N_alloc | apply Kd.N_drewN | apply Kd.N_drew)); exact HO154.out) (Kd.R_base ho24) hb)
      have n3_ := Aside0.mk (Kd.V_elder' (by (with_reducible repeat (first | apply Kd.V_alloc | apply Kd.V_drewN | apply Kd.V_drew)); exact HL158_0.out) (Kd.R_base ho24) hb)
      have n4_ := Aside0.mk (Kd.R_lower ho24 (below_size (by repeat (first | (with_reducible first | exact HB.out | apply below_alloc | apply pw_below_drewN | apply below_drew1) | exact HB.out))))
      have n5_ := Aside0.mk (Kd.C_below (by repeat (first | (with_reducible exact HR158_0.out) | (with_reducible refine Kd.C_alloc ?_ _) | (with_reducible refine Kd.C_drewN ?_ _) | (with_reducible refine Kd.C_drew ?_) | exact HR158_0.out)) hb)
      have n6_ := Aside0.mk (below_step (by repeat (first | (with_reducible first | exact HB.out | apply below_alloc | apply pw_below_drewN | apply below_drew1) | exact HB.out)) hb)
      clear HO147
      clear HO150
      clear HO154
      clear HL158_0
      clear HR158_0
      clear HB
      have HO147 := n0_
      have HO150 := n1_
      have HO154 := n2_
      have HL158_0 := n3_
      have HO165 := n4_
      have HR158_0 := n5_
      have HB := n6_
      clear n0_ n1_ n2_ n3_ n4_ n5_ n6_
      clear hb ho24
      obtain ⟨Ao25, co25, eo25⟩ := Kd.R_slice HO165.out
      (first | subst eo25 | (injection eo25 with f1_ f2_ f3_; have f4_ := f1_.symm; have f5_ := f3_.symm; clear f1_ f2_ f3_; subst f4_; subst f5_))
      refine hK.out _ _ (HS0_) (fun hHeld => ?_)
      clear hK K
      refine norm_ (a' := ?_) ?_ ?_
      rotate_left
      ·show Act.put _ (some 29) _ = _
       simp only [Act.put, List.setIfInBounds_toArray, List.set_cons_zero, List.set_cons_succ, i64_w, i32_w]
       rfl
      refine one_ (i := 15) (N := some 30) #[true, true, true, true, true, true, true, true, true, true, true, true, true, true, true, true, false, false, false, false, false, false, false, false, false, false] rfl rfl (one_of HT_.out (by kernel_rfl)) (by decide) (fun K hK => ?_)
      refine goes_ Try.func88 (by kernel_rfl) rfl #[.slice A158_0 (rd_L6 t148 0).length c158_0, .slice Ao25 y163.length co25] (by rfl) rfl rfl (by (try simp only [List.map_toArray, List.map_cons, List.map_nil]); first | done | rfl | (simp only [List.length_drop, List.length_take]; rfl)) ?_
      with_reducible refine (thermionkit_SameRanges.calls k _ _ (rd_L6 t148 0) _ _ y163 true _ ?side1 ?side2 ?side3 ?side4 A10.out).mono ?_
      (case side1 => repeat (first | exact (by repeat (first | (with_reducible exact HR158_0.out) | (with_reducible refine Kd.C_alloc ?_ _) | (with_reducible refine Kd.C_drewN ?_ _) | (with_reducible refine Kd.C_drew ?_) | exact HR158_0.out)) | (with_reducible refine Kd.C_alloc ?_ _) | (with_reducible refine Kd.C_drewN ?_ _) | (with_reducible refine Kd.C_drew ?_)))
      (case side2 => exact HC158_0.out)
      (case side3 => repeat (first | exact (Kd.R_reads' HO165.out).2.2 | (with_reducible refine Kd.C_alloc ?_ _) | (with_reducible refine Kd.C_drewN ?_ _) | (with_reducible refine Kd.C_drew ?_)))
      (case side4 => exact (Kd.R_reads' HO165.out).2.1)
      rintro e w' ⟨rfl, ⟨nd, rfl⟩⟩
      refine ⟨_, rfl, ?_⟩
      refine hK.out _ _ (hHeld) (fun hHeld => ?_)
      clear hK K
      refine norm_ (a' := ?_) ?_ ?_
      rotate_left
      ·show Act.put _ (some 30) _ = _
       simp only [Act.put, List.setIfInBounds_toArray, List.set_cons_zero, List.set_cons_succ, i64_w, i32_w]
       rfl
      refine pure_ (i := 16) (N := some 31) (v := ?_) (a' := ?_) #[true, true, true, true, true, true, true, true, true, true, true, true, true, true, true, true, true, false, false, false, false, false, false, false, false, false] rfl rfl (any_of HT_.out (by kernel_rfl)) (fun _ _ _ h => h) (Or.inl ⟨by rfl, ?_⟩) ?_ ?_
      rotate_left
      ·intro w'
       go_simp
       with_reducible rfl
      rotate_left
      ·simp only [Act.put, List.setIfInBounds_toArray, List.set_cons_zero, List.set_cons_succ, i64_w, i32_w]
       rfl
      refine pure_ (i := 17) (N := some 32) (v := ?_) (a' := ?_) #[true, true, true, true, true, true, true, true, true, true, true, true, true, true, true, true, true, true, false, false, false, false, false, false, false, false] rfl rfl (any_of HT_.out (by kernel_rfl)) (fun _ _ _ h => h) (Or.inl ⟨by rfl, ?_⟩) ?_ ?_
      rotate_left
      ·intro w'
       go_simp
       with_reducible rfl
      rotate_left
      ·simp only [Act.put, List.setIfInBounds_toArray, List.set_cons_zero, List.set_cons_succ, i64_w, i32_w]
       rfl
      refine pure_ (i := 18) (N := some 33) (v := ?_) (a' := ?_) #[true, true, true, true, true, true, true, true, true, true, true, true, true, true, true, true, true, true, true, false, false, false, false, false, false, false] rfl rfl (any_of HT_.out (by kernel_rfl)) (fun _ _ _ h => h) (Or.inl ⟨by rfl, ?_⟩) ?_ ?_
      rotate_left
      ·intro w'
       go_simp
       with_reducible rfl
      rotate_left
      ·simp only [Act.put, List.setIfInBounds_toArray, List.set_cons_zero, List.set_cons_succ, i64_w, i32_w]
       rfl
      refine pure_ (i := 19) (N := some 34) (v := ?_) (a' := ?_) #[true, true, true, true, true, true, true, true, true, true, true, true, true, true, true, true, true, true, true, true, false, false, false, false, false, false] rfl rfl (any_of HT_.out (by kernel_rfl)) (fun _ _ _ h => h) (Or.inl ⟨by rfl, ?_⟩) ?_ ?_
      rotate_left
      ·intro w'
       go_simp
       with_reducible rfl
      rotate_left
      ·simp only [Act.put, List.setIfInBounds_toArray, List.set_cons_zero, List.set_cons_succ, i64_w, i32_w]
       rfl
      refine pure_ (i := 20) (N := some 35) (v := ?_) (a' := ?_) #[true, true, true, true, true, true, true, true, true, true, true, true, true, true, true, true, true, true, true, true, true, false, false, false, false, false] rfl rfl (any_of HT_.out (by kernel_rfl)) (fun _ _ _ h => h) (Or.inl ⟨by rfl, ?_⟩) ?_ ?_
      rotate_left
      ·intro w'
       go_simp
       with_reducible rfl
      rotate_left
      ·simp only [Act.put, List.setIfInBounds_toArray, List.set_cons_zero, List.set_cons_succ, i64_w, i32_w]
       rfl
      refine pure_ (i := 21) (N := some 36) (v := ?_) (a' := ?_) #[true, true, true, true, true, true, true, true, true, true, true, true, true, true, true, true, true, true, true, true, true, true, false, false, false, false] rfl rfl (any_of HT_.out (by kernel_rfl)) (fun _ _ _ h => h) (Or.inl ⟨by rfl, ?_⟩) ?_ ?_
      rotate_left
      ·intro w'
       go_simp
       with_reducible rfl
      rotate_left
      ·simp only [Act.put, List.setIfInBounds_toArray, List.set_cons_zero, List.set_cons_succ, i64_w, i32_w]
       rfl
      refine pure_ (i := 22) (N := some 37) (v := ?_) (a' := ?_) #[true, true, true, true, true, true, true, true, true, true, true, true, true, true, true, true, true, true, true, true, true, true, true, false, false, false] rfl rfl (any_of HT_.out (by kernel_rfl)) (fun _ _ _ h => h) (Or.inl ⟨by rfl, ?_⟩) ?_ ?_
      rotate_left
      ·intro w'
       go_simp
       with_reducible rfl
      rotate_left
      ·simp only [Act.put, List.setIfInBounds_toArray, List.set_cons_zero, List.set_cons_succ, i64_w, i32_w]
       rfl
      refine pure_ (i := 23) (N := some 38) (v := ?_) (a' := ?_) #[true, true, true, true, true, true, true, true, true, true, true, true, true, true, true, true, true, true, true, true, true, true, true, true, false, false] rfl rfl (any_of HT_.out (by kernel_rfl)) (fun _ _ _ h => h) (Or.inl ⟨by rfl, ?_⟩) ?_ ?_
      rotate_left
      ·intro w'
       go_simp
       with_reducible rfl
      rotate_left
      ·simp only [Act.put, List.setIfInBounds_toArray, List.set_cons_zero, List.set_cons_succ, i64_w, i32_w]
       rfl
      refine pure_ (i := 24) (N := some 39) (v := ?_) (a' := ?_) #[true, true, true, true, true, true, true, true, true, true, true, true, true, true, true, true, true, true, true, true, true, true, true, true, true, false] rfl rfl (any_of HT_.out (by kernel_rfl)) (fun _ _ _ h => h) (Or.inl ⟨by rfl, ?_⟩) ?_ ?_
      rotate_left
      ·intro w'
       go_simp
       with_reducible rfl
      rotate_left
      ·simp only [Act.put, List.setIfInBounds_toArray, List.set_cons_zero, List.set_cons_succ, i64_w, i32_w]
       rfl
      refine pure_ (i := 25) (N := some 0) (v := ?_) (a' := ?_) #[true, true, true, true, true, true, true, true, true, true, true, true, true, true, true, true, true, true, true, true, true, true, true, true, true, true] rfl rfl (any_of HT_.out (by kernel_rfl)) (fun _ _ _ h => h) (Or.inl ⟨by rfl, ?_⟩) ?_ ?_
      rotate_left
      ·intro w'
       go_simp
       with_reducible rfl
      rotate_left
      ·simp only [Act.put, List.setIfInBounds_toArray, List.set_cons_zero, List.set_cons_succ, i64_w, i32_w]
       rfl
      refine done_ (done_of HT_.out (by kernel_rfl)) ?_
      try go_wp2
      go_ret
      exact ⟨by first | rfl | (simp [errW_none, errW_some] <;> rfl) | (simp [*, errW_none, errW_some] <;> rfl), by repeat (first | (with_reducible first | exact HB.out | apply below_alloc | apply pw_below_drewN | apply below_drew1) | exact HB.out)⟩
     ·rw [if_neg c12] at H
      have c12b0 : (t156 == 2) = false := beq_eq_false_iff_ne.mpr c12
      have c12b1 : (t156 != 2) = true := bne_iff_ne.mpr c12
      obtain rfl := Option.some.inj H
      go_enter Try.func21, Try.ntmps21
      try go_wp2_with (first | ((with_reducible refine gate_callee (f := 87) rfl ?_); refine goesL_ (some 6) rfl rfl Try.func87 (by kernel_rfl) rfl #[] rfl (by (try simp only [List.map_toArray, List.map_cons, List.map_nil]); first | done | rfl | (simp only [List.length_drop, List.length_take]; rfl)) ?_; (with_reducible refine (thermionlaw04_chain.calls  t144 t145 _ A1.out).mono ?_); rintro e w26 ⟨v146, rfl, ho0, hb⟩; refine ⟨_, rfl, ?_⟩; have n0_ := Aside0.mk (Kd.R_lower ho0 (below_size (by repeat (first | (with_reducible first | exact HB.out | apply below_alloc | apply pw_below_drewN | apply below_drew1) | exact HB.out)))); have n1_ := Aside0.mk (below_step (by repeat (first | (with_reducible first | exact HB.out | apply below_alloc | apply pw_below_drewN | apply below_drew1) | exact HB.out)) hb); clear HB; have HO147 := n0_; have HB := n1_; clear n0_ n1_; (try clear hb); (try clear hb2); (try clear hk); (try clear hi); (try clear ho0); obtain ⟨Ao27, co27, eo27⟩ := Kd.R_slice HO147.out; subst eo27) | ((with_reducible refine gate_callee (f := 24) rfl ?_); refine goesL_ (some 7) rfl rfl Try.func24 (by kernel_rfl) rfl #[.agg #[.int .i64 t144, .slice Ao27 t145.length co27]] rfl (by (try simp only [List.map_toArray, List.map_cons, List.map_nil]); first | done | rfl | (simp only [List.length_drop, List.length_take]; rfl)) ?_; (with_reducible refine (mount_Tight.calls t144 _ _ t145 t148 t151 _ ?side1 ?side2 A2.out).mono ?_); (case side1 => repeat (first | exact (Kd.R_reads' HO147.out).2.2 | (with_reducible refine Kd.C_alloc ?_ _) | (with_reducible refine Kd.C_drewN ?_ _) | (with_reducible refine Kd.C_drew ?_))); (case side2 => exact (Kd.R_reads' HO147.out).2.1); rintro e w28 ⟨v149, rfl, ho0, hb⟩; refine ⟨_, rfl, ?_⟩; have n0_ := Aside0.mk (Kd.R_below (by (with_reducible repeat (first | apply Kd.R_alloc | apply Kd.R_drewN | apply Kd.R_drew)); exact HO147.out) hb); have n1_ := Aside0.mk (Kd.N_lower (Kd.N_mono (ok' := fun k_ => some k_ ≠ (.slice Ao27 t145.length co27 : Value).ownBlock) (Kd.S_N (Kd.S_bound ho0)) (fun k_ hk_ => (Kd.fresh' (Kd.R_lt (by (with_reducible repeat (first | apply Kd.R_alloc | apply Kd.R_drewN | apply Kd.R_drew)); exact HO147.out)) k_ hk_.2.1))) (below_size (by repeat (first | (with_reducible first | exact HB.out | apply below_alloc | apply pw_below_drewN | apply below_drew1) | exact HB.out)))); have n2_ := Aside0.mk (below_step (by repeat (first | (with_reducible first | exact HB.out | apply below_alloc | apply pw_below_drewN | apply below_drew1) | exact HB.out)) hb); clear HO147; clear HB; have HO147 := n0_; have HO150 := n1_; have HB := n2_; clear n0_ n1_ n2_; (try clear hb); (try clear hb2); (try clear hk); (try clear hi); (try clear ho0)) | ((with_reducible refine gate_callee (f := 59) rfl ?_); refine goesL_ (some 11) rfl rfl Try.func59 (by kernel_rfl) rfl #[] rfl (by (try simp only [List.map_toArray, List.map_cons, List.map_nil]); first | done | rfl | (simp only [List.length_drop, List.length_take]; rfl)) ?_; (with_reducible refine (thermionlaw04_kit.calls  t152 t155 _ A3.out).mono ?_); rintro e w29 ⟨v153, rfl, ho0, hb⟩; refine ⟨_, rfl, ?_⟩; have n0_ := Aside0.mk (Kd.R_below (by (with_reducible repeat (first | apply Kd.R_alloc | apply Kd.R_drewN | apply Kd.R_drew)); exact HO147.out) hb); have n1_ := Aside0.mk (Kd.N_elder' (by (with_reducible repeat (first | apply Kd.N_alloc | apply Kd.N_drewN | apply Kd.N_drew)); exact HO150.out) (Kd.N_base ho0) hb); have n2_ := Aside0.mk (Kd.N_lower (Kd.N_mono (ok' := fun k_ => some k_ ≠ (.slice Ao27 t145.length co27 : Value).ownBlock ∧ some k_ ≠ (v149 : Value).ownBlock) ho0 (fun k_ hk_ => ⟨(Kd.fresh' (Kd.R_lt (by (with_reducible repeat (first | apply Kd.R_alloc | apply Kd.R_drewN | apply Kd.R_drew)); exact HO147.out)) k_ hk_), (Kd.fresh' (Kd.N_lt (by (with_reducible repeat (first | apply Kd.N_alloc | apply Kd.N_drewN | apply Kd.N_drew)); exact HO150.out)) k_ hk_)⟩)) (below_size (by repeat (first | (with_reducible first | exact HB.out | apply below_alloc | apply pw_below_drewN | apply below_drew1) | exact HB.out)))); have n3_ := Aside0.mk (below_step (by repeat (first | (with_reducible first | exact HB.out | apply below_alloc | apply pw_below_drewN | apply below_drew1) | exact HB.out)) hb); clear HO147; clear HO150; clear HB; have HO147 := n0_; have HO150 := n1_; have HO154 := n2_; have HB := n3_; clear n0_ n1_ n2_ n3_; (try clear hb); (try clear hb2); (try clear hk); (try clear hi); (try clear ho0); obtain ⟨Ao30, co30, eo30⟩ := Kd.N_slice HO154.out; subst eo30) | ((with_reducible refine gate_callee (f := 30) rfl ?_); refine goesL_ (some 12) rfl rfl Try.func30 (by kernel_rfl) rfl #[.agg #[.slice Ao30 t152.length co30, .int .i64 t155]] rfl (by (try simp only [List.map_toArray, List.map_cons, List.map_nil]); first | done | rfl | (simp only [List.length_drop, List.length_take]; rfl)) ?_; (with_reducible refine (mount_Orders.calls _ _ t152 t155 t156 t157 _ ?side1 ?side2 A4.out).mono ?_); (case side1 => repeat (first | exact (Kd.N_reads' HO154.out).2.2 | (with_reducible refine Kd.C_alloc ?_ _) | (with_reducible refine Kd.C_drewN ?_ _) | (with_reducible refine Kd.C_drew ?_))); (case side2 => exact (Kd.N_reads' HO154.out).2.1); rintro e w31 ⟨rfl, hb⟩; refine ⟨_, rfl, ?_⟩; have n0_ := Aside0.mk (Kd.R_below (by (with_reducible repeat (first | apply Kd.R_alloc | apply Kd.R_drewN | apply Kd.R_drew)); exact HO147.out) hb); have n1_ := Aside0.mk (Kd.N_below (by (with_reducible repeat (first | apply Kd.N_alloc | apply Kd.N_drewN | apply Kd.N_drew)); exact HO150.out) hb); have n2_ := Aside0.mk (Kd.N_below (by (with_reducible repeat (first | apply Kd.N_alloc | apply Kd.N_drewN | apply Kd.N_drew)); exact HO154.out) hb); have n3_ := Aside0.mk (below_step (by repeat (first | (with_reducible first | exact HB.out | apply below_alloc | apply pw_below_drewN | apply below_drew1) | exact HB.out)) hb); clear HO147; clear HO150; clear HO154; clear HB; have HO147 := n0_; have HO150 := n1_; have HO154 := n2_; have HB := n3_; clear n0_ n1_ n2_ n3_; (try clear hb); (try clear hb2); (try clear hk); (try clear hi)))
      have n0_ := Aside0.mk (Kd.R_drew HO147.out)
      have n1_ := Aside0.mk (Kd.N_drew HO150.out)
      have n2_ := Aside0.mk (Kd.N_drew HO154.out)
      have n3_ := Aside0.mk (below_drew1 HB.out)
      clear HO147
      clear HO150
      clear HO154
      clear HB
      have HO147 := n0_
      have HO150 := n1_
      have HO154 := n2_
      have HB := n3_
      clear n0_ n1_ n2_ n3_
      obtain ⟨Ao33, co33, eo33⟩ := Kd.N_slice HO150.out
      (first | subst eo33 | (injection eo33 with f1_ f2_ f3_; have f4_ := f1_.symm; have f5_ := f3_.symm; clear f1_ f2_ f3_; subst f4_; subst f5_))
      have p158 : 0 ≤ (0 : Int) := (by omega)
      have q158 : 0 < (t148.length : Int) := of_decide_eq_true (by first | (with_reducible assumption) | assumption)
      obtain ⟨ad158, A158_0, c158_0, e158, hx158_0, hl158_0, hi158_0⟩ := at_L6 (Kd.N_reads' HO150.out).2.2 0 p158 q158
      cases e158
      obtain ⟨ce158, hce158, hMe158, hcc158⟩ := Kd.N_get HO150.out [] 0 p158 (by first | exact q158 | exact of_decide_eq_true (by first | (with_reducible assumption) | assumption) | (have e_ := (Kd.N_reads' HO150.out).1; omega))
      obtain ⟨ua158_0, uc158_0, rfl, ul158_0, ge158_0⟩ := Kd.FK_slice_open hMe158
      have hv158_0 := hcc158 0 _ rfl
      rw [Nat.add_zero, show ((Kd.slice 32 k32)).sz = 1 from rfl, Nat.mul_one] at hv158_0
      replace hv158_0 := Option.some.inj (hv158_0.symm.trans hx158_0)
      injection hv158_0 with hva_ hvn_ hvc_
      rw [hva_] at ge158_0
      rw [hvc_] at ul158_0
      have HL158_0 := Aside0.mk (show Kd.V k32 32 _ w.heap.size _ _ (rd_L6 t148 0) from Kd.V_mk ul158_0 ge158_0)
      clear hva_ hvn_ hvc_ ge158_0 ul158_0
      clear hcc158 hce158
      have qi158 : (0 < t148.length) = True := eq_true (by omega)
      (try rw [show ((0 : Int)).toNat = 0 from rfl] at hx158_0)
      (try rw [Addr.add_zero'] at hx158_0)
      have HR158_0 := Aside0.mk hi158_0
      have HC158_0 := Aside0.mk hl158_0
      clear hi158_0 hl158_0
      replace p158 := eq_true p158
      replace q158 := eq_true q158
      refine start_ (n := 26) (S := fun w' => w'.cell? ad158 = some (.slice A158_0 (rd_L6 t148 0).length c158_0)) (ds := []) #[false, false, false, false, false, false, false, false, false, false, false, false, false, false, false, false, false, false, false, false, false, false, false, false, false, false] (by kernel_rfl) rfl rfl (hx158_0) (fun hHeld => ?_); refine with_tabW thermionlaw04_awake.tab3 thermionlaw04_awake.bits3 (fun HT_ HW_ => ?_)
      generalize w31.drew = w32 at HO147 HO150 HO154 HB HL158_0 HR158_0 hx158_0 hHeld ⊢
      refine pure_ (i := 0) (N := some 15) (v := ?_) (a' := ?_) #[true, false, false, false, false, false, false, false, false, false, false, false, false, false, false, false, false, false, false, false, false, false, false, false, false, false] rfl rfl (any_of HT_.out (by kernel_rfl)) (fun _ _ _ h => h) (Or.inl ⟨by rfl, ?_⟩) ?_ ?_
      rotate_left
      ·intro w'
       go_simp
       with_reducible rfl
      rotate_left
      ·simp only [Act.put, List.setIfInBounds_toArray, List.set_cons_zero, List.set_cons_succ, i64_w, i32_w]
       rfl
      refine pure_ (i := 1) (N := some 16) (v := ?_) (a' := ?_) #[true, true, false, false, false, false, false, false, false, false, false, false, false, false, false, false, false, false, false, false, false, false, false, false, false, false] rfl rfl (any_of HT_.out (by kernel_rfl)) (fun _ _ _ h => h) (Or.inl ⟨by rfl, ?_⟩) ?_ ?_
      rotate_left
      ·intro w'
       go_simp
       with_reducible rfl
      rotate_left
      ·simp only [Act.put, List.setIfInBounds_toArray, List.set_cons_zero, List.set_cons_succ, i64_w, i32_w]
       rfl
      refine pure_ (i := 2) (N := some 17) (v := ?_) (a' := ?_) #[true, true, true, false, false, false, false, false, false, false, false, false, false, false, false, false, false, false, false, false, false, false, false, false, false, false] rfl rfl (any_of HT_.out (by kernel_rfl)) (fun _ _ _ h => h) (Or.inl ⟨by rfl, ?_⟩) ?_ ?_
      rotate_left
      ·intro w'
       go_simp
       with_reducible rfl
      rotate_left
      ·simp only [Act.put, List.setIfInBounds_toArray, List.set_cons_zero, List.set_cons_succ, i64_w, i32_w]
       rfl
      refine pure_ (i := 3) (N := some 18) (v := ?_) (a' := ?_) #[true, true, true, true, false, false, false, false, false, false, false, false, false, false, false, false, false, false, false, false, false, false, false, false, false, false] rfl rfl (any_of HT_.out (by kernel_rfl)) (fun _ _ _ h => h) (Or.inl ⟨by rfl, ?_⟩) ?_ ?_
      rotate_left
      ·intro w'
       go_simp
       with_reducible rfl
      rotate_left
      ·simp only [Act.put, List.setIfInBounds_toArray, List.set_cons_zero, List.set_cons_succ, i64_w, i32_w]
       rfl
      refine pure_ (i := 4) (N := some 19) (v := ?_) (a' := ?_) #[true, true, true, true, true, false, false, false, false, false, false, false, false, false, false, false, false, false, false, false, false, false, false, false, false, false] rfl rfl (any_of HT_.out (by kernel_rfl)) (fun _ _ _ h => h) (Or.inl ⟨by rfl, ?_⟩) ?_ ?_
      rotate_left
      ·intro w'
       go_simp
       with_reducible rfl
      rotate_left
      ·simp only [Act.put, List.setIfInBounds_toArray, List.set_cons_zero, List.set_cons_succ, i64_w, i32_w]
       rfl
      refine pure_ (i := 5) (N := some 20) (v := ?_) (a' := ?_) #[true, true, true, true, true, true, false, false, false, false, false, false, false, false, false, false, false, false, false, false, false, false, false, false, false, false] rfl rfl (any_of HT_.out (by kernel_rfl)) (fun _ _ _ h => h) (Or.inl ⟨by rfl, ?_⟩) ?_ ?_
      rotate_left
      ·intro w'
       go_simp
       with_reducible rfl
      rotate_left
      ·simp only [Act.put, List.setIfInBounds_toArray, List.set_cons_zero, List.set_cons_succ, i64_w, i32_w]
       rfl
      refine pure_ (i := 6) (N := some 21) (v := ?_) (a' := ?_) #[true, true, true, true, true, true, true, false, false, false, false, false, false, false, false, false, false, false, false, false, false, false, false, false, false, false] rfl rfl (any_of HT_.out (by kernel_rfl)) (fun _ _ _ h => h) (Or.inl ⟨by rfl, ?_⟩) ?_ ?_
      rotate_left
      ·intro w'
       go_simp
       with_reducible rfl
      rotate_left
      ·simp only [Act.put, List.setIfInBounds_toArray, List.set_cons_zero, List.set_cons_succ, i64_w, i32_w]
       rfl
      refine pure_ (i := 7) (N := some 22) (v := ?_) (a' := ?_) #[true, true, true, true, true, true, true, true, false, false, false, false, false, false, false, false, false, false, false, false, false, false, false, false, false, false] rfl rfl (any_of HT_.out (by kernel_rfl)) (fun _ _ _ h => h) (Or.inl ⟨by rfl, ?_⟩) ?_ ?_
      rotate_left
      ·intro w'
       go_simp
       with_reducible rfl
      rotate_left
      ·simp only [Act.put, List.setIfInBounds_toArray, List.set_cons_zero, List.set_cons_succ, i64_w, i32_w]
       rfl
      refine pure_ (i := 8) (N := some 23) (v := ?_) (a' := ?_) #[true, true, true, true, true, true, true, true, true, false, false, false, false, false, false, false, false, false, false, false, false, false, false, false, false, false] rfl rfl (any_of HT_.out (by kernel_rfl)) (fun _ _ _ h => h) (Or.inl ⟨by rfl, ?_⟩) ?_ ?_
      rotate_left
      ·intro w'
       go_simp
       with_reducible rfl
      rotate_left
      ·simp only [Act.put, List.setIfInBounds_toArray, List.set_cons_zero, List.set_cons_succ, i64_w, i32_w]
       rfl
      refine pure_ (i := 9) (N := some 24) (v := ?_) (a' := ?_) #[true, true, true, true, true, true, true, true, true, true, false, false, false, false, false, false, false, false, false, false, false, false, false, false, false, false] rfl rfl (any_of HT_.out (by kernel_rfl)) (fun _ _ _ h => h) (Or.inl ⟨by rfl, ?_⟩) ?_ ?_
      rotate_left
      ·intro w'
       go_simp
       with_reducible rfl
      rotate_left
      ·simp only [Act.put, List.setIfInBounds_toArray, List.set_cons_zero, List.set_cons_succ, i64_w, i32_w]
       rfl
      refine pure_ (i := 11) (N := some 26) (v := ?_) (a' := ?_) #[true, true, true, true, true, true, true, true, true, true, false, true, false, false, false, false, false, false, false, false, false, false, false, false, false, false] rfl rfl (any_of HT_.out (by kernel_rfl)) (fun _ _ _ h => h) (Or.inl ⟨by rfl, ?_⟩) ?_ ?_
      rotate_left
      ·intro w'
       go_simp
       with_reducible rfl
      rotate_left
      ·simp only [Act.put, List.setIfInBounds_toArray, List.set_cons_zero, List.set_cons_succ, i64_w, i32_w]
       rfl
      refine take_ (i := 10) (N := some 25) (v := ?_) (a' := ?_) #[true, true, true, true, true, true, true, true, true, true, true, true, false, false, false, false, false, false, false, false, false, false, false, false, false, false] rfl rfl (take_ofW HT_.out HW_.out (by kernel_rfl)) (fun _ _ _ h => h) (Or.inl ⟨by rfl, ?_⟩) hHeld ?_ ?_
      rotate_left
      ·intro w' s0
       go_simp
       with_reducible rfl
      rotate_left
      ·simp only [Act.put, List.setIfInBounds_toArray, List.set_cons_zero, List.set_cons_succ, i64_w, i32_w]
       rfl
      refine one_ (i := 12) (N := some 27) #[true, true, true, true, true, true, true, true, true, true, true, true, true, false, false, false, false, false, false, false, false, false, false, false, false, false] rfl rfl (one_of HT_.out (by kernel_rfl)) (by decide) (fun K hK => ?_)
      refine goes_ Try.func52 (by kernel_rfl) rfl #[.int .i64 10, .int .i64 12] (by rfl) rfl rfl (by (try simp only [List.map_toArray, List.map_cons, List.map_nil]); first | done | rfl | (simp only [List.length_drop, List.length_take]; rfl)) ?_
      with_reducible refine (thermionlaw04_of.calls 10 12 t159 t160 _ A8.out).mono ?_
      rintro e w34 ⟨rfl, hb⟩
      have HS0_ := (hb.cell (World.block_lt_of_cell? _ _ (hHeld))).trans (hHeld)
      refine ⟨_, rfl, ?_⟩
      have n0_ := Aside0.mk (Kd.R_below (by (with_reducible repeat (first | apply Kd.R_alloc | apply Kd.R_drewN | apply Kd.R_drew)); exact HO147.out) hb)
      have n1_ := Aside0.mk (Kd.N_below (by (with_reducible repeat (first | apply Kd.N_alloc | apply Kd.N_drewN | apply Kd.N_drew)); exact HO150.out) hb)
      have n2_ := Aside0.mk (Kd.N_below (by (with_reducible repeat (first | apply Kd.N_alloc | apply Kd.N_drewN | apply Kd.N_drew)); exact HO154.out) hb)
      have n3_ := Aside0.mk (Kd.V_below (by (with_reducible repeat (first | apply Kd.V_alloc | apply Kd.V_drewN | apply Kd.V_drew)); exact HL158_0.out) hb)
      have n4_ := Aside0.mk (Kd.C_below (by repeat (first | (with_reducible exact HR158_0.out) | (with_reducible refine Kd.C_alloc ?_ _) | (with_reducible refine Kd.C_drewN ?_ _) | (with_reducible refine Kd.C_drew ?_) | exact HR158_0.out)) hb)
      have n5_ := Aside0.mk (below_step (by repeat (first | (with_reducible first | exact HB.out | apply below_alloc | apply pw_below_drewN | apply below_drew1) | exact HB.out)) hb)
      clear HO147
      clear HO150
      clear HO154
      clear HL158_0
      clear HR158_0
      clear HB
      have HO147 := n0_
      have HO150 := n1_
      have HO154 := n2_
      have HL158_0 := n3_
      have HR158_0 := n4_
      have HB := n5_
      clear n0_ n1_ n2_ n3_ n4_ n5_
      (try clear hb)
      (try clear hb2)
      (try clear hk)
      (try clear hi)
      refine hK.out _ _ (HS0_) (fun hHeld => ?_)
      clear hK K
      refine norm_ (a' := ?_) ?_ ?_
      rotate_left
      ·show Act.put _ (some 27) _ = _
       simp only [Act.put, List.setIfInBounds_toArray, List.set_cons_zero, List.set_cons_succ, i64_w, i32_w]
       rfl
      refine one_ (i := 13) (N := some 28) #[true, true, true, true, true, true, true, true, true, true, true, true, true, true, false, false, false, false, false, false, false, false, false, false, false, false] rfl rfl (one_of HT_.out (by kernel_rfl)) (by decide) (fun K hK => ?_)
      refine goes_ Try.func52 (by kernel_rfl) rfl #[.int .i64 17, .int .i64 18] (by rfl) rfl rfl (by (try simp only [List.map_toArray, List.map_cons, List.map_nil]); first | done | rfl | (simp only [List.length_drop, List.length_take]; rfl)) ?_
      with_reducible refine (thermionlaw04_of.calls 17 18 t161 t162 _ A9.out).mono ?_
      rintro e w35 ⟨rfl, hb⟩
      have HS0_ := (hb.cell (World.block_lt_of_cell? _ _ (hHeld))).trans (hHeld)
      refine ⟨_, rfl, ?_⟩
      have n0_ := Aside0.mk (Kd.R_below (by (with_reducible repeat (first | apply Kd.R_alloc | apply Kd.R_drewN | apply Kd.R_drew)); exact HO147.out) hb)
      have n1_ := Aside0.mk (Kd.N_below (by (with_reducible repeat (first | apply Kd.N_alloc | apply Kd.N_drewN | apply Kd.N_drew)); exact HO150.out) hb)
      have n2_ := Aside0.mk (Kd.N_below (by (with_reducible repeat (first | apply Kd.N_alloc | apply Kd.N_drewN | apply Kd.N_drew)); exact HO154.out) hb)
      have n3_ := Aside0.mk (Kd.V_below (by (with_reducible repeat (first | apply Kd.V_alloc | apply Kd.V_drewN | apply Kd.V_drew)); exact HL158_0.out) hb)
      have n4_ := Aside0.mk (Kd.C_below (by repeat (first | (with_reducible exact HR158_0.out) | (with_reducible refine Kd.C_alloc ?_ _) | (with_reducible refine Kd.C_drewN ?_ _) | (with_reducible refine Kd.C_drew ?_) | exact HR158_0.out)) hb)
      have n5_ := Aside0.mk (below_step (by repeat (first | (with_reducible first | exact HB.out | apply below_alloc | apply pw_below_drewN | apply below_drew1) | exact HB.out)) hb)
      clear HO147
      clear HO150
      clear HO154
      clear HL158_0
      clear HR158_0
      clear HB
      have HO147 := n0_
      have HO150 := n1_
      have HO154 := n2_
      have HL158_0 := n3_
      have HR158_0 := n4_
      have HB := n5_
      clear n0_ n1_ n2_ n3_ n4_ n5_
      (try clear hb)
      (try clear hb2)
      (try clear hk)
      (try clear hi)
      refine hK.out _ _ (HS0_) (fun hHeld => ?_)
      clear hK K
      refine norm_ (a' := ?_) ?_ ?_
      rotate_left
      ·show Act.put _ (some 28) _ = _
       simp only [Act.put, List.setIfInBounds_toArray, List.set_cons_zero, List.set_cons_succ, i64_w, i32_w]
       rfl
      refine one_ (i := 14) (N := some 29) #[true, true, true, true, true, true, true, true, true, true, true, true, true, true, true, false, false, false, false, false, false, false, false, false, false, false] rfl rfl (one_of HT_.out (by kernel_rfl)) (by decide) (fun K hK => ?_)
      refine Kd.R_lit_step k32 _ 32 ?hg (N := 29) ?hd (xs := ([(⟨0, 0⟩ : S32), (⟨t159, t160⟩ : S32), (⟨t161, t162⟩ : S32)] : List (S32))) (inner := [.int .i64 0, .int .i64 0, .int .i64 t159, .int .i64 t160, .int .i64 t161, .int .i64 t162]) (ok := fun _ => True) (okp := fun _ => True) ?hr ?hp (fun _ hk => hk) trivial (Below.refl _ _) (Nat.le_refl _) (by simp) ?_; (case hd => rfl); (case hg => rfl); (case hr => first | (go_simp; done) | (go_simp; rfl)); (case hp => exact (Reps.c2 (show Kd.M k32 _ _ _ (⟨0, 0⟩ : S32) [.int .i64 0, .int .i64 0] from (k32_mkM _ _ _ (⟨0, 0⟩ : S32) )) (Reps.c2 (show Kd.M k32 _ _ _ (⟨t159, t160⟩ : S32) [.int .i64 t159, .int .i64 t160] from (k32_mkM _ _ _ (⟨t159, t160⟩ : S32) )) (Reps.c2 (show Kd.M k32 _ _ _ (⟨t161, t162⟩ : S32) [.int .i64 t161, .int .i64 t162] from (k32_mkM _ _ _ (⟨t161, t162⟩ : S32) )) (Reps.none _ _)))))
      intro v164 w36 ho37 hb hg_ hnew_
      have HS0_ := (hb.cell (World.block_lt_of_cell? _ _ (hHeld))).trans (hHeld)
      clear hg_ hnew_
      (first | rw [← Ny163.out] at ho37 | (simp only [Int.reduceToNat] at ho37; rw [← Ny163.out] at ho37))
      have n0_ := Aside0.mk (Kd.R_below (by (with_reducible repeat (first | apply Kd.R_alloc | apply Kd.R_drewN | apply Kd.R_drew)); exact HO147.out) hb)
      have n1_ := Aside0.mk (Kd.N_elder' (by (with_reducible repeat (first | apply Kd.N_alloc | apply Kd.N_drewN | apply Kd.N_drew)); exact HO150.out) (Kd.R_base ho37) hb)
      have n2_ := Aside0.mk (Kd.N_elder' (by (with_reducible repeat (first | apply Kd.N_alloc | apply Kd.N_drewN | apply Kd.N_drew)); exact HO154.out) (Kd.R_base ho37) hb)
      have n3_ := Aside0.mk (Kd.V_elder' (by (with_reducible repeat (first | apply Kd.V_alloc | apply Kd.V_drewN | apply Kd.V_drew)); exact HL158_0.out) (Kd.R_base ho37) hb)
      have n4_ := Aside0.mk (Kd.R_lower ho37 (below_size (by repeat (first | (with_reducible first | exact HB.out | apply below_alloc | apply pw_below_drewN | apply below_drew1) | exact HB.out))))
      have n5_ := Aside0.mk (Kd.C_below (by repeat (first | (with_reducible exact HR158_0.out) | (with_reducible refine Kd.C_alloc ?_ _) | (with_reducible refine Kd.C_drewN ?_ _) | (with_reducible refine Kd.C_drew ?_) | exact HR158_0.out)) hb)
      have n6_ := Aside0.mk (below_step (by repeat (first | (with_reducible first | exact HB.out | apply below_alloc | apply pw_below_drewN | apply below_drew1) | exact HB.out)) hb)
      clear HO147
      clear HO150
      clear HO154
      clear HL158_0
      clear HR158_0
      clear HB
      have HO147 := n0_
      have HO150 := n1_
      have HO154 := n2_
      have HL158_0 := n3_
      have HO165 := n4_
      have HR158_0 := n5_
      have HB := n6_
      clear n0_ n1_ n2_ n3_ n4_ n5_ n6_
      clear hb ho37
      obtain ⟨Ao38, co38, eo38⟩ := Kd.R_slice HO165.out
      (first | subst eo38 | (injection eo38 with f1_ f2_ f3_; have f4_ := f1_.symm; have f5_ := f3_.symm; clear f1_ f2_ f3_; subst f4_; subst f5_))
      refine hK.out _ _ (HS0_) (fun hHeld => ?_)
      clear hK K
      refine norm_ (a' := ?_) ?_ ?_
      rotate_left
      ·show Act.put _ (some 29) _ = _
       simp only [Act.put, List.setIfInBounds_toArray, List.set_cons_zero, List.set_cons_succ, i64_w, i32_w]
       rfl
      refine one_ (i := 15) (N := some 30) #[true, true, true, true, true, true, true, true, true, true, true, true, true, true, true, true, false, false, false, false, false, false, false, false, false, false] rfl rfl (one_of HT_.out (by kernel_rfl)) (by decide) (fun K hK => ?_)
      refine goes_ Try.func88 (by kernel_rfl) rfl #[.slice A158_0 (rd_L6 t148 0).length c158_0, .slice Ao38 y163.length co38] (by rfl) rfl rfl (by (try simp only [List.map_toArray, List.map_cons, List.map_nil]); first | done | rfl | (simp only [List.length_drop, List.length_take]; rfl)) ?_
      with_reducible refine (thermionkit_SameRanges.calls k _ _ (rd_L6 t148 0) _ _ y163 true _ ?side1 ?side2 ?side3 ?side4 A10.out).mono ?_
      (case side1 => repeat (first | exact (by repeat (first | (with_reducible exact HR158_0.out) | (with_reducible refine Kd.C_alloc ?_ _) | (with_reducible refine Kd.C_drewN ?_ _) | (with_reducible refine Kd.C_drew ?_) | exact HR158_0.out)) | (with_reducible refine Kd.C_alloc ?_ _) | (with_reducible refine Kd.C_drewN ?_ _) | (with_reducible refine Kd.C_drew ?_)))
      (case side2 => exact HC158_0.out)
      (case side3 => repeat (first | exact (Kd.R_reads' HO165.out).2.2 | (with_reducible refine Kd.C_alloc ?_ _) | (with_reducible refine Kd.C_drewN ?_ _) | (with_reducible refine Kd.C_drew ?_)))
      (case side4 => exact (Kd.R_reads' HO165.out).2.1)
      rintro e w' ⟨rfl, ⟨nd, rfl⟩⟩
      refine ⟨_, rfl, ?_⟩
      refine hK.out _ _ (hHeld) (fun hHeld => ?_)
      clear hK K
      refine norm_ (a' := ?_) ?_ ?_
      rotate_left
      ·show Act.put _ (some 30) _ = _
       simp only [Act.put, List.setIfInBounds_toArray, List.set_cons_zero, List.set_cons_succ, i64_w, i32_w]
       rfl
      refine pure_ (i := 16) (N := some 31) (v := ?_) (a' := ?_) #[true, true, true, true, true, true, true, true, true, true, true, true, true, true, true, true, true, false, false, false, false, false, false, false, false, false] rfl rfl (any_of HT_.out (by kernel_rfl)) (fun _ _ _ h => h) (Or.inl ⟨by rfl, ?_⟩) ?_ ?_
      rotate_left
      ·intro w'
       go_simp
       with_reducible rfl
      rotate_left
      ·simp only [Act.put, List.setIfInBounds_toArray, List.set_cons_zero, List.set_cons_succ, i64_w, i32_w]
       rfl
      refine pure_ (i := 17) (N := some 32) (v := ?_) (a' := ?_) #[true, true, true, true, true, true, true, true, true, true, true, true, true, true, true, true, true, true, false, false, false, false, false, false, false, false] rfl rfl (any_of HT_.out (by kernel_rfl)) (fun _ _ _ h => h) (Or.inl ⟨by rfl, ?_⟩) ?_ ?_
      rotate_left
      ·intro w'
       go_simp
       with_reducible rfl
      rotate_left
      ·simp only [Act.put, List.setIfInBounds_toArray, List.set_cons_zero, List.set_cons_succ, i64_w, i32_w]
       rfl
      refine pure_ (i := 18) (N := some 33) (v := ?_) (a' := ?_) #[true, true, true, true, true, true, true, true, true, true, true, true, true, true, true, true, true, true, true, false, false, false, false, false, false, false] rfl rfl (any_of HT_.out (by kernel_rfl)) (fun _ _ _ h => h) (Or.inl ⟨by rfl, ?_⟩) ?_ ?_
      rotate_left
      ·intro w'
       go_simp
       with_reducible rfl
      rotate_left
      ·simp only [Act.put, List.setIfInBounds_toArray, List.set_cons_zero, List.set_cons_succ, i64_w, i32_w]
       rfl
      refine pure_ (i := 19) (N := some 34) (v := ?_) (a' := ?_) #[true, true, true, true, true, true, true, true, true, true, true, true, true, true, true, true, true, true, true, true, false, false, false, false, false, false] rfl rfl (any_of HT_.out (by kernel_rfl)) (fun _ _ _ h => h) (Or.inl ⟨by rfl, ?_⟩) ?_ ?_
      rotate_left
      ·intro w'
       go_simp
       with_reducible rfl
      rotate_left
      ·simp only [Act.put, List.setIfInBounds_toArray, List.set_cons_zero, List.set_cons_succ, i64_w, i32_w]
       rfl
      refine pure_ (i := 20) (N := some 35) (v := ?_) (a' := ?_) #[true, true, true, true, true, true, true, true, true, true, true, true, true, true, true, true, true, true, true, true, true, false, false, false, false, false] rfl rfl (any_of HT_.out (by kernel_rfl)) (fun _ _ _ h => h) (Or.inl ⟨by rfl, ?_⟩) ?_ ?_
      rotate_left
      ·intro w'
       go_simp
       with_reducible rfl
      rotate_left
      ·simp only [Act.put, List.setIfInBounds_toArray, List.set_cons_zero, List.set_cons_succ, i64_w, i32_w]
       rfl
      refine pure_ (i := 21) (N := some 36) (v := ?_) (a' := ?_) #[true, true, true, true, true, true, true, true, true, true, true, true, true, true, true, true, true, true, true, true, true, true, false, false, false, false] rfl rfl (any_of HT_.out (by kernel_rfl)) (fun _ _ _ h => h) (Or.inl ⟨by rfl, ?_⟩) ?_ ?_
      rotate_left
      ·intro w'
       go_simp
       with_reducible rfl
      rotate_left
      ·simp only [Act.put, List.setIfInBounds_toArray, List.set_cons_zero, List.set_cons_succ, i64_w, i32_w]
       rfl
      refine pure_ (i := 22) (N := some 37) (v := undef) (a' := ?_) #[true, true, true, true, true, true, true, true, true, true, true, true, true, true, true, true, true, true, true, true, true, true, true, false, false, false] rfl rfl (any_of HT_.out (by kernel_rfl)) (fun _ _ _ h => h) (Or.inr ⟨by rfl, rfl⟩) ?_ ?_
      rotate_left
      ·simp only [Act.put, List.setIfInBounds_toArray, List.set_cons_zero, List.set_cons_succ, i64_w, i32_w]
       rfl
      refine pure_ (i := 23) (N := some 38) (v := undef) (a' := ?_) #[true, true, true, true, true, true, true, true, true, true, true, true, true, true, true, true, true, true, true, true, true, true, true, true, false, false] rfl rfl (any_of HT_.out (by kernel_rfl)) (fun _ _ _ h => h) (Or.inr ⟨by rfl, rfl⟩) ?_ ?_
      rotate_left
      ·simp only [Act.put, List.setIfInBounds_toArray, List.set_cons_zero, List.set_cons_succ, i64_w, i32_w]
       rfl
      refine pure_ (i := 24) (N := some 39) (v := ?_) (a' := ?_) #[true, true, true, true, true, true, true, true, true, true, true, true, true, true, true, true, true, true, true, true, true, true, true, true, true, false] rfl rfl (any_of HT_.out (by kernel_rfl)) (fun _ _ _ h => h) (Or.inl ⟨by rfl, ?_⟩) ?_ ?_
      rotate_left
      ·intro w'
       go_simp
       with_reducible rfl
      rotate_left
      ·simp only [Act.put, List.setIfInBounds_toArray, List.set_cons_zero, List.set_cons_succ, i64_w, i32_w]
       rfl
      refine pure_ (i := 25) (N := some 0) (v := ?_) (a' := ?_) #[true, true, true, true, true, true, true, true, true, true, true, true, true, true, true, true, true, true, true, true, true, true, true, true, true, true] rfl rfl (any_of HT_.out (by kernel_rfl)) (fun _ _ _ h => h) (Or.inl ⟨by rfl, ?_⟩) ?_ ?_
      rotate_left
      ·intro w'
       go_simp
       with_reducible rfl
      rotate_left
      ·simp only [Act.put, List.setIfInBounds_toArray, List.set_cons_zero, List.set_cons_succ, i64_w, i32_w]
       rfl
      refine done_ (done_of HT_.out (by kernel_rfl)) ?_
      try go_wp2
      go_ret
      exact ⟨by first | rfl | (simp [errW_none, errW_some] <;> rfl) | (simp [*, errW_none, errW_some] <;> rfl), by repeat (first | (with_reducible first | exact HB.out | apply below_alloc | apply pw_below_drewN | apply below_drew1) | exact HB.out)⟩
    ·replace c11 := Bool.eq_false_iff.mpr c11
     subst c11
     have H1 : (some false) = some r := by rw [if_neg (show ¬ (false = true) by decide)] at H; exact H
     clear H
     have H := H1
     clear H1
     obtain rfl := Option.some.inj H
     go_enter Try.func21, Try.ntmps21
     try go_wp2_with (first | ((with_reducible refine gate_callee (f := 87) rfl ?_); refine goesL_ (some 6) rfl rfl Try.func87 (by kernel_rfl) rfl #[] rfl (by (try simp only [List.map_toArray, List.map_cons, List.map_nil]); first | done | rfl | (simp only [List.length_drop, List.length_take]; rfl)) ?_; (with_reducible refine (thermionlaw04_chain.calls  t144 t145 _ A1.out).mono ?_); rintro e w39 ⟨v146, rfl, ho0, hb⟩; refine ⟨_, rfl, ?_⟩; have n0_ := Aside0.mk (Kd.R_lower ho0 (below_size (by repeat (first | (with_reducible first | exact HB.out | apply below_alloc | apply pw_below_drewN | apply below_drew1) | exact HB.out)))); have n1_ := Aside0.mk (below_step (by repeat (first | (with_reducible first | exact HB.out | apply below_alloc | apply pw_below_drewN | apply below_drew1) | exact HB.out)) hb); clear HB; have HO147 := n0_; have HB := n1_; clear n0_ n1_; (try clear hb); (try clear hb2); (try clear hk); (try clear hi); (try clear ho0); obtain ⟨Ao40, co40, eo40⟩ := Kd.R_slice HO147.out; subst eo40) | ((with_reducible refine gate_callee (f := 24) rfl ?_); refine goesL_ (some 7) rfl rfl Try.func24 (by kernel_rfl) rfl #[.agg #[.int .i64 t144, .slice Ao40 t145.length co40]] rfl (by (try simp only [List.map_toArray, List.map_cons, List.map_nil]); first | done | rfl | (simp only [List.length_drop, List.length_take]; rfl)) ?_; (with_reducible refine (mount_Tight.calls t144 _ _ t145 t148 t151 _ ?side1 ?side2 A2.out).mono ?_); (case side1 => repeat (first | exact (Kd.R_reads' HO147.out).2.2 | (with_reducible refine Kd.C_alloc ?_ _) | (with_reducible refine Kd.C_drewN ?_ _) | (with_reducible refine Kd.C_drew ?_))); (case side2 => exact (Kd.R_reads' HO147.out).2.1); rintro e w41 ⟨v149, rfl, ho0, hb⟩; refine ⟨_, rfl, ?_⟩; have n0_ := Aside0.mk (Kd.R_below (by (with_reducible repeat (first | apply Kd.R_alloc | apply Kd.R_drewN | apply Kd.R_drew)); exact HO147.out) hb); have n1_ := Aside0.mk (Kd.N_lower (Kd.N_mono (ok' := fun k_ => some k_ ≠ (.slice Ao40 t145.length co40 : Value).ownBlock) (Kd.S_N (Kd.S_bound ho0)) (fun k_ hk_ => (Kd.fresh' (Kd.R_lt (by (with_reducible repeat (first | apply Kd.R_alloc | apply Kd.R_drewN | apply Kd.R_drew)); exact HO147.out)) k_ hk_.2.1))) (below_size (by repeat (first | (with_reducible first | exact HB.out | apply below_alloc | apply pw_below_drewN | apply below_drew1) | exact HB.out)))); have n2_ := Aside0.mk (below_step (by repeat (first | (with_reducible first | exact HB.out | apply below_alloc | apply pw_below_drewN | apply below_drew1) | exact HB.out)) hb); clear HO147; clear HB; have HO147 := n0_; have HO150 := n1_; have HB := n2_; clear n0_ n1_ n2_; (try clear hb); (try clear hb2); (try clear hk); (try clear hi); (try clear ho0)) | ((with_reducible refine gate_callee (f := 59) rfl ?_); refine goesL_ (some 11) rfl rfl Try.func59 (by kernel_rfl) rfl #[] rfl (by (try simp only [List.map_toArray, List.map_cons, List.map_nil]); first | done | rfl | (simp only [List.length_drop, List.length_take]; rfl)) ?_; (with_reducible refine (thermionlaw04_kit.calls  t152 t155 _ A3.out).mono ?_); rintro e w42 ⟨v153, rfl, ho0, hb⟩; refine ⟨_, rfl, ?_⟩; have n0_ := Aside0.mk (Kd.R_below (by (with_reducible repeat (first | apply Kd.R_alloc | apply Kd.R_drewN | apply Kd.R_drew)); exact HO147.out) hb); have n1_ := Aside0.mk (Kd.N_elder' (by (with_reducible repeat (first | apply Kd.N_alloc | apply Kd.N_drewN | apply Kd.N_drew)); exact HO150.out) (Kd.N_base ho0) hb); have n2_ := Aside0.mk (Kd.N_lower (Kd.N_mono (ok' := fun k_ => some k_ ≠ (.slice Ao40 t145.length co40 : Value).ownBlock ∧ some k_ ≠ (v149 : Value).ownBlock) ho0 (fun k_ hk_ => ⟨(Kd.fresh' (Kd.R_lt (by (with_reducible repeat (first | apply Kd.R_alloc | apply Kd.R_drewN | apply Kd.R_drew)); exact HO147.out)) k_ hk_), (Kd.fresh' (Kd.N_lt (by (with_reducible repeat (first | apply Kd.N_alloc | apply Kd.N_drewN | apply Kd.N_drew)); exact HO150.out)) k_ hk_)⟩)) (below_size (by repeat (first | (with_reducible first | exact HB.out | apply below_alloc | apply pw_below_drewN | apply below_drew1) | exact HB.out)))); have n3_ := Aside0.mk (below_step (by repeat (first | (with_reducible first | exact HB.out | apply below_alloc | apply pw_below_drewN | apply below_drew1) | exact HB.out)) hb); clear HO147; clear HO150; clear HB; have HO147 := n0_; have HO150 := n1_; have HO154 := n2_; have HB := n3_; clear n0_ n1_ n2_ n3_; (try clear hb); (try clear hb2); (try clear hk); (try clear hi); (try clear ho0); obtain ⟨Ao43, co43, eo43⟩ := Kd.N_slice HO154.out; subst eo43) | ((with_reducible refine gate_callee (f := 30) rfl ?_); refine goesL_ (some 12) rfl rfl Try.func30 (by kernel_rfl) rfl #[.agg #[.slice Ao43 t152.length co43, .int .i64 t155]] rfl (by (try simp only [List.map_toArray, List.map_cons, List.map_nil]); first | done | rfl | (simp only [List.length_drop, List.length_take]; rfl)) ?_; (with_reducible refine (mount_Orders.calls _ _ t152 t155 t156 t157 _ ?side1 ?side2 A4.out).mono ?_); (case side1 => repeat (first | exact (Kd.N_reads' HO154.out).2.2 | (with_reducible refine Kd.C_alloc ?_ _) | (with_reducible refine Kd.C_drewN ?_ _) | (with_reducible refine Kd.C_drew ?_))); (case side2 => exact (Kd.N_reads' HO154.out).2.1); rintro e w44 ⟨rfl, hb⟩; refine ⟨_, rfl, ?_⟩; have n0_ := Aside0.mk (Kd.R_below (by (with_reducible repeat (first | apply Kd.R_alloc | apply Kd.R_drewN | apply Kd.R_drew)); exact HO147.out) hb); have n1_ := Aside0.mk (Kd.N_below (by (with_reducible repeat (first | apply Kd.N_alloc | apply Kd.N_drewN | apply Kd.N_drew)); exact HO150.out) hb); have n2_ := Aside0.mk (Kd.N_below (by (with_reducible repeat (first | apply Kd.N_alloc | apply Kd.N_drewN | apply Kd.N_drew)); exact HO154.out) hb); have n3_ := Aside0.mk (below_step (by repeat (first | (with_reducible first | exact HB.out | apply below_alloc | apply pw_below_drewN | apply below_drew1) | exact HB.out)) hb); clear HO147; clear HO150; clear HO154; clear HB; have HO147 := n0_; have HO150 := n1_; have HO154 := n2_; have HB := n3_; clear n0_ n1_ n2_ n3_; (try clear hb); (try clear hb2); (try clear hk); (try clear hi)))
     have n0_ := Aside0.mk (Kd.R_drew HO147.out)
     have n1_ := Aside0.mk (Kd.N_drew HO150.out)
     have n2_ := Aside0.mk (Kd.N_drew HO154.out)
     have n3_ := Aside0.mk (below_drew1 HB.out)
     clear HO147
     clear HO150
     clear HO154
     clear HB
     have HO147 := n0_
     have HO150 := n1_
     have HO154 := n2_
     have HB := n3_
     clear n0_ n1_ n2_ n3_
     obtain ⟨Ao46, co46, eo46⟩ := Kd.N_slice HO150.out
     (first | subst eo46 | (injection eo46 with f1_ f2_ f3_; have f4_ := f1_.symm; have f5_ := f3_.symm; clear f1_ f2_ f3_; subst f4_; subst f5_))
     have p158 : 0 ≤ (0 : Int) := (by omega)
     have q158 : 0 < (t148.length : Int) := of_decide_eq_true (by first | (with_reducible assumption) | assumption)
     obtain ⟨ad158, A158_0, c158_0, e158, hx158_0, hl158_0, hi158_0⟩ := at_L6 (Kd.N_reads' HO150.out).2.2 0 p158 q158
     cases e158
     obtain ⟨ce158, hce158, hMe158, hcc158⟩ := Kd.N_get HO150.out [] 0 p158 (by first | exact q158 | exact of_decide_eq_true (by first | (with_reducible assumption) | assumption) | (have e_ := (Kd.N_reads' HO150.out).1; omega))
     obtain ⟨ua158_0, uc158_0, rfl, ul158_0, ge158_0⟩ := Kd.FK_slice_open hMe158
     have hv158_0 := hcc158 0 _ rfl
     rw [Nat.add_zero, show ((Kd.slice 32 k32)).sz = 1 from rfl, Nat.mul_one] at hv158_0
     replace hv158_0 := Option.some.inj (hv158_0.symm.trans hx158_0)
     injection hv158_0 with hva_ hvn_ hvc_
     rw [hva_] at ge158_0
     rw [hvc_] at ul158_0
     have HL158_0 := Aside0.mk (show Kd.V k32 32 _ w.heap.size _ _ (rd_L6 t148 0) from Kd.V_mk ul158_0 ge158_0)
     clear hva_ hvn_ hvc_ ge158_0 ul158_0
     clear hcc158 hce158
     have qi158 : (0 < t148.length) = True := eq_true (by omega)
     (try rw [show ((0 : Int)).toNat = 0 from rfl] at hx158_0)
     (try rw [Addr.add_zero'] at hx158_0)
     have HR158_0 := Aside0.mk hi158_0
     have HC158_0 := Aside0.mk hl158_0
     clear hi158_0 hl158_0
     replace p158 := eq_true p158
     replace q158 := eq_true q158
     refine start_ (n := 26) (S := fun w' => w'.cell? ad158 = some (.slice A158_0 (rd_L6 t148 0).length c158_0)) (ds := []) #[false, false, false, false, false, false, false, false, false, false, false, false, false, false, false, false, false, false, false, false, false, false, false, false, false, false] (by kernel_rfl) rfl rfl (hx158_0) (fun hHeld => ?_); refine with_tabW thermionlaw04_awake.tab3 thermionlaw04_awake.bits3 (fun HT_ HW_ => ?_)
     generalize w44.drew = w45 at HO147 HO150 HO154 HB HL158_0 HR158_0 hx158_0 hHeld ⊢
     refine pure_ (i := 0) (N := some 15) (v := ?_) (a' := ?_) #[true, false, false, false, false, false, false, false, false, false, false, false, false, false, false, false, false, false, false, false, false, false, false, false, false, false] rfl rfl (any_of HT_.out (by kernel_rfl)) (fun _ _ _ h => h) (Or.inl ⟨by rfl, ?_⟩) ?_ ?_
     rotate_left
     ·intro w'
      go_simp
      with_reducible rfl
     rotate_left
     ·simp only [Act.put, List.setIfInBounds_toArray, List.set_cons_zero, List.set_cons_succ, i64_w, i32_w]
      rfl
     refine pure_ (i := 1) (N := some 16) (v := ?_) (a' := ?_) #[true, true, false, false, false, false, false, false, false, false, false, false, false, false, false, false, false, false, false, false, false, false, false, false, false, false] rfl rfl (any_of HT_.out (by kernel_rfl)) (fun _ _ _ h => h) (Or.inl ⟨by rfl, ?_⟩) ?_ ?_
     rotate_left
     ·intro w'
      go_simp
      with_reducible rfl
     rotate_left
     ·simp only [Act.put, List.setIfInBounds_toArray, List.set_cons_zero, List.set_cons_succ, i64_w, i32_w]
      rfl
     refine pure_ (i := 2) (N := some 17) (v := ?_) (a' := ?_) #[true, true, true, false, false, false, false, false, false, false, false, false, false, false, false, false, false, false, false, false, false, false, false, false, false, false] rfl rfl (any_of HT_.out (by kernel_rfl)) (fun _ _ _ h => h) (Or.inl ⟨by rfl, ?_⟩) ?_ ?_
     rotate_left
     ·intro w'
      go_simp
      with_reducible rfl
     rotate_left
     ·simp only [Act.put, List.setIfInBounds_toArray, List.set_cons_zero, List.set_cons_succ, i64_w, i32_w]
      rfl
     refine pure_ (i := 3) (N := some 18) (v := ?_) (a' := ?_) #[true, true, true, true, false, false, false, false, false, false, false, false, false, false, false, false, false, false, false, false, false, false, false, false, false, false] rfl rfl (any_of HT_.out (by kernel_rfl)) (fun _ _ _ h => h) (Or.inl ⟨by rfl, ?_⟩) ?_ ?_
     rotate_left
     ·intro w'
      go_simp
      with_reducible rfl
     rotate_left
     ·simp only [Act.put, List.setIfInBounds_toArray, List.set_cons_zero, List.set_cons_succ, i64_w, i32_w]
      rfl
     refine pure_ (i := 4) (N := some 19) (v := ?_) (a' := ?_) #[true, true, true, true, true, false, false, false, false, false, false, false, false, false, false, false, false, false, false, false, false, false, false, false, false, false] rfl rfl (any_of HT_.out (by kernel_rfl)) (fun _ _ _ h => h) (Or.inl ⟨by rfl, ?_⟩) ?_ ?_
     rotate_left
     ·intro w'
      go_simp
      with_reducible rfl
     rotate_left
     ·simp only [Act.put, List.setIfInBounds_toArray, List.set_cons_zero, List.set_cons_succ, i64_w, i32_w]
      rfl
     refine pure_ (i := 5) (N := some 20) (v := ?_) (a' := ?_) #[true, true, true, true, true, true, false, false, false, false, false, false, false, false, false, false, false, false, false, false, false, false, false, false, false, false] rfl rfl (any_of HT_.out (by kernel_rfl)) (fun _ _ _ h => h) (Or.inl ⟨by rfl, ?_⟩) ?_ ?_
     rotate_left
     ·intro w'
      go_simp
      with_reducible rfl
     rotate_left
     ·simp only [Act.put, List.setIfInBounds_toArray, List.set_cons_zero, List.set_cons_succ, i64_w, i32_w]
      rfl
     refine pure_ (i := 6) (N := some 21) (v := ?_) (a' := ?_) #[true, true, true, true, true, true, true, false, false, false, false, false, false, false, false, false, false, false, false, false, false, false, false, false, false, false] rfl rfl (any_of HT_.out (by kernel_rfl)) (fun _ _ _ h => h) (Or.inl ⟨by rfl, ?_⟩) ?_ ?_
     rotate_left
     ·intro w'
      go_simp
      with_reducible rfl
     rotate_left
     ·simp only [Act.put, List.setIfInBounds_toArray, List.set_cons_zero, List.set_cons_succ, i64_w, i32_w]
      rfl
     refine pure_ (i := 7) (N := some 22) (v := ?_) (a' := ?_) #[true, true, true, true, true, true, true, true, false, false, false, false, false, false, false, false, false, false, false, false, false, false, false, false, false, false] rfl rfl (any_of HT_.out (by kernel_rfl)) (fun _ _ _ h => h) (Or.inl ⟨by rfl, ?_⟩) ?_ ?_
     rotate_left
     ·intro w'
      go_simp
      with_reducible rfl
     rotate_left
     ·simp only [Act.put, List.setIfInBounds_toArray, List.set_cons_zero, List.set_cons_succ, i64_w, i32_w]
      rfl
     refine pure_ (i := 8) (N := some 23) (v := ?_) (a' := ?_) #[true, true, true, true, true, true, true, true, true, false, false, false, false, false, false, false, false, false, false, false, false, false, false, false, false, false] rfl rfl (any_of HT_.out (by kernel_rfl)) (fun _ _ _ h => h) (Or.inl ⟨by rfl, ?_⟩) ?_ ?_
     rotate_left
     ·intro w'
      go_simp
      with_reducible rfl
     rotate_left
     ·simp only [Act.put, List.setIfInBounds_toArray, List.set_cons_zero, List.set_cons_succ, i64_w, i32_w]
      rfl
     refine pure_ (i := 9) (N := some 24) (v := ?_) (a' := ?_) #[true, true, true, true, true, true, true, true, true, true, false, false, false, false, false, false, false, false, false, false, false, false, false, false, false, false] rfl rfl (any_of HT_.out (by kernel_rfl)) (fun _ _ _ h => h) (Or.inl ⟨by rfl, ?_⟩) ?_ ?_
     rotate_left
     ·intro w'
      go_simp
      with_reducible rfl
     rotate_left
     ·simp only [Act.put, List.setIfInBounds_toArray, List.set_cons_zero, List.set_cons_succ, i64_w, i32_w]
      rfl
     refine pure_ (i := 11) (N := some 26) (v := ?_) (a' := ?_) #[true, true, true, true, true, true, true, true, true, true, false, true, false, false, false, false, false, false, false, false, false, false, false, false, false, false] rfl rfl (any_of HT_.out (by kernel_rfl)) (fun _ _ _ h => h) (Or.inl ⟨by rfl, ?_⟩) ?_ ?_
     rotate_left
     ·intro w'
      go_simp
      with_reducible rfl
     rotate_left
     ·simp only [Act.put, List.setIfInBounds_toArray, List.set_cons_zero, List.set_cons_succ, i64_w, i32_w]
      rfl
     refine take_ (i := 10) (N := some 25) (v := ?_) (a' := ?_) #[true, true, true, true, true, true, true, true, true, true, true, true, false, false, false, false, false, false, false, false, false, false, false, false, false, false] rfl rfl (take_ofW HT_.out HW_.out (by kernel_rfl)) (fun _ _ _ h => h) (Or.inl ⟨by rfl, ?_⟩) hHeld ?_ ?_
     rotate_left
     ·intro w' s0
      go_simp
      with_reducible rfl
     rotate_left
     ·simp only [Act.put, List.setIfInBounds_toArray, List.set_cons_zero, List.set_cons_succ, i64_w, i32_w]
      rfl
     refine one_ (i := 12) (N := some 27) #[true, true, true, true, true, true, true, true, true, true, true, true, true, false, false, false, false, false, false, false, false, false, false, false, false, false] rfl rfl (one_of HT_.out (by kernel_rfl)) (by decide) (fun K hK => ?_)
     refine goes_ Try.func52 (by kernel_rfl) rfl #[.int .i64 10, .int .i64 12] (by rfl) rfl rfl (by (try simp only [List.map_toArray, List.map_cons, List.map_nil]); first | done | rfl | (simp only [List.length_drop, List.length_take]; rfl)) ?_
     with_reducible refine (thermionlaw04_of.calls 10 12 t159 t160 _ A8.out).mono ?_
     rintro e w47 ⟨rfl, hb⟩
     have HS0_ := (hb.cell (World.block_lt_of_cell? _ _ (hHeld))).trans (hHeld)
     refine ⟨_, rfl, ?_⟩
     have n0_ := Aside0.mk (Kd.R_below (by (with_reducible repeat (first | apply Kd.R_alloc | apply Kd.R_drewN | apply Kd.R_drew)); exact HO147.out) hb)
     have n1_ := Aside0.mk (Kd.N_below (by (with_reducible repeat (first | apply Kd.N_alloc | apply Kd.N_drewN | apply Kd.N_drew)); exact HO150.out) hb)
     have n2_ := Aside0.mk (Kd.N_below (by (with_reducible repeat (first | apply Kd.N_alloc | apply Kd.N_drewN | apply Kd.N_drew)); exact HO154.out) hb)
     have n3_ := Aside0.mk (Kd.V_below (by (with_reducible repeat (first | apply Kd.V_alloc | apply Kd.V_drewN | apply Kd.V_drew)); exact HL158_0.out) hb)
     have n4_ := Aside0.mk (Kd.C_below (by repeat (first | (with_reducible exact HR158_0.out) | (with_reducible refine Kd.C_alloc ?_ _) | (with_reducible refine Kd.C_drewN ?_ _) | (with_reducible refine Kd.C_drew ?_) | exact HR158_0.out)) hb)
     have n5_ := Aside0.mk (below_step (by repeat (first | (with_reducible first | exact HB.out | apply below_alloc | apply pw_below_drewN | apply below_drew1) | exact HB.out)) hb)
     clear HO147
     clear HO150
     clear HO154
     clear HL158_0
     clear HR158_0
     clear HB
     have HO147 := n0_
     have HO150 := n1_
     have HO154 := n2_
     have HL158_0 := n3_
     have HR158_0 := n4_
     have HB := n5_
     clear n0_ n1_ n2_ n3_ n4_ n5_
     (try clear hb)
     (try clear hb2)
     (try clear hk)
     (try clear hi)
     refine hK.out _ _ (HS0_) (fun hHeld => ?_)
     clear hK K
     refine norm_ (a' := ?_) ?_ ?_
     rotate_left
     ·show Act.put _ (some 27) _ = _
      simp only [Act.put, List.setIfInBounds_toArray, List.set_cons_zero, List.set_cons_succ, i64_w, i32_w]
      rfl
     refine one_ (i := 13) (N := some 28) #[true, true, true, true, true, true, true, true, true, true, true, true, true, true, false, false, false, false, false, false, false, false, false, false, false, false] rfl rfl (one_of HT_.out (by kernel_rfl)) (by decide) (fun K hK => ?_)
     refine goes_ Try.func52 (by kernel_rfl) rfl #[.int .i64 17, .int .i64 18] (by rfl) rfl rfl (by (try simp only [List.map_toArray, List.map_cons, List.map_nil]); first | done | rfl | (simp only [List.length_drop, List.length_take]; rfl)) ?_
     with_reducible refine (thermionlaw04_of.calls 17 18 t161 t162 _ A9.out).mono ?_
     rintro e w48 ⟨rfl, hb⟩
     have HS0_ := (hb.cell (World.block_lt_of_cell? _ _ (hHeld))).trans (hHeld)
     refine ⟨_, rfl, ?_⟩
     have n0_ := Aside0.mk (Kd.R_below (by (with_reducible repeat (first | apply Kd.R_alloc | apply Kd.R_drewN | apply Kd.R_drew)); exact HO147.out) hb)
     have n1_ := Aside0.mk (Kd.N_below (by (with_reducible repeat (first | apply Kd.N_alloc | apply Kd.N_drewN | apply Kd.N_drew)); exact HO150.out) hb)
     have n2_ := Aside0.mk (Kd.N_below (by (with_reducible repeat (first | apply Kd.N_alloc | apply Kd.N_drewN | apply Kd.N_drew)); exact HO154.out) hb)
     have n3_ := Aside0.mk (Kd.V_below (by (with_reducible repeat (first | apply Kd.V_alloc | apply Kd.V_drewN | apply Kd.V_drew)); exact HL158_0.out) hb)
     have n4_ := Aside0.mk (Kd.C_below (by repeat (first | (with_reducible exact HR158_0.out) | (with_reducible refine Kd.C_alloc ?_ _) | (with_reducible refine Kd.C_drewN ?_ _) | (with_reducible refine Kd.C_drew ?_) | exact HR158_0.out)) hb)
     have n5_ := Aside0.mk (below_step (by repeat (first | (with_reducible first | exact HB.out | apply below_alloc | apply pw_below_drewN | apply below_drew1) | exact HB.out)) hb)
     clear HO147
     clear HO150
     clear HO154
     clear HL158_0
     clear HR158_0
     clear HB
     have HO147 := n0_
     have HO150 := n1_
     have HO154 := n2_
     have HL158_0 := n3_
     have HR158_0 := n4_
     have HB := n5_
     clear n0_ n1_ n2_ n3_ n4_ n5_
     (try clear hb)
     (try clear hb2)
     (try clear hk)
     (try clear hi)
     refine hK.out _ _ (HS0_) (fun hHeld => ?_)
     clear hK K
     refine norm_ (a' := ?_) ?_ ?_
     rotate_left
     ·show Act.put _ (some 28) _ = _
      simp only [Act.put, List.setIfInBounds_toArray, List.set_cons_zero, List.set_cons_succ, i64_w, i32_w]
      rfl
     refine one_ (i := 14) (N := some 29) #[true, true, true, true, true, true, true, true, true, true, true, true, true, true, true, false, false, false, false, false, false, false, false, false, false, false] rfl rfl (one_of HT_.out (by kernel_rfl)) (by decide) (fun K hK => ?_)
     refine Kd.R_lit_step k32 _ 32 ?hg (N := 29) ?hd (xs := ([(⟨0, 0⟩ : S32), (⟨t159, t160⟩ : S32), (⟨t161, t162⟩ : S32)] : List (S32))) (inner := [.int .i64 0, .int .i64 0, .int .i64 t159, .int .i64 t160, .int .i64 t161, .int .i64 t162]) (ok := fun _ => True) (okp := fun _ => True) ?hr ?hp (fun _ hk => hk) trivial (Below.refl _ _) (Nat.le_refl _) (by simp) ?_; (case hd => rfl); (case hg => rfl); (case hr => first | (go_simp; done) | (go_simp; rfl)); (case hp => exact (Reps.c2 (show Kd.M k32 _ _ _ (⟨0, 0⟩ : S32) [.int .i64 0, .int .i64 0] from (k32_mkM _ _ _ (⟨0, 0⟩ : S32) )) (Reps.c2 (show Kd.M k32 _ _ _ (⟨t159, t160⟩ : S32) [.int .i64 t159, .int .i64 t160] from (k32_mkM _ _ _ (⟨t159, t160⟩ : S32) )) (Reps.c2 (show Kd.M k32 _ _ _ (⟨t161, t162⟩ : S32) [.int .i64 t161, .int .i64 t162] from (k32_mkM _ _ _ (⟨t161, t162⟩ : S32) )) (Reps.none _ _)))))
     intro v164 w49 ho50 hb hg_ hnew_
     have HS0_ := (hb.cell (World.block_lt_of_cell? _ _ (hHeld))).trans (hHeld)
     clear hg_ hnew_
     (first | rw [← Ny163.out] at ho50 | (simp only [Int.reduceToNat] at ho50; rw [← Ny163.out] at ho50))
     have n0_ := Aside0.mk (Kd.R_below (by (with_reducible repeat (first | apply Kd.R_alloc | apply Kd.R_drewN | apply Kd.R_drew)); exact HO147.out) hb)
     have n1_ := Aside0.mk (Kd.N_elder' (by (with_reducible repeat (first | apply Kd.N_alloc | apply Kd.N_drewN | apply Kd.N_drew)); exact HO150.out) (Kd.R_base ho50) hb)
     have n2_ := Aside0.mk (Kd.N_elder' (by (with_reducible repeat (first | apply Kd.N_alloc | apply Kd.N_drewN | apply Kd.N_drew)); exact HO154.out) (Kd.R_base ho50) hb)
     have n3_ := Aside0.mk (Kd.V_elder' (by (with_reducible repeat (first | apply Kd.V_alloc | apply Kd.V_drewN | apply Kd.V_drew)); exact HL158_0.out) (Kd.R_base ho50) hb)
     have n4_ := Aside0.mk (Kd.R_lower ho50 (below_size (by repeat (first | (with_reducible first | exact HB.out | apply below_alloc | apply pw_below_drewN | apply below_drew1) | exact HB.out))))
     have n5_ := Aside0.mk (Kd.C_below (by repeat (first | (with_reducible exact HR158_0.out) | (with_reducible refine Kd.C_alloc ?_ _) | (with_reducible refine Kd.C_drewN ?_ _) | (with_reducible refine Kd.C_drew ?_) | exact HR158_0.out)) hb)
     have n6_ := Aside0.mk (below_step (by repeat (first | (with_reducible first | exact HB.out | apply below_alloc | apply pw_below_drewN | apply below_drew1) | exact HB.out)) hb)
     clear HO147
     clear HO150
     clear HO154
     clear HL158_0
     clear HR158_0
     clear HB
     have HO147 := n0_
     have HO150 := n1_
     have HO154 := n2_
     have HL158_0 := n3_
     have HO165 := n4_
     have HR158_0 := n5_
     have HB := n6_
     clear n0_ n1_ n2_ n3_ n4_ n5_ n6_
     clear hb ho50
     obtain ⟨Ao51, co51, eo51⟩ := Kd.R_slice HO165.out
     (first | subst eo51 | (injection eo51 with f1_ f2_ f3_; have f4_ := f1_.symm; have f5_ := f3_.symm; clear f1_ f2_ f3_; subst f4_; subst f5_))
     refine hK.out _ _ (HS0_) (fun hHeld => ?_)
     clear hK K
     refine norm_ (a' := ?_) ?_ ?_
     rotate_left
     ·show Act.put _ (some 29) _ = _
      simp only [Act.put, List.setIfInBounds_toArray, List.set_cons_zero, List.set_cons_succ, i64_w, i32_w]
      rfl
     refine one_ (i := 15) (N := some 30) #[true, true, true, true, true, true, true, true, true, true, true, true, true, true, true, true, false, false, false, false, false, false, false, false, false, false] rfl rfl (one_of HT_.out (by kernel_rfl)) (by decide) (fun K hK => ?_)
     refine goes_ Try.func88 (by kernel_rfl) rfl #[.slice A158_0 (rd_L6 t148 0).length c158_0, .slice Ao51 y163.length co51] (by rfl) rfl rfl (by (try simp only [List.map_toArray, List.map_cons, List.map_nil]); first | done | rfl | (simp only [List.length_drop, List.length_take]; rfl)) ?_
     with_reducible refine (thermionkit_SameRanges.calls k _ _ (rd_L6 t148 0) _ _ y163 false _ ?side1 ?side2 ?side3 ?side4 A10.out).mono ?_
     (case side1 => repeat (first | exact (by repeat (first | (with_reducible exact HR158_0.out) | (with_reducible refine Kd.C_alloc ?_ _) | (with_reducible refine Kd.C_drewN ?_ _) | (with_reducible refine Kd.C_drew ?_) | exact HR158_0.out)) | (with_reducible refine Kd.C_alloc ?_ _) | (with_reducible refine Kd.C_drewN ?_ _) | (with_reducible refine Kd.C_drew ?_)))
     (case side2 => exact HC158_0.out)
     (case side3 => repeat (first | exact (Kd.R_reads' HO165.out).2.2 | (with_reducible refine Kd.C_alloc ?_ _) | (with_reducible refine Kd.C_drewN ?_ _) | (with_reducible refine Kd.C_drew ?_)))
     (case side4 => exact (Kd.R_reads' HO165.out).2.1)
     rintro e w' ⟨rfl, ⟨nd, rfl⟩⟩
     refine ⟨_, rfl, ?_⟩
     refine hK.out _ _ (hHeld) (fun hHeld => ?_)
     clear hK K
     refine norm_ (a' := ?_) ?_ ?_
     rotate_left
     ·show Act.put _ (some 30) _ = _
      simp only [Act.put, List.setIfInBounds_toArray, List.set_cons_zero, List.set_cons_succ, i64_w, i32_w]
      rfl
     refine pure_ (i := 16) (N := some 31) (v := ?_) (a' := ?_) #[true, true, true, true, true, true, true, true, true, true, true, true, true, true, true, true, true, false, false, false, false, false, false, false, false, false] rfl rfl (any_of HT_.out (by kernel_rfl)) (fun _ _ _ h => h) (Or.inl ⟨by rfl, ?_⟩) ?_ ?_
     rotate_left
     ·intro w'
      go_simp
      with_reducible rfl
     rotate_left
     ·simp only [Act.put, List.setIfInBounds_toArray, List.set_cons_zero, List.set_cons_succ, i64_w, i32_w]
      rfl
     refine pure_ (i := 17) (N := some 32) (v := ?_) (a' := ?_) #[true, true, true, true, true, true, true, true, true, true, true, true, true, true, true, true, true, true, false, false, false, false, false, false, false, false] rfl rfl (any_of HT_.out (by kernel_rfl)) (fun _ _ _ h => h) (Or.inl ⟨by rfl, ?_⟩) ?_ ?_
     rotate_left
     ·intro w'
      go_simp
      with_reducible rfl
     rotate_left
     ·simp only [Act.put, List.setIfInBounds_toArray, List.set_cons_zero, List.set_cons_succ, i64_w, i32_w]
      rfl
     refine pure_ (i := 18) (N := some 33) (v := undef) (a' := ?_) #[true, true, true, true, true, true, true, true, true, true, true, true, true, true, true, true, true, true, true, false, false, false, false, false, false, false] rfl rfl (any_of HT_.out (by kernel_rfl)) (fun _ _ _ h => h) (Or.inr ⟨by rfl, rfl⟩) ?_ ?_
     rotate_left
     ·simp only [Act.put, List.setIfInBounds_toArray, List.set_cons_zero, List.set_cons_succ, i64_w, i32_w]
      rfl
     refine pure_ (i := 19) (N := some 34) (v := undef) (a' := ?_) #[true, true, true, true, true, true, true, true, true, true, true, true, true, true, true, true, true, true, true, true, false, false, false, false, false, false] rfl rfl (any_of HT_.out (by kernel_rfl)) (fun _ _ _ h => h) (Or.inr ⟨by rfl, rfl⟩) ?_ ?_
     rotate_left
     ·simp only [Act.put, List.setIfInBounds_toArray, List.set_cons_zero, List.set_cons_succ, i64_w, i32_w]
      rfl
     refine pure_ (i := 20) (N := some 35) (v := ?_) (a' := ?_) #[true, true, true, true, true, true, true, true, true, true, true, true, true, true, true, true, true, true, true, true, true, false, false, false, false, false] rfl rfl (any_of HT_.out (by kernel_rfl)) (fun _ _ _ h => h) (Or.inl ⟨by rfl, ?_⟩) ?_ ?_
     rotate_left
     ·intro w'
      go_simp
      with_reducible rfl
     rotate_left
     ·simp only [Act.put, List.setIfInBounds_toArray, List.set_cons_zero, List.set_cons_succ, i64_w, i32_w]
      rfl
     refine pure_ (i := 21) (N := some 36) (v := ?_) (a' := ?_) #[true, true, true, true, true, true, true, true, true, true, true, true, true, true, true, true, true, true, true, true, true, true, false, false, false, false] rfl rfl (any_of HT_.out (by kernel_rfl)) (fun _ _ _ h => h) (Or.inl ⟨by rfl, ?_⟩) ?_ ?_
     rotate_left
     ·intro w'
      go_simp
      with_reducible rfl
     rotate_left
     ·simp only [Act.put, List.setIfInBounds_toArray, List.set_cons_zero, List.set_cons_succ, i64_w, i32_w]
      rfl
     refine pure_ (i := 22) (N := some 37) (v := undef) (a' := ?_) #[true, true, true, true, true, true, true, true, true, true, true, true, true, true, true, true, true, true, true, true, true, true, true, false, false, false] rfl rfl (any_of HT_.out (by kernel_rfl)) (fun _ _ _ h => h) (Or.inr ⟨by rfl, rfl⟩) ?_ ?_
     rotate_left
     ·simp only [Act.put, List.setIfInBounds_toArray, List.set_cons_zero, List.set_cons_succ, i64_w, i32_w]
      rfl
     refine pure_ (i := 23) (N := some 38) (v := undef) (a' := ?_) #[true, true, true, true, true, true, true, true, true, true, true, true, true, true, true, true, true, true, true, true, true, true, true, true, false, false] rfl rfl (any_of HT_.out (by kernel_rfl)) (fun _ _ _ h => h) (Or.inr ⟨by rfl, rfl⟩) ?_ ?_
     rotate_left
     ·simp only [Act.put, List.setIfInBounds_toArray, List.set_cons_zero, List.set_cons_succ, i64_w, i32_w]
      rfl
     refine pure_ (i := 24) (N := some 39) (v := ?_) (a' := ?_) #[true, true, true, true, true, true, true, true, true, true, true, true, true, true, true, true, true, true, true, true, true, true, true, true, true, false] rfl rfl (any_of HT_.out (by kernel_rfl)) (fun _ _ _ h => h) (Or.inl ⟨by rfl, ?_⟩) ?_ ?_
     rotate_left
     ·intro w'
      go_simp
      with_reducible rfl
     rotate_left
     ·simp only [Act.put, List.setIfInBounds_toArray, List.set_cons_zero, List.set_cons_succ, i64_w, i32_w]
      rfl
     refine pure_ (i := 25) (N := some 0) (v := ?_) (a' := ?_) #[true, true, true, true, true, true, true, true, true, true, true, true, true, true, true, true, true, true, true, true, true, true, true, true, true, true] rfl rfl (any_of HT_.out (by kernel_rfl)) (fun _ _ _ h => h) (Or.inl ⟨by rfl, ?_⟩) ?_ ?_
     rotate_left
     ·intro w'
      go_simp
      with_reducible rfl
     rotate_left
     ·simp only [Act.put, List.setIfInBounds_toArray, List.set_cons_zero, List.set_cons_succ, i64_w, i32_w]
      rfl
     refine done_ (done_of HT_.out (by kernel_rfl)) ?_
     try go_wp2
     go_ret
     exact ⟨by first | rfl | (simp [errW_none, errW_some] <;> rfl) | (simp [*, errW_none, errW_some] <;> rfl), by repeat (first | (with_reducible first | exact HB.out | apply below_alloc | apply pw_below_drewN | apply below_drew1) | exact HB.out)⟩
   ·rw [if_neg c7] at H
    exact absurd H (by simp)
  ·rw [if_neg c6] at H
   have c6b0 : ((t148.length : Int) == 3) = false := beq_eq_false_iff_ne.mpr c6
   have c6b1 : ((t148.length : Int) != 3) = true := bne_iff_ne.mpr c6
   obtain rfl := Option.some.inj H
   go_enter Try.func21, Try.ntmps21
   try go_wp2_with (first | ((with_reducible refine gate_callee (f := 87) rfl ?_); refine goesL_ (some 6) rfl rfl Try.func87 (by kernel_rfl) rfl #[] rfl (by (try simp only [List.map_toArray, List.map_cons, List.map_nil]); first | done | rfl | (simp only [List.length_drop, List.length_take]; rfl)) ?_; (with_reducible refine (thermionlaw04_chain.calls  t144 t145 _ A1.out).mono ?_); rintro e w52 ⟨v146, rfl, ho0, hb⟩; refine ⟨_, rfl, ?_⟩; have n0_ := Aside0.mk (Kd.R_lower ho0 (below_size (by repeat (first | (with_reducible first | exact HB.out | apply below_alloc | apply pw_below_drewN | apply below_drew1) | exact HB.out)))); have n1_ := Aside0.mk (below_step (by repeat (first | (with_reducible first | exact HB.out | apply below_alloc | apply pw_below_drewN | apply below_drew1) | exact HB.out)) hb); clear HB; have HO147 := n0_; have HB := n1_; clear n0_ n1_; (try clear hb); (try clear hb2); (try clear hk); (try clear hi); (try clear ho0); obtain ⟨Ao53, co53, eo53⟩ := Kd.R_slice HO147.out; subst eo53) | ((with_reducible refine gate_callee (f := 24) rfl ?_); refine goesL_ (some 7) rfl rfl Try.func24 (by kernel_rfl) rfl #[.agg #[.int .i64 t144, .slice Ao53 t145.length co53]] rfl (by (try simp only [List.map_toArray, List.map_cons, List.map_nil]); first | done | rfl | (simp only [List.length_drop, List.length_take]; rfl)) ?_; (with_reducible refine (mount_Tight.calls t144 _ _ t145 t148 t151 _ ?side1 ?side2 A2.out).mono ?_); (case side1 => repeat (first | exact (Kd.R_reads' HO147.out).2.2 | (with_reducible refine Kd.C_alloc ?_ _) | (with_reducible refine Kd.C_drewN ?_ _) | (with_reducible refine Kd.C_drew ?_))); (case side2 => exact (Kd.R_reads' HO147.out).2.1); rintro e w54 ⟨v149, rfl, ho0, hb⟩; refine ⟨_, rfl, ?_⟩; have n0_ := Aside0.mk (Kd.R_below (by (with_reducible repeat (first | apply Kd.R_alloc | apply Kd.R_drewN | apply Kd.R_drew)); exact HO147.out) hb); have n1_ := Aside0.mk (Kd.N_lower (Kd.N_mono (ok' := fun k_ => some k_ ≠ (.slice Ao53 t145.length co53 : Value).ownBlock) (Kd.S_N (Kd.S_bound ho0)) (fun k_ hk_ => (Kd.fresh' (Kd.R_lt (by (with_reducible repeat (first | apply Kd.R_alloc | apply Kd.R_drewN | apply Kd.R_drew)); exact HO147.out)) k_ hk_.2.1))) (below_size (by repeat (first | (with_reducible first | exact HB.out | apply below_alloc | apply pw_below_drewN | apply below_drew1) | exact HB.out)))); have n2_ := Aside0.mk (below_step (by repeat (first | (with_reducible first | exact HB.out | apply below_alloc | apply pw_below_drewN | apply below_drew1) | exact HB.out)) hb); clear HO147; clear HB; have HO147 := n0_; have HO150 := n1_; have HB := n2_; clear n0_ n1_ n2_; (try clear hb); (try clear hb2); (try clear hk); (try clear hi); (try clear ho0)) | ((with_reducible refine gate_callee (f := 59) rfl ?_); refine goesL_ (some 11) rfl rfl Try.func59 (by kernel_rfl) rfl #[] rfl (by (try simp only [List.map_toArray, List.map_cons, List.map_nil]); first | done | rfl | (simp only [List.length_drop, List.length_take]; rfl)) ?_; (with_reducible refine (thermionlaw04_kit.calls  t152 t155 _ A3.out).mono ?_); rintro e w55 ⟨v153, rfl, ho0, hb⟩; refine ⟨_, rfl, ?_⟩; have n0_ := Aside0.mk (Kd.R_below (by (with_reducible repeat (first | apply Kd.R_alloc | apply Kd.R_drewN | apply Kd.R_drew)); exact HO147.out) hb); have n1_ := Aside0.mk (Kd.N_elder' (by (with_reducible repeat (first | apply Kd.N_alloc | apply Kd.N_drewN | apply Kd.N_drew)); exact HO150.out) (Kd.N_base ho0) hb); have n2_ := Aside0.mk (Kd.N_lower (Kd.N_mono (ok' := fun k_ => some k_ ≠ (.slice Ao53 t145.length co53 : Value).ownBlock ∧ some k_ ≠ (v149 : Value).ownBlock) ho0 (fun k_ hk_ => ⟨(Kd.fresh' (Kd.R_lt (by (with_reducible repeat (first | apply Kd.R_alloc | apply Kd.R_drewN | apply Kd.R_drew)); exact HO147.out)) k_ hk_), (Kd.fresh' (Kd.N_lt (by (with_reducible repeat (first | apply Kd.N_alloc | apply Kd.N_drewN | apply Kd.N_drew)); exact HO150.out)) k_ hk_)⟩)) (below_size (by repeat (first | (with_reducible first | exact HB.out | apply below_alloc | apply pw_below_drewN | apply below_drew1) | exact HB.out)))); have n3_ := Aside0.mk (below_step (by repeat (first | (with_reducible first | exact HB.out | apply below_alloc | apply pw_below_drewN | apply below_drew1) | exact HB.out)) hb); clear HO147; clear HO150; clear HB; have HO147 := n0_; have HO150 := n1_; have HO154 := n2_; have HB := n3_; clear n0_ n1_ n2_ n3_; (try clear hb); (try clear hb2); (try clear hk); (try clear hi); (try clear ho0); obtain ⟨Ao56, co56, eo56⟩ := Kd.N_slice HO154.out; subst eo56) | ((with_reducible refine gate_callee (f := 30) rfl ?_); refine goesL_ (some 12) rfl rfl Try.func30 (by kernel_rfl) rfl #[.agg #[.slice Ao56 t152.length co56, .int .i64 t155]] rfl (by (try simp only [List.map_toArray, List.map_cons, List.map_nil]); first | done | rfl | (simp only [List.length_drop, List.length_take]; rfl)) ?_; (with_reducible refine (mount_Orders.calls _ _ t152 t155 t156 t157 _ ?side1 ?side2 A4.out).mono ?_); (case side1 => repeat (first | exact (Kd.N_reads' HO154.out).2.2 | (with_reducible refine Kd.C_alloc ?_ _) | (with_reducible refine Kd.C_drewN ?_ _) | (with_reducible refine Kd.C_drew ?_))); (case side2 => exact (Kd.N_reads' HO154.out).2.1); rintro e w57 ⟨rfl, hb⟩; refine ⟨_, rfl, ?_⟩; have n0_ := Aside0.mk (Kd.R_below (by (with_reducible repeat (first | apply Kd.R_alloc | apply Kd.R_drewN | apply Kd.R_drew)); exact HO147.out) hb); have n1_ := Aside0.mk (Kd.N_below (by (with_reducible repeat (first | apply Kd.N_alloc | apply Kd.N_drewN | apply Kd.N_drew)); exact HO150.out) hb); have n2_ := Aside0.mk (Kd.N_below (by (with_reducible repeat (first | apply Kd.N_alloc | apply Kd.N_drewN | apply Kd.N_drew)); exact HO154.out) hb); have n3_ := Aside0.mk (below_step (by repeat (first | (with_reducible first | exact HB.out | apply below_alloc | apply pw_below_drewN | apply below_drew1) | exact HB.out)) hb); clear HO147; clear HO150; clear HO154; clear HB; have HO147 := n0_; have HO150 := n1_; have HO154 := n2_; have HB := n3_; clear n0_ n1_ n2_ n3_; (try clear hb); (try clear hb2); (try clear hk); (try clear hi)))
   have n0_ := Aside0.mk (Kd.R_drew HO147.out)
   have n1_ := Aside0.mk (Kd.N_drew HO150.out)
   have n2_ := Aside0.mk (Kd.N_drew HO154.out)
   have n3_ := Aside0.mk (below_drew1 HB.out)
   clear HO147
   clear HO150
   clear HO154
   clear HB
   have HO147 := n0_
   have HO150 := n1_
   have HO154 := n2_
   have HB := n3_
   clear n0_ n1_ n2_ n3_
   obtain ⟨Ao59, co59, eo59⟩ := Kd.N_slice HO150.out
   (first | subst eo59 | (injection eo59 with f1_ f2_ f3_; have f4_ := f1_.symm; have f5_ := f3_.symm; clear f1_ f2_ f3_; subst f4_; subst f5_))
   refine start_ (n := 26) (S := fun w' => True) (ds := []) #[false, false, false, false, false, false, false, false, false, false, false, false, false, false, false, false, false, false, false, false, false, false, false, false, false, false] (by kernel_rfl) rfl rfl trivial (fun hHeld => ?_); refine with_tabW thermionlaw04_awake.tab3 thermionlaw04_awake.bits3 (fun HT_ HW_ => ?_)
   generalize w57.drew = w58 at HO147 HO150 HO154 HB hHeld ⊢
   refine pure_ (i := 0) (N := some 15) (v := ?_) (a' := ?_) #[true, false, false, false, false, false, false, false, false, false, false, false, false, false, false, false, false, false, false, false, false, false, false, false, false, false] rfl rfl (any_of HT_.out (by kernel_rfl)) (fun _ _ _ h => h) (Or.inl ⟨by rfl, ?_⟩) ?_ ?_
   rotate_left
   ·intro w'
    go_simp
    with_reducible rfl
   rotate_left
   ·simp only [Act.put, List.setIfInBounds_toArray, List.set_cons_zero, List.set_cons_succ, i64_w, i32_w]
    rfl
   refine pure_ (i := 1) (N := some 16) (v := ?_) (a' := ?_) #[true, true, false, false, false, false, false, false, false, false, false, false, false, false, false, false, false, false, false, false, false, false, false, false, false, false] rfl rfl (any_of HT_.out (by kernel_rfl)) (fun _ _ _ h => h) (Or.inl ⟨by rfl, ?_⟩) ?_ ?_
   rotate_left
   ·intro w'
    go_simp
    with_reducible rfl
   rotate_left
   ·simp only [Act.put, List.setIfInBounds_toArray, List.set_cons_zero, List.set_cons_succ, i64_w, i32_w]
    rfl
   refine pure_ (i := 2) (N := some 17) (v := ?_) (a' := ?_) #[true, true, true, false, false, false, false, false, false, false, false, false, false, false, false, false, false, false, false, false, false, false, false, false, false, false] rfl rfl (any_of HT_.out (by kernel_rfl)) (fun _ _ _ h => h) (Or.inl ⟨by rfl, ?_⟩) ?_ ?_
   rotate_left
   ·intro w'
    go_simp
    with_reducible rfl
   rotate_left
   ·simp only [Act.put, List.setIfInBounds_toArray, List.set_cons_zero, List.set_cons_succ, i64_w, i32_w]
    rfl
   refine pure_ (i := 3) (N := some 18) (v := ?_) (a' := ?_) #[true, true, true, true, false, false, false, false, false, false, false, false, false, false, false, false, false, false, false, false, false, false, false, false, false, false] rfl rfl (any_of HT_.out (by kernel_rfl)) (fun _ _ _ h => h) (Or.inl ⟨by rfl, ?_⟩) ?_ ?_
   rotate_left
   ·intro w'
    go_simp
    with_reducible rfl
   rotate_left
   ·simp only [Act.put, List.setIfInBounds_toArray, List.set_cons_zero, List.set_cons_succ, i64_w, i32_w]
    rfl
   refine pure_ (i := 4) (N := some 19) (v := ?_) (a' := ?_) #[true, true, true, true, true, false, false, false, false, false, false, false, false, false, false, false, false, false, false, false, false, false, false, false, false, false] rfl rfl (any_of HT_.out (by kernel_rfl)) (fun _ _ _ h => h) (Or.inl ⟨by rfl, ?_⟩) ?_ ?_
   rotate_left
   ·intro w'
    go_simp
    with_reducible rfl
   rotate_left
   ·simp only [Act.put, List.setIfInBounds_toArray, List.set_cons_zero, List.set_cons_succ, i64_w, i32_w]
    rfl
   refine pure_ (i := 5) (N := some 20) (v := ?_) (a' := ?_) #[true, true, true, true, true, true, false, false, false, false, false, false, false, false, false, false, false, false, false, false, false, false, false, false, false, false] rfl rfl (any_of HT_.out (by kernel_rfl)) (fun _ _ _ h => h) (Or.inl ⟨by rfl, ?_⟩) ?_ ?_
   rotate_left
   ·intro w'
    go_simp
    with_reducible rfl
   rotate_left
   ·simp only [Act.put, List.setIfInBounds_toArray, List.set_cons_zero, List.set_cons_succ, i64_w, i32_w]
    rfl
   refine pure_ (i := 6) (N := some 21) (v := ?_) (a' := ?_) #[true, true, true, true, true, true, true, false, false, false, false, false, false, false, false, false, false, false, false, false, false, false, false, false, false, false] rfl rfl (any_of HT_.out (by kernel_rfl)) (fun _ _ _ h => h) (Or.inl ⟨by rfl, ?_⟩) ?_ ?_
   rotate_left
   ·intro w'
    go_simp
    with_reducible rfl
   rotate_left
   ·simp only [Act.put, List.setIfInBounds_toArray, List.set_cons_zero, List.set_cons_succ, i64_w, i32_w]
    rfl
   refine pure_ (i := 7) (N := some 22) (v := ?_) (a' := ?_) #[true, true, true, true, true, true, true, true, false, false, false, false, false, false, false, false, false, false, false, false, false, false, false, false, false, false] rfl rfl (any_of HT_.out (by kernel_rfl)) (fun _ _ _ h => h) (Or.inl ⟨by rfl, ?_⟩) ?_ ?_
   rotate_left
   ·intro w'
    go_simp
    with_reducible rfl
   rotate_left
   ·simp only [Act.put, List.setIfInBounds_toArray, List.set_cons_zero, List.set_cons_succ, i64_w, i32_w]
    rfl
   refine pure_ (i := 8) (N := some 23) (v := undef) (a' := ?_) #[true, true, true, true, true, true, true, true, true, false, false, false, false, false, false, false, false, false, false, false, false, false, false, false, false, false] rfl rfl (any_of HT_.out (by kernel_rfl)) (fun _ _ _ h => h) (Or.inr ⟨by rfl, rfl⟩) ?_ ?_
   rotate_left
   ·simp only [Act.put, List.setIfInBounds_toArray, List.set_cons_zero, List.set_cons_succ, i64_w, i32_w]
    rfl
   refine pure_ (i := 9) (N := some 24) (v := undef) (a' := ?_) #[true, true, true, true, true, true, true, true, true, true, false, false, false, false, false, false, false, false, false, false, false, false, false, false, false, false] rfl rfl (any_of HT_.out (by kernel_rfl)) (fun _ _ _ h => h) (Or.inr ⟨by rfl, rfl⟩) ?_ ?_
   rotate_left
   ·simp only [Act.put, List.setIfInBounds_toArray, List.set_cons_zero, List.set_cons_succ, i64_w, i32_w]
    rfl
   refine pure_ (i := 10) (N := some 25) (v := undef) (a' := ?_) #[true, true, true, true, true, true, true, true, true, true, true, false, false, false, false, false, false, false, false, false, false, false, false, false, false, false] rfl rfl (any_of HT_.out (by kernel_rfl)) (fun _ _ _ h => h) (Or.inr ⟨by rfl, rfl⟩) ?_ ?_
   rotate_left
   ·simp only [Act.put, List.setIfInBounds_toArray, List.set_cons_zero, List.set_cons_succ, i64_w, i32_w]
    rfl
   refine pure_ (i := 11) (N := some 26) (v := undef) (a' := ?_) #[true, true, true, true, true, true, true, true, true, true, true, true, false, false, false, false, false, false, false, false, false, false, false, false, false, false] rfl rfl (any_of HT_.out (by kernel_rfl)) (fun _ _ _ h => h) (Or.inr ⟨by rfl, rfl⟩) ?_ ?_
   rotate_left
   ·simp only [Act.put, List.setIfInBounds_toArray, List.set_cons_zero, List.set_cons_succ, i64_w, i32_w]
    rfl
   refine pure_ (i := 12) (N := some 27) (v := undef) (a' := ?_) #[true, true, true, true, true, true, true, true, true, true, true, true, true, false, false, false, false, false, false, false, false, false, false, false, false, false] rfl rfl (any_of HT_.out (by kernel_rfl)) (fun _ _ _ h => h) (Or.inr ⟨by rfl, rfl⟩) ?_ ?_
   rotate_left
   ·simp only [Act.put, List.setIfInBounds_toArray, List.set_cons_zero, List.set_cons_succ, i64_w, i32_w]
    rfl
   refine pure_ (i := 13) (N := some 28) (v := undef) (a' := ?_) #[true, true, true, true, true, true, true, true, true, true, true, true, true, true, false, false, false, false, false, false, false, false, false, false, false, false] rfl rfl (any_of HT_.out (by kernel_rfl)) (fun _ _ _ h => h) (Or.inr ⟨by rfl, rfl⟩) ?_ ?_
   rotate_left
   ·simp only [Act.put, List.setIfInBounds_toArray, List.set_cons_zero, List.set_cons_succ, i64_w, i32_w]
    rfl
   refine pure_ (i := 14) (N := some 29) (v := undef) (a' := ?_) #[true, true, true, true, true, true, true, true, true, true, true, true, true, true, true, false, false, false, false, false, false, false, false, false, false, false] rfl rfl (any_of HT_.out (by kernel_rfl)) (fun _ _ _ h => h) (Or.inr ⟨by rfl, rfl⟩) ?_ ?_
   rotate_left
   ·simp only [Act.put, List.setIfInBounds_toArray, List.set_cons_zero, List.set_cons_succ, i64_w, i32_w]
    rfl
   refine pure_ (i := 15) (N := some 30) (v := undef) (a' := ?_) #[true, true, true, true, true, true, true, true, true, true, true, true, true, true, true, true, false, false, false, false, false, false, false, false, false, false] rfl rfl (any_of HT_.out (by kernel_rfl)) (fun _ _ _ h => h) (Or.inr ⟨by rfl, rfl⟩) ?_ ?_
   rotate_left
   ·simp only [Act.put, List.setIfInBounds_toArray, List.set_cons_zero, List.set_cons_succ, i64_w, i32_w]
    rfl
   refine pure_ (i := 16) (N := some 31) (v := ?_) (a' := ?_) #[true, true, true, true, true, true, true, true, true, true, true, true, true, true, true, true, true, false, false, false, false, false, false, false, false, false] rfl rfl (any_of HT_.out (by kernel_rfl)) (fun _ _ _ h => h) (Or.inl ⟨by rfl, ?_⟩) ?_ ?_
   rotate_left
   ·intro w'
    go_simp
    with_reducible rfl
   rotate_left
   ·simp only [Act.put, List.setIfInBounds_toArray, List.set_cons_zero, List.set_cons_succ, i64_w, i32_w]
    rfl
   refine pure_ (i := 17) (N := some 32) (v := ?_) (a' := ?_) #[true, true, true, true, true, true, true, true, true, true, true, true, true, true, true, true, true, true, false, false, false, false, false, false, false, false] rfl rfl (any_of HT_.out (by kernel_rfl)) (fun _ _ _ h => h) (Or.inl ⟨by rfl, ?_⟩) ?_ ?_
   rotate_left
   ·intro w'
    go_simp
    with_reducible rfl
   rotate_left
   ·simp only [Act.put, List.setIfInBounds_toArray, List.set_cons_zero, List.set_cons_succ, i64_w, i32_w]
    rfl
   refine pure_ (i := 18) (N := some 33) (v := undef) (a' := ?_) #[true, true, true, true, true, true, true, true, true, true, true, true, true, true, true, true, true, true, true, false, false, false, false, false, false, false] rfl rfl (any_of HT_.out (by kernel_rfl)) (fun _ _ _ h => h) (Or.inr ⟨by rfl, rfl⟩) ?_ ?_
   rotate_left
   ·simp only [Act.put, List.setIfInBounds_toArray, List.set_cons_zero, List.set_cons_succ, i64_w, i32_w]
    rfl
   refine pure_ (i := 19) (N := some 34) (v := undef) (a' := ?_) #[true, true, true, true, true, true, true, true, true, true, true, true, true, true, true, true, true, true, true, true, false, false, false, false, false, false] rfl rfl (any_of HT_.out (by kernel_rfl)) (fun _ _ _ h => h) (Or.inr ⟨by rfl, rfl⟩) ?_ ?_
   rotate_left
   ·simp only [Act.put, List.setIfInBounds_toArray, List.set_cons_zero, List.set_cons_succ, i64_w, i32_w]
    rfl
   refine pure_ (i := 20) (N := some 35) (v := ?_) (a' := ?_) #[true, true, true, true, true, true, true, true, true, true, true, true, true, true, true, true, true, true, true, true, true, false, false, false, false, false] rfl rfl (any_of HT_.out (by kernel_rfl)) (fun _ _ _ h => h) (Or.inl ⟨by rfl, ?_⟩) ?_ ?_
   rotate_left
   ·intro w'
    go_simp
    with_reducible rfl
   rotate_left
   ·simp only [Act.put, List.setIfInBounds_toArray, List.set_cons_zero, List.set_cons_succ, i64_w, i32_w]
    rfl
   refine pure_ (i := 21) (N := some 36) (v := ?_) (a' := ?_) #[true, true, true, true, true, true, true, true, true, true, true, true, true, true, true, true, true, true, true, true, true, true, false, false, false, false] rfl rfl (any_of HT_.out (by kernel_rfl)) (fun _ _ _ h => h) (Or.inl ⟨by rfl, ?_⟩) ?_ ?_
   rotate_left
   ·intro w'
    go_simp
    with_reducible rfl
   rotate_left
   ·simp only [Act.put, List.setIfInBounds_toArray, List.set_cons_zero, List.set_cons_succ, i64_w, i32_w]
    rfl
   refine pure_ (i := 22) (N := some 37) (v := undef) (a' := ?_) #[true, true, true, true, true, true, true, true, true, true, true, true, true, true, true, true, true, true, true, true, true, true, true, false, false, false] rfl rfl (any_of HT_.out (by kernel_rfl)) (fun _ _ _ h => h) (Or.inr ⟨by rfl, rfl⟩) ?_ ?_
   rotate_left
   ·simp only [Act.put, List.setIfInBounds_toArray, List.set_cons_zero, List.set_cons_succ, i64_w, i32_w]
    rfl
   refine pure_ (i := 23) (N := some 38) (v := undef) (a' := ?_) #[true, true, true, true, true, true, true, true, true, true, true, true, true, true, true, true, true, true, true, true, true, true, true, true, false, false] rfl rfl (any_of HT_.out (by kernel_rfl)) (fun _ _ _ h => h) (Or.inr ⟨by rfl, rfl⟩) ?_ ?_
   rotate_left
   ·simp only [Act.put, List.setIfInBounds_toArray, List.set_cons_zero, List.set_cons_succ, i64_w, i32_w]
    rfl
   refine pure_ (i := 24) (N := some 39) (v := ?_) (a' := ?_) #[true, true, true, true, true, true, true, true, true, true, true, true, true, true, true, true, true, true, true, true, true, true, true, true, true, false] rfl rfl (any_of HT_.out (by kernel_rfl)) (fun _ _ _ h => h) (Or.inl ⟨by rfl, ?_⟩) ?_ ?_
   rotate_left
   ·intro w'
    go_simp
    with_reducible rfl
   rotate_left
   ·simp only [Act.put, List.setIfInBounds_toArray, List.set_cons_zero, List.set_cons_succ, i64_w, i32_w]
    rfl
   refine pure_ (i := 25) (N := some 0) (v := ?_) (a' := ?_) #[true, true, true, true, true, true, true, true, true, true, true, true, true, true, true, true, true, true, true, true, true, true, true, true, true, true] rfl rfl (any_of HT_.out (by kernel_rfl)) (fun _ _ _ h => h) (Or.inl ⟨by rfl, ?_⟩) ?_ ?_
   rotate_left
   ·intro w'
    go_simp
    with_reducible rfl
   rotate_left
   ·simp only [Act.put, List.setIfInBounds_toArray, List.set_cons_zero, List.set_cons_succ, i64_w, i32_w]
    rfl
   refine done_ (done_of HT_.out (by kernel_rfl)) ?_
   try go_wp2
   go_ret
   exact ⟨by first | rfl | (simp [errW_none, errW_some] <;> rfl) | (simp [*, errW_none, errW_some] <;> rfl), by repeat (first | (with_reducible first | exact HB.out | apply below_alloc | apply pw_below_drewN | apply below_drew1) | exact HB.out)⟩
 ·rw [if_neg c5] at H
  have c5b0 : (t151 == 0) = false := beq_eq_false_iff_ne.mpr c5
  have c5b1 : (t151 != 0) = true := bne_iff_ne.mpr c5
  obtain rfl := Option.some.inj H
  go_enter Try.func21, Try.ntmps21
  try go_wp2_with (first | ((with_reducible refine gate_callee (f := 87) rfl ?_); refine goesL_ (some 6) rfl rfl Try.func87 (by kernel_rfl) rfl #[] rfl (by (try simp only [List.map_toArray, List.map_cons, List.map_nil]); first | done | rfl | (simp only [List.length_drop, List.length_take]; rfl)) ?_; (with_reducible refine (thermionlaw04_chain.calls  t144 t145 _ A1.out).mono ?_); rintro e w60 ⟨v146, rfl, ho0, hb⟩; refine ⟨_, rfl, ?_⟩; have n0_ := Aside0.mk (Kd.R_lower ho0 (below_size (by repeat (first | (with_reducible first | exact HB.out | apply below_alloc | apply pw_below_drewN | apply below_drew1) | exact HB.out)))); have n1_ := Aside0.mk (below_step (by repeat (first | (with_reducible first | exact HB.out | apply below_alloc | apply pw_below_drewN | apply below_drew1) | exact HB.out)) hb); clear HB; have HO147 := n0_; have HB := n1_; clear n0_ n1_; (try clear hb); (try clear hb2); (try clear hk); (try clear hi); (try clear ho0); obtain ⟨Ao61, co61, eo61⟩ := Kd.R_slice HO147.out; subst eo61) | ((with_reducible refine gate_callee (f := 24) rfl ?_); refine goesL_ (some 7) rfl rfl Try.func24 (by kernel_rfl) rfl #[.agg #[.int .i64 t144, .slice Ao61 t145.length co61]] rfl (by (try simp only [List.map_toArray, List.map_cons, List.map_nil]); first | done | rfl | (simp only [List.length_drop, List.length_take]; rfl)) ?_; (with_reducible refine (mount_Tight.calls t144 _ _ t145 t148 t151 _ ?side1 ?side2 A2.out).mono ?_); (case side1 => repeat (first | exact (Kd.R_reads' HO147.out).2.2 | (with_reducible refine Kd.C_alloc ?_ _) | (with_reducible refine Kd.C_drewN ?_ _) | (with_reducible refine Kd.C_drew ?_))); (case side2 => exact (Kd.R_reads' HO147.out).2.1); rintro e w62 ⟨v149, rfl, ho0, hb⟩; refine ⟨_, rfl, ?_⟩; have n0_ := Aside0.mk (Kd.R_below (by (with_reducible repeat (first | apply Kd.R_alloc | apply Kd.R_drewN | apply Kd.R_drew)); exact HO147.out) hb); have n1_ := Aside0.mk (Kd.N_lower (Kd.N_mono (ok' := fun k_ => some k_ ≠ (.slice Ao61 t145.length co61 : Value).ownBlock) (Kd.S_N (Kd.S_bound ho0)) (fun k_ hk_ => (Kd.fresh' (Kd.R_lt (by (with_reducible repeat (first | apply Kd.R_alloc | apply Kd.R_drewN | apply Kd.R_drew)); exact HO147.out)) k_ hk_.2.1))) (below_size (by repeat (first | (with_reducible first | exact HB.out | apply below_alloc | apply pw_below_drewN | apply below_drew1) | exact HB.out)))); have n2_ := Aside0.mk (below_step (by repeat (first | (with_reducible first | exact HB.out | apply below_alloc | apply pw_below_drewN | apply below_drew1) | exact HB.out)) hb); clear HO147; clear HB; have HO147 := n0_; have HO150 := n1_; have HB := n2_; clear n0_ n1_ n2_; (try clear hb); (try clear hb2); (try clear hk); (try clear hi); (try clear ho0)) | ((with_reducible refine gate_callee (f := 59) rfl ?_); refine goesL_ (some 11) rfl rfl Try.func59 (by kernel_rfl) rfl #[] rfl (by (try simp only [List.map_toArray, List.map_cons, List.map_nil]); first | done | rfl | (simp only [List.length_drop, List.length_take]; rfl)) ?_; (with_reducible refine (thermionlaw04_kit.calls  t152 t155 _ A3.out).mono ?_); rintro e w63 ⟨v153, rfl, ho0, hb⟩; refine ⟨_, rfl, ?_⟩; have n0_ := Aside0.mk (Kd.R_below (by (with_reducible repeat (first | apply Kd.R_alloc | apply Kd.R_drewN | apply Kd.R_drew)); exact HO147.out) hb); have n1_ := Aside0.mk (Kd.N_elder' (by (with_reducible repeat (first | apply Kd.N_alloc | apply Kd.N_drewN | apply Kd.N_drew)); exact HO150.out) (Kd.N_base ho0) hb); have n2_ := Aside0.mk (Kd.N_lower (Kd.N_mono (ok' := fun k_ => some k_ ≠ (.slice Ao61 t145.length co61 : Value).ownBlock ∧ some k_ ≠ (v149 : Value).ownBlock) ho0 (fun k_ hk_ => ⟨(Kd.fresh' (Kd.R_lt (by (with_reducible repeat (first | apply Kd.R_alloc | apply Kd.R_drewN | apply Kd.R_drew)); exact HO147.out)) k_ hk_), (Kd.fresh' (Kd.N_lt (by (with_reducible repeat (first | apply Kd.N_alloc | apply Kd.N_drewN | apply Kd.N_drew)); exact HO150.out)) k_ hk_)⟩)) (below_size (by repeat (first | (with_reducible first | exact HB.out | apply below_alloc | apply pw_below_drewN | apply below_drew1) | exact HB.out)))); have n3_ := Aside0.mk (below_step (by repeat (first | (with_reducible first | exact HB.out | apply below_alloc | apply pw_below_drewN | apply below_drew1) | exact HB.out)) hb); clear HO147; clear HO150; clear HB; have HO147 := n0_; have HO150 := n1_; have HO154 := n2_; have HB := n3_; clear n0_ n1_ n2_ n3_; (try clear hb); (try clear hb2); (try clear hk); (try clear hi); (try clear ho0); obtain ⟨Ao64, co64, eo64⟩ := Kd.N_slice HO154.out; subst eo64) | ((with_reducible refine gate_callee (f := 30) rfl ?_); refine goesL_ (some 12) rfl rfl Try.func30 (by kernel_rfl) rfl #[.agg #[.slice Ao64 t152.length co64, .int .i64 t155]] rfl (by (try simp only [List.map_toArray, List.map_cons, List.map_nil]); first | done | rfl | (simp only [List.length_drop, List.length_take]; rfl)) ?_; (with_reducible refine (mount_Orders.calls _ _ t152 t155 t156 t157 _ ?side1 ?side2 A4.out).mono ?_); (case side1 => repeat (first | exact (Kd.N_reads' HO154.out).2.2 | (with_reducible refine Kd.C_alloc ?_ _) | (with_reducible refine Kd.C_drewN ?_ _) | (with_reducible refine Kd.C_drew ?_))); (case side2 => exact (Kd.N_reads' HO154.out).2.1); rintro e w65 ⟨rfl, hb⟩; refine ⟨_, rfl, ?_⟩; have n0_ := Aside0.mk (Kd.R_below (by (with_reducible repeat (first | apply Kd.R_alloc | apply Kd.R_drewN | apply Kd.R_drew)); exact HO147.out) hb); have n1_ := Aside0.mk (Kd.N_below (by (with_reducible repeat (first | apply Kd.N_alloc | apply Kd.N_drewN | apply Kd.N_drew)); exact HO150.out) hb); have n2_ := Aside0.mk (Kd.N_below (by (with_reducible repeat (first | apply Kd.N_alloc | apply Kd.N_drewN | apply Kd.N_drew)); exact HO154.out) hb); have n3_ := Aside0.mk (below_step (by repeat (first | (with_reducible first | exact HB.out | apply below_alloc | apply pw_below_drewN | apply below_drew1) | exact HB.out)) hb); clear HO147; clear HO150; clear HO154; clear HB; have HO147 := n0_; have HO150 := n1_; have HO154 := n2_; have HB := n3_; clear n0_ n1_ n2_ n3_; (try clear hb); (try clear hb2); (try clear hk); (try clear hi)))
  have n0_ := Aside0.mk (Kd.R_drew HO147.out)
  have n1_ := Aside0.mk (Kd.N_drew HO150.out)
  have n2_ := Aside0.mk (Kd.N_drew HO154.out)
  have n3_ := Aside0.mk (below_drew1 HB.out)
  clear HO147
  clear HO150
  clear HO154
  clear HB
  have HO147 := n0_
  have HO150 := n1_
  have HO154 := n2_
  have HB := n3_
  clear n0_ n1_ n2_ n3_
  refine start_ (n := 26) (S := fun w' => True) (ds := []) #[false, false, false, false, false, false, false, false, false, false, false, false, false, false, false, false, false, false, false, false, false, false, false, false, false, false] (by kernel_rfl) rfl rfl trivial (fun hHeld => ?_); refine with_tabW thermionlaw04_awake.tab3 thermionlaw04_awake.bits3 (fun HT_ HW_ => ?_)
  generalize w65.drew = w66 at HO147 HO150 HO154 HB hHeld ⊢
  refine pure_ (i := 0) (N := some 15) (v := ?_) (a' := ?_) #[true, false, false, false, false, false, false, false, false, false, false, false, false, false, false, false, false, false, false, false, false, false, false, false, false, false] rfl rfl (any_of HT_.out (by kernel_rfl)) (fun _ _ _ h => h) (Or.inl ⟨by rfl, ?_⟩) ?_ ?_
  rotate_left
  ·intro w'
   go_simp
   with_reducible rfl
  rotate_left
  ·simp only [Act.put, List.setIfInBounds_toArray, List.set_cons_zero, List.set_cons_succ, i64_w, i32_w]
   rfl
  refine pure_ (i := 1) (N := some 16) (v := ?_) (a' := ?_) #[true, true, false, false, false, false, false, false, false, false, false, false, false, false, false, false, false, false, false, false, false, false, false, false, false, false] rfl rfl (any_of HT_.out (by kernel_rfl)) (fun _ _ _ h => h) (Or.inl ⟨by rfl, ?_⟩) ?_ ?_
  rotate_left
  ·intro w'
   go_simp
   with_reducible rfl
  rotate_left
  ·simp only [Act.put, List.setIfInBounds_toArray, List.set_cons_zero, List.set_cons_succ, i64_w, i32_w]
   rfl
  refine pure_ (i := 2) (N := some 17) (v := ?_) (a' := ?_) #[true, true, true, false, false, false, false, false, false, false, false, false, false, false, false, false, false, false, false, false, false, false, false, false, false, false] rfl rfl (any_of HT_.out (by kernel_rfl)) (fun _ _ _ h => h) (Or.inl ⟨by rfl, ?_⟩) ?_ ?_
  rotate_left
  ·intro w'
   go_simp
   with_reducible rfl
  rotate_left
  ·simp only [Act.put, List.setIfInBounds_toArray, List.set_cons_zero, List.set_cons_succ, i64_w, i32_w]
   rfl
  refine pure_ (i := 3) (N := some 18) (v := undef) (a' := ?_) #[true, true, true, true, false, false, false, false, false, false, false, false, false, false, false, false, false, false, false, false, false, false, false, false, false, false] rfl rfl (any_of HT_.out (by kernel_rfl)) (fun _ _ _ h => h) (Or.inr ⟨by rfl, rfl⟩) ?_ ?_
  rotate_left
  ·simp only [Act.put, List.setIfInBounds_toArray, List.set_cons_zero, List.set_cons_succ, i64_w, i32_w]
   rfl
  refine pure_ (i := 4) (N := some 19) (v := undef) (a' := ?_) #[true, true, true, true, true, false, false, false, false, false, false, false, false, false, false, false, false, false, false, false, false, false, false, false, false, false] rfl rfl (any_of HT_.out (by kernel_rfl)) (fun _ _ _ h => h) (Or.inr ⟨by rfl, rfl⟩) ?_ ?_
  rotate_left
  ·simp only [Act.put, List.setIfInBounds_toArray, List.set_cons_zero, List.set_cons_succ, i64_w, i32_w]
   rfl
  refine pure_ (i := 5) (N := some 20) (v := undef) (a' := ?_) #[true, true, true, true, true, true, false, false, false, false, false, false, false, false, false, false, false, false, false, false, false, false, false, false, false, false] rfl rfl (any_of HT_.out (by kernel_rfl)) (fun _ _ _ h => h) (Or.inr ⟨by rfl, rfl⟩) ?_ ?_
  rotate_left
  ·simp only [Act.put, List.setIfInBounds_toArray, List.set_cons_zero, List.set_cons_succ, i64_w, i32_w]
   rfl
  refine pure_ (i := 6) (N := some 21) (v := ?_) (a' := ?_) #[true, true, true, true, true, true, true, false, false, false, false, false, false, false, false, false, false, false, false, false, false, false, false, false, false, false] rfl rfl (any_of HT_.out (by kernel_rfl)) (fun _ _ _ h => h) (Or.inl ⟨by rfl, ?_⟩) ?_ ?_
  rotate_left
  ·intro w'
   go_simp
   with_reducible rfl
  rotate_left
  ·simp only [Act.put, List.setIfInBounds_toArray, List.set_cons_zero, List.set_cons_succ, i64_w, i32_w]
   rfl
  refine pure_ (i := 7) (N := some 22) (v := ?_) (a' := ?_) #[true, true, true, true, true, true, true, true, false, false, false, false, false, false, false, false, false, false, false, false, false, false, false, false, false, false] rfl rfl (any_of HT_.out (by kernel_rfl)) (fun _ _ _ h => h) (Or.inl ⟨by rfl, ?_⟩) ?_ ?_
  rotate_left
  ·intro w'
   go_simp
   with_reducible rfl
  rotate_left
  ·simp only [Act.put, List.setIfInBounds_toArray, List.set_cons_zero, List.set_cons_succ, i64_w, i32_w]
   rfl
  refine pure_ (i := 8) (N := some 23) (v := undef) (a' := ?_) #[true, true, true, true, true, true, true, true, true, false, false, false, false, false, false, false, false, false, false, false, false, false, false, false, false, false] rfl rfl (any_of HT_.out (by kernel_rfl)) (fun _ _ _ h => h) (Or.inr ⟨by rfl, rfl⟩) ?_ ?_
  rotate_left
  ·simp only [Act.put, List.setIfInBounds_toArray, List.set_cons_zero, List.set_cons_succ, i64_w, i32_w]
   rfl
  refine pure_ (i := 9) (N := some 24) (v := undef) (a' := ?_) #[true, true, true, true, true, true, true, true, true, true, false, false, false, false, false, false, false, false, false, false, false, false, false, false, false, false] rfl rfl (any_of HT_.out (by kernel_rfl)) (fun _ _ _ h => h) (Or.inr ⟨by rfl, rfl⟩) ?_ ?_
  rotate_left
  ·simp only [Act.put, List.setIfInBounds_toArray, List.set_cons_zero, List.set_cons_succ, i64_w, i32_w]
   rfl
  refine pure_ (i := 10) (N := some 25) (v := undef) (a' := ?_) #[true, true, true, true, true, true, true, true, true, true, true, false, false, false, false, false, false, false, false, false, false, false, false, false, false, false] rfl rfl (any_of HT_.out (by kernel_rfl)) (fun _ _ _ h => h) (Or.inr ⟨by rfl, rfl⟩) ?_ ?_
  rotate_left
  ·simp only [Act.put, List.setIfInBounds_toArray, List.set_cons_zero, List.set_cons_succ, i64_w, i32_w]
   rfl
  refine pure_ (i := 11) (N := some 26) (v := undef) (a' := ?_) #[true, true, true, true, true, true, true, true, true, true, true, true, false, false, false, false, false, false, false, false, false, false, false, false, false, false] rfl rfl (any_of HT_.out (by kernel_rfl)) (fun _ _ _ h => h) (Or.inr ⟨by rfl, rfl⟩) ?_ ?_
  rotate_left
  ·simp only [Act.put, List.setIfInBounds_toArray, List.set_cons_zero, List.set_cons_succ, i64_w, i32_w]
   rfl
  refine pure_ (i := 12) (N := some 27) (v := undef) (a' := ?_) #[true, true, true, true, true, true, true, true, true, true, true, true, true, false, false, false, false, false, false, false, false, false, false, false, false, false] rfl rfl (any_of HT_.out (by kernel_rfl)) (fun _ _ _ h => h) (Or.inr ⟨by rfl, rfl⟩) ?_ ?_
  rotate_left
  ·simp only [Act.put, List.setIfInBounds_toArray, List.set_cons_zero, List.set_cons_succ, i64_w, i32_w]
   rfl
  refine pure_ (i := 13) (N := some 28) (v := undef) (a' := ?_) #[true, true, true, true, true, true, true, true, true, true, true, true, true, true, false, false, false, false, false, false, false, false, false, false, false, false] rfl rfl (any_of HT_.out (by kernel_rfl)) (fun _ _ _ h => h) (Or.inr ⟨by rfl, rfl⟩) ?_ ?_
  rotate_left
  ·simp only [Act.put, List.setIfInBounds_toArray, List.set_cons_zero, List.set_cons_succ, i64_w, i32_w]
   rfl
  refine pure_ (i := 14) (N := some 29) (v := undef) (a' := ?_) #[true, true, true, true, true, true, true, true, true, true, true, true, true, true, true, false, false, false, false, false, false, false, false, false, false, false] rfl rfl (any_of HT_.out (by kernel_rfl)) (fun _ _ _ h => h) (Or.inr ⟨by rfl, rfl⟩) ?_ ?_
  rotate_left
  ·simp only [Act.put, List.setIfInBounds_toArray, List.set_cons_zero, List.set_cons_succ, i64_w, i32_w]
   rfl
  refine pure_ (i := 15) (N := some 30) (v := undef) (a' := ?_) #[true, true, true, true, true, true, true, true, true, true, true, true, true, true, true, true, false, false, false, false, false, false, false, false, false, false] rfl rfl (any_of HT_.out (by kernel_rfl)) (fun _ _ _ h => h) (Or.inr ⟨by rfl, rfl⟩) ?_ ?_
  rotate_left
  ·simp only [Act.put, List.setIfInBounds_toArray, List.set_cons_zero, List.set_cons_succ, i64_w, i32_w]
   rfl
  refine pure_ (i := 16) (N := some 31) (v := ?_) (a' := ?_) #[true, true, true, true, true, true, true, true, true, true, true, true, true, true, true, true, true, false, false, false, false, false, false, false, false, false] rfl rfl (any_of HT_.out (by kernel_rfl)) (fun _ _ _ h => h) (Or.inl ⟨by rfl, ?_⟩) ?_ ?_
  rotate_left
  ·intro w'
   go_simp
   with_reducible rfl
  rotate_left
  ·simp only [Act.put, List.setIfInBounds_toArray, List.set_cons_zero, List.set_cons_succ, i64_w, i32_w]
   rfl
  refine pure_ (i := 17) (N := some 32) (v := ?_) (a' := ?_) #[true, true, true, true, true, true, true, true, true, true, true, true, true, true, true, true, true, true, false, false, false, false, false, false, false, false] rfl rfl (any_of HT_.out (by kernel_rfl)) (fun _ _ _ h => h) (Or.inl ⟨by rfl, ?_⟩) ?_ ?_
  rotate_left
  ·intro w'
   go_simp
   with_reducible rfl
  rotate_left
  ·simp only [Act.put, List.setIfInBounds_toArray, List.set_cons_zero, List.set_cons_succ, i64_w, i32_w]
   rfl
  refine pure_ (i := 18) (N := some 33) (v := undef) (a' := ?_) #[true, true, true, true, true, true, true, true, true, true, true, true, true, true, true, true, true, true, true, false, false, false, false, false, false, false] rfl rfl (any_of HT_.out (by kernel_rfl)) (fun _ _ _ h => h) (Or.inr ⟨by rfl, rfl⟩) ?_ ?_
  rotate_left
  ·simp only [Act.put, List.setIfInBounds_toArray, List.set_cons_zero, List.set_cons_succ, i64_w, i32_w]
   rfl
  refine pure_ (i := 19) (N := some 34) (v := undef) (a' := ?_) #[true, true, true, true, true, true, true, true, true, true, true, true, true, true, true, true, true, true, true, true, false, false, false, false, false, false] rfl rfl (any_of HT_.out (by kernel_rfl)) (fun _ _ _ h => h) (Or.inr ⟨by rfl, rfl⟩) ?_ ?_
  rotate_left
  ·simp only [Act.put, List.setIfInBounds_toArray, List.set_cons_zero, List.set_cons_succ, i64_w, i32_w]
   rfl
  refine pure_ (i := 20) (N := some 35) (v := ?_) (a' := ?_) #[true, true, true, true, true, true, true, true, true, true, true, true, true, true, true, true, true, true, true, true, true, false, false, false, false, false] rfl rfl (any_of HT_.out (by kernel_rfl)) (fun _ _ _ h => h) (Or.inl ⟨by rfl, ?_⟩) ?_ ?_
  rotate_left
  ·intro w'
   go_simp
   with_reducible rfl
  rotate_left
  ·simp only [Act.put, List.setIfInBounds_toArray, List.set_cons_zero, List.set_cons_succ, i64_w, i32_w]
   rfl
  refine pure_ (i := 21) (N := some 36) (v := ?_) (a' := ?_) #[true, true, true, true, true, true, true, true, true, true, true, true, true, true, true, true, true, true, true, true, true, true, false, false, false, false] rfl rfl (any_of HT_.out (by kernel_rfl)) (fun _ _ _ h => h) (Or.inl ⟨by rfl, ?_⟩) ?_ ?_
  rotate_left
  ·intro w'
   go_simp
   with_reducible rfl
  rotate_left
  ·simp only [Act.put, List.setIfInBounds_toArray, List.set_cons_zero, List.set_cons_succ, i64_w, i32_w]
   rfl
  refine pure_ (i := 22) (N := some 37) (v := undef) (a' := ?_) #[true, true, true, true, true, true, true, true, true, true, true, true, true, true, true, true, true, true, true, true, true, true, true, false, false, false] rfl rfl (any_of HT_.out (by kernel_rfl)) (fun _ _ _ h => h) (Or.inr ⟨by rfl, rfl⟩) ?_ ?_
  rotate_left
  ·simp only [Act.put, List.setIfInBounds_toArray, List.set_cons_zero, List.set_cons_succ, i64_w, i32_w]
   rfl
  refine pure_ (i := 23) (N := some 38) (v := undef) (a' := ?_) #[true, true, true, true, true, true, true, true, true, true, true, true, true, true, true, true, true, true, true, true, true, true, true, true, false, false] rfl rfl (any_of HT_.out (by kernel_rfl)) (fun _ _ _ h => h) (Or.inr ⟨by rfl, rfl⟩) ?_ ?_
  rotate_left
  ·simp only [Act.put, List.setIfInBounds_toArray, List.set_cons_zero, List.set_cons_succ, i64_w, i32_w]
   rfl
  refine pure_ (i := 24) (N := some 39) (v := ?_) (a' := ?_) #[true, true, true, true, true, true, true, true, true, true, true, true, true, true, true, true, true, true, true, true, true, true, true, true, true, false] rfl rfl (any_of HT_.out (by kernel_rfl)) (fun _ _ _ h => h) (Or.inl ⟨by rfl, ?_⟩) ?_ ?_
  rotate_left
  ·intro w'
   go_simp
   with_reducible rfl
  rotate_left
  ·simp only [Act.put, List.setIfInBounds_toArray, List.set_cons_zero, List.set_cons_succ, i64_w, i32_w]
   rfl
  refine pure_ (i := 25) (N := some 0) (v := ?_) (a' := ?_) #[true, true, true, true, true, true, true, true, true, true, true, true, true, true, true, true, true, true, true, true, true, true, true, true, true, true] rfl rfl (any_of HT_.out (by kernel_rfl)) (fun _ _ _ h => h) (Or.inl ⟨by rfl, ?_⟩) ?_ ?_
  rotate_left
  ·intro w'
   go_simp
   with_reducible rfl
  rotate_left
  ·simp only [Act.put, List.setIfInBounds_toArray, List.set_cons_zero, List.set_cons_succ, i64_w, i32_w]
   rfl
  refine done_ (done_of HT_.out (by kernel_rfl)) ?_
  try go_wp2
  go_ret
  exact ⟨by first | rfl | (simp [errW_none, errW_some] <;> rfl) | (simp [*, errW_none, errW_some] <;> rfl), by repeat (first | (with_reducible first | exact HB.out | apply below_alloc | apply pw_below_drewN | apply below_drew1) | exact HB.out)⟩

end Go.Proofs.Ytbcfphoheijmdaa.Print
end

section
/- What the Go function thermionkit_Dice_Upto does, as a Lean function, and that its call does so. Printed by a program of this work out of the translation. -/
namespace Go.Proofs.Ytbcfphoheijmdaa.Print
open Go.RowKit Go.Proofs.YtbcfphoheijmdaaW.PrintWords Go.Proofs.YtbcfphoheijmdaaW.PrintLast Go.Proofs.YtbcfphoheijmdaaW.PrintMore
attribute [local go_sem] max2_int min2_int max_two min_two max_three min_three max_four min_four
set_option linter.unusedVariables false
set_option linter.unusedSimpArgs false

/-! ### thermionkit_Dice_Upto: function 43 -/
def thermionkit_Dice_Upto.f (s0_0 : Int) (a1 : Int) : Option (Int × Int) := (thermionkit_Dice_next.f s0_0).bind fun bt101 => (if a1 < 1 then (some (0, bt101.2)) else (if (IntKind.u64.wrap (a1)) = 0 then (none) else (some (wrap64 (Int.tmod bt101.1 (IntKind.u64.wrap (a1))), bt101.2))))
set_option maxHeartbeats 8000000 in
set_option maxRecDepth 100000 in
theorem thermionkit_Dice_Upto.calls (g : Nat) (s0_0 : Int) (a1 : Int) (r1 : Int) (r2 : Int) (w0 w : World) (hI : IsS118 w0 w g s0_0) (hB : Below w0.heap.size w0 w) (h : thermionkit_Dice_Upto.f s0_0 a1 = some (r1, r2)) :
  Calls Try.prog 43 #[.pointer (some ⟨g, 0, none⟩), .int .i64 a1] w fun e w' => e = .returned (.int .i64 r1) ∧ IsS118 w0 w' g r2 ∧ Below w0.heap.size w0 w' ∧ KeepBut w w' g none := by
 have HI0 := Aside0.mk hI
 have HK := Aside0.mk (KeepBut.refl w g none)
 have HL := Aside0.mk hB.size
 clear hI
 have HW0 := Aside0.mk hB.size
 have HB := Aside0.mk hB
 clear hB
 have H : ((thermionkit_Dice_next.f s0_0).bind fun bt101 => (if a1 < 1 then (some (0, bt101.2)) else (if (IntKind.u64.wrap (a1)) = 0 then (none) else (some (wrap64 (Int.tmod bt101.1 (IntKind.u64.wrap (a1))), bt101.2))))) = some (r1, r2) := h
 clear h
 replace H := Option.bind_eq_some_iff.mp H
 obtain ⟨⟨t101, t102⟩, A30, H⟩ := H
 replace H : (if a1 < 1 then (some (0, t102)) else (if (IntKind.u64.wrap (a1)) = 0 then (none) else (some (wrap64 (Int.tmod t101 (IntKind.u64.wrap (a1))), t102)))) = some (r1, r2) := H
 have A3 := Aside0.mk A30
 clear A30
 by_cases c4 : a1 < 1
 ·rw [if_pos c4] at H
  have c4b0 : decide (a1 < 1) = true := decide_eq_true c4
  clear c4
  simp only [Option.some.injEq, Prod.mk.injEq] at H
  obtain ⟨rfl, rfl⟩ := H
  go_enter Try.func43, Try.ntmps43
  go_wp2_with (first | ((with_reducible refine gate_callee (f := 85) rfl ?_); refine goesL_ (some 7) rfl rfl Try.func85 (by kernel_rfl) rfl #[.pointer (some ⟨g, 0, none⟩)] rfl (by (try simp only [List.map_toArray, List.map_cons, List.map_nil]); first | done | rfl | (simp only [List.length_drop, List.length_take]; rfl)) ?_; (with_reducible refine (thermionkit_Dice_next.calls g s0_0 t101 t102 w0 _ ?side1 ?side2 A3.out).mono ?_); (case side1 => repeat (first | (with_reducible first | exact HI0.out | apply IsS118.alloc | apply IsS118.drewN | apply IsS118.drew | apply IsS118.set_0) | exact HI0.out)); (case side2 => repeat (first | (with_reducible first | exact HB.out | apply below_alloc | apply pw_below_drewN | apply below_drew1 | refine below_set ?_ (IsS118.ge HI0.out)) | exact HB.out)); rintro e w5 ⟨rfl, hi, hb, hk⟩; refine ⟨_, rfl, ?_⟩; have n0_ := Aside0.mk (KeepBut.trans (by repeat (first | (with_reducible first | exact HK.out | apply KeepBut.set_ | apply keep_drewN | apply keep_drew | apply keep_alloc) | exact HK.out)) hk (.inl rfl)); have n1_ := Aside0.mk (hb); have n2_ := Aside0.mk (hi); clear HK; clear HB; clear HI0; have HK := n0_; have HB := n1_; have HI0 := n2_; clear n0_ n1_ n2_; (try clear hb); (try clear hb2); (try clear hk); (try clear hi)))
  go_ret
  exact ⟨by first | rfl | (simp [errW_none, errW_some] <;> rfl) | (simp [*, errW_none, errW_some] <;> rfl), by repeat (first | (with_reducible first | exact HI0.out | apply IsS118.alloc | apply IsS118.drewN | apply IsS118.drew | apply IsS118.set_0) | exact HI0.out), by repeat (first | (with_reducible first | exact HB.out | apply below_alloc | apply pw_below_drewN | apply below_drew1 | refine below_set ?_ (IsS118.ge HI0.out)) | exact HB.out), by repeat (first | (with_reducible first | exact HK.out | apply KeepBut.set_ | apply keep_drewN | apply keep_drew | apply keep_alloc) | exact HK.out)⟩
 ·rw [if_neg c4] at H
  have c4b0 : decide (a1 < 1) = false := decide_eq_false c4
  clear c4
  by_cases c6 : (IntKind.u64.wrap (a1)) = 0
  ·rw [if_pos c6] at H
   exact absurd H (by simp)
  ·rw [if_neg c6] at H
   have c6b0 : ((IntKind.u64.wrap (a1)) == 0) = false := beq_eq_false_iff_ne.mpr c6
   have c6b1 : ((IntKind.u64.wrap (a1)) != 0) = true := bne_iff_ne.mpr c6
   simp only [Option.some.injEq, Prod.mk.injEq] at H
   obtain ⟨rfl, rfl⟩ := H
   go_enter Try.func43, Try.ntmps43
   go_wp2_with (first | ((with_reducible refine gate_callee (f := 85) rfl ?_); refine goesL_ (some 7) rfl rfl Try.func85 (by kernel_rfl) rfl #[.pointer (some ⟨g, 0, none⟩)] rfl (by (try simp only [List.map_toArray, List.map_cons, List.map_nil]); first | done | rfl | (simp only [List.length_drop, List.length_take]; rfl)) ?_; (with_reducible refine (thermionkit_Dice_next.calls g s0_0 t101 t102 w0 _ ?side1 ?side2 A3.out).mono ?_); (case side1 => repeat (first | (with_reducible first | exact HI0.out | apply IsS118.alloc | apply IsS118.drewN | apply IsS118.drew | apply IsS118.set_0) | exact HI0.out)); (case side2 => repeat (first | (with_reducible first | exact HB.out | apply below_alloc | apply pw_below_drewN | apply below_drew1 | refine below_set ?_ (IsS118.ge HI0.out)) | exact HB.out)); rintro e w7 ⟨rfl, hi, hb, hk⟩; refine ⟨_, rfl, ?_⟩; have n0_ := Aside0.mk (KeepBut.trans (by repeat (first | (with_reducible first | exact HK.out | apply KeepBut.set_ | apply keep_drewN | apply keep_drew | apply keep_alloc) | exact HK.out)) hk (.inl rfl)); have n1_ := Aside0.mk (hb); have n2_ := Aside0.mk (hi); clear HK; clear HB; clear HI0; have HK := n0_; have HB := n1_; have HI0 := n2_; clear n0_ n1_ n2_; (try clear hb); (try clear hb2); (try clear hk); (try clear hi)))
   go_ret
   exact ⟨by first | rfl | (simp [errW_none, errW_some] <;> rfl) | (simp [*, errW_none, errW_some] <;> rfl), by repeat (first | (with_reducible first | exact HI0.out | apply IsS118.alloc | apply IsS118.drewN | apply IsS118.drew | apply IsS118.set_0) | exact HI0.out), by repeat (first | (with_reducible first | exact HB.out | apply below_alloc | apply pw_below_drewN | apply below_drew1 | refine below_set ?_ (IsS118.ge HI0.out)) | exact HB.out), by repeat (first | (with_reducible first | exact HK.out | apply KeepBut.set_ | apply keep_drewN | apply keep_drew | apply keep_alloc) | exact HK.out)⟩

end Go.Proofs.Ytbcfphoheijmdaa.Print
end

section
/- What the Go function thermionkit_Dice_One does, as a Lean function, and that its call does so. Printed by a program of this work out of the translation. -/
namespace Go.Proofs.Ytbcfphoheijmdaa.Print
open Go.RowKit Go.Proofs.YtbcfphoheijmdaaW.PrintWords Go.Proofs.YtbcfphoheijmdaaW.PrintLast Go.Proofs.YtbcfphoheijmdaaW.PrintMore
attribute [local go_sem] max2_int min2_int max_two min_two max_three min_three max_four min_four
set_option linter.unusedVariables false
set_option linter.unusedSimpArgs false

/-! ### thermionkit_Dice_One: function 35 -/
def thermionkit_Dice_One.f (s0_0 : Int) (a1 : Int) : Option (Bool × Int) := (thermionkit_Dice_Upto.f s0_0 a1).bind fun bt103 => (some ((bt103.1 == 0), bt103.2))
set_option maxHeartbeats 8000000 in
set_option maxRecDepth 100000 in
theorem thermionkit_Dice_One.calls (g : Nat) (s0_0 : Int) (a1 : Int) (r1 : Bool) (r2 : Int) (w0 w : World) (hI : IsS118 w0 w g s0_0) (hB : Below w0.heap.size w0 w) (h : thermionkit_Dice_One.f s0_0 a1 = some (r1, r2)) :
  Calls Try.prog 35 #[.pointer (some ⟨g, 0, none⟩), .int .i64 a1] w fun e w' => e = .returned (.bool r1) ∧ IsS118 w0 w' g r2 ∧ Below w0.heap.size w0 w' ∧ KeepBut w w' g none := by
 have HI0 := Aside0.mk hI
 have HK := Aside0.mk (KeepBut.refl w g none)
 have HL := Aside0.mk hB.size
 clear hI
 have HW0 := Aside0.mk hB.size
 have HB := Aside0.mk hB
 clear hB
 have H : ((thermionkit_Dice_Upto.f s0_0 a1).bind fun bt103 => (some ((bt103.1 == 0), bt103.2))) = some (r1, r2) := h
 clear h
 replace H := Option.bind_eq_some_iff.mp H
 obtain ⟨⟨t103, t104⟩, A30, H⟩ := H
 replace H : (some ((t103 == 0), t104)) = some (r1, r2) := H
 have A3 := Aside0.mk A30
 clear A30
 simp only [Option.some.injEq, Prod.mk.injEq] at H
 obtain ⟨rfl, rfl⟩ := H
 go_enter Try.func35, Try.ntmps35
 go_wp2_with (first | ((with_reducible refine gate_callee (f := 43) rfl ?_); refine goesL_ (some 7) rfl rfl Try.func43 (by kernel_rfl) rfl #[.pointer (some ⟨g, 0, none⟩), .int .i64 a1] rfl (by (try simp only [List.map_toArray, List.map_cons, List.map_nil]); first | done | rfl | (simp only [List.length_drop, List.length_take]; rfl)) ?_; (with_reducible refine (thermionkit_Dice_Upto.calls g s0_0 a1 t103 t104 w0 _ ?side1 ?side2 A3.out).mono ?_); (case side1 => repeat (first | (with_reducible first | exact HI0.out | apply IsS118.alloc | apply IsS118.drewN | apply IsS118.drew | apply IsS118.set_0) | exact HI0.out)); (case side2 => repeat (first | (with_reducible first | exact HB.out | apply below_alloc | apply pw_below_drewN | apply below_drew1 | refine below_set ?_ (IsS118.ge HI0.out)) | exact HB.out)); rintro e w4 ⟨rfl, hi, hb, hk⟩; refine ⟨_, rfl, ?_⟩; have n0_ := Aside0.mk (KeepBut.trans (by repeat (first | (with_reducible first | exact HK.out | apply KeepBut.set_ | apply keep_drewN | apply keep_drew | apply keep_alloc) | exact HK.out)) hk (.inl rfl)); have n1_ := Aside0.mk (hb); have n2_ := Aside0.mk (hi); clear HK; clear HB; clear HI0; have HK := n0_; have HB := n1_; have HI0 := n2_; clear n0_ n1_ n2_; (try clear hb); (try clear hb2); (try clear hk); (try clear hi)))
 go_ret
 exact ⟨by first | rfl | (simp [errW_none, errW_some] <;> rfl) | (simp [*, errW_none, errW_some] <;> rfl), by repeat (first | (with_reducible first | exact HI0.out | apply IsS118.alloc | apply IsS118.drewN | apply IsS118.drew | apply IsS118.set_0) | exact HI0.out), by repeat (first | (with_reducible first | exact HB.out | apply below_alloc | apply pw_below_drewN | apply below_drew1 | refine below_set ?_ (IsS118.ge HI0.out)) | exact HB.out), by repeat (first | (with_reducible first | exact HK.out | apply KeepBut.set_ | apply keep_drewN | apply keep_drew | apply keep_alloc) | exact HK.out)⟩

end Go.Proofs.Ytbcfphoheijmdaa.Print
end
