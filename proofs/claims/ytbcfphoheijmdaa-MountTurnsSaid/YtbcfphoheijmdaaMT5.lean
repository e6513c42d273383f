/- Part 5 of the texts of a claim about Ytbcfphoheijmdaa, put together by a program of this work: what the Go functions do, and that their calls do so. -/
import Derived.Test.YtbcfphoheijmdaaMT4
import Derived.Test.YtbcfphoheijmdaaMT3
section
/- ChainOf: that the Go function's call makes the chain. -/
namespace Go.Proofs.Ytbcfphoheijmdaa.Print
open Go.RowKit Go.Proofs.YtbcfphoheijmdaaW.PrintWords Go.Proofs.YtbcfphoheijmdaaW.PrintLast Go.Proofs.YtbcfphoheijmdaaW.PrintMore Go.Proofs.Ytbcfphoheijmdaa.H
attribute [local go_sem] max2_int min2_int max_two min_two max_three min_three max_four min_four
attribute [local go_sem ↓] Go.wp_at_zero Go.wp_at_succ
set_option linter.unusedVariables false
set_option linter.unusedSimpArgs false

theorem e3 {q : Nat} (hq : q ∈ 3 :: (Kd.int .i64).E) : q = 3 := by simpa [Kd.int, Kd.scalar] using hq
theorem info27 : (Try.prog.info? 27).map (fun i => (i.zero, i.size, i.bytes)) = some (some (.agg #[.int .i64 0, .slice none 0 0]), 2, 32) := by kernel_rfl
theorem size27 : (Try.prog.info? 27).map (·.size) = some 2 := by kernel_rfl
theorem CO.start {w0 w W3 W4 W : World} {g ga gd gw gc gr : Nat} {s1 : Int} {A : List Int} {wide P : Int} {va : Value} {cr : Array Value} (hI : IsS118 w0 W4 g s1) (hB4 : Below w0.heap.size w0 W4) (hbase : w0.heap.size ≤ w.heap.size) (hg : g < w.heap.size) (h3 : Mem w W3 [(gr, cr, 27), (gw, #[.int .i64 wide], 3), (gd, #[.pointer (some ⟨g, 0, none⟩)], 23)]) (hK : KeepBut W3 W4 g none)
    (hm : Mem W4 W [(ga, #[va], 22), (gc, #[.int .i64 P, .slice none 0 0], 27)]) (ra : (Kd.int .i64).R 3 W W4.heap.size (fun _ => True) va A) : CO w0 w W g ga gd gw gc s1 A wide P va (.slice none 0 0) [] [(gr, cr, 27)] := by
  have k34 : ∀ p, p ∈ [(gr, cr, 27), (gw, #[Value.int .i64 wide], 3), (gd, #[Value.pointer (some ⟨g, 0, none⟩)], 23)] → W4.heap[p.1]? = some (.cells p.2.1 p.2.2 (0, 0)) := fun p hp => by
    have hb := h3.blk p hp
    have := h3.ge p hp
    exact (hK.2 p.1 (blk_lt hb) (by omega) (by simp)).trans hb
  have kW : ∀ p, p ∈ [(gr, cr, 27), (gw, #[Value.int .i64 wide], 3), (gd, #[Value.pointer (some ⟨g, 0, none⟩)], 23)] → W.heap[p.1]? = some (.cells p.2.1 p.2.2 (0, 0)) := fun p hp => blk_below (k34 p hp) hm.below
  have hlt : ∀ p, p ∈ [(gr, cr, 27), (gw, #[Value.int .i64 wide], 3), (gd, #[Value.pointer (some ⟨g, 0, none⟩)], 23)] → p.1 < W4.heap.size := fun p hp => blk_lt (k34 p hp)
  have h3ge := h3.ge
  have h3a := h3.apart
  have hma := hm.apart
  have hge := hm.ge
  have hw4 : w.heap.size ≤ W4.heap.size := Nat.le_trans h3.below.size hK.1
  simp only [List.pairwise_cons, List.mem_cons, forall_eq_or_imp, List.not_mem_nil, false_implies, implies_true, and_true] at h3a hma hge h3ge hlt
  have hgb := blk_below hI.1 hm.below
  refine ⟨⟨(below_step hB4 hm.below), fun p hp => ?_, fun p hp => ?_, ?_⟩, ?_, hbase, hg, ⟨by omega, by omega, by omega, by omega⟩, ?_, Kd.R_nil _ _ _ _ _, fun p hp => ?_⟩
  · simp only [List.mem_cons, List.not_mem_nil, or_false] at hp
    rcases hp with rfl | rfl | rfl | rfl | rfl | rfl
    · exact hm.second
    · exact hm.head
    · exact kW (gw, #[.int .i64 wide], 3) (by simp)
    · exact kW (gd, #[.pointer (some ⟨g, 0, none⟩)], 23) (by simp)
    · exact hgb
    · exact kW (gr, cr, 27) (by simp)
  · have := hI.2
    simp only [List.mem_cons, List.not_mem_nil, or_false] at hp
    rcases hp with rfl | rfl | rfl | rfl | rfl | rfl <;> simp only [] <;> omega
  · simp only [List.pairwise_cons, List.mem_cons, forall_eq_or_imp, List.not_mem_nil, false_implies, implies_true, and_true, List.Pairwise.nil]
    refine ⟨⟨?_, ?_, ?_, ?_, ?_⟩, ⟨?_, ?_, ?_, ?_⟩, ⟨?_, ?_, ?_⟩, ⟨?_, ?_⟩, ?_⟩ <;> omega
  · refine ⟨Nat.le_trans hw4 hm.below.size, fun i hi h1 h2 => ?_⟩
    have e1 := hm.below.block i (by omega)
    have e2 := hK.2 i (Nat.lt_of_lt_of_le hi h3.below.size) h1 (by simp)
    have e3 := h3.below.block i hi
    rw [e1, e2, e3]
  · exact Kd.R_mono (Kd.R_lower (Kd.R_bound ra) hw4) (fun k hk => by have := hk.2.1; omega)
  · simp only [List.mem_cons, List.not_mem_nil, or_false] at hp
    subst hp
    exact ⟨show (27 : Nat) ≠ 35 by decide, show (27 : Nat) ≠ 3 by decide, by simp only []; omega⟩
set_option maxHeartbeats 6400000 in
set_option maxRecDepth 100000 in
theorem thermionkit_ChainOf.calls (g : Nat) (s0_0 : Int) (a1 : Int) (a2 : Int) (r1 : Int) (r2 : List (S35)) (r3 : Int) (w0 w : World) (hI : IsS118 w0 w g s0_0) (hB : Below w0.heap.size w0 w) (h : thermionkit_ChainOf.f s0_0 a1 a2 = some (r1, r2, r3)) :
    Calls Try.prog 20 #[.pointer (some ⟨g, 0, none⟩), .int .i64 a1, .int .i64 a2] w fun e w' => ∃ v1_ : Value, e = .returned (.agg #[.int .i64 r1, v1_]) ∧ Kd.R k35 35 w' w.heap.size (fun _ => True) v1_ r2 ∧ IsS118 w0 w' g r3 ∧ Below w0.heap.size w0 w' ∧ KeepBut w w' g none := by
  unfold thermionkit_ChainOf.f at h
  have hguard : 1 ≤ a1 ∧ a1 ≤ 24 ∧ 0 ≤ a2 ∧ a2 ≤ 1000 := by
    by_cases q : 1 ≤ a1 ∧ a1 ≤ 24 ∧ 0 ≤ a2 ∧ a2 ≤ 1000
    · exact q
    · rw [if_neg q] at h; simp at h
  rw [if_pos hguard] at h
  have HF := Aside0.mk (Option.some.inj h)
  have HI0 := Aside0.mk hI
  have HB0 := Aside0.mk hB
  have HGL := Aside0.mk (show g < w.heap.size from blk_lt hI.1)
  have HMS := Aside0.mk (Mem.start w)
  clear h hI hB
  obtain ⟨g1, g2, g3, g4⟩ := hguard
  have hbt := bet_eq s0_0 1 a1 g1 (by omega) (by omega)
  have HAT := Aside0.mk (show chAts s0_0 a1 = atsTo (nextWord s0_0) ((chPoints s0_0 a1).toNat - 1) from rfl)
  have HTR := Aside0.mk (show chTree s0_0 a1 a2 = treeTo (chAts s0_0 a1).1 a2 (chAts s0_0 a1).2 ((chPoints s0_0 a1).toNat - 1) from rfl)
  have HMO := Aside0.mk (show chMore s0_0 a1 a2 = moreTo (chAts s0_0 a1).1 a2 (chPoints s0_0 a1) (nextWord (chTree s0_0 a1 a2).2) (chMany s0_0 a1 a2) from rfl)
  have HMA := Aside0.mk (show chMany s0_0 a1 a2 = if 1 < chPoints s0_0 a1 then (upV (chTree s0_0 a1 a2).2 4).toNat else 0 from rfl)
  have hPd : chPoints s0_0 a1 = betV s0_0 1 a1 := rfl
  rw [← hPd] at hbt
  clear hPd
  generalize chMore s0_0 a1 a2 = MO at HF HMO
  generalize chMany s0_0 a1 a2 = n at HMO HMA
  generalize chTree s0_0 a1 a2 = TR at HF HTR HMO HMA
  generalize chAts s0_0 a1 = AT at HAT HTR HMO
  generalize chPoints s0_0 a1 = PP at hbt HF HAT HTR HMO HMA
  obtain ⟨p, rfl⟩ : ∃ p : Nat, PP = p := ⟨PP.toNat, by omega⟩
  rw [Int.toNat_natCast] at HAT HTR
  have HBT := Aside0.mk hbt.1
  have hp1 : 1 ≤ p := by omega
  have hp2 : p ≤ 24 := by omega
  clear hbt
  have hu27 := Try.underlying27
  have hw1 : (0 : Int) ≤ a2 := g3
  go_enter Try.func20, Try.ntmps20
  go_wp2_with (first
    | ((with_reducible refine gate_dst (N := 3) rfl ?_); refine box_event ?hg (N := 3) ?hd (cs := #[.pointer (some ⟨g, 0, none⟩)]) (t := 23) ?hr ?_; (case hd => rfl); (case hg => rfl); (case hr => first | (go_simp; done) | (go_simp; rfl)); intro gd hgd w1 hbox hb; have HM1 := Aside0.mk (HMS.out.new hgd hbox hb); clear hgd hbox hb HMS)
    | ((with_reducible refine gate_dst (N := 5) rfl ?_); refine box_event ?hg (N := 5) ?hd (cs := #[.int .i64 a2]) (t := 3) ?hr ?_; (case hd => rfl); (case hg => rfl); (case hr => first | (go_simp; done) | (go_simp; rfl)); intro gw hgw w2 hbox hb; have HM2 := Aside0.mk (HM1.out.new hgw hbox hb); clear hgw hbox hb HM1)
    | ((with_reducible refine gate_dst (N := 6) rfl ?_); refine ev_new HM2.out rfl 27 rfl info27 ?_; intro gr w3 hm3 hq1; clear hq1; have HM3 := Aside0.mk hm3; clear hm3 HM2; have c3 : w3.cell? ⟨gd, 0, none⟩ = some (.pointer (some ⟨g, 0, none⟩)) := (blk_cell HM3.out.third 0).trans rfl)
    | (go_at_call 84; refine (thermionkit_Dice_Between.calls g s0_0 1 a1 p (nextWord s0_0) w0 _ ⟨blk_below HI0.out.1 HM3.out.below, HI0.out.2⟩ (below_step HB0.out HM3.out.below) HBT.out).mono ?_; rintro e w4 ⟨rfl, hI4, hB4, hK4⟩; have HI4 := Aside0.mk hI4; have HB4 := Aside0.mk hB4; have HK4 := Aside0.mk hK4; have HN0 := Aside0.mk (Mem.start w4); clear hI4 hB4 hK4 HBT c3)
    | ((with_reducible refine gate_dst (N := 7) rfl ?_); refine ev_new HN0.out rfl 27 rfl info27 ?_; intro gc w5 hm5 hq1; clear hq1; have HN5 := Aside0.mk hm5; clear hm5 HN0)
    | (refine ev_store HN5.out rfl 27 (.tmp 7) (.tmp 18) rfl rfl (cs := #[.int .i64 p, .slice none 0 0]) rfl size27 rfl rfl (by simp [Value.oneCell']) ?_; intro w6 hm6 hq1; clear hq1; have HN6 := Aside0.mk hm6; clear hm6 HN5)
    | ((with_reducible refine gate_dst (N := 19) rfl ?_); refine Kd.R_lit (Kd.int .i64) (w0 := w4) (W := w6) w4.heap.size 3 ?hg (N := 19) ?hd (xs := [0]) (inner := [.int .i64 0]) (ok := fun _ => True) (okp := fun _ => False) ?hr ?hp (fun _ _ => trivial) trivial HN6.out.below HN6.out.below.size (by decide) ?_; (case hd => rfl); (case hg => rfl); (case hr => first | (go_simp; done) | (go_simp; rfl)); (case hp => exact ⟨rfl, fun j p_ hj => by cases j with | zero => (simp at hj; subst hj; rfl) | succ j => simp at hj⟩); intro v19 w7 hR7 hB7 hg7 hat7; have HR7 := Aside0.mk hR7; have HN7 := Aside0.mk (HN6.out.grown hg7 (by simp) (by simp)); clear hR7 hB7 hg7 hat7 HN6)
    | ((with_reducible refine gate_dst (N := 8) rfl ?_); refine box_event ?hg (N := 8) ?hd (cs := #[.slice none 0 0]) (t := 22) ?hr ?_; (case hd => rfl); (case hg => rfl); (case hr => first | (go_simp; done) | (go_simp; rfl)); intro ga hga w8 hbox hb; have HN8 := Aside0.mk (HN7.out.new hga hbox hb); have HR8 := Aside0.mk (Kd.R_below HR7.out hb); clear hga hbox hb HN7 HR7; have s8 : w8.cell? ⟨ga, 0, none⟩ = some (.slice none 0 0) := (HN8.out.cell 0).trans rfl; have f8 : w8.frozen? ⟨ga, 0, none⟩ = false := HN8.out.frozen 0; obtain ⟨A8, n8, he8⟩ := Kd.R_slice HR8.out; subst he8))
  have HC1 : Aside0 (CO w0 w (w8.setCell ⟨ga, 0, none⟩ (.slice A8 1 n8)) g ga gd gw gc (nextWord s0_0) [0] a2 p (.slice A8 1 n8) (.slice none 0 0) [] [(gr, #[.int .i64 0, .slice none 0 0], 27)]) := ⟨CO.start HI4.out HB4.out HB0.out.size HGL.out HM3.out HK4.out (HN8.out.put 0 _ rfl) (Kd.R_set HR8.out HN8.out.head (fun q hq => by rw [e3 hq]; decide) 0 _)⟩
  clear HN8 HR8 s8 f8 HM3 HI4 HB4 HK4
  go_loopg [9] (p - 1) (fun k v9 w' => ∃ (j : Nat) (va : Value), v9 = .int .i64 (j + 1 : Nat) ∧ Aside0 (j + 1 + k = p) ∧ Aside0 (CO w0 w w' g ga gd gw gc (atsTo (nextWord s0_0) j).2 (atsTo (nextWord s0_0) j).1 a2 p va (.slice none 0 0) [] [(gr, #[.int .i64 0, .slice none 0 0], 27)]))
  case atStart => exact ⟨0, _, rfl, ⟨by omega⟩, HC1⟩
  case round =>
    clear HC1
    obtain ⟨j, va, rfl, HK, HC⟩ := hrel
    have cP := HC.out.cellP
    by_cases hj : j + 1 < p
    · have hj2 : ((j + 1 : Nat) : Int) < (p : Int) := by omega
      have hbz := bet_eq (atsTo (nextWord s0_0) j).2 (-30) 30 (by omega) (by omega) (by omega)
      have HST : Aside0 (atsTo (nextWord s0_0) (j + 1) = ((atsTo (nextWord s0_0) j).1 ++ [betV (atsTo (nextWord s0_0) j).2 (-30) 30], nextWord (atsTo (nextWord s0_0) j).2)) := ⟨rfl⟩
      have HLN := Aside0.mk (atsTo_length (nextWord s0_0) j)
      generalize betV (atsTo (nextWord s0_0) j).2 (-30) 30 = z at hbz HST
      have HBZ := Aside0.mk hbz.1
      clear hbz
      generalize (atsTo (nextWord s0_0) j).1 = A at HC HST HLN
      generalize (atsTo (nextWord s0_0) j).2 = sj at HC HST HBZ
      go_wp2_with fail
      have HCD := Aside0.mk HC.out.drew
      refine wp_region_noPanic ?_
      refine H.wp_region_T [5] (S := fun w' => w'.cell? ⟨ga, 0, none⟩ = some va ∧ w'.cell? ⟨gd, 0, none⟩ = some (.pointer (some ⟨g, 0, none⟩))) (by kernel_rfl) ⟨HCD.out.cellA, HCD.out.cellD⟩ (fun hHeld => ?_)
      refine H.wpAnyT_take (i := 0) (v := va) rfl (by decide) (by kernel_rfl) (by kernel_rfl) (by kernel_rfl) (by kernel_rfl) (fun _ _ _ h => h) (Or.inl ⟨by rfl, ?_⟩) hHeld ?_
      · (intro w_ hSw; (try dsimp only at hSw); obtain ⟨q1, q2⟩ := hSw; go_simp; try rfl)
      try simp only [Act.put, List.setIfInBounds_toArray, List.set_cons_zero, List.set_cons_succ]
      refine H.wpAnyT_take (i := 1) (v := .pointer (some ⟨g, 0, none⟩)) rfl (by decide) (by kernel_rfl) (by kernel_rfl) (by kernel_rfl) (by kernel_rfl) (fun _ _ _ h => h) (Or.inl ⟨by rfl, ?_⟩) hHeld ?_
      · (intro w_ hSw; (try dsimp only at hSw); obtain ⟨q1, q2⟩ := hSw; go_simp; try rfl)
      try simp only [Act.put, List.setIfInBounds_toArray, List.set_cons_zero, List.set_cons_succ]
      refine H.wpAnyT_ready (rs := [2]) (by kernel_rfl) (by simp) ?_
      refine H.AllT.cons (i := 2) rfl (by decide) (fun K hK => ?_) H.AllT.nil
      go_simp
      go_at_call 84
      refine (thermionkit_Dice_Between.calls g sj (-30) 30 z (nextWord sj) w0 _ HCD.out.isS HCD.out.below HBZ.out).mono ?_
      rintro e w5 ⟨rfl, hI5, hB5, hK5⟩
      have HC5 := Aside0.mk (HCD.out.dice hI5 hB5 hK5)
      clear hI5 hB5 hK5
      refine hK.out _ _ (⟨HC5.out.cellA, HC5.out.cellD⟩) (fun hHeld => ?_)
      clear hK K
      try simp only [Act.put, List.setIfInBounds_toArray, List.set_cons_zero, List.set_cons_succ]
      refine H.wpAnyT_ready (rs := [3]) (by kernel_rfl) (by simp) ?_
      refine H.AllT.cons (i := 3) rfl (by decide) (fun K hK => ?_) H.AllT.nil
      go_simp
      refine hK.out _ _ (⟨(HC5.out.later (below_alloc (Below.refl _ _) _)).cellA, (HC5.out.later (below_alloc (Below.refl _ _) _)).cellD⟩) (fun hHeld => ?_)
      clear hK K
      try simp only [Act.put, List.setIfInBounds_toArray, List.set_cons_zero, List.set_cons_succ]
      refine H.wpAnyT_ready (rs := [4]) (by kernel_rfl) (by simp) ?_
      refine H.AllT.cons (i := 4) rfl (by decide) (fun K hK => ?_) H.AllT.nil
      refine Kd.R_append_step (Kd.int .i64) (w0 := w5) w.heap.size (by rfl) (.tmp 26) (.tmp 29) 22 3 (.int .i64 0) 8 rfl Try.underlying22 info3 rfl (by decide) (by omega) va A z [.int .i64 z] (fun k => k ≠ gw) (fun _ => False) (by rfl) (by rfl) rfl (fun _ hk => hk.elim) (fun k hk => by have := blk_lt (HC5.out.mem.third); omega) HC5.out.ra (Below.refl _ _) HC5.out.keep.1 (by have := HLN.out; omega) ?_
      intro v1 w6 hR6 hB6 hg6 hat6
      obtain ⟨A1, n1, he1⟩ := Kd.R_slice hR6
      subst he1
      rw [List.length_append, List.length_singleton] at hR6
      have HC6 := Aside0.mk (HC5.out.pushA hg6 hR6)
      have m6 := HC5.out.grownMemA hg6
      have s6 : w6.cell? ⟨ga, 0, none⟩ = some va := (blk_cell m6.second 0).trans rfl
      have f6 : w6.frozen? ⟨ga, 0, none⟩ = false := blk_frozen m6.second 0
      have d6 : w6.cell? ⟨gd, 0, none⟩ = some (.pointer (some ⟨g, 0, none⟩)) := (blk_cell (m6.blk (gd, #[.pointer (some ⟨g, 0, none⟩)], 23) (by simp)) 0).trans rfl
      clear hR6 hB6 hg6 hat6 m6
      refine hK.out _ _ (⟨s6, d6⟩) (fun hHeld => ?_)
      clear hK K
      try simp only [Act.put, List.setIfInBounds_toArray, List.set_cons_zero, List.set_cons_succ]
      refine H.wpAnyT_ready (rs := [5]) (by kernel_rfl) (by simp) ?_
      refine H.AllT.last (i := 5) rfl (by decide) (fun K hK => ?_) H.AllT.nil
      go_simp
      refine hK.out _ _ ?_
      clear hK K s6 f6 d6 hHeld
      try simp only [Act.put, List.setIfInBounds_toArray, List.set_cons_zero, List.set_cons_succ]
      refine wpAny_done (by kernel_rfl) ?_ _
      refine NoPanic.normal ?_
      go_wp2_with fail
      go_roundg (p - 1 - (j + 1))
      case measure => have := HK.out; omega
      case rel => exact ⟨j + 1, _, by go_num, ⟨by omega⟩, ⟨by rw [HST.out]; exact HC6.out⟩⟩
    · have hjp : j = p - 1 := by have := HK.out; omega
      have HC2 : Aside0 (CO w0 w wr g ga gd gw gc AT.2 AT.1 a2 p va (.slice none 0 0) [] [(gr, #[.int .i64 0, .slice none 0 0], 27)]) := ⟨by rw [HAT.out, ← hjp]; exact HC.out⟩
      have hj2 : ¬ ((j + 1 : Nat) : Int) < (p : Int) := by omega
      have hAL : AT.1.length = p := by rw [HAT.out, atsTo_length]; omega
      have HAS : Aside0 (∀ j, -30 ≤ AT.1.getD j 0 ∧ AT.1.getD j 0 ≤ 30) := ⟨by rw [HAT.out]; exact atsTo_small _ _⟩
      clear HAT HC HK
      go_wp2_with fail
      clear hj2 cP hjp
      obtain ⟨A, sA⟩ := AT
      simp only [] at hAL HAS HTR HMO HC2
      go_loopg [11, 12] (p - 1) (fun k v11 v12 w' => ∃ (j : Nat) (vl : Value), v11 = .int .i64 (j + 1 : Nat) ∧ Aside0 (j + 1 + k = p) ∧ Aside0 (CO w0 w w' g ga gd gw gc (treeTo A a2 sA j).2 A a2 p va vl (treeTo A a2 sA j).1 [(gr, #[.int .i64 0, .slice none 0 0], 27)]))
      case atStart => exact ⟨0, _, rfl, ⟨by omega⟩, HC2⟩
      case round =>
        clear HC2
        obtain ⟨j, vl, rfl, HK, HC⟩ := hrel
        have cP := HC.out.cellP
        have cD := HC.out.cellD
        by_cases hj : j + 1 < p
        · have hj2 : ((j + 1 : Nat) : Int) < (p : Int) := by omega
          have hup := up_eq (treeTo A a2 sA j).2 (j + 1 : Nat) (by omega) (by omega)
          have hon := one_eq2 (nextWord (treeTo A a2 sA j).2) 2 (by omega) (by omega)
          have HST : Aside0 (treeTo A a2 sA (j + 1) = ((treeTo A a2 sA j).1 ++ [if oneV (nextWord (treeTo A a2 sA j).2) 2 = true then addLink A a2 (nextWord (nextWord (treeTo A a2 sA j).2)) (upV (treeTo A a2 sA j).2 (j + 1 : Nat)) (j + 1 : Nat) else addLink A a2 (nextWord (nextWord (treeTo A a2 sA j).2)) (j + 1 : Nat) (upV (treeTo A a2 sA j).2 (j + 1 : Nat))], next3 (nextWord (nextWord (treeTo A a2 sA j).2)))) := ⟨rfl⟩
          have HLN := Aside0.mk (treeTo_length A a2 sA j)
          generalize upV (treeTo A a2 sA j).2 (j + 1 : Nat) = u at hup HST
          generalize oneV (nextWord (treeTo A a2 sA j).2) 2 = b at hon HST
          generalize (treeTo A a2 sA j).1 = T at HC HST HLN
          generalize (treeTo A a2 sA j).2 = sj at HC HST hup hon
          obtain ⟨x, rfl⟩ : ∃ x : Nat, u = x := ⟨u.toNat, by omega⟩
          have hx : x < j + 1 := by omega
          have HUP := Aside0.mk hup.1
          have HON := Aside0.mk hon
          clear hup hon
          cases b
          · go_wp2_with (first
              | (go_at_call 43; refine (thermionkit_Dice_Upto.calls g sj (j + 1 : Nat) x (nextWord sj) w0 _ HC.out.isS HC.out.below HUP.out).mono ?_; rintro e w5 ⟨rfl, hI5, hB5, hK5⟩; have HC5 := Aside0.mk (HC.out.dice hI5 hB5 hK5); have d5 := HC5.out.cellD; clear hI5 hB5 hK5 HC cP cD HUP)
              | (go_at_call 35; refine (thermionkit_Dice_One.calls g (nextWord sj) 2 false (nextWord (nextWord sj)) w0 _ HC5.out.isS HC5.out.below HON.out).mono ?_; rintro e w6 ⟨rfl, hI6, hB6, hK6⟩; have HC6 := Aside0.mk (HC5.out.dice hI6 hB6 hK6); clear hI6 hB6 hK6 HC5 d5 HON)
              | (refine (add_calls HC6.out HAS.out ⟨g3, g4⟩ (j + 1) x (by omega) (by omega) (by have := HLN.out; omega)).mono ?_; rintro e w7 ⟨rfl, vl7, hC7⟩; have HC7 := Aside0.mk hC7; clear hC7 HC6))
            go_roundg (p - 1 - (j + 1))
            case measure => have := HK.out; omega
            case rel => exact ⟨j + 1, vl7, by go_num, ⟨by omega⟩, ⟨by rw [HST.out]; exact HC7.out⟩⟩
          · go_wp2_with (first
              | (go_at_call 43; refine (thermionkit_Dice_Upto.calls g sj (j + 1 : Nat) x (nextWord sj) w0 _ HC.out.isS HC.out.below HUP.out).mono ?_; rintro e w5 ⟨rfl, hI5, hB5, hK5⟩; have HC5 := Aside0.mk (HC.out.dice hI5 hB5 hK5); have d5 := HC5.out.cellD; clear hI5 hB5 hK5 HC cP cD HUP)
              | (go_at_call 35; refine (thermionkit_Dice_One.calls g (nextWord sj) 2 true (nextWord (nextWord sj)) w0 _ HC5.out.isS HC5.out.below HON.out).mono ?_; rintro e w6 ⟨rfl, hI6, hB6, hK6⟩; have HC6 := Aside0.mk (HC5.out.dice hI6 hB6 hK6); clear hI6 hB6 hK6 HC5 d5 HON)
              | (refine (add_calls HC6.out HAS.out ⟨g3, g4⟩ x (j + 1) (by omega) (by omega) (by have := HLN.out; omega)).mono ?_; rintro e w7 ⟨rfl, vl7, hC7⟩; have HC7 := Aside0.mk hC7; clear hC7 HC6))
            go_roundg (p - 1 - (j + 1))
            case measure => have := HK.out; omega
            case rel => exact ⟨j + 1, vl7, by go_num, ⟨by omega⟩, ⟨by rw [HST.out]; exact HC7.out⟩⟩
        · have hjp : j = p - 1 := by have := HK.out; omega
          have HC3 : Aside0 (CO w0 w wr g ga gd gw gc TR.2 A a2 p va vl TR.1 [(gr, #[.int .i64 0, .slice none 0 0], 27)]) := ⟨by rw [HTR.out, ← hjp]; exact HC.out⟩
          have hj2 : ¬ ((j + 1 : Nat) : Int) < (p : Int) := by omega
          have hTL : TR.1.length = p - 1 := by rw [HTR.out, treeTo_length]
          clear HTR HC HK hjp
          obtain ⟨T, sT⟩ := TR
          simp only [] at hTL HMO HMA HF HC3
          have hup := up_eq sT 4 (by omega) (by omega)
          generalize upV sT 4 = u at hup HMA
          obtain ⟨m, rfl⟩ : ∃ m : Nat, u = m := ⟨u.toNat, by omega⟩
          rw [Int.toNat_natCast] at HMA
          have hm : m < 4 := by omega
          have HUP := Aside0.mk hup.1
          clear hup
          go_wp2_with (first
            | (go_at_call 43; refine (thermionkit_Dice_Upto.calls g sT 4 m (nextWord sT) w0 _ HC3.out.isS HC3.out.below HUP.out).mono ?_; rintro e w5 ⟨rfl, hI5, hB5, hK5⟩; have HC5 := Aside0.mk (HC3.out.dice hI5 hB5 hK5); clear hI5 hB5 hK5 HC3 cP cD HUP hj2))
          go_loopg [13, 14] m (fun k v13 v14 w' => ∃ (j : Nat) (vl : Value), v13 = .int .i64 ((m - j : Nat) : Int) ∧ Aside0 (j + k = m ∧ (p ≤ 1 → j = 0)) ∧ Aside0 (CO w0 w w' g ga gd gw gc (moreTo A a2 p (nextWord sT) j).2 A a2 p va vl (T ++ (moreTo A a2 p (nextWord sT) j).1) [(gr, #[.int .i64 0, .slice none 0 0], 27)]))
          case atStart => exact ⟨0, _, rfl, ⟨by omega, fun _ => rfl⟩, ⟨by rw [moreTo, List.append_nil]; exact HC5.out⟩⟩
          case round =>
            clear HC5
            obtain ⟨j, vl, rfl, HK, HC⟩ := hrel
            have cP := HC.out.cellP
            have cD := HC.out.cellD
            have hjm : j ≤ m := by have := HK.out.1; omega
            by_cases h1p : 1 < p ∧ j < m
            · obtain ⟨hp3, hjm2⟩ := h1p
              have t1 : (0 : Int) < ((m - j : Nat) : Int) := by omega
              have t2 : (1 : Int) < (p : Int) := by omega
              have t3 : ((p : Int) == 0) = false := by simp; omega
              have t3b : ¬ (p : Int) = 0 := by omega
              have hup := up_eq (moreTo A a2 p (nextWord sT) j).2 p (by omega) (by omega)
              have hbt := bet_eq (nextWord (moreTo A a2 p (nextWord sT) j).2) 1 ((p : Int) - 1) (by omega) (by omega) (by omega)
              have HST : Aside0 (moreTo A a2 p (nextWord sT) (j + 1) = ((moreTo A a2 p (nextWord sT) j).1 ++ [addLink A a2 (nextWord (nextWord (moreTo A a2 p (nextWord sT) j).2)) (upV (moreTo A a2 p (nextWord sT) j).2 p) (Int.tmod (upV (moreTo A a2 p (nextWord sT) j).2 p + betV (nextWord (moreTo A a2 p (nextWord sT) j).2) 1 ((p : Int) - 1)) p)], next3 (nextWord (nextWord (moreTo A a2 p (nextWord sT) j).2)))) := ⟨rfl⟩
              have HLN := Aside0.mk (moreTo_length A a2 p (nextWord sT) j)
              generalize upV (moreTo A a2 p (nextWord sT) j).2 p = u at hup HST
              generalize betV (nextWord (moreTo A a2 p (nextWord sT) j).2) 1 ((p : Int) - 1) = y at hbt HST
              generalize (moreTo A a2 p (nextWord sT) j).1 = M at HC HST HLN
              generalize (moreTo A a2 p (nextWord sT) j).2 = sj at HC HST hup hbt
              obtain ⟨x, rfl⟩ : ∃ x : Nat, u = x := ⟨u.toNat, by omega⟩
              have hx : x < p := by omega
              have hy1 : 1 ≤ y := hbt.2.1
              have hy2 : y ≤ (p : Int) - 1 := hbt.2.2
              have HUP := Aside0.mk hup.1
              have HBT := Aside0.mk hbt.1
              clear hup hbt
              have n1 : IntKind.i64.wrap ((p : Int) - 1) = (p : Int) - 1 := IntWalk.i64_in _ (by omega)
              have n2 : IntKind.i64.wrap ((x : Int) + y) = (x : Int) + y := IntWalk.i64_in _ (by omega)
              have hm0 := Int.emod_nonneg ((x : Int) + y) (show (p : Int) ≠ 0 by omega)
              have hm1 := Int.emod_lt_of_pos ((x : Int) + y) (show 0 < (p : Int) by omega)
              obtain ⟨c, hc⟩ : ∃ c : Nat, Int.tmod ((x : Int) + y) p = (c : Int) := ⟨(((x : Int) + y) % p).toNat, by rw [Int.tmod_eq_emod_of_nonneg (by omega)]; omega⟩
              have hcp : c < p := by rw [Int.tmod_eq_emod_of_nonneg (by omega)] at hc; omega
              rw [hc] at HST
              have n4 : IntKind.i64.wrap (c : Int) = (c : Int) := IntWalk.i64_in _ (by omega)
              have t3c : ¬ p = 0 := by omega
              clear hm0 hm1
              go_wp2_with (first
                | (go_at_call 43; refine (thermionkit_Dice_Upto.calls g sj p x (nextWord sj) w0 _ HC.out.isS HC.out.below HUP.out).mono ?_; rintro e w5 ⟨rfl, hI5, hB5, hK5⟩; have HC5 := Aside0.mk (HC.out.dice hI5 hB5 hK5); clear hI5 hB5 hK5 HC cP cD HUP))
              have HC6 := Aside0.mk HC5.out.drew
              have d6 := HC6.out.cellD
              have p6 := HC6.out.cellP
              go_region_held3 (fun w' => w'.cell? ⟨gd, 0, none⟩ = some (.pointer (some ⟨g, 0, none⟩)) ∧ w'.cell? ⟨gc, 0, none⟩ = some (.int .i64 p)) (first | exact ⟨d6, p6⟩ | exact ⟨HC7.out.cellD, HC7.out.cellP⟩ | exact ⟨HC8.out.cellD, HC8.out.cellP⟩) (first
                | (go_at_call 84; refine (thermionkit_Dice_Between.calls g (nextWord sj) 1 ((p : Int) - 1) y (nextWord (nextWord sj)) w0 _ HC6.out.isS HC6.out.below HBT.out).mono ?_; rintro e w7 ⟨rfl, hI7, hB7, hK7⟩; have HC7 := Aside0.mk (HC6.out.dice hI7 hB7 hK7); clear hI7 hB7 hK7)
                | (go_at_call 86; refine (add_calls HC7.out HAS.out ⟨g3, g4⟩ x c (by omega) (by omega) (by rw [List.length_append]; have := HLN.out; omega)).mono ?_; rintro e w8 ⟨rfl, vl8, hC8⟩; have HC8 := Aside0.mk hC8; clear hC8))
              go_wp2_with fail
              go_roundg (m - (j + 1))
              case measure => have := HK.out.1; omega
              case rel => exact ⟨j + 1, vl8, by go_num, ⟨by omega, fun q => by omega⟩, ⟨by rw [HST.out, ← List.append_assoc]; exact HC8.out⟩⟩
            · have hnj : n = j := by
                rw [HMA.out]
                have := HK.out.2
                split <;> omega
              subst hnj
              obtain ⟨A1, n1, e1⟩ := Kd.R_slice HC.out.rl
              have HF1 : Aside0 (r1 = (p : Int) ∧ r2 = T ++ (moreTo A a2 p (nextWord sT) n).1 ∧ r3 = (moreTo A a2 p (nextWord sT) n).2) := ⟨by have := HF.out; rw [HMO.out] at this; exact ⟨(congrArg Prod.fst this).symm, (congrArg (fun x => x.2.1) this).symm, (congrArg (fun x => x.2.2) this).symm⟩⟩
              clear HMA HMO HF
              generalize T ++ (moreTo A a2 p (nextWord sT) n).1 = LL at HC HF1 e1
              generalize (moreTo A a2 p (nextWord sT) n).2 = sE at HC HF1
              subst e1
              have hz : n < m ∨ n = m := by omega
              rcases hz with hz | hz
              · have t1 : (0 : Int) < ((m - n : Nat) : Int) := by omega
                have t2 : ¬ (1 : Int) < (p : Int) := by omega
                go_wp2_with (first
                  | ((with_reducible refine gate_dst (N := 79) rfl ?_); refine ev_load HC.out.mem.head rfl 27 (.tmp 7) rfl rfl _ Try.underlying27 rfl size27 rfl ?_)
                  | (refine ev_storeW HC.out.headl rfl 27 (.tmp 6) (.tmp 79) rfl rfl (cs := #[.int .i64 p, .slice A1 LL.length n1]) rfl size27 rfl rfl (by simp [Value.oneCell']) ?_; intro hm7; have HC9 := Aside0.mk (HC.out.setl hm7 (size_setRow _ _ _) (fun k hk => setRow_other _ _ _ _ hk)); clear hm7))
                exact bodyPost_ret (results_cell_row rfl _ _ _ _ _ _ _ rfl HC9.out.headl.head Try.underlying27 rfl size27) rfl ⟨_, by rw [HF1.out.1], by rw [HF1.out.2.1]; exact HC9.out.rl, by rw [HF1.out.2.2]; exact HC9.out.isS, HC9.out.below, HC9.out.keep⟩
              · have t1 : ((m - n : Nat) : Int) = 0 := by omega
                rw [t1]
                go_wp2_with (first
                  | ((with_reducible refine gate_dst (N := 79) rfl ?_); refine ev_load HC.out.mem.head rfl 27 (.tmp 7) rfl rfl _ Try.underlying27 rfl size27 rfl ?_)
                  | (refine ev_storeW HC.out.headl rfl 27 (.tmp 6) (.tmp 79) rfl rfl (cs := #[.int .i64 p, .slice A1 LL.length n1]) rfl size27 rfl rfl (by simp [Value.oneCell']) ?_; intro hm7; have HC9 := Aside0.mk (HC.out.setl hm7 (size_setRow _ _ _) (fun k hk => setRow_other _ _ _ _ hk)); clear hm7))
                exact bodyPost_ret (results_cell_row rfl _ _ _ _ _ _ _ rfl HC9.out.headl.head Try.underlying27 rfl size27) rfl ⟨_, by rw [HF1.out.1], by rw [HF1.out.2.1]; exact HC9.out.rl, by rw [HF1.out.2.2]; exact HC9.out.isS, HC9.out.below, HC9.out.keep⟩
end Go.Proofs.Ytbcfphoheijmdaa.Print
end

section
/- Wind's plain function, and its inner function: the link that it adds. -/
namespace Go.Proofs.Ytbcfphoheijmdaa.Print
open Go.RowKit Go.Proofs.YtbcfphoheijmdaaW.PrintWords Go.Proofs.YtbcfphoheijmdaaW.PrintLast Go.Proofs.YtbcfphoheijmdaaW.PrintMore Go.Proofs.Ytbcfphoheijmdaa.H
attribute [local go_sem] max2_int min2_int max_two min_two max_three min_three max_four min_four
attribute [local go_sem ↓] Go.wp_at_zero Go.wp_at_succ
set_option linter.unusedVariables false
set_option linter.unusedSimpArgs false

theorem info144 : (Try.prog.info? 144).map (fun i => (i.zero, i.size, i.bytes)) = some (some (.agg #[.int .i64 0, .int .i64 0, .int .i64 0, .int .i64 0]), 4, 32) := by kernel_rfl
theorem size144 : (Try.prog.info? 144).map (·.size) = some 4 := by kernel_rfl
/-- The error of a range between bounds. -/
def rngErr (r : S32) (low high : Int) : Int := if r.f1 < r.f0 then 11 else if r.f0 < low ∨ high < r.f1 then 2 else 0
def windErr (w : S72) : Int :=
  if 1 ≤ w.f0 ∧ w.f0 ≤ 11 then
    (if rngErr w.f1 1 10000 ≠ 0 then rngErr w.f1 1 10000 else if rngErr w.f2 1 10000 ≠ 0 then rngErr w.f2 1 10000 else if rngErr w.f3 0 1000000 ≠ 0 then rngErr w.f3 0 1000000 else if rngErr w.f4 0 1000000 ≠ 0 then rngErr w.f4 0 1000000 else rngErr w.f5 0 1000000)
  else 2
/-- The pitch, stretched. -/
def windPitch (p s : S32) : S32 := ⟨p.f0 + Int.tdiv (p.f0 * s.f0) 1000000, p.f1 + Int.tdiv (p.f1 * s.f1 + 1000000 - 1) 1000000⟩
/-- The links of the first turns. -/
def windTo (first wire pitch : S32) : Nat → List S35
  | 0 => [⟨0, 1, first⟩]
  | j + 1 => windTo first wire pitch j ++ [⟨2 * (j : Int) + 1, 2 * (j : Int) + 2, wire⟩] ++ (if 0 < j then [⟨2 * (j : Int) - 1, 2 * (j : Int) + 1, pitch⟩] else [])
def windLinks (w : S72) : List S35 := windTo w.f4 w.f1 (windPitch w.f2 w.f3) w.f0.toNat ++ (if 1 < w.f0 then [⟨1, 2 * w.f0, w.f5⟩] else [])
def windRes (w : S72) : Int × List S35 × Int := if windErr w = 0 then (2 * w.f0 + 1, windLinks w, 0) else (0, [], windErr w)
def mount_Wind.f (a0_0 : Int) (a0_1 : Int) (a0_2 : Int) (a0_3 : Int) (a0_4 : Int) (a0_5 : Int) (a0_6 : Int) (a0_7 : Int) (a0_8 : Int) (a0_9 : Int) (a0_10 : Int) : Option (Int × (List (S35)) × Int) :=
  some (windRes ⟨a0_0, ⟨a0_1, a0_2⟩, ⟨a0_3, a0_4⟩, ⟨a0_5, a0_6⟩, ⟨a0_7, a0_8⟩, ⟨a0_9, a0_10⟩⟩)
theorem windTo_length (first wire pitch : S32) : ∀ j, (windTo first wire pitch j).length ≤ 2 * j + 1
  | 0 => by simp [windTo]
  | j + 1 => by
    have := windTo_length first wire pitch j
    rw [windTo]
    split <;> simp <;> omega
/-- Wind's variables: the chain; what else it holds. -/
structure WN (w W : World) (gc : Nat) (P : Int) (vl : Value) (L : List S35) (l : List (Nat × Array Value × TypeId)) : Prop where
  mem : Mem w W ((gc, #[.int .i64 P, vl], 27) :: l)
  rl : k35.R 35 W w.heap.size (fun _ => True) vl L
  types : ∀ p, p ∈ l → p.2.2 ≠ 35
namespace WN
variable {w W W1 : World} {gc : Nat} {P : Int} {vl v1 : Value} {L : List S35} {y : S35} {l : List (Nat × Array Value × TypeId)}
theorem later (h : WN w W gc P vl L l) (hb : Below W.heap.size W W1) : WN w W1 gc P vl L l := ⟨h.mem.step hb, Kd.R_below h.rl hb, h.types⟩
theorem cellL (h : WN w W gc P vl L l) : W.cell? ⟨gc, 1, none⟩ = some vl := (h.mem.cell 1).trans rfl
theorem cellP (h : WN w W gc P vl L l) : W.cell? ⟨gc, 0, none⟩ = some (.int .i64 P) := (h.mem.cell 0).trans rfl
theorem grownMem (h : WN w W gc P vl L l) (hg : W.grownBy W1 vl.ownBlock) : Mem w W1 ((gc, #[.int .i64 P, vl], 27) :: l) :=
  h.mem.grown hg (fun k hk => Kd.R_base h.rl k hk) (fun p hp => by
    refine Kd.R_ne h.rl (h.mem.blk p hp) ?_
    rcases List.mem_cons.1 hp with rfl | hp
    · show (35 : Nat) ≠ 27; decide
    · exact (h.types p hp).symm)
theorem push (h : WN w W gc P vl L l) (hg : W.grownBy W1 vl.ownBlock) (hR : k35.R 35 W1 w.heap.size (fun _ => True) v1 (L ++ [y])) : WN w (W1.setCell ⟨gc, 1, none⟩ v1) gc P v1 (L ++ [y]) l := by
  have hm := h.grownMem hg
  refine ⟨hm.put 1 v1 rfl, Kd.R_set hR hm.head (fun q hq => ?_) 1 v1, h.types⟩
  have : q = 35 := e35 hq
  subst this
  decide
theorem final {g2 : Nat} {old cs : Array Value} (h : WN w W gc P vl L l) (hb : W.heap[g2]? = some (.cells old 27 (0, 0))) : k35.R 35 (W.setRow g2 cs) w.heap.size (fun _ => True) vl L :=
  Kd.R_mono (Kd.R_step (Kd.R_types h.rl hb (fun q hq => by
    have : q = 35 := e35 hq
    subst this
    decide)) (fun k hk2 _ => setRow_other _ _ _ _ hk2.2)) (fun _ hk => hk.1)
end WN
set_option maxHeartbeats 3200000 in
set_option maxRecDepth 100000 in
theorem link_calls {w W : World} {gc : Nat} {P : Int} {vl : Value} {L : List S35} {l : List (Nat × Array Value × TypeId)} (h : WN w W gc P vl L l) (a b lo hi : Int) (hL : L.length ≤ 1000) :
    Calls Try.prog 105 #[.int .i64 a, .int .i64 b, .agg #[.int .i64 lo, .int .i64 hi], .pointer (some ⟨gc, 0, none⟩)] W fun e W' => e = .returned (.tuple #[]) ∧ ∃ vl', WN w W' gc P vl' (L ++ [⟨a, b, ⟨lo, hi⟩⟩]) l := by
  have HH := Aside0.mk h
  have HM := Aside0.mk (Mem.start W)
  clear h
  have hu32 := Try.underlying32
  go_enter Try.func105, Try.ntmps105
  go_wp2_with (first
    | ((with_reducible refine gate_dst (N := 6) rfl ?_); refine ev_box HM.out rfl 32 (.tmp 2) rfl (cs := #[.int .i64 lo, .int .i64 hi]) rfl ?_; intro g6 w1 hm1 hq1; clear hq1; have HH1 := Aside0.mk (HH.out.later hm1.below); have HX1 := Aside0.mk hm1; have cL := HH1.out.cellL; clear hm1 HM HH)
    | ((with_reducible refine gate_dst (N := 11) rfl ?_); refine ev_load HX1.out.head rfl 32 (.tmp 6) rfl rfl _ Try.underlying32 rfl size32 rfl ?_)
    | ((with_reducible refine gate_dst (N := 14) rfl ?_); refine Kd.R_append k35 (w0 := w1) w.heap.size rfl (.tmp 8) (.tmp 13) 25 35 _ _ rfl Try.underlying25 info35 rfl (by decide) (by omega) vl L ⟨a, b, ⟨lo, hi⟩⟩ [.int .i64 a, .int .i64 b, .int .i64 lo, .int .i64 hi] (fun _ => True) (fun _ => False) rfl rfl (k35_mkM _ _ _ _) (fun _ hk => hk.elim) (fun _ _ => trivial) HH1.out.rl (Below.refl _ _) HH1.out.mem.below.size (by omega) ?_; intro v1 w9 hR9 hB9 hg9 hat9; obtain ⟨A1, n1, he1⟩ := Kd.R_slice hR9; subst he1; rw [List.length_append, List.length_singleton] at hR9; have HH9 := Aside0.mk (HH1.out.push hg9 hR9); have s9 : w9.cell? ⟨gc, 1, none⟩ = some vl := (blk_cell (HH1.out.grownMem hg9).head 1).trans rfl; have f9 : w9.frozen? ⟨gc, 1, none⟩ = false := blk_frozen (HH1.out.grownMem hg9).head 1; clear hR9 hB9 hg9 hat9))
  exact bodyPost_end (results_none rfl _ _ _) rfl ⟨rfl, .slice A1 (L.length + 1) n1, HH9.out⟩
end Go.Proofs.Ytbcfphoheijmdaa.Print
end

section
/- What the Go function thermionkit_Dice_Range does, as a Lean function, and that its call does so. Printed by a program of this work out of the translation. -/
namespace Go.Proofs.Ytbcfphoheijmdaa.Print
open Go.RowKit Go.Proofs.YtbcfphoheijmdaaW.PrintWords Go.Proofs.YtbcfphoheijmdaaW.PrintLast Go.Proofs.YtbcfphoheijmdaaW.PrintMore
attribute [local go_sem] max2_int min2_int max_two min_two max_three min_three max_four min_four
set_option linter.unusedVariables false
set_option linter.unusedSimpArgs false

/-! ### thermionkit_Dice_Range: function 23 -/
def thermionkit_Dice_Range.f (s0_0 : Int) (a1 : Int) (a2 : Int) : Option (Int × Int × Int) := (thermionkit_Dice_Between.f s0_0 a1 a2).bind fun bt168 => ((thermionkit_Dice_Between.f bt168.2 a1 a2).bind fun bt170 => (some (mn bt168.1 bt170.1, mx bt168.1 bt170.1, bt170.2)))
set_option maxHeartbeats 8000000 in
set_option maxRecDepth 100000 in
theorem thermionkit_Dice_Range.calls (g : Nat) (s0_0 : Int) (a1 : Int) (a2 : Int) (r1 : Int) (r2 : Int) (r3 : Int) (w0 w : World) (hI : IsS118 w0 w g s0_0) (hB : Below w0.heap.size w0 w) (h : thermionkit_Dice_Range.f s0_0 a1 a2 = some (r1, r2, r3)) :
  Calls Try.prog 23 #[.pointer (some ⟨g, 0, none⟩), .int .i64 a1, .int .i64 a2] w fun e w' => e = .returned (.agg #[.int .i64 r1, .int .i64 r2]) ∧ IsS118 w0 w' g r3 ∧ Below w0.heap.size w0 w' ∧ KeepBut w w' g none := by
 have hu32 := Try.underlying32
 have HI0 := Aside0.mk hI
 have HK := Aside0.mk (KeepBut.refl w g none)
 have HL := Aside0.mk hB.size
 clear hI
 have HW0 := Aside0.mk hB.size
 have HB := Aside0.mk hB
 clear hB
 have H : ((thermionkit_Dice_Between.f s0_0 a1 a2).bind fun bt168 => ((thermionkit_Dice_Between.f bt168.2 a1 a2).bind fun bt170 => (some (mn bt168.1 bt170.1, mx bt168.1 bt170.1, bt170.2)))) = some (r1, r2, r3) := h
 clear h
 replace H := Option.bind_eq_some_iff.mp H
 obtain ⟨⟨t168, t169⟩, A40, H⟩ := H
 replace H : ((thermionkit_Dice_Between.f t169 a1 a2).bind fun bt170 => (some (mn t168 bt170.1, mx t168 bt170.1, bt170.2))) = some (r1, r2, r3) := H
 have A4 := Aside0.mk A40
 clear A40
 replace H := Option.bind_eq_some_iff.mp H
 obtain ⟨⟨t170, t171⟩, A50, H⟩ := H
 replace H : (some (mn t168 t170, mx t168 t170, t171)) = some (r1, r2, r3) := H
 have A5 := Aside0.mk A50
 clear A50
 obtain ⟨ji6, hji6⟩ : ∃ j_ : Int, (mn t168 t170) = j_ := ⟨_, rfl⟩
 replace H : (some (ji6, mx t168 t170, t171)) = some (r1, r2, r3) := by first | (rw [hji6] at H; exact H) | (simp only [hji6] at H ⊢; exact H)
 (try rw [hji6] at A4)
 (try rw [hji6] at A5)
 have hji6_ : (if t170 < t168 then t170 else t168) = ji6 := hji6
 obtain ⟨ji7, hji7⟩ : ∃ j_ : Int, (mx t168 t170) = j_ := ⟨_, rfl⟩
 replace H : (some (ji6, ji7, t171)) = some (r1, r2, r3) := by first | (rw [hji7] at H; exact H) | (simp only [hji7] at H ⊢; exact H)
 (try rw [hji7] at A4)
 (try rw [hji7] at A5)
 have hji7_ : (if t168 < t170 then t170 else t168) = ji7 := hji7
 simp only [Option.some.injEq, Prod.mk.injEq] at H
 obtain ⟨rfl, rfl, rfl⟩ := H
 go_enter Try.func23, Try.ntmps23
 go_wp2_with (first | ((with_reducible refine gate_dst (N := 6) rfl ?_); refine box_event ?hg (N := 6) ?hd (cs := #[.int .i64 0, .int .i64 0]) (t := 32) ?hr ?_; (case hd => rfl); (case hg => rfl); (case hr => first | (go_simp; done) | (go_simp; rfl)); intro gb167 hg w8 hbox hb; have n0_ := Aside0.mk (IsS118.below (by repeat (first | (with_reducible first | exact HI0.out | apply IsS118.alloc | apply IsS118.drewN | apply IsS118.drew | apply IsS118.set_0) | exact HI0.out)) hb); have n1_ := Aside0.mk (KeepBut.trans (by repeat (first | (with_reducible first | exact HK.out | apply KeepBut.set_ | apply keep_drewN | apply keep_drew | apply keep_alloc) | exact HK.out)) (KeepBut.of_below hb g none) (.inl rfl)); have n2_ := Aside0.mk (below_step (by repeat (first | (with_reducible first | exact HB.out | apply below_alloc | apply pw_below_drewN | apply below_drew1 | refine below_set ?_ (IsS118.ge HI0.out)) | exact HB.out)) hb); have n3_ := Aside0.mk (hbox); have n4_ := Aside0.mk ((by rw [hg]; exact (keep_size (w := w) (g := g) (row := none) (by repeat (first | (with_reducible first | exact HK.out | apply KeepBut.set_ | apply keep_drewN | apply keep_drew | apply keep_alloc) | exact HK.out))) : w.heap.size ≤ gb167)); have n5_ := Aside0.mk ((Nat.le_trans HW0.out (by rw [hg]; exact (keep_size (w := w) (g := g) (row := none) (by repeat (first | (with_reducible first | exact HK.out | apply KeepBut.set_ | apply keep_drewN | apply keep_drew | apply keep_alloc) | exact HK.out))) : w.heap.size ≤ gb167) : w0.heap.size ≤ gb167)); have n6_ := Aside0.mk ((by rw [hg]; exact Nat.ne_of_lt (IsS118.lt (show IsS118 w0 _ g s0_0 from by repeat (first | (with_reducible first | exact HI0.out | apply IsS118.alloc | apply IsS118.drewN | apply IsS118.drew | apply IsS118.set_0) | exact HI0.out))) : g ≠ gb167)); have n7_ := Aside0.mk ((by rw [hg]; exact Nat.ne_of_gt (IsS118.lt (show IsS118 w0 _ g s0_0 from by repeat (first | (with_reducible first | exact HI0.out | apply IsS118.alloc | apply IsS118.drewN | apply IsS118.drew | apply IsS118.set_0) | exact HI0.out))) : gb167 ≠ g)); clear HI0; clear HK; clear HB; have HI0 := n0_; have HK := n1_; have HB := n2_; have BK167 := n3_; have GW167 := n4_; have GE167 := n5_; have NB0_167 := n6_; have NB167_0 := n7_; clear n0_ n1_ n2_ n3_ n4_ n5_ n6_ n7_; clear hb hbox hg) | ((with_reducible refine gate_callee (f := 84) rfl ?_); refine goesL_ (some 12) rfl rfl Try.func84 (by kernel_rfl) rfl #[.pointer (some ⟨g, 0, none⟩), .int .i64 a1, .int .i64 a2] rfl (by (try simp only [List.map_toArray, List.map_cons, List.map_nil]); first | done | rfl | (simp only [List.length_drop, List.length_take]; rfl)) ?_; (with_reducible refine (thermionkit_Dice_Between.calls g s0_0 a1 a2 t168 t169 w0 _ ?side1 ?side2 A4.out).mono ?_); (case side1 => repeat (first | (with_reducible first | exact HI0.out | apply IsS118.alloc | apply IsS118.drewN | apply IsS118.drew | apply IsS118.set_0 | refine IsS118.far ?_ NB0_167.out _) | exact HI0.out)); (case side2 => repeat (first | (with_reducible first | exact HB.out | apply below_alloc | apply pw_below_drewN | apply below_drew1 | refine below_set ?_ (IsS118.ge HI0.out) | refine below_set ?_ GE167.out) | exact HB.out)); rintro e w9 ⟨rfl, hi, hb, hk⟩; refine ⟨_, rfl, ?_⟩; have n0_ := Aside0.mk (KeepBut.blk hk (g' := gb167) (o := .cells #[.int .i64 0, .int .i64 0] 32 (0, 0)) (by (with_reducible repeat (first | refine blk_drewN ?_ _ | refine blk_drew ?_ | refine blk_alloc ?_ _)); exact BK167.out) NB167_0.out (by simp)); have n1_ := Aside0.mk (KeepBut.trans (by repeat (first | (with_reducible first | exact HK.out | apply KeepBut.set_ | apply keep_drewN | apply keep_drew | apply keep_alloc | refine keep_far ?_ GW167.out _) | exact HK.out)) hk (.inl rfl)); have n2_ := Aside0.mk (hb); have n3_ := Aside0.mk (hi); clear BK167; clear HK; clear HB; clear HI0; have BK167 := n0_; have HK := n1_; have HB := n2_; have HI0 := n3_; clear n0_ n1_ n2_ n3_; (try clear hb); (try clear hb2); (try clear hk); (try clear hi)) | ((with_reducible refine gate_callee (f := 84) rfl ?_); refine goesL_ (some 16) rfl rfl Try.func84 (by kernel_rfl) rfl #[.pointer (some ⟨g, 0, none⟩), .int .i64 a1, .int .i64 a2] rfl (by (try simp only [List.map_toArray, List.map_cons, List.map_nil]); first | done | rfl | (simp only [List.length_drop, List.length_take]; rfl)) ?_; (with_reducible refine (thermionkit_Dice_Between.calls g t169 a1 a2 t170 t171 w0 _ ?side1 ?side2 A5.out).mono ?_); (case side1 => repeat (first | (with_reducible first | exact HI0.out | apply IsS118.alloc | apply IsS118.drewN | apply IsS118.drew | apply IsS118.set_0 | refine IsS118.far ?_ NB0_167.out _) | exact HI0.out)); (case side2 => repeat (first | (with_reducible first | exact HB.out | apply below_alloc | apply pw_below_drewN | apply below_drew1 | refine below_set ?_ (IsS118.ge HI0.out) | refine below_set ?_ GE167.out) | exact HB.out)); rintro e w10 ⟨rfl, hi, hb, hk⟩; refine ⟨_, rfl, ?_⟩; have n0_ := Aside0.mk (KeepBut.blk hk (g' := gb167) (o := .cells #[.int .i64 0, .int .i64 0] 32 (0, 0)) (by (with_reducible repeat (first | refine blk_drewN ?_ _ | refine blk_drew ?_ | refine blk_alloc ?_ _)); exact BK167.out) NB167_0.out (by simp)); have n1_ := Aside0.mk (KeepBut.trans (by repeat (first | (with_reducible first | exact HK.out | apply KeepBut.set_ | apply keep_drewN | apply keep_drew | apply keep_alloc | refine keep_far ?_ GW167.out _) | exact HK.out)) hk (.inl rfl)); have n2_ := Aside0.mk (hb); have n3_ := Aside0.mk (hi); clear BK167; clear HK; clear HB; clear HI0; have BK167 := n0_; have HK := n1_; have HB := n2_; have HI0 := n3_; clear n0_ n1_ n2_ n3_; (try clear hb); (try clear hb2); (try clear hk); (try clear hi); have hnb11 := NB167_0.out; have hnc11 := NB0_167.out; have hcz12_0 : w10.cell? ⟨gb167, 0, none⟩ = some (.int .i64 0) := (blk_cell BK167.out 0).trans rfl; have hcz12_1 : w10.cell? ⟨gb167, 1, none⟩ = some (.int .i64 0) := (blk_cell BK167.out 1).trans rfl; have hfz12_0 := blk_frozen BK167.out 0; have hfz12_1 := blk_frozen BK167.out 1))
 refine bodyPost_ret (results_cell_row rfl _ _ gb167 32 #[.int .i64 ji6, .int .i64 ji7] (0, 0) _ rfl (by (with_reducible repeat (first | refine blk_drewN ?_ _ | refine blk_drew ?_ | refine blk_alloc ?_ _)); refine blk_put (cs := #[.int .i64 ji6, .int .i64 0]) ?_ 1 _ rfl; (with_reducible repeat (first | refine blk_drewN ?_ _ | refine blk_drew ?_ | refine blk_alloc ?_ _)); refine blk_put (cs := #[.int .i64 0, .int .i64 0]) ?_ 0 _ rfl; (with_reducible repeat (first | refine blk_drewN ?_ _ | refine blk_drew ?_ | refine blk_alloc ?_ _)); exact BK167.out) Try.underlying32 rfl (by kernel_rfl)) rfl ?_
 exact ⟨by first | rfl | (simp [errW_none, errW_some] <;> rfl) | (simp only [← hji6, ← hji7]; first | rfl | (simp [errW_none, errW_some] <;> rfl)) | (simp [*, errW_none, errW_some] <;> rfl), by repeat (first | (with_reducible first | exact HI0.out | apply IsS118.alloc | apply IsS118.drewN | apply IsS118.drew | apply IsS118.set_0 | refine IsS118.far ?_ NB0_167.out _) | exact HI0.out), by repeat (first | (with_reducible first | exact HB.out | apply below_alloc | apply pw_below_drewN | apply below_drew1 | refine below_set ?_ (IsS118.ge HI0.out) | refine below_set ?_ GE167.out) | exact HB.out), by repeat (first | (with_reducible first | exact HK.out | apply KeepBut.set_ | apply keep_drewN | apply keep_drew | apply keep_alloc | refine keep_far ?_ GW167.out _) | exact HK.out)⟩

end Go.Proofs.Ytbcfphoheijmdaa.Print
end

section
/- What the Go function thermionkit_WindingOf does, as a Lean function, and that its call does so. Printed by a program of this work out of the translation. -/
namespace Go.Proofs.Ytbcfphoheijmdaa.Print
open Go.RowKit Go.Proofs.YtbcfphoheijmdaaW.PrintWords Go.Proofs.YtbcfphoheijmdaaW.PrintLast Go.Proofs.YtbcfphoheijmdaaW.PrintMore
attribute [local go_sem] max2_int min2_int max_two min_two max_three min_three max_four min_four
set_option linter.unusedVariables false
set_option linter.unusedSimpArgs false

/-! ### thermionkit_WindingOf: function 44 -/
def thermionkit_WindingOf.f (s0_0 : Int) : Option (Int × Int × Int × Int × Int × Int × Int × Int × Int × Int × Int × Int) := (thermionkit_Dice_Between.f s0_0 1 11).bind fun bt426 => ((thermionkit_Dice_Range.f bt426.2 20 60).bind fun bt428 => ((thermionkit_Dice_Range.f bt428.2.2 150 260).bind fun bt431 => ((thermionkit_Dice_Range.f bt431.2.2 0 30000).bind fun bt434 => ((thermionkit_Dice_Range.f bt434.2.2 0 40).bind fun bt437 => ((thermionkit_Dice_Upto.f bt437.2.2 200).bind fun bt441 => ((thermionkit_Dice_Upto.f bt441.2 300).bind fun bt443 => (some (bt426.1, bt428.1, bt428.2.1, bt431.1, bt431.2.1, bt434.1, bt434.2.1, bt437.1, bt437.2.1, mx 0 (wrap64 ((wrap64 ((wrap64 (Int.tdiv (wrap64 ((wrap64 (bt426.1 - 1)) * (wrap64 (bt431.1 + bt431.2.1)))) 2)) + bt428.1)) - bt441.1)), wrap64 ((wrap64 ((wrap64 (Int.tdiv (wrap64 ((wrap64 (bt426.1 - 1)) * (wrap64 (bt431.1 + bt431.2.1)))) 2)) + bt428.1)) + bt443.1), bt443.2))))))))
set_option maxHeartbeats 8000000 in
set_option maxRecDepth 100000 in
theorem thermionkit_WindingOf.calls (g : Nat) (s0_0 : Int) (r1 : Int) (r2 : Int) (r3 : Int) (r4 : Int) (r5 : Int) (r6 : Int) (r7 : Int) (r8 : Int) (r9 : Int) (r10 : Int) (r11 : Int) (r12 : Int) (w0 w : World) (hI : IsS118 w0 w g s0_0) (hB : Below w0.heap.size w0 w) (h : thermionkit_WindingOf.f s0_0 = some (r1, r2, r3, r4, r5, r6, r7, r8, r9, r10, r11, r12)) :
  Calls Try.prog 44 #[.pointer (some ⟨g, 0, none⟩)] w fun e w' => e = .returned (.agg #[.int .i64 r1, .int .i64 r2, .int .i64 r3, .int .i64 r4, .int .i64 r5, .int .i64 r6, .int .i64 r7, .int .i64 r8, .int .i64 r9, .int .i64 r10, .int .i64 r11]) ∧ IsS118 w0 w' g r12 ∧ Below w0.heap.size w0 w' ∧ KeepBut w w' g none := by
 have hu72 := Try.underlying72
 have hu32 := Try.underlying32
 have HI0 := Aside0.mk hI
 have HK := Aside0.mk (KeepBut.refl w g none)
 have HL := Aside0.mk hB.size
 clear hI
 have HW0 := Aside0.mk hB.size
 have HB := Aside0.mk hB
 clear hB
 have H : ((thermionkit_Dice_Between.f s0_0 1 11).bind fun bt426 => ((thermionkit_Dice_Range.f bt426.2 20 60).bind fun bt428 => ((thermionkit_Dice_Range.f bt428.2.2 150 260).bind fun bt431 => ((thermionkit_Dice_Range.f bt431.2.2 0 30000).bind fun bt434 => ((thermionkit_Dice_Range.f bt434.2.2 0 40).bind fun bt437 => ((thermionkit_Dice_Upto.f bt437.2.2 200).bind fun bt441 => ((thermionkit_Dice_Upto.f bt441.2 300).bind fun bt443 => (some (bt426.1, bt428.1, bt428.2.1, bt431.1, bt431.2.1, bt434.1, bt434.2.1, bt437.1, bt437.2.1, mx 0 (wrap64 ((wrap64 ((wrap64 (Int.tdiv (wrap64 ((wrap64 (bt426.1 - 1)) * (wrap64 (bt431.1 + bt431.2.1)))) 2)) + bt428.1)) - bt441.1)), wrap64 ((wrap64 ((wrap64 (Int.tdiv (wrap64 ((wrap64 (bt426.1 - 1)) * (wrap64 (bt431.1 + bt431.2.1)))) 2)) + bt428.1)) + bt443.1), bt443.2))))))))) = some (r1, r2, r3, r4, r5, r6, r7, r8, r9, r10, r11, r12) := h
 clear h
 replace H := Option.bind_eq_some_iff.mp H
 obtain ⟨⟨t426, t427⟩, A20, H⟩ := H
 replace H : ((thermionkit_Dice_Range.f t427 20 60).bind fun bt428 => ((thermionkit_Dice_Range.f bt428.2.2 150 260).bind fun bt431 => ((thermionkit_Dice_Range.f bt431.2.2 0 30000).bind fun bt434 => ((thermionkit_Dice_Range.f bt434.2.2 0 40).bind fun bt437 => ((thermionkit_Dice_Upto.f bt437.2.2 200).bind fun bt441 => ((thermionkit_Dice_Upto.f bt441.2 300).bind fun bt443 => (some (t426, bt428.1, bt428.2.1, bt431.1, bt431.2.1, bt434.1, bt434.2.1, bt437.1, bt437.2.1, mx 0 (wrap64 ((wrap64 ((wrap64 (Int.tdiv (wrap64 ((wrap64 (t426 - 1)) * (wrap64 (bt431.1 + bt431.2.1)))) 2)) + bt428.1)) - bt441.1)), wrap64 ((wrap64 ((wrap64 (Int.tdiv (wrap64 ((wrap64 (t426 - 1)) * (wrap64 (bt431.1 + bt431.2.1)))) 2)) + bt428.1)) + bt443.1), bt443.2)))))))) = some (r1, r2, r3, r4, r5, r6, r7, r8, r9, r10, r11, r12) := H
 have A2 := Aside0.mk A20
 clear A20
 replace H := Option.bind_eq_some_iff.mp H
 obtain ⟨⟨t428, t429, t430⟩, A30, H⟩ := H
 replace H : ((thermionkit_Dice_Range.f t430 150 260).bind fun bt431 => ((thermionkit_Dice_Range.f bt431.2.2 0 30000).bind fun bt434 => ((thermionkit_Dice_Range.f bt434.2.2 0 40).bind fun bt437 => ((thermionkit_Dice_Upto.f bt437.2.2 200).bind fun bt441 => ((thermionkit_Dice_Upto.f bt441.2 300).bind fun bt443 => (some (t426, t428, t429, bt431.1, bt431.2.1, bt434.1, bt434.2.1, bt437.1, bt437.2.1, mx 0 (wrap64 ((wrap64 ((wrap64 (Int.tdiv (wrap64 ((wrap64 (t426 - 1)) * (wrap64 (bt431.1 + bt431.2.1)))) 2)) + t428)) - bt441.1)), wrap64 ((wrap64 ((wrap64 (Int.tdiv (wrap64 ((wrap64 (t426 - 1)) * (wrap64 (bt431.1 + bt431.2.1)))) 2)) + t428)) + bt443.1), bt443.2))))))) = some (r1, r2, r3, r4, r5, r6, r7, r8, r9, r10, r11, r12) := H
 have A3 := Aside0.mk A30
 clear A30
 replace H := Option.bind_eq_some_iff.mp H
 obtain ⟨⟨t431, t432, t433⟩, A40, H⟩ := H
 replace H : ((thermionkit_Dice_Range.f t433 0 30000).bind fun bt434 => ((thermionkit_Dice_Range.f bt434.2.2 0 40).bind fun bt437 => ((thermionkit_Dice_Upto.f bt437.2.2 200).bind fun bt441 => ((thermionkit_Dice_Upto.f bt441.2 300).bind fun bt443 => (some (t426, t428, t429, t431, t432, bt434.1, bt434.2.1, bt437.1, bt437.2.1, mx 0 (wrap64 ((wrap64 ((wrap64 (Int.tdiv (wrap64 ((wrap64 (t426 - 1)) * (wrap64 (t431 + t432)))) 2)) + t428)) - bt441.1)), wrap64 ((wrap64 ((wrap64 (Int.tdiv (wrap64 ((wrap64 (t426 - 1)) * (wrap64 (t431 + t432)))) 2)) + t428)) + bt443.1), bt443.2)))))) = some (r1, r2, r3, r4, r5, r6, r7, r8, r9, r10, r11, r12) := H
 have A4 := Aside0.mk A40
 clear A40
 replace H := Option.bind_eq_some_iff.mp H
 obtain ⟨⟨t434, t435, t436⟩, A50, H⟩ := H
 replace H : ((thermionkit_Dice_Range.f t436 0 40).bind fun bt437 => ((thermionkit_Dice_Upto.f bt437.2.2 200).bind fun bt441 => ((thermionkit_Dice_Upto.f bt441.2 300).bind fun bt443 => (some (t426, t428, t429, t431, t432, t434, t435, bt437.1, bt437.2.1, mx 0 (wrap64 ((wrap64 ((wrap64 (Int.tdiv (wrap64 ((wrap64 (t426 - 1)) * (wrap64 (t431 + t432)))) 2)) + t428)) - bt441.1)), wrap64 ((wrap64 ((wrap64 (Int.tdiv (wrap64 ((wrap64 (t426 - 1)) * (wrap64 (t431 + t432)))) 2)) + t428)) + bt443.1), bt443.2))))) = some (r1, r2, r3, r4, r5, r6, r7, r8, r9, r10, r11, r12) := H
 have A5 := Aside0.mk A50
 clear A50
 replace H := Option.bind_eq_some_iff.mp H
 obtain ⟨⟨t437, t438, t439⟩, A60, H⟩ := H
 replace H : ((thermionkit_Dice_Upto.f t439 200).bind fun bt441 => ((thermionkit_Dice_Upto.f bt441.2 300).bind fun bt443 => (some (t426, t428, t429, t431, t432, t434, t435, t437, t438, mx 0 (wrap64 ((wrap64 ((wrap64 (Int.tdiv (wrap64 ((wrap64 (t426 - 1)) * (wrap64 (t431 + t432)))) 2)) + t428)) - bt441.1)), wrap64 ((wrap64 ((wrap64 (Int.tdiv (wrap64 ((wrap64 (t426 - 1)) * (wrap64 (t431 + t432)))) 2)) + t428)) + bt443.1), bt443.2)))) = some (r1, r2, r3, r4, r5, r6, r7, r8, r9, r10, r11, r12) := H
 have A6 := Aside0.mk A60
 clear A60
 replace H := Option.bind_eq_some_iff.mp H
 obtain ⟨⟨t441, t442⟩, A70, H⟩ := H
 replace H : ((thermionkit_Dice_Upto.f t442 300).bind fun bt443 => (some (t426, t428, t429, t431, t432, t434, t435, t437, t438, mx 0 (wrap64 ((wrap64 ((wrap64 (Int.tdiv (wrap64 ((wrap64 (t426 - 1)) * (wrap64 (t431 + t432)))) 2)) + t428)) - t441)), wrap64 ((wrap64 ((wrap64 (Int.tdiv (wrap64 ((wrap64 (t426 - 1)) * (wrap64 (t431 + t432)))) 2)) + t428)) + bt443.1), bt443.2))) = some (r1, r2, r3, r4, r5, r6, r7, r8, r9, r10, r11, r12) := H
 have A7 := Aside0.mk A70
 clear A70
 obtain ⟨ji8, hji8⟩ : ∃ j_ : Int, (mx 0 (wrap64 ((wrap64 ((wrap64 (Int.tdiv (wrap64 ((wrap64 (t426 - 1)) * (wrap64 (t431 + t432)))) 2)) + t428)) - t441))) = j_ := ⟨_, rfl⟩
 replace H : ((thermionkit_Dice_Upto.f t442 300).bind fun bt443 => (some (t426, t428, t429, t431, t432, t434, t435, t437, t438, ji8, wrap64 ((wrap64 ((wrap64 (Int.tdiv (wrap64 ((wrap64 (t426 - 1)) * (wrap64 (t431 + t432)))) 2)) + t428)) + bt443.1), bt443.2))) = some (r1, r2, r3, r4, r5, r6, r7, r8, r9, r10, r11, r12) := by first | (rw [hji8] at H; exact H) | (simp only [hji8] at H ⊢; exact H)
 (try rw [hji8] at A2)
 (try rw [hji8] at A3)
 (try rw [hji8] at A4)
 (try rw [hji8] at A5)
 (try rw [hji8] at A6)
 (try rw [hji8] at A7)
 (try (have hji8l : 0 ≤ ji8 := by (rw [← hji8]; unfold mx; (repeat' split) <;> omega)))
 (try (have hji8m : 0 ≤ ji8 := by omega))
 have hji8_ : (if 0 < (wrap64 ((wrap64 ((wrap64 (Int.tdiv (wrap64 ((wrap64 (t426 - 1)) * (wrap64 (t431 + t432)))) 2)) + t428)) - t441)) then (wrap64 ((wrap64 ((wrap64 (Int.tdiv (wrap64 ((wrap64 (t426 - 1)) * (wrap64 (t431 + t432)))) 2)) + t428)) - t441)) else 0) = ji8 := hji8
 replace H := Option.bind_eq_some_iff.mp H
 obtain ⟨⟨t443, t444⟩, A90, H⟩ := H
 replace H : (some (t426, t428, t429, t431, t432, t434, t435, t437, t438, ji8, wrap64 ((wrap64 ((wrap64 (Int.tdiv (wrap64 ((wrap64 (t426 - 1)) * (wrap64 (t431 + t432)))) 2)) + t428)) + t443), t444)) = some (r1, r2, r3, r4, r5, r6, r7, r8, r9, r10, r11, r12) := H
 have A9 := Aside0.mk A90
 clear A90
 simp only [Option.some.injEq, Prod.mk.injEq] at H
 obtain ⟨rfl, rfl, rfl, rfl, rfl, rfl, rfl, rfl, rfl, rfl, rfl, rfl⟩ := H
 go_enter Try.func44, Try.ntmps44
 go_wp2_with (first | ((with_reducible refine gate_dst (N := 2) rfl ?_); refine box_event ?hg (N := 2) ?hd (cs := #[.int .i64 0, .int .i64 0, .int .i64 0, .int .i64 0, .int .i64 0, .int .i64 0, .int .i64 0, .int .i64 0, .int .i64 0, .int .i64 0, .int .i64 0]) (t := 72) ?hr ?_; (case hd => rfl); (case hg => rfl); (case hr => first | (go_simp; done) | (go_simp; rfl)); intro gb425 hg w10 hbox hb; have n0_ := Aside0.mk (IsS118.below (by repeat (first | (with_reducible first | exact HI0.out | apply IsS118.alloc | apply IsS118.drewN | apply IsS118.drew | apply IsS118.set_0) | exact HI0.out)) hb); have n1_ := Aside0.mk (KeepBut.trans (by repeat (first | (with_reducible first | exact HK.out | apply KeepBut.set_ | apply keep_drewN | apply keep_drew | apply keep_alloc) | exact HK.out)) (KeepBut.of_below hb g none) (.inl rfl)); have n2_ := Aside0.mk (below_step (by repeat (first | (with_reducible first | exact HB.out | apply below_alloc | apply pw_below_drewN | apply below_drew1 | refine below_set ?_ (IsS118.ge HI0.out)) | exact HB.out)) hb); have n3_ := Aside0.mk (hbox); have n4_ := Aside0.mk ((by rw [hg]; exact (keep_size (w := w) (g := g) (row := none) (by repeat (first | (with_reducible first | exact HK.out | apply KeepBut.set_ | apply keep_drewN | apply keep_drew | apply keep_alloc) | exact HK.out))) : w.heap.size ≤ gb425)); have n5_ := Aside0.mk ((Nat.le_trans HW0.out (by rw [hg]; exact (keep_size (w := w) (g := g) (row := none) (by repeat (first | (with_reducible first | exact HK.out | apply KeepBut.set_ | apply keep_drewN | apply keep_drew | apply keep_alloc) | exact HK.out))) : w.heap.size ≤ gb425) : w0.heap.size ≤ gb425)); have n6_ := Aside0.mk ((by rw [hg]; exact Nat.ne_of_lt (IsS118.lt (show IsS118 w0 _ g s0_0 from by repeat (first | (with_reducible first | exact HI0.out | apply IsS118.alloc | apply IsS118.drewN | apply IsS118.drew | apply IsS118.set_0) | exact HI0.out))) : g ≠ gb425)); have n7_ := Aside0.mk ((by rw [hg]; exact Nat.ne_of_gt (IsS118.lt (show IsS118 w0 _ g s0_0 from by repeat (first | (with_reducible first | exact HI0.out | apply IsS118.alloc | apply IsS118.drewN | apply IsS118.drew | apply IsS118.set_0) | exact HI0.out))) : gb425 ≠ g)); clear HI0; clear HK; clear HB; have HI0 := n0_; have HK := n1_; have HB := n2_; have BK425 := n3_; have GW425 := n4_; have GE425 := n5_; have NB0_425 := n6_; have NB425_0 := n7_; clear n0_ n1_ n2_ n3_ n4_ n5_ n6_ n7_; clear hb hbox hg) | ((with_reducible refine gate_callee (f := 84) rfl ?_); refine goesL_ (some 6) rfl rfl Try.func84 (by kernel_rfl) rfl #[.pointer (some ⟨g, 0, none⟩), .int .i64 1, .int .i64 11] rfl (by (try simp only [List.map_toArray, List.map_cons, List.map_nil]); first | done | rfl | (simp only [List.length_drop, List.length_take]; rfl)) ?_; (with_reducible refine (thermionkit_Dice_Between.calls g s0_0 1 11 t426 t427 w0 _ ?side1 ?side2 A2.out).mono ?_); (case side1 => repeat (first | (with_reducible first | exact HI0.out | apply IsS118.alloc | apply IsS118.drewN | apply IsS118.drew | apply IsS118.set_0 | refine IsS118.far ?_ NB0_425.out _) | exact HI0.out)); (case side2 => repeat (first | (with_reducible first | exact HB.out | apply below_alloc | apply pw_below_drewN | apply below_drew1 | refine below_set ?_ (IsS118.ge HI0.out) | refine below_set ?_ GE425.out) | exact HB.out)); rintro e w11 ⟨rfl, hi, hb, hk⟩; refine ⟨_, rfl, ?_⟩; have n0_ := Aside0.mk (KeepBut.blk hk (g' := gb425) (o := .cells #[.int .i64 0, .int .i64 0, .int .i64 0, .int .i64 0, .int .i64 0, .int .i64 0, .int .i64 0, .int .i64 0, .int .i64 0, .int .i64 0, .int .i64 0] 72 (0, 0)) (by (with_reducible repeat (first | refine blk_drewN ?_ _ | refine blk_drew ?_ | refine blk_alloc ?_ _)); exact BK425.out) NB425_0.out (by simp)); have n1_ := Aside0.mk (KeepBut.trans (by repeat (first | (with_reducible first | exact HK.out | apply KeepBut.set_ | apply keep_drewN | apply keep_drew | apply keep_alloc | refine keep_far ?_ GW425.out _) | exact HK.out)) hk (.inl rfl)); have n2_ := Aside0.mk (hb); have n3_ := Aside0.mk (hi); clear BK425; clear HK; clear HB; clear HI0; have BK425 := n0_; have HK := n1_; have HB := n2_; have HI0 := n3_; clear n0_ n1_ n2_ n3_; (try clear hb); (try clear hb2); (try clear hk); (try clear hi)) | ((with_reducible refine gate_callee (f := 23) rfl ?_); refine goesL_ (some 8) rfl rfl Try.func23 (by kernel_rfl) rfl #[.pointer (some ⟨g, 0, none⟩), .int .i64 20, .int .i64 60] rfl (by (try simp only [List.map_toArray, List.map_cons, List.map_nil]); first | done | rfl | (simp only [List.length_drop, List.length_take]; rfl)) ?_; (with_reducible refine (thermionkit_Dice_Range.calls g t427 20 60 t428 t429 t430 w0 _ ?side1 ?side2 A3.out).mono ?_); (case side1 => repeat (first | (with_reducible first | exact HI0.out | apply IsS118.alloc | apply IsS118.drewN | apply IsS118.drew | apply IsS118.set_0 | refine IsS118.far ?_ NB0_425.out _) | exact HI0.out)); (case side2 => repeat (first | (with_reducible first | exact HB.out | apply below_alloc | apply pw_below_drewN | apply below_drew1 | refine below_set ?_ (IsS118.ge HI0.out) | refine below_set ?_ GE425.out) | exact HB.out)); rintro e w12 ⟨rfl, hi, hb, hk⟩; refine ⟨_, rfl, ?_⟩; have n0_ := Aside0.mk (KeepBut.blk hk (g' := gb425) (o := .cells #[.int .i64 0, .int .i64 0, .int .i64 0, .int .i64 0, .int .i64 0, .int .i64 0, .int .i64 0, .int .i64 0, .int .i64 0, .int .i64 0, .int .i64 0] 72 (0, 0)) (by (with_reducible repeat (first | refine blk_drewN ?_ _ | refine blk_drew ?_ | refine blk_alloc ?_ _)); exact BK425.out) NB425_0.out (by simp)); have n1_ := Aside0.mk (KeepBut.trans (by repeat (first | (with_reducible first | exact HK.out | apply KeepBut.set_ | apply keep_drewN | apply keep_drew | apply keep_alloc | refine keep_far ?_ GW425.out _) | exact HK.out)) hk (.inl rfl)); have n2_ := Aside0.mk (hb); have n3_ := Aside0.mk (hi); clear BK425; clear HK; clear HB; clear HI0; have BK425 := n0_; have HK := n1_; have HB := n2_; have HI0 := n3_; clear n0_ n1_ n2_ n3_; (try clear hb); (try clear hb2); (try clear hk); (try clear hi)) | ((with_reducible refine gate_callee (f := 23) rfl ?_); refine goesL_ (some 10) rfl rfl Try.func23 (by kernel_rfl) rfl #[.pointer (some ⟨g, 0, none⟩), .int .i64 150, .int .i64 260] rfl (by (try simp only [List.map_toArray, List.map_cons, List.map_nil]); first | done | rfl | (simp only [List.length_drop, List.length_take]; rfl)) ?_; (with_reducible refine (thermionkit_Dice_Range.calls g t430 150 260 t431 t432 t433 w0 _ ?side1 ?side2 A4.out).mono ?_); (case side1 => repeat (first | (with_reducible first | exact HI0.out | apply IsS118.alloc | apply IsS118.drewN | apply IsS118.drew | apply IsS118.set_0 | refine IsS118.far ?_ NB0_425.out _) | exact HI0.out)); (case side2 => repeat (first | (with_reducible first | exact HB.out | apply below_alloc | apply pw_below_drewN | apply below_drew1 | refine below_set ?_ (IsS118.ge HI0.out) | refine below_set ?_ GE425.out) | exact HB.out)); rintro e w13 ⟨rfl, hi, hb, hk⟩; refine ⟨_, rfl, ?_⟩; have n0_ := Aside0.mk (KeepBut.blk hk (g' := gb425) (o := .cells #[.int .i64 0, .int .i64 0, .int .i64 0, .int .i64 0, .int .i64 0, .int .i64 0, .int .i64 0, .int .i64 0, .int .i64 0, .int .i64 0, .int .i64 0] 72 (0, 0)) (by (with_reducible repeat (first | refine blk_drewN ?_ _ | refine blk_drew ?_ | refine blk_alloc ?_ _)); exact BK425.out) NB425_0.out (by simp)); have n1_ := Aside0.mk (KeepBut.trans (by repeat (first | (with_reducible first | exact HK.out | apply KeepBut.set_ | apply keep_drewN | apply keep_drew | apply keep_alloc | refine keep_far ?_ GW425.out _) | exact HK.out)) hk (.inl rfl)); have n2_ := Aside0.mk (hb); have n3_ := Aside0.mk (hi); clear BK425; clear HK; clear HB; clear HI0; have BK425 := n0_; have HK := n1_; have HB := n2_; have HI0 := n3_; clear n0_ n1_ n2_ n3_; (try clear hb); (try clear hb2); (try clear hk); (try clear hi)) | ((with_reducible refine gate_callee (f := 23) rfl ?_); refine goesL_ (some 12) rfl rfl Try.func23 (by kernel_rfl) rfl #[.pointer (some ⟨g, 0, none⟩), .int .i64 0, .int .i64 30000] rfl (by (try simp only [List.map_toArray, List.map_cons, List.map_nil]); first | done | rfl | (simp only [List.length_drop, List.length_take]; rfl)) ?_; (with_reducible refine (thermionkit_Dice_Range.calls g t433 0 30000 t434 t435 t436 w0 _ ?side1 ?side2 A5.out).mono ?_); (case side1 => repeat (first | (with_reducible first | exact HI0.out | apply IsS118.alloc | apply IsS118.drewN | apply IsS118.drew | apply IsS118.set_0 | refine IsS118.far ?_ NB0_425.out _) | exact HI0.out)); (case side2 => repeat (first | (with_reducible first | exact HB.out | apply below_alloc | apply pw_below_drewN | apply below_drew1 | refine below_set ?_ (IsS118.ge HI0.out) | refine below_set ?_ GE425.out) | exact HB.out)); rintro e w14 ⟨rfl, hi, hb, hk⟩; refine ⟨_, rfl, ?_⟩; have n0_ := Aside0.mk (KeepBut.blk hk (g' := gb425) (o := .cells #[.int .i64 0, .int .i64 0, .int .i64 0, .int .i64 0, .int .i64 0, .int .i64 0, .int .i64 0, .int .i64 0, .int .i64 0, .int .i64 0, .int .i64 0] 72 (0, 0)) (by (with_reducible repeat (first | refine blk_drewN ?_ _ | refine blk_drew ?_ | refine blk_alloc ?_ _)); exact BK425.out) NB425_0.out (by simp)); have n1_ := Aside0.mk (KeepBut.trans (by repeat (first | (with_reducible first | exact HK.out | apply KeepBut.set_ | apply keep_drewN | apply keep_drew | apply keep_alloc | refine keep_far ?_ GW425.out _) | exact HK.out)) hk (.inl rfl)); have n2_ := Aside0.mk (hb); have n3_ := Aside0.mk (hi); clear BK425; clear HK; clear HB; clear HI0; have BK425 := n0_; have HK := n1_; have HB := n2_; have HI0 := n3_; clear n0_ n1_ n2_ n3_; (try clear hb); (try clear hb2); (try clear hk); (try clear hi)) | ((with_reducible refine gate_callee (f := 23) rfl ?_); refine goesL_ (some 14) rfl rfl Try.func23 (by kernel_rfl) rfl #[.pointer (some ⟨g, 0, none⟩), .int .i64 0, .int .i64 40] rfl (by (try simp only [List.map_toArray, List.map_cons, List.map_nil]); first | done | rfl | (simp only [List.length_drop, List.length_take]; rfl)) ?_; (with_reducible refine (thermionkit_Dice_Range.calls g t436 0 40 t437 t438 t439 w0 _ ?side1 ?side2 A6.out).mono ?_); (case side1 => repeat (first | (with_reducible first | exact HI0.out | apply IsS118.alloc | apply IsS118.drewN | apply IsS118.drew | apply IsS118.set_0 | refine IsS118.far ?_ NB0_425.out _) | exact HI0.out)); (case side2 => repeat (first | (with_reducible first | exact HB.out | apply below_alloc | apply pw_below_drewN | apply below_drew1 | refine below_set ?_ (IsS118.ge HI0.out) | refine below_set ?_ GE425.out) | exact HB.out)); rintro e w15 ⟨rfl, hi, hb, hk⟩; refine ⟨_, rfl, ?_⟩; have n0_ := Aside0.mk (KeepBut.blk hk (g' := gb425) (o := .cells #[.int .i64 0, .int .i64 0, .int .i64 0, .int .i64 0, .int .i64 0, .int .i64 0, .int .i64 0, .int .i64 0, .int .i64 0, .int .i64 0, .int .i64 0] 72 (0, 0)) (by (with_reducible repeat (first | refine blk_drewN ?_ _ | refine blk_drew ?_ | refine blk_alloc ?_ _)); exact BK425.out) NB425_0.out (by simp)); have n1_ := Aside0.mk (KeepBut.trans (by repeat (first | (with_reducible first | exact HK.out | apply KeepBut.set_ | apply keep_drewN | apply keep_drew | apply keep_alloc | refine keep_far ?_ GW425.out _) | exact HK.out)) hk (.inl rfl)); have n2_ := Aside0.mk (hb); have n3_ := Aside0.mk (hi); clear BK425; clear HK; clear HB; clear HI0; have BK425 := n0_; have HK := n1_; have HB := n2_; have HI0 := n3_; clear n0_ n1_ n2_ n3_; (try clear hb); (try clear hb2); (try clear hk); (try clear hi)) | ((with_reducible refine gate_dst (N := 3) rfl ?_); refine box_event ?hg (N := 3) ?hd (cs := #[.int .i64 0, .int .i64 0, .int .i64 0, .int .i64 0, .int .i64 0, .int .i64 0, .int .i64 0, .int .i64 0, .int .i64 0, .int .i64 0, .int .i64 0]) (t := 72) ?hr ?_; (case hd => rfl); (case hg => rfl); (case hr => first | (go_simp; done) | (go_simp; rfl)); intro gb440 hg w16 hbox hb; have n0_ := Aside0.mk (IsS118.below (by repeat (first | (with_reducible first | exact HI0.out | apply IsS118.alloc | apply IsS118.drewN | apply IsS118.drew | apply IsS118.set_0 | refine IsS118.far ?_ NB0_425.out _) | exact HI0.out)) hb); have n1_ := Aside0.mk (blk_below (g := gb425) (o := .cells #[.int .i64 0, .int .i64 0, .int .i64 0, .int .i64 0, .int .i64 0, .int .i64 0, .int .i64 0, .int .i64 0, .int .i64 0, .int .i64 0, .int .i64 0] 72 (0, 0)) (by (with_reducible repeat (first | refine blk_drewN ?_ _ | refine blk_drew ?_ | refine blk_alloc ?_ _)); exact BK425.out) hb); have n2_ := Aside0.mk (KeepBut.trans (by repeat (first | (with_reducible first | exact HK.out | apply KeepBut.set_ | apply keep_drewN | apply keep_drew | apply keep_alloc | refine keep_far ?_ GW425.out _) | exact HK.out)) (KeepBut.of_below hb g none) (.inl rfl)); have n3_ := Aside0.mk (below_step (by repeat (first | (with_reducible first | exact HB.out | apply below_alloc | apply pw_below_drewN | apply below_drew1 | refine below_set ?_ (IsS118.ge HI0.out) | refine below_set ?_ GE425.out) | exact HB.out)) hb); have n4_ := Aside0.mk (hbox); have n5_ := Aside0.mk ((by rw [hg]; exact (keep_size (w := w) (g := g) (row := none) (by repeat (first | (with_reducible first | exact HK.out | apply KeepBut.set_ | apply keep_drewN | apply keep_drew | apply keep_alloc | refine keep_far ?_ GW425.out _) | exact HK.out))) : w.heap.size ≤ gb440)); have n6_ := Aside0.mk ((Nat.le_trans HW0.out (by rw [hg]; exact (keep_size (w := w) (g := g) (row := none) (by repeat (first | (with_reducible first | exact HK.out | apply KeepBut.set_ | apply keep_drewN | apply keep_drew | apply keep_alloc | refine keep_far ?_ GW425.out _) | exact HK.out))) : w.heap.size ≤ gb440) : w0.heap.size ≤ gb440)); have n7_ := Aside0.mk ((by rw [hg]; exact Nat.ne_of_lt (blk_lt (g := gb425) (o := .cells #[.int .i64 0, .int .i64 0, .int .i64 0, .int .i64 0, .int .i64 0, .int .i64 0, .int .i64 0, .int .i64 0, .int .i64 0, .int .i64 0, .int .i64 0] 72 (0, 0)) (by (with_reducible repeat (first | refine blk_drewN ?_ _ | refine blk_drew ?_ | refine blk_alloc ?_ _)); exact BK425.out)) : gb425 ≠ gb440)); have n8_ := Aside0.mk ((by rw [hg]; exact Nat.ne_of_gt (blk_lt (g := gb425) (o := .cells #[.int .i64 0, .int .i64 0, .int .i64 0, .int .i64 0, .int .i64 0, .int .i64 0, .int .i64 0, .int .i64 0, .int .i64 0, .int .i64 0, .int .i64 0] 72 (0, 0)) (by (with_reducible repeat (first | refine blk_drewN ?_ _ | refine blk_drew ?_ | refine blk_alloc ?_ _)); exact BK425.out)) : gb440 ≠ gb425)); have n9_ := Aside0.mk ((by rw [hg]; exact Nat.ne_of_lt (IsS118.lt (show IsS118 w0 _ g t439 from by repeat (first | (with_reducible first | exact HI0.out | apply IsS118.alloc | apply IsS118.drewN | apply IsS118.drew | apply IsS118.set_0 | refine IsS118.far ?_ NB0_425.out _) | exact HI0.out))) : g ≠ gb440)); have n10_ := Aside0.mk ((by rw [hg]; exact Nat.ne_of_gt (IsS118.lt (show IsS118 w0 _ g t439 from by repeat (first | (with_reducible first | exact HI0.out | apply IsS118.alloc | apply IsS118.drewN | apply IsS118.drew | apply IsS118.set_0 | refine IsS118.far ?_ NB0_425.out _) | exact HI0.out))) : gb440 ≠ g)); clear HI0; clear BK425; clear HK; clear HB; have HI0 := n0_; have BK425 := n1_; have HK := n2_; have HB := n3_; have BK440 := n4_; have GW440 := n5_; have GE440 := n6_; have NB425_440 := n7_; have NB440_425 := n8_; have NB0_440 := n9_; have NB440_0 := n10_; clear n0_ n1_ n2_ n3_ n4_ n5_ n6_ n7_ n8_ n9_ n10_; clear hb hbox hg; have hnb17 := NB440_425.out; have hnc17 := NB425_440.out; have hnb18 := NB440_0.out; have hnc18 := NB0_440.out; have hcz19_0 : w16.cell? ⟨gb440, 0, none⟩ = some (.int .i64 0) := (blk_cell BK440.out 0).trans rfl; have hcz19_1 : w16.cell? ⟨gb440, 1, none⟩ = some (.int .i64 0) := (blk_cell BK440.out 1).trans rfl; have hcz19_2 : w16.cell? ⟨gb440, 2, none⟩ = some (.int .i64 0) := (blk_cell BK440.out 2).trans rfl; have hcz19_3 : w16.cell? ⟨gb440, 3, none⟩ = some (.int .i64 0) := (blk_cell BK440.out 3).trans rfl; have hcz19_4 : w16.cell? ⟨gb440, 4, none⟩ = some (.int .i64 0) := (blk_cell BK440.out 4).trans rfl; have hcz19_5 : w16.cell? ⟨gb440, 5, none⟩ = some (.int .i64 0) := (blk_cell BK440.out 5).trans rfl; have hcz19_6 : w16.cell? ⟨gb440, 6, none⟩ = some (.int .i64 0) := (blk_cell BK440.out 6).trans rfl; have hcz19_7 : w16.cell? ⟨gb440, 7, none⟩ = some (.int .i64 0) := (blk_cell BK440.out 7).trans rfl; have hcz19_8 : w16.cell? ⟨gb440, 8, none⟩ = some (.int .i64 0) := (blk_cell BK440.out 8).trans rfl; have hcz19_9 : w16.cell? ⟨gb440, 9, none⟩ = some (.int .i64 0) := (blk_cell BK440.out 9).trans rfl; have hcz19_10 : w16.cell? ⟨gb440, 10, none⟩ = some (.int .i64 0) := (blk_cell BK440.out 10).trans rfl; have hfz19_0 := blk_frozen BK440.out 0; have hfz19_1 := blk_frozen BK440.out 1; have hfz19_2 := blk_frozen BK440.out 2; have hfz19_3 := blk_frozen BK440.out 3; have hfz19_4 := blk_frozen BK440.out 4; have hfz19_5 := blk_frozen BK440.out 5; have hfz19_6 := blk_frozen BK440.out 6; have hfz19_7 := blk_frozen BK440.out 7; have hfz19_8 := blk_frozen BK440.out 8; have hfz19_9 := blk_frozen BK440.out 9; have hfz19_10 := blk_frozen BK440.out 10) | ((with_reducible refine gate_callee (f := 43) rfl ?_); refine goesL_ (some 34) rfl rfl Try.func43 (by kernel_rfl) rfl #[.pointer (some ⟨g, 0, none⟩), .int .i64 200] rfl (by (try simp only [List.map_toArray, List.map_cons, List.map_nil]); first | done | rfl | (simp only [List.length_drop, List.length_take]; rfl)) ?_; (with_reducible refine (thermionkit_Dice_Upto.calls g t439 200 t441 t442 w0 _ ?side1 ?side2 A7.out).mono ?_); (case side1 => repeat (first | (with_reducible first | exact HI0.out | apply IsS118.alloc | apply IsS118.drewN | apply IsS118.drew | apply IsS118.set_0 | refine IsS118.far ?_ NB0_425.out _ | refine IsS118.far ?_ NB0_440.out _) | exact HI0.out)); (case side2 => repeat (first | (with_reducible first | exact HB.out | apply below_alloc | apply pw_below_drewN | apply below_drew1 | refine below_set ?_ (IsS118.ge HI0.out) | refine below_set ?_ GE425.out | refine below_set ?_ GE440.out) | exact HB.out)); rintro e w20 ⟨rfl, hi, hb, hk⟩; refine ⟨_, rfl, ?_⟩; have n0_ := Aside0.mk (KeepBut.blk hk (g' := gb425) (o := .cells #[.int .i64 0, .int .i64 0, .int .i64 0, .int .i64 0, .int .i64 0, .int .i64 0, .int .i64 0, .int .i64 0, .int .i64 0, .int .i64 0, .int .i64 0] 72 (0, 0)) (by (with_reducible repeat (first | refine blk_drewN ?_ _ | refine blk_drew ?_ | refine blk_alloc ?_ _)); refine blk_far ?_ NB425_440.out _; (with_reducible repeat (first | refine blk_drewN ?_ _ | refine blk_drew ?_ | refine blk_alloc ?_ _)); refine blk_far ?_ NB425_440.out _; (with_reducible repeat (first | refine blk_drewN ?_ _ | refine blk_drew ?_ | refine blk_alloc ?_ _)); refine blk_far ?_ NB425_440.out _; (with_reducible repeat (first | refine blk_drewN ?_ _ | refine blk_drew ?_ | refine blk_alloc ?_ _)); refine blk_far ?_ NB425_440.out _; (with_reducible repeat (first | refine blk_drewN ?_ _ | refine blk_drew ?_ | refine blk_alloc ?_ _)); refine blk_far ?_ NB425_440.out _; (with_reducible repeat (first | refine blk_drewN ?_ _ | refine blk_drew ?_ | refine blk_alloc ?_ _)); refine blk_far ?_ NB425_440.out _; (with_reducible repeat (first | refine blk_drewN ?_ _ | refine blk_drew ?_ | refine blk_alloc ?_ _)); refine blk_far ?_ NB425_440.out _; (with_reducible repeat (first | refine blk_drewN ?_ _ | refine blk_drew ?_ | refine blk_alloc ?_ _)); refine blk_far ?_ NB425_440.out _; (with_reducible repeat (first | refine blk_drewN ?_ _ | refine blk_drew ?_ | refine blk_alloc ?_ _)); refine blk_far ?_ NB425_440.out _; (with_reducible repeat (first | refine blk_drewN ?_ _ | refine blk_drew ?_ | refine blk_alloc ?_ _)); refine blk_far ?_ NB425_440.out _; (with_reducible repeat (first | refine blk_drewN ?_ _ | refine blk_drew ?_ | refine blk_alloc ?_ _)); refine blk_far ?_ NB425_440.out _; (with_reducible repeat (first | refine blk_drewN ?_ _ | refine blk_drew ?_ | refine blk_alloc ?_ _)); exact BK425.out) NB425_0.out (by simp)); have n1_ := Aside0.mk (KeepBut.blk hk (g' := gb440) (o := .cells #[.int .i64 t426, .int .i64 t428, .int .i64 t429, .int .i64 t431, .int .i64 t432, .int .i64 t434, .int .i64 t435, .int .i64 t437, .int .i64 t438, .int .i64 0, .int .i64 0] 72 (0, 0)) (by (with_reducible repeat (first | refine blk_drewN ?_ _ | refine blk_drew ?_ | refine blk_alloc ?_ _)); refine blk_put (cs := #[.int .i64 t426, .int .i64 t428, .int .i64 t429, .int .i64 t431, .int .i64 t432, .int .i64 t434, .int .i64 t435, .int .i64 t437, .int .i64 t438, .int .i64 0, .int .i64 0]) ?_ 10 _ rfl; (with_reducible repeat (first | refine blk_drewN ?_ _ | refine blk_drew ?_ | refine blk_alloc ?_ _)); refine blk_put (cs := #[.int .i64 t426, .int .i64 t428, .int .i64 t429, .int .i64 t431, .int .i64 t432, .int .i64 t434, .int .i64 t435, .int .i64 t437, .int .i64 t438, .int .i64 0, .int .i64 0]) ?_ 9 _ rfl; (with_reducible repeat (first | refine blk_drewN ?_ _ | refine blk_drew ?_ | refine blk_alloc ?_ _)); refine blk_put (cs := #[.int .i64 t426, .int .i64 t428, .int .i64 t429, .int .i64 t431, .int .i64 t432, .int .i64 t434, .int .i64 t435, .int .i64 t437, .int .i64 0, .int .i64 0, .int .i64 0]) ?_ 8 _ rfl; (with_reducible repeat (first | refine blk_drewN ?_ _ | refine blk_drew ?_ | refine blk_alloc ?_ _)); refine blk_put (cs := #[.int .i64 t426, .int .i64 t428, .int .i64 t429, .int .i64 t431, .int .i64 t432, .int .i64 t434, .int .i64 t435, .int .i64 0, .int .i64 0, .int .i64 0, .int .i64 0]) ?_ 7 _ rfl; (with_reducible repeat (first | refine blk_drewN ?_ _ | refine blk_drew ?_ | refine blk_alloc ?_ _)); refine blk_put (cs := #[.int .i64 t426, .int .i64 t428, .int .i64 t429, .int .i64 t431, .int .i64 t432, .int .i64 t434, .int .i64 0, .int .i64 0, .int .i64 0, .int .i64 0, .int .i64 0]) ?_ 6 _ rfl; (with_reducible repeat (first | refine blk_drewN ?_ _ | refine blk_drew ?_ | refine blk_alloc ?_ _)); refine blk_put (cs := #[.int .i64 t426, .int .i64 t428, .int .i64 t429, .int .i64 t431, .int .i64 t432, .int .i64 0, .int .i64 0, .int .i64 0, .int .i64 0, .int .i64 0, .int .i64 0]) ?_ 5 _ rfl; (with_reducible repeat (first | refine blk_drewN ?_ _ | refine blk_drew ?_ | refine blk_alloc ?_ _)); refine blk_put (cs := #[.int .i64 t426, .int .i64 t428, .int .i64 t429, .int .i64 t431, .int .i64 0, .int .i64 0, .int .i64 0, .int .i64 0, .int .i64 0, .int .i64 0, .int .i64 0]) ?_ 4 _ rfl; (with_reducible repeat (first | refine blk_drewN ?_ _ | refine blk_drew ?_ | refine blk_alloc ?_ _)); refine blk_put (cs := #[.int .i64 t426, .int .i64 t428, .int .i64 t429, .int .i64 0, .int .i64 0, .int .i64 0, .int .i64 0, .int .i64 0, .int .i64 0, .int .i64 0, .int .i64 0]) ?_ 3 _ rfl; (with_reducible repeat (first | refine blk_drewN ?_ _ | refine blk_drew ?_ | refine blk_alloc ?_ _)); refine blk_put (cs := #[.int .i64 t426, .int .i64 t428, .int .i64 0, .int .i64 0, .int .i64 0, .int .i64 0, .int .i64 0, .int .i64 0, .int .i64 0, .int .i64 0, .int .i64 0]) ?_ 2 _ rfl; (with_reducible repeat (first | refine blk_drewN ?_ _ | refine blk_drew ?_ | refine blk_alloc ?_ _)); refine blk_put (cs := #[.int .i64 t426, .int .i64 0, .int .i64 0, .int .i64 0, .int .i64 0, .int .i64 0, .int .i64 0, .int .i64 0, .int .i64 0, .int .i64 0, .int .i64 0]) ?_ 1 _ rfl; (with_reducible repeat (first | refine blk_drewN ?_ _ | refine blk_drew ?_ | refine blk_alloc ?_ _)); refine blk_put (cs := #[.int .i64 0, .int .i64 0, .int .i64 0, .int .i64 0, .int .i64 0, .int .i64 0, .int .i64 0, .int .i64 0, .int .i64 0, .int .i64 0, .int .i64 0]) ?_ 0 _ rfl; (with_reducible repeat (first | refine blk_drewN ?_ _ | refine blk_drew ?_ | refine blk_alloc ?_ _)); exact BK440.out) NB440_0.out (by simp)); have n2_ := Aside0.mk (KeepBut.trans (by repeat (first | (with_reducible first | exact HK.out | apply KeepBut.set_ | apply keep_drewN | apply keep_drew | apply keep_alloc | refine keep_far ?_ GW425.out _ | refine keep_far ?_ GW440.out _) | exact HK.out)) hk (.inl rfl)); have n3_ := Aside0.mk (hb); have n4_ := Aside0.mk (hi); clear BK425; clear BK440; clear HK; clear HB; clear HI0; have BK425 := n0_; have BK440 := n1_; have HK := n2_; have HB := n3_; have HI0 := n4_; clear n0_ n1_ n2_ n3_ n4_; (try clear hb); (try clear hb2); (try clear hk); (try clear hi)) | ((with_reducible refine gate_callee (f := 43) rfl ?_); refine goesL_ (some 39) rfl rfl Try.func43 (by kernel_rfl) rfl #[.pointer (some ⟨g, 0, none⟩), .int .i64 300] rfl (by (try simp only [List.map_toArray, List.map_cons, List.map_nil]); first | done | rfl | (simp only [List.length_drop, List.length_take]; rfl)) ?_; (with_reducible refine (thermionkit_Dice_Upto.calls g t442 300 t443 t444 w0 _ ?side1 ?side2 A9.out).mono ?_); (case side1 => repeat (first | (with_reducible first | exact HI0.out | apply IsS118.alloc | apply IsS118.drewN | apply IsS118.drew | apply IsS118.set_0 | refine IsS118.far ?_ NB0_425.out _ | refine IsS118.far ?_ NB0_440.out _) | exact HI0.out)); (case side2 => repeat (first | (with_reducible first | exact HB.out | apply below_alloc | apply pw_below_drewN | apply below_drew1 | refine below_set ?_ (IsS118.ge HI0.out) | refine below_set ?_ GE425.out | refine below_set ?_ GE440.out) | exact HB.out)); rintro e w21 ⟨rfl, hi, hb, hk⟩; refine ⟨_, rfl, ?_⟩; have n0_ := Aside0.mk (KeepBut.blk hk (g' := gb425) (o := .cells #[.int .i64 0, .int .i64 0, .int .i64 0, .int .i64 0, .int .i64 0, .int .i64 0, .int .i64 0, .int .i64 0, .int .i64 0, .int .i64 0, .int .i64 0] 72 (0, 0)) (by (with_reducible repeat (first | refine blk_drewN ?_ _ | refine blk_drew ?_ | refine blk_alloc ?_ _)); exact BK425.out) NB425_0.out (by simp)); have n1_ := Aside0.mk (KeepBut.blk hk (g' := gb440) (o := .cells #[.int .i64 t426, .int .i64 t428, .int .i64 t429, .int .i64 t431, .int .i64 t432, .int .i64 t434, .int .i64 t435, .int .i64 t437, .int .i64 t438, .int .i64 0, .int .i64 0] 72 (0, 0)) (by (with_reducible repeat (first | refine blk_drewN ?_ _ | refine blk_drew ?_ | refine blk_alloc ?_ _)); exact BK440.out) NB440_0.out (by simp)); have n2_ := Aside0.mk (KeepBut.trans (by repeat (first | (with_reducible first | exact HK.out | apply KeepBut.set_ | apply keep_drewN | apply keep_drew | apply keep_alloc | refine keep_far ?_ GW425.out _ | refine keep_far ?_ GW440.out _) | exact HK.out)) hk (.inl rfl)); have n3_ := Aside0.mk (hb); have n4_ := Aside0.mk (hi); clear BK425; clear BK440; clear HK; clear HB; clear HI0; have BK425 := n0_; have BK440 := n1_; have HK := n2_; have HB := n3_; have HI0 := n4_; clear n0_ n1_ n2_ n3_ n4_; (try clear hb); (try clear hb2); (try clear hk); (try clear hi); have hcz22_0 : w21.cell? ⟨gb440, 0, none⟩ = some (.int .i64 t426) := (blk_cell BK440.out 0).trans rfl; have hcz22_1 : w21.cell? ⟨gb440, 1, none⟩ = some (.int .i64 t428) := (blk_cell BK440.out 1).trans rfl; have hcz22_2 : w21.cell? ⟨gb440, 2, none⟩ = some (.int .i64 t429) := (blk_cell BK440.out 2).trans rfl; have hcz22_3 : w21.cell? ⟨gb440, 3, none⟩ = some (.int .i64 t431) := (blk_cell BK440.out 3).trans rfl; have hcz22_4 : w21.cell? ⟨gb440, 4, none⟩ = some (.int .i64 t432) := (blk_cell BK440.out 4).trans rfl; have hcz22_5 : w21.cell? ⟨gb440, 5, none⟩ = some (.int .i64 t434) := (blk_cell BK440.out 5).trans rfl; have hcz22_6 : w21.cell? ⟨gb440, 6, none⟩ = some (.int .i64 t435) := (blk_cell BK440.out 6).trans rfl; have hcz22_7 : w21.cell? ⟨gb440, 7, none⟩ = some (.int .i64 t437) := (blk_cell BK440.out 7).trans rfl; have hcz22_8 : w21.cell? ⟨gb440, 8, none⟩ = some (.int .i64 t438) := (blk_cell BK440.out 8).trans rfl; have hcz22_9 : w21.cell? ⟨gb440, 9, none⟩ = some (.int .i64 0) := (blk_cell BK440.out 9).trans rfl; have hcz22_10 : w21.cell? ⟨gb440, 10, none⟩ = some (.int .i64 0) := (blk_cell BK440.out 10).trans rfl; have hfz22_0 := blk_frozen BK440.out 0; have hfz22_1 := blk_frozen BK440.out 1; have hfz22_2 := blk_frozen BK440.out 2; have hfz22_3 := blk_frozen BK440.out 3; have hfz22_4 := blk_frozen BK440.out 4; have hfz22_5 := blk_frozen BK440.out 5; have hfz22_6 := blk_frozen BK440.out 6; have hfz22_7 := blk_frozen BK440.out 7; have hfz22_8 := blk_frozen BK440.out 8; have hfz22_9 := blk_frozen BK440.out 9; have hfz22_10 := blk_frozen BK440.out 10; have hnb23 := NB425_0.out; have hnc23 := NB0_425.out; have hcz24_0 : w21.cell? ⟨gb425, 0, none⟩ = some (.int .i64 0) := (blk_cell BK425.out 0).trans rfl; have hcz24_1 : w21.cell? ⟨gb425, 1, none⟩ = some (.int .i64 0) := (blk_cell BK425.out 1).trans rfl; have hcz24_2 : w21.cell? ⟨gb425, 2, none⟩ = some (.int .i64 0) := (blk_cell BK425.out 2).trans rfl; have hcz24_3 : w21.cell? ⟨gb425, 3, none⟩ = some (.int .i64 0) := (blk_cell BK425.out 3).trans rfl; have hcz24_4 : w21.cell? ⟨gb425, 4, none⟩ = some (.int .i64 0) := (blk_cell BK425.out 4).trans rfl; have hcz24_5 : w21.cell? ⟨gb425, 5, none⟩ = some (.int .i64 0) := (blk_cell BK425.out 5).trans rfl; have hcz24_6 : w21.cell? ⟨gb425, 6, none⟩ = some (.int .i64 0) := (blk_cell BK425.out 6).trans rfl; have hcz24_7 : w21.cell? ⟨gb425, 7, none⟩ = some (.int .i64 0) := (blk_cell BK425.out 7).trans rfl; have hcz24_8 : w21.cell? ⟨gb425, 8, none⟩ = some (.int .i64 0) := (blk_cell BK425.out 8).trans rfl; have hcz24_9 : w21.cell? ⟨gb425, 9, none⟩ = some (.int .i64 0) := (blk_cell BK425.out 9).trans rfl; have hcz24_10 : w21.cell? ⟨gb425, 10, none⟩ = some (.int .i64 0) := (blk_cell BK425.out 10).trans rfl; have hfz24_0 := blk_frozen BK425.out 0; have hfz24_1 := blk_frozen BK425.out 1; have hfz24_2 := blk_frozen BK425.out 2; have hfz24_3 := blk_frozen BK425.out 3; have hfz24_4 := blk_frozen BK425.out 4; have hfz24_5 := blk_frozen BK425.out 5; have hfz24_6 := blk_frozen BK425.out 6; have hfz24_7 := blk_frozen BK425.out 7; have hfz24_8 := blk_frozen BK425.out 8; have hfz24_9 := blk_frozen BK425.out 9; have hfz24_10 := blk_frozen BK425.out 10))
 refine bodyPost_ret (results_cell_row rfl _ _ gb425 72 #[.int .i64 t426, .int .i64 t428, .int .i64 t429, .int .i64 t431, .int .i64 t432, .int .i64 t434, .int .i64 t435, .int .i64 t437, .int .i64 t438, .int .i64 ji8, .int .i64 (wrap64 ((wrap64 ((wrap64 (Int.tdiv (wrap64 ((wrap64 (t426 - 1)) * (wrap64 (t431 + t432)))) 2)) + t428)) + t443))] (0, 0) _ rfl (by (with_reducible repeat (first | refine blk_drewN ?_ _ | refine blk_drew ?_ | refine blk_alloc ?_ _)); refine blk_put (cs := #[.int .i64 t426, .int .i64 t428, .int .i64 t429, .int .i64 t431, .int .i64 t432, .int .i64 t434, .int .i64 t435, .int .i64 t437, .int .i64 t438, .int .i64 ji8, .int .i64 0]) ?_ 10 _ rfl; (with_reducible repeat (first | refine blk_drewN ?_ _ | refine blk_drew ?_ | refine blk_alloc ?_ _)); refine blk_put (cs := #[.int .i64 t426, .int .i64 t428, .int .i64 t429, .int .i64 t431, .int .i64 t432, .int .i64 t434, .int .i64 t435, .int .i64 t437, .int .i64 t438, .int .i64 0, .int .i64 0]) ?_ 9 _ rfl; (with_reducible repeat (first | refine blk_drewN ?_ _ | refine blk_drew ?_ | refine blk_alloc ?_ _)); refine blk_put (cs := #[.int .i64 t426, .int .i64 t428, .int .i64 t429, .int .i64 t431, .int .i64 t432, .int .i64 t434, .int .i64 t435, .int .i64 t437, .int .i64 0, .int .i64 0, .int .i64 0]) ?_ 8 _ rfl; (with_reducible repeat (first | refine blk_drewN ?_ _ | refine blk_drew ?_ | refine blk_alloc ?_ _)); refine blk_put (cs := #[.int .i64 t426, .int .i64 t428, .int .i64 t429, .int .i64 t431, .int .i64 t432, .int .i64 t434, .int .i64 t435, .int .i64 0, .int .i64 0, .int .i64 0, .int .i64 0]) ?_ 7 _ rfl; (with_reducible repeat (first | refine blk_drewN ?_ _ | refine blk_drew ?_ | refine blk_alloc ?_ _)); refine blk_put (cs := #[.int .i64 t426, .int .i64 t428, .int .i64 t429, .int .i64 t431, .int .i64 t432, .int .i64 t434, .int .i64 0, .int .i64 0, .int .i64 0, .int .i64 0, .int .i64 0]) ?_ 6 _ rfl; (with_reducible repeat (first | refine blk_drewN ?_ _ | refine blk_drew ?_ | refine blk_alloc ?_ _)); refine blk_put (cs := #[.int .i64 t426, .int .i64 t428, .int .i64 t429, .int .i64 t431, .int .i64 t432, .int .i64 0, .int .i64 0, .int .i64 0, .int .i64 0, .int .i64 0, .int .i64 0]) ?_ 5 _ rfl; (with_reducible repeat (first | refine blk_drewN ?_ _ | refine blk_drew ?_ | refine blk_alloc ?_ _)); refine blk_put (cs := #[.int .i64 t426, .int .i64 t428, .int .i64 t429, .int .i64 t431, .int .i64 0, .int .i64 0, .int .i64 0, .int .i64 0, .int .i64 0, .int .i64 0, .int .i64 0]) ?_ 4 _ rfl; (with_reducible repeat (first | refine blk_drewN ?_ _ | refine blk_drew ?_ | refine blk_alloc ?_ _)); refine blk_put (cs := #[.int .i64 t426, .int .i64 t428, .int .i64 t429, .int .i64 0, .int .i64 0, .int .i64 0, .int .i64 0, .int .i64 0, .int .i64 0, .int .i64 0, .int .i64 0]) ?_ 3 _ rfl; (with_reducible repeat (first | refine blk_drewN ?_ _ | refine blk_drew ?_ | refine blk_alloc ?_ _)); refine blk_put (cs := #[.int .i64 t426, .int .i64 t428, .int .i64 0, .int .i64 0, .int .i64 0, .int .i64 0, .int .i64 0, .int .i64 0, .int .i64 0, .int .i64 0, .int .i64 0]) ?_ 2 _ rfl; (with_reducible repeat (first | refine blk_drewN ?_ _ | refine blk_drew ?_ | refine blk_alloc ?_ _)); refine blk_put (cs := #[.int .i64 t426, .int .i64 0, .int .i64 0, .int .i64 0, .int .i64 0, .int .i64 0, .int .i64 0, .int .i64 0, .int .i64 0, .int .i64 0, .int .i64 0]) ?_ 1 _ rfl; (with_reducible repeat (first | refine blk_drewN ?_ _ | refine blk_drew ?_ | refine blk_alloc ?_ _)); refine blk_put (cs := #[.int .i64 0, .int .i64 0, .int .i64 0, .int .i64 0, .int .i64 0, .int .i64 0, .int .i64 0, .int .i64 0, .int .i64 0, .int .i64 0, .int .i64 0]) ?_ 0 _ rfl; (with_reducible repeat (first | refine blk_drewN ?_ _ | refine blk_drew ?_ | refine blk_alloc ?_ _)); refine blk_far ?_ NB425_440.out _; (with_reducible repeat (first | refine blk_drewN ?_ _ | refine blk_drew ?_ | refine blk_alloc ?_ _)); refine blk_far ?_ NB425_440.out _; (with_reducible repeat (first | refine blk_drewN ?_ _ | refine blk_drew ?_ | refine blk_alloc ?_ _)); exact BK425.out) Try.underlying72 rfl (by kernel_rfl)) rfl ?_
 exact ⟨by first | rfl | (simp [errW_none, errW_some] <;> rfl) | (simp only [← hji8]; first | rfl | (simp [errW_none, errW_some] <;> rfl)) | (simp [*, errW_none, errW_some] <;> rfl), by repeat (first | (with_reducible first | exact HI0.out | apply IsS118.alloc | apply IsS118.drewN | apply IsS118.drew | apply IsS118.set_0 | refine IsS118.far ?_ NB0_425.out _ | refine IsS118.far ?_ NB0_440.out _) | exact HI0.out), by repeat (first | (with_reducible first | exact HB.out | apply below_alloc | apply pw_below_drewN | apply below_drew1 | refine below_set ?_ (IsS118.ge HI0.out) | refine below_set ?_ GE425.out | refine below_set ?_ GE440.out) | exact HB.out), by repeat (first | (with_reducible first | exact HK.out | apply KeepBut.set_ | apply keep_drewN | apply keep_drew | apply keep_alloc | refine keep_far ?_ GW425.out _ | refine keep_far ?_ GW440.out _) | exact HK.out)⟩

end Go.Proofs.Ytbcfphoheijmdaa.Print
end

section
/- What the Go function thermionref04_within does, as a Lean function, and that its call does so. Printed by a program of this work out of the translation. -/
namespace Go.Proofs.Ytbcfphoheijmdaa.Print
open Go.RowKit Go.Proofs.YtbcfphoheijmdaaW.PrintWords Go.Proofs.YtbcfphoheijmdaaW.PrintLast Go.Proofs.YtbcfphoheijmdaaW.PrintMore
attribute [local go_sem] max2_int min2_int max_two min_two max_three min_three max_four min_four
set_option linter.unusedVariables false
set_option linter.unusedSimpArgs false

/-! ### thermionref04_within: function 103 -/
def thermionref04_within.f (a0 : Int) (a1 : Int) (a2 : Int) : Option (Bool) := if a0 ≥ a1 then (some (decide (a0 ≤ a2))) else (some false)
set_option maxHeartbeats 8000000 in
set_option maxRecDepth 100000 in
theorem thermionref04_within.calls (a0 : Int) (a1 : Int) (a2 : Int) (r : Bool) (w : World) (h : thermionref04_within.f a0 a1 a2 = some r) :
  Calls Try.prog 103 #[.int .i64 a0, .int .i64 a1, .int .i64 a2] w fun e w' => e = .returned (.bool r) ∧ Drawn0 w w' := by
 have H : (if a0 ≥ a1 then (some (decide (a0 ≤ a2))) else (some false)) = some r := h
 clear h
 by_cases c4 : a0 ≥ a1
 ·rw [if_pos c4] at H
  have c4b0 : decide (a1 ≤ a0) = true := decide_eq_true c4
  clear c4
  obtain rfl := Option.some.inj H
  go_enter Try.func103, Try.ntmps103
  go_wp2
  go_ret
  exact ⟨by first | rfl | (simp; done) | (simp [*]; done), by repeat (first | exact Drawn0.refl _ | apply Drawn0.step)⟩
 ·rw [if_neg c4] at H
  have c4b0 : decide (a1 ≤ a0) = false := decide_eq_false c4
  clear c4
  obtain rfl := Option.some.inj H
  go_enter Try.func103, Try.ntmps103
  go_wp2
  go_ret
  exact ⟨by first | rfl | (simp; done) | (simp [*]; done), by repeat (first | exact Drawn0.refl _ | apply Drawn0.step)⟩

end Go.Proofs.Ytbcfphoheijmdaa.Print
end

section
/- What the Go function thermionref04_checkWinding does, as a Lean function, and that its call does so. Printed by a program of this work out of the translation. -/
namespace Go.Proofs.Ytbcfphoheijmdaa.Print
open Go.RowKit Go.Proofs.YtbcfphoheijmdaaW.PrintWords Go.Proofs.YtbcfphoheijmdaaW.PrintLast Go.Proofs.YtbcfphoheijmdaaW.PrintMore
attribute [local go_sem] max2_int min2_int max_two min_two max_three min_three max_four min_four
set_option linter.unusedVariables false
set_option linter.unusedSimpArgs false

/-! ### thermionref04_checkWinding: function 106 -/
def thermionref04_checkWinding.l0 : Nat → List (S32) → List Int → List Int → Int → Option (Int)
 | 0, _, _, _, _ => none
 | k + 1, x3, x4, x5, x6 => if x6 < (x3.length : Int) then (if 0 ≤ x6 then (if ((rd_T32 x3 x6).f0) > ((rd_T32 x3 x6).f1) then (some 11) else (if x6 < (x4.length : Int) then (if ((rd_T32 x3 x6).f0) < (rd x4 x6) then (some 2) else (if x6 < (x5.length : Int) then (if ((rd_T32 x3 x6).f1) > (rd x5 x6) then (some 2) else (thermionref04_checkWinding.l0 k x3 x4 x5 (wrap64 (x6 + 1)))) else (none))) else (none))) else (none)) else (some 0)
def thermionref04_checkWinding.f (k : Nat) (a0_0 : Int) (a0_1 : Int) (a0_2 : Int) (a0_3 : Int) (a0_4 : Int) (a0_5 : Int) (a0_6 : Int) (a0_7 : Int) (a0_8 : Int) (a0_9 : Int) (a0_10 : Int) : Option (Int) := (thermionref04_within.f a0_0 1 11).bind fun t446 => (if t446 = true then (thermionref04_checkWinding.l0 k (([(⟨a0_1, a0_2⟩ : S32), (⟨a0_3, a0_4⟩ : S32), (⟨a0_5, a0_6⟩ : S32), (⟨a0_7, a0_8⟩ : S32), (⟨a0_9, a0_10⟩ : S32)] : List (S32))) (([1, 1, 0, 0, 0] : List Int)) (([10000, 10000, 1000000, 1000000, 1000000] : List Int)) 0) else (some 2))
theorem thermionref04_checkWinding.mono_l : ∀ k, (∀ y0 y1 y2 y3, LeO (thermionref04_checkWinding.l0 k y0 y1 y2 y3) (thermionref04_checkWinding.l0 (k + 1) y0 y1 y2 y3))
 | 0 => fun _ _ _ _ r h => by simp [thermionref04_checkWinding.l0] at h
 | k + 1 => by
  have ih0 := thermionref04_checkWinding.mono_l k
  ·intro y0 y1 y2 y3
   unfold thermionref04_checkWinding.l0
   repeat' first
   | (with_reducible exact ih0 _ _ _ _)
   | (with_reducible exact LeO.refl _)
   | (with_reducible exact LeO.none _)
   | (with_reducible refine LeO.ite ?_ ?_)
   | (with_reducible refine LeO.bind ?_ (fun _ => ?_))
   | exact ih0 _ _ _ _
   | exact LeO.none _
   | refine LeO.ite ?_ ?_
   | refine LeO.bind ?_ (fun _ => ?_)
theorem thermionref04_checkWinding.mono : ∀ a0 a1 a2 a3 a4 a5 a6 a7 a8 a9 a10 k, LeO (thermionref04_checkWinding.f k a0 a1 a2 a3 a4 a5 a6 a7 a8 a9 a10) (thermionref04_checkWinding.f (k + 1) a0 a1 a2 a3 a4 a5 a6 a7 a8 a9 a10) := by
 intro a0 a1 a2 a3 a4 a5 a6 a7 a8 a9 a10 k
 have ih0 := thermionref04_checkWinding.mono_l k
 unfold thermionref04_checkWinding.f
 repeat' first
   | (with_reducible exact ih0 _ _ _ _)
   | (with_reducible exact LeO.refl _)
   | (with_reducible exact LeO.none _)
   | (with_reducible refine LeO.ite ?_ ?_)
   | (with_reducible refine LeO.bind ?_ (fun _ => ?_))
   | exact ih0 _ _ _ _
   | exact LeO.none _
   | refine LeO.ite ?_ ?_
   | refine LeO.bind ?_ (fun _ => ?_)
set_option maxHeartbeats 8000000 in
set_option maxRecDepth 100000 in
theorem thermionref04_checkWinding.calls (k : Nat) (a0_0 : Int) (a0_1 : Int) (a0_2 : Int) (a0_3 : Int) (a0_4 : Int) (a0_5 : Int) (a0_6 : Int) (a0_7 : Int) (a0_8 : Int) (a0_9 : Int) (a0_10 : Int) (r : Int) (w : World) (h : thermionref04_checkWinding.f k a0_0 a0_1 a0_2 a0_3 a0_4 a0_5 a0_6 a0_7 a0_8 a0_9 a0_10 = some r) :
  Calls Try.prog 106 #[.agg #[.int .i64 a0_0, .int .i64 a0_1, .int .i64 a0_2, .int .i64 a0_3, .int .i64 a0_4, .int .i64 a0_5, .int .i64 a0_6, .int .i64 a0_7, .int .i64 a0_8, .int .i64 a0_9, .int .i64 a0_10]] w fun e w' => e = .returned (.int .i64 r) ∧ Below w.heap.size w w' := by
 have hu72 := Try.underlying72
 have hu32 := Try.underlying32
 have HB := Aside0.mk (Below.refl w.heap.size w)
 have H : ((thermionref04_within.f a0_0 1 11).bind fun t446 => (if t446 = true then (thermionref04_checkWinding.l0 k (([(⟨a0_1, a0_2⟩ : S32), (⟨a0_3, a0_4⟩ : S32), (⟨a0_5, a0_6⟩ : S32), (⟨a0_7, a0_8⟩ : S32), (⟨a0_9, a0_10⟩ : S32)] : List (S32))) (([1, 1, 0, 0, 0] : List Int)) (([10000, 10000, 1000000, 1000000, 1000000] : List Int)) 0) else (some 2))) = some r := h
 clear h
 replace H := Option.bind_eq_some_iff.mp H
 obtain ⟨t446, A20, H⟩ := H
 replace H : (if t446 = true then (thermionref04_checkWinding.l0 k (([(⟨a0_1, a0_2⟩ : S32), (⟨a0_3, a0_4⟩ : S32), (⟨a0_5, a0_6⟩ : S32), (⟨a0_7, a0_8⟩ : S32), (⟨a0_9, a0_10⟩ : S32)] : List (S32))) (([1, 1, 0, 0, 0] : List Int)) (([10000, 10000, 1000000, 1000000, 1000000] : List Int)) 0) else (some 2)) = some r := H
 have A2 := Aside0.mk A20
 clear A20
 by_cases c3 : t446 = true
 ·subst c3
  have H1 : (thermionref04_checkWinding.l0 k (([(⟨a0_1, a0_2⟩ : S32), (⟨a0_3, a0_4⟩ : S32), (⟨a0_5, a0_6⟩ : S32), (⟨a0_7, a0_8⟩ : S32), (⟨a0_9, a0_10⟩ : S32)] : List (S32))) (([1, 1, 0, 0, 0] : List Int)) (([10000, 10000, 1000000, 1000000, 1000000] : List Int)) 0) = some r := by rw [if_pos rfl] at H; exact H
  clear H
  have H := H1
  clear H1
  obtain ⟨y447, hy447⟩ : ∃ y_ : List (S32), y_ = (([(⟨a0_1, a0_2⟩ : S32), (⟨a0_3, a0_4⟩ : S32), (⟨a0_5, a0_6⟩ : S32), (⟨a0_7, a0_8⟩ : S32), (⟨a0_9, a0_10⟩ : S32)] : List (S32))) := ⟨_, rfl⟩
  replace H : (thermionref04_checkWinding.l0 k y447 (([1, 1, 0, 0, 0] : List Int)) (([10000, 10000, 1000000, 1000000, 1000000] : List Int)) 0) = some r := by first | (rw [hy447]; with_reducible exact H) | (have H2_ := (Option.bind_some _ _).symm.trans H; rw [hy447]; with_reducible exact H2_) | (have H2_ := (Option.bind_some _ _).symm.trans H; with_reducible exact H2_) | with_reducible exact H | (rw [hy447]; exact H) | exact H
  have Ny447 := Aside0.mk hy447
  clear hy447
  obtain ⟨y450, hy450⟩ : ∃ y_ : List Int, y_ = (([1, 1, 0, 0, 0] : List Int)) := ⟨_, rfl⟩
  replace H : (thermionref04_checkWinding.l0 k y447 y450 (([10000, 10000, 1000000, 1000000, 1000000] : List Int)) 0) = some r := by first | (rw [hy450]; with_reducible exact H) | (have H2_ := (Option.bind_some _ _).symm.trans H; rw [hy450]; with_reducible exact H2_) | (have H2_ := (Option.bind_some _ _).symm.trans H; with_reducible exact H2_) | with_reducible exact H | (rw [hy450]; exact H) | exact H
  have Ny450 := Aside0.mk hy450
  clear hy450
  obtain ⟨y453, hy453⟩ : ∃ y_ : List Int, y_ = (([10000, 10000, 1000000, 1000000, 1000000] : List Int)) := ⟨_, rfl⟩
  replace H : (thermionref04_checkWinding.l0 k y447 y450 y453 0) = some r := by first | (rw [hy453]; with_reducible exact H) | (have H2_ := (Option.bind_some _ _).symm.trans H; rw [hy453]; with_reducible exact H2_) | (have H2_ := (Option.bind_some _ _).symm.trans H; with_reducible exact H2_) | with_reducible exact H | (rw [hy453]; exact H) | exact H
  have Ny453 := Aside0.mk hy453
  clear hy453
  have H' := Aside0.mk H
  clear H
  go_enter Try.func106, Try.ntmps106
  go_wp2_with (first | ((with_reducible refine gate_dst (N := 1) rfl ?_); refine box_event ?hg (N := 1) ?hd (cs := #[.int .i64 a0_0, .int .i64 a0_1, .int .i64 a0_2, .int .i64 a0_3, .int .i64 a0_4, .int .i64 a0_5, .int .i64 a0_6, .int .i64 a0_7, .int .i64 a0_8, .int .i64 a0_9, .int .i64 a0_10]) (t := 72) ?hr ?_; (case hd => rfl); (case hg => rfl); (case hr => first | (go_simp; done) | (go_simp; rfl)); intro gb445 hg w4 hbox hb; have n0_ := Aside0.mk (below_step (by repeat (first | (with_reducible first | exact HB.out | apply below_alloc | apply pw_below_drewN | apply below_drew1) | exact HB.out)) hb); have n1_ := Aside0.mk (hbox); have n2_ := Aside0.mk ((by rw [hg]; exact (below_size (by repeat (first | (with_reducible first | exact HB.out | apply below_alloc | apply pw_below_drewN | apply below_drew1) | exact HB.out))) : w.heap.size ≤ gb445)); have n3_ := Aside0.mk ((by rw [hg]; exact (below_size (by repeat (first | (with_reducible first | exact HB.out | apply below_alloc | apply pw_below_drewN | apply below_drew1) | exact HB.out))) : w.heap.size ≤ gb445)); clear HB; have HB := n0_; have BK445 := n1_; have GW445 := n2_; have GE445 := n3_; clear n0_ n1_ n2_ n3_; clear hb hbox hg; have hcz5_0 : w4.cell? ⟨gb445, 0, none⟩ = some (.int .i64 a0_0) := (blk_cell BK445.out 0).trans rfl; have hcz5_1 : w4.cell? ⟨gb445, 1, none⟩ = some (.int .i64 a0_1) := (blk_cell BK445.out 1).trans rfl; have hcz5_2 : w4.cell? ⟨gb445, 2, none⟩ = some (.int .i64 a0_2) := (blk_cell BK445.out 2).trans rfl; have hcz5_3 : w4.cell? ⟨gb445, 3, none⟩ = some (.int .i64 a0_3) := (blk_cell BK445.out 3).trans rfl; have hcz5_4 : w4.cell? ⟨gb445, 4, none⟩ = some (.int .i64 a0_4) := (blk_cell BK445.out 4).trans rfl; have hcz5_5 : w4.cell? ⟨gb445, 5, none⟩ = some (.int .i64 a0_5) := (blk_cell BK445.out 5).trans rfl; have hcz5_6 : w4.cell? ⟨gb445, 6, none⟩ = some (.int .i64 a0_6) := (blk_cell BK445.out 6).trans rfl; have hcz5_7 : w4.cell? ⟨gb445, 7, none⟩ = some (.int .i64 a0_7) := (blk_cell BK445.out 7).trans rfl; have hcz5_8 : w4.cell? ⟨gb445, 8, none⟩ = some (.int .i64 a0_8) := (blk_cell BK445.out 8).trans rfl; have hcz5_9 : w4.cell? ⟨gb445, 9, none⟩ = some (.int .i64 a0_9) := (blk_cell BK445.out 9).trans rfl; have hcz5_10 : w4.cell? ⟨gb445, 10, none⟩ = some (.int .i64 a0_10) := (blk_cell BK445.out 10).trans rfl; have hfz5_0 := blk_frozen BK445.out 0; have hfz5_1 := blk_frozen BK445.out 1; have hfz5_2 := blk_frozen BK445.out 2; have hfz5_3 := blk_frozen BK445.out 3; have hfz5_4 := blk_frozen BK445.out 4; have hfz5_5 := blk_frozen BK445.out 5; have hfz5_6 := blk_frozen BK445.out 6; have hfz5_7 := blk_frozen BK445.out 7; have hfz5_8 := blk_frozen BK445.out 8; have hfz5_9 := blk_frozen BK445.out 9; have hfz5_10 := blk_frozen BK445.out 10) | (go_at_call 103; (with_reducible refine (thermionref04_within.calls a0_0 1 11 true _ A2.out).mono ?_); rintro e w' ⟨rfl, ⟨nd, rfl⟩⟩; (try first | exact ⟨rfl, _, World.drewN_drewN _ _ _⟩ | exact ⟨rfl, _, Eq.trans (World.drewN_drewN _ _ _) (congrArg (World.drewN _) (Nat.add_assoc _ _ _))⟩)) | ((with_reducible refine gate_dst (N := 21) rfl ?_); refine Kd.R_lit k32 _ 32 ?hg (N := 21) ?hd (xs := ([(⟨a0_1, a0_2⟩ : S32), (⟨a0_3, a0_4⟩ : S32), (⟨a0_5, a0_6⟩ : S32), (⟨a0_7, a0_8⟩ : S32), (⟨a0_9, a0_10⟩ : S32)] : List (S32))) (inner := [.int .i64 a0_1, .int .i64 a0_2, .int .i64 a0_3, .int .i64 a0_4, .int .i64 a0_5, .int .i64 a0_6, .int .i64 a0_7, .int .i64 a0_8, .int .i64 a0_9, .int .i64 a0_10]) (ok := fun _ => True) (okp := fun _ => True) ?hr ?hp (fun _ hk => hk) trivial (Below.refl _ _) (Nat.le_refl _) (by simp) ?_; (case hd => rfl); (case hg => rfl); (case hr => first | (go_simp; done) | (go_simp; rfl)); (case hp => exact (Reps.c2 (show Kd.M k32 _ _ _ (⟨a0_1, a0_2⟩ : S32) [.int .i64 a0_1, .int .i64 a0_2] from (k32_mkM _ _ _ (⟨a0_1, a0_2⟩ : S32) )) (Reps.c2 (show Kd.M k32 _ _ _ (⟨a0_3, a0_4⟩ : S32) [.int .i64 a0_3, .int .i64 a0_4] from (k32_mkM _ _ _ (⟨a0_3, a0_4⟩ : S32) )) (Reps.c2 (show Kd.M k32 _ _ _ (⟨a0_5, a0_6⟩ : S32) [.int .i64 a0_5, .int .i64 a0_6] from (k32_mkM _ _ _ (⟨a0_5, a0_6⟩ : S32) )) (Reps.c2 (show Kd.M k32 _ _ _ (⟨a0_7, a0_8⟩ : S32) [.int .i64 a0_7, .int .i64 a0_8] from (k32_mkM _ _ _ (⟨a0_7, a0_8⟩ : S32) )) (Reps.c2 (show Kd.M k32 _ _ _ (⟨a0_9, a0_10⟩ : S32) [.int .i64 a0_9, .int .i64 a0_10] from (k32_mkM _ _ _ (⟨a0_9, a0_10⟩ : S32) )) (Reps.none _ _))))))); intro v448 w6 ho7 hb hg_ hnew_; clear hg_ hnew_; (first | rw [← Ny447.out] at ho7 | (simp only [Int.reduceToNat] at ho7; rw [← Ny447.out] at ho7)); have n0_ := Aside0.mk (Kd.R_lower ho7 (below_size (by repeat (first | (with_reducible first | exact HB.out | apply below_alloc | apply pw_below_drewN | apply below_drew1 | refine below_set ?_ GE445.out) | exact HB.out)))); have n1_ := Aside0.mk (blk_below (g := gb445) (o := .cells #[.int .i64 a0_0, .int .i64 a0_1, .int .i64 a0_2, .int .i64 a0_3, .int .i64 a0_4, .int .i64 a0_5, .int .i64 a0_6, .int .i64 a0_7, .int .i64 a0_8, .int .i64 a0_9, .int .i64 a0_10] 72 (0, 0)) (by (with_reducible repeat (first | refine blk_drewN ?_ _ | refine blk_drew ?_ | refine blk_alloc ?_ _)); exact BK445.out) hb); have n2_ := Aside0.mk (below_step (by repeat (first | (with_reducible first | exact HB.out | apply below_alloc | apply pw_below_drewN | apply below_drew1 | refine below_set ?_ GE445.out) | exact HB.out)) hb); clear BK445; clear HB; have HO449 := n0_; have BK445 := n1_; have HB := n2_; clear n0_ n1_ n2_; clear hb ho7) | ((with_reducible refine gate_dst (N := 22) rfl ?_); refine Kd.R_lit (Kd.int .i64) _ 3 ?hg (N := 22) ?hd (xs := ([1, 1, 0, 0, 0] : List Int)) (inner := [.int .i64 1, .int .i64 1, .int .i64 0, .int .i64 0, .int .i64 0]) (ok := fun _ => True) (okp := fun _ => True) ?hr ?hp (fun _ hk => hk) trivial (Below.refl _ _) (Nat.le_refl _) (by simp) ?_; (case hd => rfl); (case hg => rfl); (case hr => first | (go_simp; done) | (go_simp; rfl)); (case hp => exact (Reps.one (show Kd.M (Kd.int .i64) _ _ _ 1 [.int .i64 1] from rfl) (Reps.one (show Kd.M (Kd.int .i64) _ _ _ 1 [.int .i64 1] from rfl) (Reps.one (show Kd.M (Kd.int .i64) _ _ _ 0 [.int .i64 0] from rfl) (Reps.one (show Kd.M (Kd.int .i64) _ _ _ 0 [.int .i64 0] from rfl) (Reps.one (show Kd.M (Kd.int .i64) _ _ _ 0 [.int .i64 0] from rfl) (Reps.none _ _))))))); intro v451 w8 ho9 hb hg_ hnew_; clear hg_ hnew_; (first | rw [← Ny450.out] at ho9 | (simp only [Int.reduceToNat] at ho9; rw [← Ny450.out] at ho9)); have n0_ := Aside0.mk (Kd.R_below (by (with_reducible repeat (first | apply Kd.R_alloc | apply Kd.R_drewN | apply Kd.R_drew)); exact HO449.out) hb); have n1_ := Aside0.mk (Kd.R_lower ho9 (below_size (by repeat (first | (with_reducible first | exact HB.out | apply below_alloc | apply pw_below_drewN | apply below_drew1 | refine below_set ?_ GE445.out) | exact HB.out)))); have n2_ := Aside0.mk (blk_below (g := gb445) (o := .cells #[.int .i64 a0_0, .int .i64 a0_1, .int .i64 a0_2, .int .i64 a0_3, .int .i64 a0_4, .int .i64 a0_5, .int .i64 a0_6, .int .i64 a0_7, .int .i64 a0_8, .int .i64 a0_9, .int .i64 a0_10] 72 (0, 0)) (by (with_reducible repeat (first | refine blk_drewN ?_ _ | refine blk_drew ?_ | refine blk_alloc ?_ _)); exact BK445.out) hb); have n3_ := Aside0.mk (below_step (by repeat (first | (with_reducible first | exact HB.out | apply below_alloc | apply pw_below_drewN | apply below_drew1 | refine below_set ?_ GE445.out) | exact HB.out)) hb); clear HO449; clear BK445; clear HB; have HO449 := n0_; have HO452 := n1_; have BK445 := n2_; have HB := n3_; clear n0_ n1_ n2_ n3_; clear hb ho9) | ((with_reducible refine gate_dst (N := 23) rfl ?_); refine Kd.R_lit (Kd.int .i64) _ 3 ?hg (N := 23) ?hd (xs := ([10000, 10000, 1000000, 1000000, 1000000] : List Int)) (inner := [.int .i64 10000, .int .i64 10000, .int .i64 1000000, .int .i64 1000000, .int .i64 1000000]) (ok := fun _ => True) (okp := fun _ => True) ?hr ?hp (fun _ hk => hk) trivial (Below.refl _ _) (Nat.le_refl _) (by simp) ?_; (case hd => rfl); (case hg => rfl); (case hr => first | (go_simp; done) | (go_simp; rfl)); (case hp => exact (Reps.one (show Kd.M (Kd.int .i64) _ _ _ 10000 [.int .i64 10000] from rfl) (Reps.one (show Kd.M (Kd.int .i64) _ _ _ 10000 [.int .i64 10000] from rfl) (Reps.one (show Kd.M (Kd.int .i64) _ _ _ 1000000 [.int .i64 1000000] from rfl) (Reps.one (show Kd.M (Kd.int .i64) _ _ _ 1000000 [.int .i64 1000000] from rfl) (Reps.one (show Kd.M (Kd.int .i64) _ _ _ 1000000 [.int .i64 1000000] from rfl) (Reps.none _ _))))))); intro v454 w10 ho11 hb hg_ hnew_; clear hg_ hnew_; (first | rw [← Ny453.out] at ho11 | (simp only [Int.reduceToNat] at ho11; rw [← Ny453.out] at ho11)); have n0_ := Aside0.mk (Kd.R_below (by (with_reducible repeat (first | apply Kd.R_alloc | apply Kd.R_drewN | apply Kd.R_drew)); exact HO449.out) hb); have n1_ := Aside0.mk (Kd.R_elder' (by (with_reducible repeat (first | apply Kd.R_alloc | apply Kd.R_drewN | apply Kd.R_drew)); exact HO452.out) (Kd.R_base ho11) hb); have n2_ := Aside0.mk (Kd.R_lower (Kd.R_new' ho11 (Kd.R_lt (by (with_reducible repeat (first | apply Kd.R_alloc | apply Kd.R_drewN | apply Kd.R_drew)); exact HO452.out))) (below_size (by repeat (first | (with_reducible first | exact HB.out | apply below_alloc | apply pw_below_drewN | apply below_drew1 | refine below_set ?_ GE445.out) | exact HB.out)))); have n3_ := Aside0.mk (blk_below (g := gb445) (o := .cells #[.int .i64 a0_0, .int .i64 a0_1, .int .i64 a0_2, .int .i64 a0_3, .int .i64 a0_4, .int .i64 a0_5, .int .i64 a0_6, .int .i64 a0_7, .int .i64 a0_8, .int .i64 a0_9, .int .i64 a0_10] 72 (0, 0)) (by (with_reducible repeat (first | refine blk_drewN ?_ _ | refine blk_drew ?_ | refine blk_alloc ?_ _)); exact BK445.out) hb); have n4_ := Aside0.mk (below_step (by repeat (first | (with_reducible first | exact HB.out | apply below_alloc | apply pw_below_drewN | apply below_drew1 | refine below_set ?_ GE445.out) | exact HB.out)) hb); clear HO449; clear HO452; clear BK445; clear HB; have HO449 := n0_; have HO452 := n1_; have HO455 := n2_; have BK445 := n3_; have HB := n4_; clear n0_ n1_ n2_ n3_ n4_; clear hb ho11))
  repeat (go_quiet (first | ((with_reducible refine gate_dst (N := 1) rfl ?_); refine box_event ?hg (N := 1) ?hd (cs := #[.int .i64 a0_0, .int .i64 a0_1, .int .i64 a0_2, .int .i64 a0_3, .int .i64 a0_4, .int .i64 a0_5, .int .i64 a0_6, .int .i64 a0_7, .int .i64 a0_8, .int .i64 a0_9, .int .i64 a0_10]) (t := 72) ?hr ?_; (case hd => rfl); (case hg => rfl); (case hr => first | (go_simp; done) | (go_simp; rfl)); intro gb445 hg w4 hbox hb; have n0_ := Aside0.mk (below_step (by repeat (first | (with_reducible first | exact HB.out | apply below_alloc | apply pw_below_drewN | apply below_drew1) | exact HB.out)) hb); have n1_ := Aside0.mk (hbox); have n2_ := Aside0.mk ((by rw [hg]; exact (below_size (by repeat (first | (with_reducible first | exact HB.out | apply below_alloc | apply pw_below_drewN | apply below_drew1) | exact HB.out))) : w.heap.size ≤ gb445)); have n3_ := Aside0.mk ((by rw [hg]; exact (below_size (by repeat (first | (with_reducible first | exact HB.out | apply below_alloc | apply pw_below_drewN | apply below_drew1) | exact HB.out))) : w.heap.size ≤ gb445)); clear HB; have HB := n0_; have BK445 := n1_; have GW445 := n2_; have GE445 := n3_; clear n0_ n1_ n2_ n3_; clear hb hbox hg; have hcz5_0 : w4.cell? ⟨gb445, 0, none⟩ = some (.int .i64 a0_0) := (blk_cell BK445.out 0).trans rfl; have hcz5_1 : w4.cell? ⟨gb445, 1, none⟩ = some (.int .i64 a0_1) := (blk_cell BK445.out 1).trans rfl; have hcz5_2 : w4.cell? ⟨gb445, 2, none⟩ = some (.int .i64 a0_2) := (blk_cell BK445.out 2).trans rfl; have hcz5_3 : w4.cell? ⟨gb445, 3, none⟩ = some (.int .i64 a0_3) := (blk_cell BK445.out 3).trans rfl; have hcz5_4 : w4.cell? ⟨gb445, 4, none⟩ = some (.int .i64 a0_4) := (blk_cell BK445.out 4).trans rfl; have hcz5_5 : w4.cell? ⟨gb445, 5, none⟩ = some (.int .i64 a0_5) := (blk_cell BK445.out 5).trans rfl; have hcz5_6 : w4.cell? ⟨gb445, 6, none⟩ = some (.int .i64 a0_6) := (blk_cell BK445.out 6).trans rfl; have hcz5_7 : w4.cell? ⟨gb445, 7, none⟩ = some (.int .i64 a0_7) := (blk_cell BK445.out 7).trans rfl; have hcz5_8 : w4.cell? ⟨gb445, 8, none⟩ = some (.int .i64 a0_8) := (blk_cell BK445.out 8).trans rfl; have hcz5_9 : w4.cell? ⟨gb445, 9, none⟩ = some (.int .i64 a0_9) := (blk_cell BK445.out 9).trans rfl; have hcz5_10 : w4.cell? ⟨gb445, 10, none⟩ = some (.int .i64 a0_10) := (blk_cell BK445.out 10).trans rfl; have hfz5_0 := blk_frozen BK445.out 0; have hfz5_1 := blk_frozen BK445.out 1; have hfz5_2 := blk_frozen BK445.out 2; have hfz5_3 := blk_frozen BK445.out 3; have hfz5_4 := blk_frozen BK445.out 4; have hfz5_5 := blk_frozen BK445.out 5; have hfz5_6 := blk_frozen BK445.out 6; have hfz5_7 := blk_frozen BK445.out 7; have hfz5_8 := blk_frozen BK445.out 8; have hfz5_9 := blk_frozen BK445.out 9; have hfz5_10 := blk_frozen BK445.out 10) | (go_at_call 103; (with_reducible refine (thermionref04_within.calls a0_0 1 11 true _ A2.out).mono ?_); rintro e w' ⟨rfl, ⟨nd, rfl⟩⟩; (try first | exact ⟨rfl, _, World.drewN_drewN _ _ _⟩ | exact ⟨rfl, _, Eq.trans (World.drewN_drewN _ _ _) (congrArg (World.drewN _) (Nat.add_assoc _ _ _))⟩)) | ((with_reducible refine gate_dst (N := 21) rfl ?_); refine Kd.R_lit k32 _ 32 ?hg (N := 21) ?hd (xs := ([(⟨a0_1, a0_2⟩ : S32), (⟨a0_3, a0_4⟩ : S32), (⟨a0_5, a0_6⟩ : S32), (⟨a0_7, a0_8⟩ : S32), (⟨a0_9, a0_10⟩ : S32)] : List (S32))) (inner := [.int .i64 a0_1, .int .i64 a0_2, .int .i64 a0_3, .int .i64 a0_4, .int .i64 a0_5, .int .i64 a0_6, .int .i64 a0_7, .int .i64 a0_8, .int .i64 a0_9, .int .i64 a0_10]) (ok := fun _ => True) (okp := fun _ => True) ?hr ?hp (fun _ hk => hk) trivial (Below.refl _ _) (Nat.le_refl _) (by simp) ?_; (case hd => rfl); (case hg => rfl); (case hr => first | (go_simp; done) | (go_simp; rfl)); (case hp => exact (Reps.c2 (show Kd.M k32 _ _ _ (⟨a0_1, a0_2⟩ : S32) [.int .i64 a0_1, .int .i64 a0_2] from (k32_mkM _ _ _ (⟨a0_1, a0_2⟩ : S32) )) (Reps.c2 (show Kd.M k32 _ _ _ (⟨a0_3, a0_4⟩ : S32) [.int .i64 a0_3, .int .i64 a0_4] from (k32_mkM _ _ _ (⟨a0_3, a0_4⟩ : S32) )) (Reps.c2 (show Kd.M k32 _ _ _ (⟨a0_5, a0_6⟩ : S32) [.int .i64 a0_5, .int .i64 a0_6] from (k32_mkM _ _ _ (⟨a0_5, a0_6⟩ : S32) )) (Reps.c2 (show Kd.M k32 _ _ _ (⟨a0_7, a0_8⟩ : S32) [.int .i64 a0_7, .int .i64 a0_8] from (k32_mkM _ _ _ (⟨a0_7, a0_8⟩ : S32) )) (Reps.c2 (show Kd.M k32 _ _ _ (⟨a0_9, a0_10⟩ : S32) [.int .i64 a0_9, .int .i64 a0_10] from (k32_mkM _ _ _ (⟨a0_9, a0_10⟩ : S32) )) (Reps.none _ _))))))); intro v448 w6 ho7 hb hg_ hnew_; clear hg_ hnew_; (first | rw [← Ny447.out] at ho7 | (simp only [Int.reduceToNat] at ho7; rw [← Ny447.out] at ho7)); have n0_ := Aside0.mk (Kd.R_lower ho7 (below_size (by repeat (first | (with_reducible first | exact HB.out | apply below_alloc | apply pw_below_drewN | apply below_drew1 | refine below_set ?_ GE445.out) | exact HB.out)))); have n1_ := Aside0.mk (blk_below (g := gb445) (o := .cells #[.int .i64 a0_0, .int .i64 a0_1, .int .i64 a0_2, .int .i64 a0_3, .int .i64 a0_4, .int .i64 a0_5, .int .i64 a0_6, .int .i64 a0_7, .int .i64 a0_8, .int .i64 a0_9, .int .i64 a0_10] 72 (0, 0)) (by (with_reducible repeat (first | refine blk_drewN ?_ _ | refine blk_drew ?_ | refine blk_alloc ?_ _)); exact BK445.out) hb); have n2_ := Aside0.mk (below_step (by repeat (first | (with_reducible first | exact HB.out | apply below_alloc | apply pw_below_drewN | apply below_drew1 | refine below_set ?_ GE445.out) | exact HB.out)) hb); clear BK445; clear HB; have HO449 := n0_; have BK445 := n1_; have HB := n2_; clear n0_ n1_ n2_; clear hb ho7) | ((with_reducible refine gate_dst (N := 22) rfl ?_); refine Kd.R_lit (Kd.int .i64) _ 3 ?hg (N := 22) ?hd (xs := ([1, 1, 0, 0, 0] : List Int)) (inner := [.int .i64 1, .int .i64 1, .int .i64 0, .int .i64 0, .int .i64 0]) (ok := fun _ => True) (okp := fun _ => True) ?hr ?hp (fun _ hk => hk) trivial (Below.refl _ _) (Nat.le_refl _) (by simp) ?_; (case hd => rfl); (case hg => rfl); (case hr => first | (go_simp; done) | (go_simp; rfl)); (case hp => exact (Reps.one (show Kd.M (Kd.int .i64) _ _ _ 1 [.int .i64 1] from rfl) (Reps.one (show Kd.M (Kd.int .i64) _ _ _ 1 [.int .i64 1] from rfl) (Reps.one (show Kd.M (Kd.int .i64) _ _ _ 0 [.int .i64 0] from rfl) (Reps.one (show Kd.M (Kd.int .i64) _ _ _ 0 [.int .i64 0] from rfl) (Reps.one (show Kd.M (Kd.int .i64) _ _ _ 0 [.int .i64 0] from rfl) (Reps.none _ _))))))); intro v451 w8 ho9 hb hg_ hnew_; clear hg_ hnew_; (first | rw [← Ny450.out] at ho9 | (simp only [Int.reduceToNat] at ho9; rw [← Ny450.out] at ho9)); have n0_ := Aside0.mk (Kd.R_below (by (with_reducible repeat (first | apply Kd.R_alloc | apply Kd.R_drewN | apply Kd.R_drew)); exact HO449.out) hb); have n1_ := Aside0.mk (Kd.R_lower ho9 (below_size (by repeat (first | (with_reducible first | exact HB.out | apply below_alloc | apply pw_below_drewN | apply below_drew1 | refine below_set ?_ GE445.out) | exact HB.out)))); have n2_ := Aside0.mk (blk_below (g := gb445) (o := .cells #[.int .i64 a0_0, .int .i64 a0_1, .int .i64 a0_2, .int .i64 a0_3, .int .i64 a0_4, .int .i64 a0_5, .int .i64 a0_6, .int .i64 a0_7, .int .i64 a0_8, .int .i64 a0_9, .int .i64 a0_10] 72 (0, 0)) (by (with_reducible repeat (first | refine blk_drewN ?_ _ | refine blk_drew ?_ | refine blk_alloc ?_ _)); exact BK445.out) hb); have n3_ := Aside0.mk (below_step (by repeat (first | (with_reducible first | exact HB.out | apply below_alloc | apply pw_below_drewN | apply below_drew1 | refine below_set ?_ GE445.out) | exact HB.out)) hb); clear HO449; clear BK445; clear HB; have HO449 := n0_; have HO452 := n1_; have BK445 := n2_; have HB := n3_; clear n0_ n1_ n2_ n3_; clear hb ho9) | ((with_reducible refine gate_dst (N := 23) rfl ?_); refine Kd.R_lit (Kd.int .i64) _ 3 ?hg (N := 23) ?hd (xs := ([10000, 10000, 1000000, 1000000, 1000000] : List Int)) (inner := [.int .i64 10000, .int .i64 10000, .int .i64 1000000, .int .i64 1000000, .int .i64 1000000]) (ok := fun _ => True) (okp := fun _ => True) ?hr ?hp (fun _ hk => hk) trivial (Below.refl _ _) (Nat.le_refl _) (by simp) ?_; (case hd => rfl); (case hg => rfl); (case hr => first | (go_simp; done) | (go_simp; rfl)); (case hp => exact (Reps.one (show Kd.M (Kd.int .i64) _ _ _ 10000 [.int .i64 10000] from rfl) (Reps.one (show Kd.M (Kd.int .i64) _ _ _ 10000 [.int .i64 10000] from rfl) (Reps.one (show Kd.M (Kd.int .i64) _ _ _ 1000000 [.int .i64 1000000] from rfl) (Reps.one (show Kd.M (Kd.int .i64) _ _ _ 1000000 [.int .i64 1000000] from rfl) (Reps.one (show Kd.M (Kd.int .i64) _ _ _ 1000000 [.int .i64 1000000] from rfl) (Reps.none _ _))))))); intro v454 w10 ho11 hb hg_ hnew_; clear hg_ hnew_; (first | rw [← Ny453.out] at ho11 | (simp only [Int.reduceToNat] at ho11; rw [← Ny453.out] at ho11)); have n0_ := Aside0.mk (Kd.R_below (by (with_reducible repeat (first | apply Kd.R_alloc | apply Kd.R_drewN | apply Kd.R_drew)); exact HO449.out) hb); have n1_ := Aside0.mk (Kd.R_elder' (by (with_reducible repeat (first | apply Kd.R_alloc | apply Kd.R_drewN | apply Kd.R_drew)); exact HO452.out) (Kd.R_base ho11) hb); have n2_ := Aside0.mk (Kd.R_lower (Kd.R_new' ho11 (Kd.R_lt (by (with_reducible repeat (first | apply Kd.R_alloc | apply Kd.R_drewN | apply Kd.R_drew)); exact HO452.out))) (below_size (by repeat (first | (with_reducible first | exact HB.out | apply below_alloc | apply pw_below_drewN | apply below_drew1 | refine below_set ?_ GE445.out) | exact HB.out)))); have n3_ := Aside0.mk (blk_below (g := gb445) (o := .cells #[.int .i64 a0_0, .int .i64 a0_1, .int .i64 a0_2, .int .i64 a0_3, .int .i64 a0_4, .int .i64 a0_5, .int .i64 a0_6, .int .i64 a0_7, .int .i64 a0_8, .int .i64 a0_9, .int .i64 a0_10] 72 (0, 0)) (by (with_reducible repeat (first | refine blk_drewN ?_ _ | refine blk_drew ?_ | refine blk_alloc ?_ _)); exact BK445.out) hb); have n4_ := Aside0.mk (below_step (by repeat (first | (with_reducible first | exact HB.out | apply below_alloc | apply pw_below_drewN | apply below_drew1 | refine below_set ?_ GE445.out) | exact HB.out)) hb); clear HO449; clear HO452; clear BK445; clear HB; have HO449 := n0_; have HO452 := n1_; have HO455 := n2_; have BK445 := n3_; have HB := n4_; clear n0_ n1_ n2_ n3_ n4_; clear hb ho11)); try go_wp2_with (first | ((with_reducible refine gate_dst (N := 1) rfl ?_); refine box_event ?hg (N := 1) ?hd (cs := #[.int .i64 a0_0, .int .i64 a0_1, .int .i64 a0_2, .int .i64 a0_3, .int .i64 a0_4, .int .i64 a0_5, .int .i64 a0_6, .int .i64 a0_7, .int .i64 a0_8, .int .i64 a0_9, .int .i64 a0_10]) (t := 72) ?hr ?_; (case hd => rfl); (case hg => rfl); (case hr => first | (go_simp; done) | (go_simp; rfl)); intro gb445 hg w4 hbox hb; have n0_ := Aside0.mk (below_step (by repeat (first | (with_reducible first | exact HB.out | apply below_alloc | apply pw_below_drewN | apply below_drew1) | exact HB.out)) hb); have n1_ := Aside0.mk (hbox); have n2_ := Aside0.mk ((by rw [hg]; exact (below_size (by repeat (first | (with_reducible first | exact HB.out | apply below_alloc | apply pw_below_drewN | apply below_drew1) | exact HB.out))) : w.heap.size ≤ gb445)); have n3_ := Aside0.mk ((by rw [hg]; exact (below_size (by repeat (first | (with_reducible first | exact HB.out | apply below_alloc | apply pw_below_drewN | apply below_drew1) | exact HB.out))) : w.heap.size ≤ gb445)); clear HB; have HB := n0_; have BK445 := n1_; have GW445 := n2_; have GE445 := n3_; clear n0_ n1_ n2_ n3_; clear hb hbox hg; have hcz5_0 : w4.cell? ⟨gb445, 0, none⟩ = some (.int .i64 a0_0) := (blk_cell BK445.out 0).trans rfl; have hcz5_1 : w4.cell? ⟨gb445, 1, none⟩ = some (.int .i64 a0_1) := (blk_cell BK445.out 1).trans rfl; have hcz5_2 : w4.cell? ⟨gb445, 2, none⟩ = some (.int .i64 a0_2) := (blk_cell BK445.out 2).trans rfl; have hcz5_3 : w4.cell? ⟨gb445, 3, none⟩ = some (.int .i64 a0_3) := (blk_cell BK445.out 3).trans rfl; have hcz5_4 : w4.cell? ⟨gb445, 4, none⟩ = some (.int .i64 a0_4) := (blk_cell BK445.out 4).trans rfl; have hcz5_5 : w4.cell? ⟨gb445, 5, none⟩ = some (.int .i64 a0_5) := (blk_cell BK445.out 5).trans rfl; have hcz5_6 : w4.cell? ⟨gb445, 6, none⟩ = some (.int .i64 a0_6) := (blk_cell BK445.out 6).trans rfl; have hcz5_7 : w4.cell? ⟨gb445, 7, none⟩ = some (.int .i64 a0_7) := (blk_cell BK445.out 7).trans rfl; have hcz5_8 : w4.cell? ⟨gb445, 8, none⟩ = some (.int .i64 a0_8) := (blk_cell BK445.out 8).trans rfl; have hcz5_9 : w4.cell? ⟨gb445, 9, none⟩ = some (.int .i64 a0_9) := (blk_cell BK445.out 9).trans rfl; have hcz5_10 : w4.cell? ⟨gb445, 10, none⟩ = some (.int .i64 a0_10) := (blk_cell BK445.out 10).trans rfl; have hfz5_0 := blk_frozen BK445.out 0; have hfz5_1 := blk_frozen BK445.out 1; have hfz5_2 := blk_frozen BK445.out 2; have hfz5_3 := blk_frozen BK445.out 3; have hfz5_4 := blk_frozen BK445.out 4; have hfz5_5 := blk_frozen BK445.out 5; have hfz5_6 := blk_frozen BK445.out 6; have hfz5_7 := blk_frozen BK445.out 7; have hfz5_8 := blk_frozen BK445.out 8; have hfz5_9 := blk_frozen BK445.out 9; have hfz5_10 := blk_frozen BK445.out 10) | (go_at_call 103; (with_reducible refine (thermionref04_within.calls a0_0 1 11 true _ A2.out).mono ?_); rintro e w' ⟨rfl, ⟨nd, rfl⟩⟩; (try first | exact ⟨rfl, _, World.drewN_drewN _ _ _⟩ | exact ⟨rfl, _, Eq.trans (World.drewN_drewN _ _ _) (congrArg (World.drewN _) (Nat.add_assoc _ _ _))⟩)) | ((with_reducible refine gate_dst (N := 21) rfl ?_); refine Kd.R_lit k32 _ 32 ?hg (N := 21) ?hd (xs := ([(⟨a0_1, a0_2⟩ : S32), (⟨a0_3, a0_4⟩ : S32), (⟨a0_5, a0_6⟩ : S32), (⟨a0_7, a0_8⟩ : S32), (⟨a0_9, a0_10⟩ : S32)] : List (S32))) (inner := [.int .i64 a0_1, .int .i64 a0_2, .int .i64 a0_3, .int .i64 a0_4, .int .i64 a0_5, .int .i64 a0_6, .int .i64 a0_7, .int .i64 a0_8, .int .i64 a0_9, .int .i64 a0_10]) (ok := fun _ => True) (okp := fun _ => True) ?hr ?hp (fun _ hk => hk) trivial (Below.refl _ _) (Nat.le_refl _) (by simp) ?_; (case hd => rfl); (case hg => rfl); (case hr => first | (go_simp; done) | (go_simp; rfl)); (case hp => exact (Reps.c2 (show Kd.M k32 _ _ _ (⟨a0_1, a0_2⟩ : S32) [.int .i64 a0_1, .int .i64 a0_2] from (k32_mkM _ _ _ (⟨a0_1, a0_2⟩ : S32) )) (Reps.c2 (show Kd.M k32 _ _ _ (⟨a0_3, a0_4⟩ : S32) [.int .i64 a0_3, .int .i64 a0_4] from (k32_mkM _ _ _ (⟨a0_3, a0_4⟩ : S32) )) (Reps.c2 (show Kd.M k32 _ _ _ (⟨a0_5, a0_6⟩ : S32) [.int .i64 a0_5, .int .i64 a0_6] from (k32_mkM _ _ _ (⟨a0_5, a0_6⟩ : S32) )) (Reps.c2 (show Kd.M k32 _ _ _ (⟨a0_7, a0_8⟩ : S32) [.int .i64 a0_7, .int .i64 a0_8] from (k32_mkM _ _ _ (⟨a0_7, a0_8⟩ : S32) )) (Reps.c2 (show Kd.M k32 _ _ _ (⟨a0_9, a0_10⟩ : S32) [.int .i64 a0_9, .int .i64 a0_10] from (k32_mkM _ _ _ (⟨a0_9, a0_10⟩ : S32) )) (Reps.none _ _))))))); intro v448 w6 ho7 hb hg_ hnew_; clear hg_ hnew_; (first | rw [← Ny447.out] at ho7 | (simp only [Int.reduceToNat] at ho7; rw [← Ny447.out] at ho7)); have n0_ := Aside0.mk (Kd.R_lower ho7 (below_size (by repeat (first | (with_reducible first | exact HB.out | apply below_alloc | apply pw_below_drewN | apply below_drew1 | refine below_set ?_ GE445.out) | exact HB.out)))); have n1_ := Aside0.mk (blk_below (g := gb445) (o := .cells #[.int .i64 a0_0, .int .i64 a0_1, .int .i64 a0_2, .int .i64 a0_3, .int .i64 a0_4, .int .i64 a0_5, .int .i64 a0_6, .int .i64 a0_7, .int .i64 a0_8, .int .i64 a0_9, .int .i64 a0_10] 72 (0, 0)) (by (with_reducible repeat (first | refine blk_drewN ?_ _ | refine blk_drew ?_ | refine blk_alloc ?_ _)); exact BK445.out) hb); have n2_ := Aside0.mk (below_step (by repeat (first | (with_reducible first | exact HB.out | apply below_alloc | apply pw_below_drewN | apply below_drew1 | refine below_set ?_ GE445.out) | exact HB.out)) hb); clear BK445; clear HB; have HO449 := n0_; have BK445 := n1_; have HB := n2_; clear n0_ n1_ n2_; clear hb ho7) | ((with_reducible refine gate_dst (N := 22) rfl ?_); refine Kd.R_lit (Kd.int .i64) _ 3 ?hg (N := 22) ?hd (xs := ([1, 1, 0, 0, 0] : List Int)) (inner := [.int .i64 1, .int .i64 1, .int .i64 0, .int .i64 0, .int .i64 0]) (ok := fun _ => True) (okp := fun _ => True) ?hr ?hp (fun _ hk => hk) trivial (Below.refl _ _) (Nat.le_refl _) (by simp) ?_; (case hd => rfl); (case hg => rfl); (case hr => first | (go_simp; done) | (go_simp; rfl)); (case hp => exact (Reps.one (show Kd.M (Kd.int .i64) _ _ _ 1 [.int .i64 1] from rfl) (Reps.one (show Kd.M (Kd.int .i64) _ _ _ 1 [.int .i64 1] from rfl) (Reps.one (show Kd.M (Kd.int .i64) _ _ _ 0 [.int .i64 0] from rfl) (Reps.one (show Kd.M (Kd.int .i64) _ _ _ 0 [.int .i64 0] from rfl) (Reps.one (show Kd.M (Kd.int .i64) _ _ _ 0 [.int .i64 0] from rfl) (Reps.none _ _))))))); intro v451 w8 ho9 hb hg_ hnew_; clear hg_ hnew_; (first | rw [← Ny450.out] at ho9 | (simp only [Int.reduceToNat] at ho9; rw [← Ny450.out] at ho9)); have n0_ := Aside0.mk (Kd.R_below (by (with_reducible repeat (first | apply Kd.R_alloc | apply Kd.R_drewN | apply Kd.R_drew)); exact HO449.out) hb); have n1_ := Aside0.mk (Kd.R_lower ho9 (below_size (by repeat (first | (with_reducible first | exact HB.out | apply below_alloc | apply pw_below_drewN | apply below_drew1 | refine below_set ?_ GE445.out) | exact HB.out)))); have n2_ := Aside0.mk (blk_below (g := gb445) (o := .cells #[.int .i64 a0_0, .int .i64 a0_1, .int .i64 a0_2, .int .i64 a0_3, .int .i64 a0_4, .int .i64 a0_5, .int .i64 a0_6, .int .i64 a0_7, .int .i64 a0_8, .int .i64 a0_9, .int .i64 a0_10] 72 (0, 0)) (by (with_reducible repeat (first | refine blk_drewN ?_ _ | refine blk_drew ?_ | refine blk_alloc ?_ _)); exact BK445.out) hb); have n3_ := Aside0.mk (below_step (by repeat (first | (with_reducible first | exact HB.out | apply below_alloc | apply pw_below_drewN | apply below_drew1 | refine below_set ?_ GE445.out) | exact HB.out)) hb); clear HO449; clear BK445; clear HB; have HO449 := n0_; have HO452 := n1_; have BK445 := n2_; have HB := n3_; clear n0_ n1_ n2_ n3_; clear hb ho9) | ((with_reducible refine gate_dst (N := 23) rfl ?_); refine Kd.R_lit (Kd.int .i64) _ 3 ?hg (N := 23) ?hd (xs := ([10000, 10000, 1000000, 1000000, 1000000] : List Int)) (inner := [.int .i64 10000, .int .i64 10000, .int .i64 1000000, .int .i64 1000000, .int .i64 1000000]) (ok := fun _ => True) (okp := fun _ => True) ?hr ?hp (fun _ hk => hk) trivial (Below.refl _ _) (Nat.le_refl _) (by simp) ?_; (case hd => rfl); (case hg => rfl); (case hr => first | (go_simp; done) | (go_simp; rfl)); (case hp => exact (Reps.one (show Kd.M (Kd.int .i64) _ _ _ 10000 [.int .i64 10000] from rfl) (Reps.one (show Kd.M (Kd.int .i64) _ _ _ 10000 [.int .i64 10000] from rfl) (Reps.one (show Kd.M (Kd.int .i64) _ _ _ 1000000 [.int .i64 1000000] from rfl) (Reps.one (show Kd.M (Kd.int .i64) _ _ _ 1000000 [.int .i64 1000000] from rfl) (Reps.one (show Kd.M (Kd.int .i64) _ _ _ 1000000 [.int .i64 1000000] from rfl) (Reps.none _ _))))))); intro v454 w10 ho11 hb hg_ hnew_; clear hg_ hnew_; (first | rw [← Ny453.out] at ho11 | (simp only [Int.reduceToNat] at ho11; rw [← Ny453.out] at ho11)); have n0_ := Aside0.mk (Kd.R_below (by (with_reducible repeat (first | apply Kd.R_alloc | apply Kd.R_drewN | apply Kd.R_drew)); exact HO449.out) hb); have n1_ := Aside0.mk (Kd.R_elder' (by (with_reducible repeat (first | apply Kd.R_alloc | apply Kd.R_drewN | apply Kd.R_drew)); exact HO452.out) (Kd.R_base ho11) hb); have n2_ := Aside0.mk (Kd.R_lower (Kd.R_new' ho11 (Kd.R_lt (by (with_reducible repeat (first | apply Kd.R_alloc | apply Kd.R_drewN | apply Kd.R_drew)); exact HO452.out))) (below_size (by repeat (first | (with_reducible first | exact HB.out | apply below_alloc | apply pw_below_drewN | apply below_drew1 | refine below_set ?_ GE445.out) | exact HB.out)))); have n3_ := Aside0.mk (blk_below (g := gb445) (o := .cells #[.int .i64 a0_0, .int .i64 a0_1, .int .i64 a0_2, .int .i64 a0_3, .int .i64 a0_4, .int .i64 a0_5, .int .i64 a0_6, .int .i64 a0_7, .int .i64 a0_8, .int .i64 a0_9, .int .i64 a0_10] 72 (0, 0)) (by (with_reducible repeat (first | refine blk_drewN ?_ _ | refine blk_drew ?_ | refine blk_alloc ?_ _)); exact BK445.out) hb); have n4_ := Aside0.mk (below_step (by repeat (first | (with_reducible first | exact HB.out | apply below_alloc | apply pw_below_drewN | apply below_drew1 | refine below_set ?_ GE445.out) | exact HB.out)) hb); clear HO449; clear HO452; clear BK445; clear HB; have HO449 := n0_; have HO452 := n1_; have HO455 := n2_; have BK445 := n3_; have HB := n4_; clear n0_ n1_ n2_ n3_ n4_; clear hb ho11)))
  go_loopg [6] k (fun kq v6 w' => ∃ (x6_1 : Int), v6 = .int .i64 x6_1 ∧ Aside0 (thermionref04_checkWinding.l0 kq y447 y450 y453 x6_1 = some r) ∧ Aside0 (kq ≤ k) ∧ Aside0 (Kd.R k32 32 w' w.heap.size (fun _ => True) v448 y447) ∧ Aside0 (Kd.R (Kd.int .i64) 3 w' w.heap.size (fun k_ => some k_ ≠ (v454 : Value).ownBlock) v451 y450) ∧ Aside0 (Kd.R (Kd.int .i64) 3 w' w.heap.size (fun k_ => some k_ ≠ (v451 : Value).ownBlock) v454 y453) ∧ Aside0 (w'.heap[gb445]? = some (.cells #[.int .i64 a0_0, .int .i64 a0_1, .int .i64 a0_2, .int .i64 a0_3, .int .i64 a0_4, .int .i64 a0_5, .int .i64 a0_6, .int .i64 a0_7, .int .i64 a0_8, .int .i64 a0_9, .int .i64 a0_10] 72 (0, 0))) ∧ Aside0 (Below w.heap.size w w'))
  case atStart => exact ⟨(0), (by first | rfl | (simp; done) | (simp [*]; done)), H', ⟨Nat.le_refl _⟩, ⟨by (with_reducible repeat (first | apply Kd.R_alloc | apply Kd.R_drewN | apply Kd.R_drew)); exact HO449.out⟩, ⟨by (with_reducible repeat (first | apply Kd.R_alloc | apply Kd.R_drewN | apply Kd.R_drew)); exact Kd.R_mono HO452.out (fun _ hk => hk.2)⟩, ⟨by (with_reducible repeat (first | apply Kd.R_alloc | apply Kd.R_drewN | apply Kd.R_drew)); exact Kd.R_mono HO455.out (fun _ hk => hk.2)⟩, ⟨by (with_reducible repeat (first | refine blk_drewN ?_ _ | refine blk_drew ?_ | refine blk_alloc ?_ _)); exact BK445.out⟩, ⟨by repeat (first | (with_reducible first | exact HB.out | apply below_alloc | apply pw_below_drewN | apply below_drew1 | refine below_set ?_ GE445.out) | exact HB.out)⟩⟩
  case round =>
   clear H'
   try clear c1
   try clear c2
   try clear p2
   try clear c3
   try clear c10
   try clear hcz5_0
   try clear hcz5_1
   try clear hcz5_10
   try clear hcz5_2
   try clear hcz5_3
   try clear hcz5_4
   try clear hcz5_5
   try clear hcz5_6
   try clear hcz5_7
   try clear hcz5_8
   try clear hcz5_9
   try clear hfz5_0
   try clear hfz5_1
   try clear hfz5_10
   try clear hfz5_2
   try clear hfz5_3
   try clear hfz5_4
   try clear hfz5_5
   try clear hfz5_6
   try clear hfz5_7
   try clear hfz5_8
   try clear hfz5_9
   obtain ⟨x6_1, rfl, HA, HK1, HO_3, HO_4, HO_5, BK445, HB⟩ := hrel
   cases gk with
   | zero => exact absurd HA.out (by simp [thermionref04_checkWinding.l0])
   | succ k1 =>
    have H := HA.out
    clear HA
    simp only [thermionref04_checkWinding.l0] at H
    by_cases c12 : x6_1 < (y447.length : Int)
    ·rw [if_pos c12] at H
     have c12b0 : decide (x6_1 < (y447.length : Int)) = true := decide_eq_true c12
     clear c12
     by_cases c13 : 0 ≤ x6_1
     ·rw [if_pos c13] at H
      have c13b0 : decide (0 ≤ x6_1) = true := decide_eq_true c13
      clear c13
      by_cases c14 : ((rd_T32 y447 x6_1).f0) > ((rd_T32 y447 x6_1).f1)
      ·rw [if_pos c14] at H
       have c14b0 : decide (((rd_T32 y447 x6_1).f1) < ((rd_T32 y447 x6_1).f0)) = true := decide_eq_true c14
       clear c14
       obtain rfl := Option.some.inj H
       obtain ⟨Ao15, co15, eo15⟩ := Kd.R_slice HO_3.out
       subst eo15
       have p456 : 0 ≤ (x6_1 : Int) := of_decide_eq_true (by first | (with_reducible assumption) | assumption)
       have q456 : x6_1 < (y447.length : Int) := of_decide_eq_true (by first | (with_reducible assumption) | assumption)
       obtain ⟨ad456, e456, hx456_0, hx456_1⟩ := at_T32 (Kd.R_reads' HO_3.out).2.2 x6_1 p456 q456
       cases e456
       replace p456 := eq_true p456
       replace q456 := eq_true q456
       have p457 : 0 ≤ (x6_1 : Int) := of_decide_eq_true (by first | (with_reducible assumption) | assumption)
       have q457 : x6_1 < (y447.length : Int) := of_decide_eq_true (by first | (with_reducible assumption) | assumption)
       obtain ⟨ad457, e457, hx457_0, hx457_1⟩ := at_T32 (Kd.R_reads' HO_3.out).2.2 x6_1 p457 q457
       obtain rfl : ad456 = ad457 := (by injection e457)
       replace p457 := eq_true p457
       replace q457 := eq_true q457
       go_wp2
       repeat (go_quiet (fail); try go_wp2)
       go_ret
       exact ⟨by first | rfl | (simp [errW_none, errW_some] <;> rfl) | (simp [*, errW_none, errW_some] <;> rfl), by repeat (first | (with_reducible first | exact HB.out | apply below_alloc | apply pw_below_drewN | apply below_drew1 | refine below_set ?_ GE445.out) | exact HB.out)⟩
      ·rw [if_neg c14] at H
       have c14b0 : decide (((rd_T32 y447 x6_1).f1) < ((rd_T32 y447 x6_1).f0)) = false := decide_eq_false c14
       clear c14
       by_cases c16 : x6_1 < (y450.length : Int)
       ·rw [if_pos c16] at H
        have c16b0 : decide (x6_1 < (y450.length : Int)) = true := decide_eq_true c16
        clear c16
        by_cases c17 : ((rd_T32 y447 x6_1).f0) < (rd y450 x6_1)
        ·rw [if_pos c17] at H
         have c17b0 : decide (((rd_T32 y447 x6_1).f0) < (rd y450 x6_1)) = true := decide_eq_true c17
         clear c17
         obtain rfl := Option.some.inj H
         obtain ⟨Ao18, co18, eo18⟩ := Kd.R_slice HO_3.out
         subst eo18
         have p456 : 0 ≤ (x6_1 : Int) := of_decide_eq_true (by first | (with_reducible assumption) | assumption)
         have q456 : x6_1 < (y447.length : Int) := of_decide_eq_true (by first | (with_reducible assumption) | assumption)
         obtain ⟨ad456, e456, hx456_0, hx456_1⟩ := at_T32 (Kd.R_reads' HO_3.out).2.2 x6_1 p456 q456
         cases e456
         replace p456 := eq_true p456
         replace q456 := eq_true q456
         have p457 : 0 ≤ (x6_1 : Int) := of_decide_eq_true (by first | (with_reducible assumption) | assumption)
         have q457 : x6_1 < (y447.length : Int) := of_decide_eq_true (by first | (with_reducible assumption) | assumption)
         obtain ⟨ad457, e457, hx457_0, hx457_1⟩ := at_T32 (Kd.R_reads' HO_3.out).2.2 x6_1 p457 q457
         obtain rfl : ad456 = ad457 := (by injection e457)
         replace p457 := eq_true p457
         replace q457 := eq_true q457
         have p458 : 0 ≤ (x6_1 : Int) := of_decide_eq_true (by first | (with_reducible assumption) | assumption)
         have q458 : x6_1 < (y447.length : Int) := of_decide_eq_true (by first | (with_reducible assumption) | assumption)
         obtain ⟨ad458, e458, hx458_0, hx458_1⟩ := at_T32 (Kd.R_reads' HO_3.out).2.2 x6_1 p458 q458
         obtain rfl : ad456 = ad458 := (by injection e458)
         replace p458 := eq_true p458
         replace q458 := eq_true q458
         obtain ⟨Ao19, co19, eo19⟩ := Kd.R_slice HO_4.out
         subst eo19
         have p459 : 0 ≤ (x6_1 : Int) := of_decide_eq_true (by first | (with_reducible assumption) | assumption)
         have q459 : x6_1 < (y450.length : Int) := of_decide_eq_true (by first | (with_reducible assumption) | assumption)
         obtain ⟨ad459, e459, hx459_0⟩ := Kd.at_int (Kd.R_reads' HO_4.out).2.2 x6_1 p459 q459
         cases e459
         replace p459 := eq_true p459
         replace q459 := eq_true q459
         go_wp2
         repeat (go_quiet (fail); try go_wp2)
         go_ret
         exact ⟨by first | rfl | (simp [errW_none, errW_some] <;> rfl) | (simp [*, errW_none, errW_some] <;> rfl), by repeat (first | (with_reducible first | exact HB.out | apply below_alloc | apply pw_below_drewN | apply below_drew1 | refine below_set ?_ GE445.out) | exact HB.out)⟩
        ·rw [if_neg c17] at H
         have c17b0 : decide (((rd_T32 y447 x6_1).f0) < (rd y450 x6_1)) = false := decide_eq_false c17
         clear c17
         by_cases c20 : x6_1 < (y453.length : Int)
         ·rw [if_pos c20] at H
          have c20b0 : decide (x6_1 < (y453.length : Int)) = true := decide_eq_true c20
          clear c20
          by_cases c21 : ((rd_T32 y447 x6_1).f1) > (rd y453 x6_1)
          ·rw [if_pos c21] at H
           have c21b0 : decide ((rd y453 x6_1) < ((rd_T32 y447 x6_1).f1)) = true := decide_eq_true c21
           clear c21
           obtain rfl := Option.some.inj H
           obtain ⟨Ao22, co22, eo22⟩ := Kd.R_slice HO_3.out
           subst eo22
           have p456 : 0 ≤ (x6_1 : Int) := of_decide_eq_true (by first | (with_reducible assumption) | assumption)
           have q456 : x6_1 < (y447.length : Int) := of_decide_eq_true (by first | (with_reducible assumption) | assumption)
           obtain ⟨ad456, e456, hx456_0, hx456_1⟩ := at_T32 (Kd.R_reads' HO_3.out).2.2 x6_1 p456 q456
           cases e456
           replace p456 := eq_true p456
           replace q456 := eq_true q456
           have p457 : 0 ≤ (x6_1 : Int) := of_decide_eq_true (by first | (with_reducible assumption) | assumption)
           have q457 : x6_1 < (y447.length : Int) := of_decide_eq_true (by first | (with_reducible assumption) | assumption)
           obtain ⟨ad457, e457, hx457_0, hx457_1⟩ := at_T32 (Kd.R_reads' HO_3.out).2.2 x6_1 p457 q457
           obtain rfl : ad456 = ad457 := (by injection e457)
           replace p457 := eq_true p457
           replace q457 := eq_true q457
           have p458 : 0 ≤ (x6_1 : Int) := of_decide_eq_true (by first | (with_reducible assumption) | assumption)
           have q458 : x6_1 < (y447.length : Int) := of_decide_eq_true (by first | (with_reducible assumption) | assumption)
           obtain ⟨ad458, e458, hx458_0, hx458_1⟩ := at_T32 (Kd.R_reads' HO_3.out).2.2 x6_1 p458 q458
           obtain rfl : ad456 = ad458 := (by injection e458)
           replace p458 := eq_true p458
           replace q458 := eq_true q458
           obtain ⟨Ao23, co23, eo23⟩ := Kd.R_slice HO_4.out
           subst eo23
           have p459 : 0 ≤ (x6_1 : Int) := of_decide_eq_true (by first | (with_reducible assumption) | assumption)
           have q459 : x6_1 < (y450.length : Int) := of_decide_eq_true (by first | (with_reducible assumption) | assumption)
           obtain ⟨ad459, e459, hx459_0⟩ := Kd.at_int (Kd.R_reads' HO_4.out).2.2 x6_1 p459 q459
           cases e459
           replace p459 := eq_true p459
           replace q459 := eq_true q459
           have p460 : 0 ≤ (x6_1 : Int) := of_decide_eq_true (by first | (with_reducible assumption) | assumption)
           have q460 : x6_1 < (y447.length : Int) := of_decide_eq_true (by first | (with_reducible assumption) | assumption)
           obtain ⟨ad460, e460, hx460_0, hx460_1⟩ := at_T32 (Kd.R_reads' HO_3.out).2.2 x6_1 p460 q460
           obtain rfl : ad456 = ad460 := (by injection e460)
           replace p460 := eq_true p460
           replace q460 := eq_true q460
           obtain ⟨Ao24, co24, eo24⟩ := Kd.R_slice HO_5.out
           subst eo24
           have p461 : 0 ≤ (x6_1 : Int) := of_decide_eq_true (by first | (with_reducible assumption) | assumption)
           have q461 : x6_1 < (y453.length : Int) := of_decide_eq_true (by first | (with_reducible assumption) | assumption)
           obtain ⟨ad461, e461, hx461_0⟩ := Kd.at_int (Kd.R_reads' HO_5.out).2.2 x6_1 p461 q461
           cases e461
           replace p461 := eq_true p461
           replace q461 := eq_true q461
           go_wp2
           repeat (go_quiet (fail); try go_wp2)
           go_ret
           exact ⟨by first | rfl | (simp [errW_none, errW_some] <;> rfl) | (simp [*, errW_none, errW_some] <;> rfl), by repeat (first | (with_reducible first | exact HB.out | apply below_alloc | apply pw_below_drewN | apply below_drew1 | refine below_set ?_ GE445.out) | exact HB.out)⟩
          ·rw [if_neg c21] at H
           have c21b0 : decide ((rd y453 x6_1) < ((rd_T32 y447 x6_1).f1)) = false := decide_eq_false c21
           clear c21
           have H' := Aside0.mk H
           clear H
           obtain ⟨Ao25, co25, eo25⟩ := Kd.R_slice HO_3.out
           subst eo25
           have p456 : 0 ≤ (x6_1 : Int) := of_decide_eq_true (by first | (with_reducible assumption) | assumption)
           have q456 : x6_1 < (y447.length : Int) := of_decide_eq_true (by first | (with_reducible assumption) | assumption)
           obtain ⟨ad456, e456, hx456_0, hx456_1⟩ := at_T32 (Kd.R_reads' HO_3.out).2.2 x6_1 p456 q456
           cases e456
           replace p456 := eq_true p456
           replace q456 := eq_true q456
           have p457 : 0 ≤ (x6_1 : Int) := of_decide_eq_true (by first | (with_reducible assumption) | assumption)
           have q457 : x6_1 < (y447.length : Int) := of_decide_eq_true (by first | (with_reducible assumption) | assumption)
           obtain ⟨ad457, e457, hx457_0, hx457_1⟩ := at_T32 (Kd.R_reads' HO_3.out).2.2 x6_1 p457 q457
           obtain rfl : ad456 = ad457 := (by injection e457)
           replace p457 := eq_true p457
           replace q457 := eq_true q457
           have p458 : 0 ≤ (x6_1 : Int) := of_decide_eq_true (by first | (with_reducible assumption) | assumption)
           have q458 : x6_1 < (y447.length : Int) := of_decide_eq_true (by first | (with_reducible assumption) | assumption)
           obtain ⟨ad458, e458, hx458_0, hx458_1⟩ := at_T32 (Kd.R_reads' HO_3.out).2.2 x6_1 p458 q458
           obtain rfl : ad456 = ad458 := (by injection e458)
           replace p458 := eq_true p458
           replace q458 := eq_true q458
           obtain ⟨Ao26, co26, eo26⟩ := Kd.R_slice HO_4.out
           subst eo26
           have p459 : 0 ≤ (x6_1 : Int) := of_decide_eq_true (by first | (with_reducible assumption) | assumption)
           have q459 : x6_1 < (y450.length : Int) := of_decide_eq_true (by first | (with_reducible assumption) | assumption)
           obtain ⟨ad459, e459, hx459_0⟩ := Kd.at_int (Kd.R_reads' HO_4.out).2.2 x6_1 p459 q459
           cases e459
           replace p459 := eq_true p459
           replace q459 := eq_true q459
           have p460 : 0 ≤ (x6_1 : Int) := of_decide_eq_true (by first | (with_reducible assumption) | assumption)
           have q460 : x6_1 < (y447.length : Int) := of_decide_eq_true (by first | (with_reducible assumption) | assumption)
           obtain ⟨ad460, e460, hx460_0, hx460_1⟩ := at_T32 (Kd.R_reads' HO_3.out).2.2 x6_1 p460 q460
           obtain rfl : ad456 = ad460 := (by injection e460)
           replace p460 := eq_true p460
           replace q460 := eq_true q460
           obtain ⟨Ao27, co27, eo27⟩ := Kd.R_slice HO_5.out
           subst eo27
           have p461 : 0 ≤ (x6_1 : Int) := of_decide_eq_true (by first | (with_reducible assumption) | assumption)
           have q461 : x6_1 < (y453.length : Int) := of_decide_eq_true (by first | (with_reducible assumption) | assumption)
           obtain ⟨ad461, e461, hx461_0⟩ := Kd.at_int (Kd.R_reads' HO_5.out).2.2 x6_1 p461 q461
           cases e461
           replace p461 := eq_true p461
           replace q461 := eq_true q461
           go_wp2
           repeat (go_quiet (fail); try go_wp2)
           go_roundg k1
           case measure => have := HK1.out; omega
           case rel => exact ⟨(wrap64 (x6_1 + 1)), (by first | rfl | (simp; done) | (simp [*]; done)), H', ⟨by have := HK1.out; omega⟩, ⟨by (with_reducible repeat (first | apply Kd.R_alloc | apply Kd.R_drewN | apply Kd.R_drew)); exact HO_3.out⟩, ⟨by (with_reducible repeat (first | apply Kd.R_alloc | apply Kd.R_drewN | apply Kd.R_drew)); exact HO_4.out⟩, ⟨by (with_reducible repeat (first | apply Kd.R_alloc | apply Kd.R_drewN | apply Kd.R_drew)); exact HO_5.out⟩, ⟨by (with_reducible repeat (first | refine blk_drewN ?_ _ | refine blk_drew ?_ | refine blk_alloc ?_ _)); exact BK445.out⟩, ⟨by repeat (first | (with_reducible first | exact HB.out | apply below_alloc | apply pw_below_drewN | apply below_drew1 | refine below_set ?_ GE445.out) | exact HB.out)⟩⟩
         ·rw [if_neg c20] at H
          exact absurd H (by simp)
       ·rw [if_neg c16] at H
        exact absurd H (by simp)
     ·rw [if_neg c13] at H
      exact absurd H (by simp)
    ·rw [if_neg c12] at H
     have c12b0 : decide (x6_1 < (y447.length : Int)) = false := decide_eq_false c12
     clear c12
     obtain rfl := Option.some.inj H
     obtain ⟨Ao28, co28, eo28⟩ := Kd.R_slice HO_3.out
     subst eo28
     go_wp2
     repeat (go_quiet (fail); try go_wp2)
     go_ret
     exact ⟨by first | rfl | (simp [errW_none, errW_some] <;> rfl) | (simp [*, errW_none, errW_some] <;> rfl), by repeat (first | (with_reducible first | exact HB.out | apply below_alloc | apply pw_below_drewN | apply below_drew1 | refine below_set ?_ GE445.out) | exact HB.out)⟩
 ·replace c3 := Bool.eq_false_iff.mpr c3
  subst c3
  have H1 : (some 2) = some r := by rw [if_neg (show ¬ (false = true) by decide)] at H; exact H
  clear H
  have H := H1
  clear H1
  obtain rfl := Option.some.inj H
  go_enter Try.func106, Try.ntmps106
  go_wp2_with (first | ((with_reducible refine gate_dst (N := 1) rfl ?_); refine box_event ?hg (N := 1) ?hd (cs := #[.int .i64 a0_0, .int .i64 a0_1, .int .i64 a0_2, .int .i64 a0_3, .int .i64 a0_4, .int .i64 a0_5, .int .i64 a0_6, .int .i64 a0_7, .int .i64 a0_8, .int .i64 a0_9, .int .i64 a0_10]) (t := 72) ?hr ?_; (case hd => rfl); (case hg => rfl); (case hr => first | (go_simp; done) | (go_simp; rfl)); intro gb445 hg w29 hbox hb; have n0_ := Aside0.mk (below_step (by repeat (first | (with_reducible first | exact HB.out | apply below_alloc | apply pw_below_drewN | apply below_drew1) | exact HB.out)) hb); have n1_ := Aside0.mk (hbox); have n2_ := Aside0.mk ((by rw [hg]; exact (below_size (by repeat (first | (with_reducible first | exact HB.out | apply below_alloc | apply pw_below_drewN | apply below_drew1) | exact HB.out))) : w.heap.size ≤ gb445)); have n3_ := Aside0.mk ((by rw [hg]; exact (below_size (by repeat (first | (with_reducible first | exact HB.out | apply below_alloc | apply pw_below_drewN | apply below_drew1) | exact HB.out))) : w.heap.size ≤ gb445)); clear HB; have HB := n0_; have BK445 := n1_; have GW445 := n2_; have GE445 := n3_; clear n0_ n1_ n2_ n3_; clear hb hbox hg; have hcz30_0 : w29.cell? ⟨gb445, 0, none⟩ = some (.int .i64 a0_0) := (blk_cell BK445.out 0).trans rfl; have hcz30_1 : w29.cell? ⟨gb445, 1, none⟩ = some (.int .i64 a0_1) := (blk_cell BK445.out 1).trans rfl; have hcz30_2 : w29.cell? ⟨gb445, 2, none⟩ = some (.int .i64 a0_2) := (blk_cell BK445.out 2).trans rfl; have hcz30_3 : w29.cell? ⟨gb445, 3, none⟩ = some (.int .i64 a0_3) := (blk_cell BK445.out 3).trans rfl; have hcz30_4 : w29.cell? ⟨gb445, 4, none⟩ = some (.int .i64 a0_4) := (blk_cell BK445.out 4).trans rfl; have hcz30_5 : w29.cell? ⟨gb445, 5, none⟩ = some (.int .i64 a0_5) := (blk_cell BK445.out 5).trans rfl; have hcz30_6 : w29.cell? ⟨gb445, 6, none⟩ = some (.int .i64 a0_6) := (blk_cell BK445.out 6).trans rfl; have hcz30_7 : w29.cell? ⟨gb445, 7, none⟩ = some (.int .i64 a0_7) := (blk_cell BK445.out 7).trans rfl; have hcz30_8 : w29.cell? ⟨gb445, 8, none⟩ = some (.int .i64 a0_8) := (blk_cell BK445.out 8).trans rfl; have hcz30_9 : w29.cell? ⟨gb445, 9, none⟩ = some (.int .i64 a0_9) := (blk_cell BK445.out 9).trans rfl; have hcz30_10 : w29.cell? ⟨gb445, 10, none⟩ = some (.int .i64 a0_10) := (blk_cell BK445.out 10).trans rfl; have hfz30_0 := blk_frozen BK445.out 0; have hfz30_1 := blk_frozen BK445.out 1; have hfz30_2 := blk_frozen BK445.out 2; have hfz30_3 := blk_frozen BK445.out 3; have hfz30_4 := blk_frozen BK445.out 4; have hfz30_5 := blk_frozen BK445.out 5; have hfz30_6 := blk_frozen BK445.out 6; have hfz30_7 := blk_frozen BK445.out 7; have hfz30_8 := blk_frozen BK445.out 8; have hfz30_9 := blk_frozen BK445.out 9; have hfz30_10 := blk_frozen BK445.out 10) | (go_at_call 103; (with_reducible refine (thermionref04_within.calls a0_0 1 11 false _ A2.out).mono ?_); rintro e w' ⟨rfl, ⟨nd, rfl⟩⟩; (try first | exact ⟨rfl, _, World.drewN_drewN _ _ _⟩ | exact ⟨rfl, _, Eq.trans (World.drewN_drewN _ _ _) (congrArg (World.drewN _) (Nat.add_assoc _ _ _))⟩)))
  repeat (go_quiet (first | ((with_reducible refine gate_dst (N := 1) rfl ?_); refine box_event ?hg (N := 1) ?hd (cs := #[.int .i64 a0_0, .int .i64 a0_1, .int .i64 a0_2, .int .i64 a0_3, .int .i64 a0_4, .int .i64 a0_5, .int .i64 a0_6, .int .i64 a0_7, .int .i64 a0_8, .int .i64 a0_9, .int .i64 a0_10]) (t := 72) ?hr ?_; (case hd => rfl); (case hg => rfl); (case hr => first | (go_simp; done) | (go_simp; rfl)); intro gb445 hg w29 hbox hb; have n0_ := Aside0.mk (below_step (by repeat (first | (with_reducible first | exact HB.out | apply below_alloc | apply pw_below_drewN | apply below_drew1) | exact HB.out)) hb); have n1_ := Aside0.mk (hbox); have n2_ := Aside0.mk ((by rw [hg]; exact (below_size (by repeat (first | (with_reducible first | exact HB.out | apply below_alloc | apply pw_below_drewN | apply below_drew1) | exact HB.out))) : w.heap.size ≤ gb445)); have n3_ := Aside0.mk ((by rw [hg]; exact (below_size (by repeat (first | (with_reducible first | exact HB.out | apply below_alloc | apply pw_below_drewN | apply below_drew1) | exact HB.out))) : w.heap.size ≤ gb445)); clear HB; have HB := n0_; have BK445 := n1_; have GW445 := n2_; have GE445 := n3_; clear n0_ n1_ n2_ n3_; clear hb hbox hg; have hcz30_0 : w29.cell? ⟨gb445, 0, none⟩ = some (.int .i64 a0_0) := (blk_cell BK445.out 0).trans rfl; have hcz30_1 : w29.cell? ⟨gb445, 1, none⟩ = some (.int .i64 a0_1) := (blk_cell BK445.out 1).trans rfl; have hcz30_2 : w29.cell? ⟨gb445, 2, none⟩ = some (.int .i64 a0_2) := (blk_cell BK445.out 2).trans rfl; have hcz30_3 : w29.cell? ⟨gb445, 3, none⟩ = some (.int .i64 a0_3) := (blk_cell BK445.out 3).trans rfl; have hcz30_4 : w29.cell? ⟨gb445, 4, none⟩ = some (.int .i64 a0_4) := (blk_cell BK445.out 4).trans rfl; have hcz30_5 : w29.cell? ⟨gb445, 5, none⟩ = some (.int .i64 a0_5) := (blk_cell BK445.out 5).trans rfl; have hcz30_6 : w29.cell? ⟨gb445, 6, none⟩ = some (.int .i64 a0_6) := (blk_cell BK445.out 6).trans rfl; have hcz30_7 : w29.cell? ⟨gb445, 7, none⟩ = some (.int .i64 a0_7) := (blk_cell BK445.out 7).trans rfl; have hcz30_8 : w29.cell? ⟨gb445, 8, none⟩ = some (.int .i64 a0_8) := (blk_cell BK445.out 8).trans rfl; have hcz30_9 : w29.cell? ⟨gb445, 9, none⟩ = some (.int .i64 a0_9) := (blk_cell BK445.out 9).trans rfl; have hcz30_10 : w29.cell? ⟨gb445, 10, none⟩ = some (.int .i64 a0_10) := (blk_cell BK445.out 10).trans rfl; have hfz30_0 := blk_frozen BK445.out 0; have hfz30_1 := blk_frozen BK445.out 1; have hfz30_2 := blk_frozen BK445.out 2; have hfz30_3 := blk_frozen BK445.out 3; have hfz30_4 := blk_frozen BK445.out 4; have hfz30_5 := blk_frozen BK445.out 5; have hfz30_6 := blk_frozen BK445.out 6; have hfz30_7 := blk_frozen BK445.out 7; have hfz30_8 := blk_frozen BK445.out 8; have hfz30_9 := blk_frozen BK445.out 9; have hfz30_10 := blk_frozen BK445.out 10) | (go_at_call 103; (with_reducible refine (thermionref04_within.calls a0_0 1 11 false _ A2.out).mono ?_); rintro e w' ⟨rfl, ⟨nd, rfl⟩⟩; (try first | exact ⟨rfl, _, World.drewN_drewN _ _ _⟩ | exact ⟨rfl, _, Eq.trans (World.drewN_drewN _ _ _) (congrArg (World.drewN _) (Nat.add_assoc _ _ _))⟩))); try go_wp2_with (first | ((with_reducible refine gate_dst (N := 1) rfl ?_); refine box_event ?hg (N := 1) ?hd (cs := #[.int .i64 a0_0, .int .i64 a0_1, .int .i64 a0_2, .int .i64 a0_3, .int .i64 a0_4, .int .i64 a0_5, .int .i64 a0_6, .int .i64 a0_7, .int .i64 a0_8, .int .i64 a0_9, .int .i64 a0_10]) (t := 72) ?hr ?_; (case hd => rfl); (case hg => rfl); (case hr => first | (go_simp; done) | (go_simp; rfl)); intro gb445 hg w29 hbox hb; have n0_ := Aside0.mk (below_step (by repeat (first | (with_reducible first | exact HB.out | apply below_alloc | apply pw_below_drewN | apply below_drew1) | exact HB.out)) hb); have n1_ := Aside0.mk (hbox); have n2_ := Aside0.mk ((by rw [hg]; exact (below_size (by repeat (first | (with_reducible first | exact HB.out | apply below_alloc | apply pw_below_drewN | apply below_drew1) | exact HB.out))) : w.heap.size ≤ gb445)); have n3_ := Aside0.mk ((by rw [hg]; exact (below_size (by repeat (first | (with_reducible first | exact HB.out | apply below_alloc | apply pw_below_drewN | apply below_drew1) | exact HB.out))) : w.heap.size ≤ gb445)); clear HB; have HB := n0_; have BK445 := n1_; have GW445 := n2_; have GE445 := n3_; clear n0_ n1_ n2_ n3_; clear hb hbox hg; have hcz30_0 : w29.cell? ⟨gb445, 0, none⟩ = some (.int .i64 a0_0) := (blk_cell BK445.out 0).trans rfl; have hcz30_1 : w29.cell? ⟨gb445, 1, none⟩ = some (.int .i64 a0_1) := (blk_cell BK445.out 1).trans rfl; have hcz30_2 : w29.cell? ⟨gb445, 2, none⟩ = some (.int .i64 a0_2) := (blk_cell BK445.out 2).trans rfl; have hcz30_3 : w29.cell? ⟨gb445, 3, none⟩ = some (.int .i64 a0_3) := (blk_cell BK445.out 3).trans rfl; have hcz30_4 : w29.cell? ⟨gb445, 4, none⟩ = some (.int .i64 a0_4) := (blk_cell BK445.out 4).trans rfl; have hcz30_5 : w29.cell? ⟨gb445, 5, none⟩ = some (.int .i64 a0_5) := (blk_cell BK445.out 5).trans rfl; have hcz30_6 : w29.cell? ⟨gb445, 6, none⟩ = some (.int .i64 a0_6) := (blk_cell BK445.out 6).trans rfl; have hcz30_7 : w29.cell? ⟨gb445, 7, none⟩ = some (.int .i64 a0_7) := (blk_cell BK445.out 7).trans rfl; have hcz30_8 : w29.cell? ⟨gb445, 8, none⟩ = some (.int .i64 a0_8) := (blk_cell BK445.out 8).trans rfl; have hcz30_9 : w29.cell? ⟨gb445, 9, none⟩ = some (.int .i64 a0_9) := (blk_cell BK445.out 9).trans rfl; have hcz30_10 : w29.cell? ⟨gb445, 10, none⟩ = some (.int .i64 a0_10) := (blk_cell BK445.out 10).trans rfl; have hfz30_0 := blk_frozen BK445.out 0; have hfz30_1 := blk_frozen BK445.out 1; have hfz30_2 := blk_frozen BK445.out 2; have hfz30_3 := blk_frozen BK445.out 3; have hfz30_4 := blk_frozen BK445.out 4; have hfz30_5 := blk_frozen BK445.out 5; have hfz30_6 := blk_frozen BK445.out 6; have hfz30_7 := blk_frozen BK445.out 7; have hfz30_8 := blk_frozen BK445.out 8; have hfz30_9 := blk_frozen BK445.out 9; have hfz30_10 := blk_frozen BK445.out 10) | (go_at_call 103; (with_reducible refine (thermionref04_within.calls a0_0 1 11 false _ A2.out).mono ?_); rintro e w' ⟨rfl, ⟨nd, rfl⟩⟩; (try first | exact ⟨rfl, _, World.drewN_drewN _ _ _⟩ | exact ⟨rfl, _, Eq.trans (World.drewN_drewN _ _ _) (congrArg (World.drewN _) (Nat.add_assoc _ _ _))⟩))))
  go_ret
  exact ⟨by first | rfl | (simp [errW_none, errW_some] <;> rfl) | (simp [*, errW_none, errW_some] <;> rfl), by repeat (first | (with_reducible first | exact HB.out | apply below_alloc | apply pw_below_drewN | apply below_drew1 | refine below_set ?_ GE445.out) | exact HB.out)⟩

end Go.Proofs.Ytbcfphoheijmdaa.Print
end
