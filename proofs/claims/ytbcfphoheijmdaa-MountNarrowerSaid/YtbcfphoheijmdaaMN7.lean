/- Part 7 of the texts of a claim about Ytbcfphoheijmdaa, put together by a program of this work: what the Go functions do, and that their calls do so. -/
import Derived.Test.YtbcfphoheijmdaaMN5
import Derived.Test.YtbcfphoheijmdaaMN6
import Derived.SizedLaws
import Derived.ChangeSlices
section
/- MountNarrower: that the Go function's call gives true. -/
namespace Go.Proofs.Ytbcfphoheijmdaa.Print
open Go.RowKit Go.Proofs.YtbcfphoheijmdaaW.PrintWords Go.Proofs.YtbcfphoheijmdaaW.PrintLast Go.Proofs.YtbcfphoheijmdaaW.PrintMore Go.Proofs.Ytbcfphoheijmdaa.H
attribute [local go_sem] max2_int min2_int max_two min_two max_three min_three max_four min_four
attribute [local go_sem ↓] Go.wp_at_zero Go.wp_at_succ
set_option linter.unusedVariables false
set_option linter.unusedSimpArgs false

theorem mem_add {w W W1 : World} {l : List (Nat × Array Value × TypeId)} {g : Nat} {cs : Array Value} {t : TypeId} (h : Mem w W l) (h2 : Mem W W1 [(g, cs, t)]) : Mem w W1 ((g, cs, t) :: l) := by
  refine ⟨below_step h.below h2.below, fun p hp => ?_, fun p hp => ?_, .cons (fun p hp => ?_) h.apart⟩
  · rcases List.mem_cons.1 hp with rfl | hp
    · exact h2.head
    · exact blk_below (h.blk p hp) h2.below
  · rcases List.mem_cons.1 hp with rfl | hp
    · exact Nat.le_trans h.below.size h2.geh
    · exact h.ge p hp
  · have := blk_lt (h.blk p hp)
    have := h2.geh
    show g ≠ p.1
    omega
theorem region_cut {P : Program} {c : Code} {Q : Exit → Act → World → Prop} {a : Act} {w : World} (Inv : Act → Act → World → Prop) (h1 : c.wp P (fun e a' w' => e = .normal ∧ Inv a a' w') a w) (h2 : ∀ a' w', Inv a a' w' → Q .normal a' w') : c.wp P Q a w :=
  Code.wp_mono (fun e a' w' h => by obtain ⟨rfl, hi⟩ := h; exact h2 _ _ hi) h1
theorem below_of_grown {W W' : World} (h : W.grownBy W' none) : Below W.heap.size W W' := ⟨h.os, h.tape, h.output, h.size, fun k hk => h.block k hk (by simp)⟩
theorem wpAnyT_done' {P : Program} {md : Region.Mode} {ops : Array Oper} {Q : Exit → Act → World → Prop} {S : World → Prop} {T : Nat → Bool} {fuel : Nat} {listed : Array Bool} {a : Act} {w : World} (hr : Region.ready md ops listed = []) (h : Q .normal a w) : H.wpAnyT P md ops Q S T fuel listed a w := by
  cases fuel with
  | zero => exact ⟨hr, h⟩
  | succ k => exact ⟨fun _ => h, fun i hi => by rw [hr] at hi; cases hi⟩
theorem store_step27 {ops : Array Oper} {o : Oper} {a : Act} {Kc : Act → World → Prop} {Q : Exit → Act → World → Prop} {W : World} {g : Nat} {x y : Value} {n : Int} {A : Option Addr} {m c : Nat} (hw : Region.wanted o (yielded ops a.tmps) = true) (ho : o.op = .store 27 (.tmp 10) (.tmp 56)) (hx : a.eval (.tmp 10) = .pointer (some ⟨g, 0, none⟩)) (hy : a.eval (.tmp 56) = .agg #[.int .i64 n, .slice A m c]) (hb : W.heap[g]? = some (.cells #[x, y] 27 (0, 0)))
    (h : Kc (a.put o.dst undef) (W.setRow g #[.int .i64 n, .slice A m c])) : if Region.wanted o (yielded ops a.tmps) = true then Oper.wp Try.prog o a W Kc Q else Kc (a.put o.dst undef) W := by
  rw [if_pos hw]
  exact wp_store_row 27 (.tmp 10) (.tmp 56) ho g #[.int .i64 n, .slice A m c] hx hy 27 #[x, y] hb (by rw [size27]; rfl) (by rfl) (by simp [Value.oneCell']) h
theorem k35_KM {w w' : World} {base : Nat} {ok : Nat → Prop} {x : S35} {cs : List Value} (h : k35.K w x cs) : k35.M w' base ok x cs := by
  rw [k35_open h]
  exact k35_mkM _ _ _ x
theorem drawn_some' {W W1 : World} (h : Drawn0 W W1) : ∃ m, W1 = W.drewN m := by
  obtain ⟨m, rfl⟩ := h
  exact ⟨m, rfl⟩
theorem mod_quiet {a m r : Int} (h : thermionkit_Mod.f a m = some r) {W : World} {n : Nat} : Calls Try.prog 22 #[.int .i64 a, .int .i64 m] (W.drewN n) fun e w'' => e = .returned (.int .i64 r) ∧ ∃ m, w'' = W.drewN m :=
  Calls.quiet_of ((thermionkit_Mod.calls a m r _ h).mono fun e w7 hh => ⟨hh.1, drawn_some' hh.2⟩)
set_option maxHeartbeats 16000000 in
set_option maxRecDepth 100000 in
theorem narrower_calls (A0 : Option Addr) (c0 : Nat) (l0 : List Int) (a1 a2 : Int) (w : World) (hr0 : Kd.C (Kd.int .i64) w A0 l0.length l0) (hc0 : l0.length ≤ c0) :
    Calls Try.prog 3 #[.slice A0 l0.length c0, .int .i64 a1, .int .i64 a2] w fun e w' => e = .returned (.bool true) ∧ Below w.heap.size w w' := by
  have HR0 := Aside0.mk hr0
  clear hr0
  obtain ⟨PP, LL, s1, hco, hp1, hp2, hll, hce⟩ := chainOf_fine (s := wordTo ((l0.length : Int) + 1374496523) l0) (points := 7) (wide := 6) ⟨by omega, by omega⟩ ⟨by omega, by omega⟩
  obtain ⟨n, rfl⟩ : ∃ n : Nat, PP = n := ⟨PP.toNat, by omega⟩
  have HCO := Aside0.mk hco
  have HCE := Aside0.mk hce
  clear hco hce
  have HND := Aside0.mk (show thermionkit_NewDice.f l0 = some (wordTo ((l0.length : Int) + 1374496523) l0) from rfl)
  generalize wordTo ((l0.length : Int) + 1374496523) l0 = s0 at HCO HND
  have HAW := Aside0.mk awake_true
  have hu27 := Try.underlying27
  have hu35 := Try.underlying35
  have hu32 := Try.underlying32
  by_cases hn2 : n < 2
  · have hn3 : (n : Int) < 2 := by omega
    go_enter Try.func3, Try.ntmps3
    go_wp2_with (first
      | (go_at_call 19; refine (thermionkit_NewDice.calls A0 c0 l0 s0 w w (Below.refl _ _) HR0.out hc0 HND.out).mono ?_; rintro e w1 ⟨g, rfl, hI1, hB1, hB1b⟩; have HI1 := Aside0.mk hI1; have HB1 := Aside0.mk hB1; clear hI1 hB1 hB1b HND)
      | (go_at_call 20; refine (thermionkit_ChainOf.calls g s0 7 6 n LL s1 w w1 HI1.out HB1.out HCO.out).mono ?_; rintro e w2 ⟨vL, rfl, hR2, hI2, hB2, hK2⟩; obtain ⟨AL, nL, rfl⟩ := Kd.R_slice hR2; have HR2 := Aside0.mk hR2; have HI2 := Aside0.mk hI2; have HB2 := Aside0.mk hB2; have HG1 := Aside0.mk (show g < w1.heap.size from blk_lt HI1.out.1); have HK2 := Aside0.mk hK2.1; have HN2 := Aside0.mk (Mem.start w2); clear hR2 hI2 hB2 hK2 HCO HI1)
      | ((with_reducible refine gate_dst (N := 8) rfl ?_); refine ev_new HN2.out rfl 27 rfl info27 ?_; intro g8 w3 hm3 hq1; clear hq1; have HN3 := Aside0.mk hm3; clear hm3 HN2)
      | (refine ev_store HN3.out rfl 27 (.tmp 8) (.tmp 22) rfl rfl (cs := #[.int .i64 n, .slice AL LL.length nL]) rfl size27 rfl rfl (by simp [Value.oneCell']) ?_; intro w4 hm4 hq1; clear hq1; have HN4 := Aside0.mk hm4; clear hm4 HN3; have c8 : w4.cell? ⟨g8, 0, none⟩ = some (.int .i64 n) := (HN4.out.cell 0).trans rfl)
      | (go_at_call 21; refine (thermionlaw04_awake.calls 8 true _ HAW.out).mono ?_; rintro e w5 ⟨rfl, hd⟩; have HN5 := Aside0.mk (HN4.out.step hd); clear hd))
    go_ret
    exact ⟨rfl, below_step HB2.out HN5.out.below⟩
  have hn3 : ¬ (n : Int) < 2 := by omega
  have hn4 : decide ((n : Int) < 2) = false := decide_eq_false hn3
  obtain ⟨fI, hmod1, hf0, hf1⟩ := mod_eq a1 n (by omega) (by omega)
  obtain ⟨dI, hmod2, hd0, hd1⟩ := mod_eq a2 ((n : Int) - 1) (by omega) (by omega)
  obtain ⟨f, rfl⟩ : ∃ f : Nat, fI = f := ⟨fI.toNat, by omega⟩
  have hm0 := Int.emod_nonneg ((f : Int) + 1 + dI) (show (n : Int) ≠ 0 by omega)
  have hm1 := Int.emod_lt_of_pos ((f : Int) + 1 + dI) (show 0 < (n : Int) by omega)
  obtain ⟨t, ht⟩ : ∃ t : Nat, Int.tmod ((f : Int) + 1 + dI) n = (t : Int) := ⟨(((f : Int) + 1 + dI) % n).toNat, by rw [Int.tmod_eq_emod_of_nonneg (by omega)]; omega⟩
  have htn : t < n := by rw [Int.tmod_eq_emod_of_nonneg (by omega)] at ht; omega
  have hft : f ≠ t := by
    rw [Int.tmod_eq_emod_of_nonneg (by omega)] at ht
    intro e
    by_cases q : (f : Int) + 1 + dI < n
    · rw [Int.emod_eq_of_lt (by omega) q] at ht; omega
    · have : ((f : Int) + 1 + dI) % n = (f : Int) + 1 + dI - n := by rw [← Int.sub_emod_right, Int.emod_eq_of_lt (by omega) (by omega)]
      omega
  obtain ⟨lo, hi, s3, hrg, hlo, hlh, hhi⟩ := range_eq s1 (-40) 40 (by omega) (by omega) (by omega)
  have hle : linkErr n ⟨(f : Int), (t : Int), ⟨lo, hi⟩⟩ = 0 := by unfold linkErr; simp only []; rw [if_neg (by omega), if_neg (by omega), if_neg (by omega), if_neg (by omega)]
  have HFA := Aside0.mk (narrow_facts (by omega) HCE.out (chainErr_snoc HCE.out (by omega) hle) hle)
  have HLE := Aside0.mk hle
  have HRG := Aside0.mk hrg
  have HM1 := Aside0.mk hmod1
  have HM2 := Aside0.mk hmod2
  have n1 : IntKind.i64.wrap ((f : Int) + 1) = (f : Int) + 1 := IntWalk.i64_in _ (by omega)
  have n2 : IntKind.i64.wrap ((n : Int) - 1) = (n : Int) - 1 := IntWalk.i64_in _ (by omega)
  have n3 : IntKind.i64.wrap ((f : Int) + 1 + dI) = (f : Int) + 1 + dI := IntWalk.i64_in _ (by omega)
  have n4 : IntKind.i64.wrap (t : Int) = (t : Int) := IntWalk.i64_in _ (by omega)
  have z1 : ¬ n = 0 := by omega
  have z2 : ¬ (n : Int) = 0 := by omega
  clear hm0 hm1 hmod1 hmod2 hle hrg hlo hlh hhi hd0 hd1 hf0 hf1
  go_enter Try.func3, Try.ntmps3
  go_wp2_with (first
    | (go_at_call 19; refine (thermionkit_NewDice.calls A0 c0 l0 s0 w w (Below.refl _ _) HR0.out hc0 HND.out).mono ?_; rintro e w1 ⟨g, rfl, hI1, hB1, hB1b⟩; have HI1 := Aside0.mk hI1; have HB1 := Aside0.mk hB1; clear hI1 hB1 hB1b HND)
    | (go_at_call 20; refine (thermionkit_ChainOf.calls g s0 7 6 n LL s1 w w1 HI1.out HB1.out HCO.out).mono ?_; rintro e w2 ⟨vL, rfl, hR2, hI2, hB2, hK2⟩; obtain ⟨AL, nL, rfl⟩ := Kd.R_slice hR2; have HR2 := Aside0.mk hR2; have HI2 := Aside0.mk hI2; have HB2 := Aside0.mk hB2; have HG1 := Aside0.mk (show g < w1.heap.size from blk_lt HI1.out.1); have HK2 := Aside0.mk hK2.1; have HN2 := Aside0.mk (Mem.start w2); clear hR2 hI2 hB2 hK2 HCO HI1)
    | ((with_reducible refine gate_dst (N := 8) rfl ?_); refine ev_new HN2.out rfl 27 rfl info27 ?_; intro g8 w3 hm3 hq1; clear hq1; have HN3 := Aside0.mk hm3; clear hm3 HN2)
    | (refine ev_store HN3.out rfl 27 (.tmp 8) (.tmp 22) rfl rfl (cs := #[.int .i64 n, .slice AL LL.length nL]) rfl size27 rfl rfl (by simp [Value.oneCell']) ?_; intro w4 hm4 hq1; clear hq1; have HN4 := Aside0.mk hm4; clear hm4 HN3; have c8 : w4.cell? ⟨g8, 0, none⟩ = some (.int .i64 n) := (HN4.out.cell 0).trans rfl)
    | (go_at_call 22; refine (thermionkit_Mod.calls a1 n f _ HM1.out).mono ?_; rintro e w5 ⟨rfl, hd⟩; have HN5 := Aside0.mk (HN4.out.step hd.below); clear hd HN4 c8; have d8 : w5.cell? ⟨g8, 0, none⟩ = some (.int .i64 n) := (HN5.out.cell 0).trans rfl))
  go_quiet (exact mod_quiet HM2.out)
  have HN6 := Aside0.mk (HN5.out.drewN nq)
  clear HN5 d8
  go_wp2_with (first
    | (go_at_call 23; refine (thermionkit_Dice_Range.calls g s1 (-40) 40 lo hi s3 w _ ⟨blk_below HI2.out.1 HN6.out.below, HI2.out.2⟩ (below_step HB2.out HN6.out.below) HRG.out).mono ?_; rintro e w7 ⟨rfl, hI7, hB7, hK7⟩; have HM7 : Aside0 (Mem w w7 [(g8, #[.int .i64 n, .slice AL LL.length nL], 27)]) := ⟨Mem.one ((hK7.2 g8 (blk_lt HN6.out.head) (by have := HN6.out.geh; have := HG1.out; have := HK2.out; omega) (by simp)).trans HN6.out.head) (by have := HN6.out.geh; have := HB2.out.size; omega) hB7⟩; have HC7 := Aside0.mk (Kd.R_reads' (Kd.R_keep (Kd.R_bound (Kd.R_below HR2.out HN6.out.below)) hK7 (fun k hk => by have := hk.2.1; have := HG1.out; omega))).2; clear hI7 hB7 hK7 HN6 HR2 HI2 HB2)
    | ((with_reducible refine gate_dst (N := 9) rfl ?_); refine ev_new (Mem.start w7) rfl 35 rfl info35 ?_; intro g9 w8 hm8 hq1; clear hq1; have HX8 := Aside0.mk hm8; clear hm8)
    | (refine ev_store HX8.out rfl 35 (.tmp 9) (.tmp 46) rfl rfl (cs := #[.int .i64 f, .int .i64 t, .int .i64 lo, .int .i64 hi]) rfl size35 rfl rfl (by simp [Value.oneCell']) ?_; intro w9 hm9 hq1; clear hq1; have HM9 := Aside0.mk (mem_add HM7.out hm9); have HC9 := Aside0.mk (Kd.C_below HC7.out.2 hm9.below); have hnL := HC7.out.1; clear hm9 HM7 HC7 HX8))
  obtain ⟨MM, hMM⟩ : ∃ MM, MM = LL ++ [(⟨(f : Int), (t : Int), ⟨lo, hi⟩⟩ : S35)] := ⟨_, rfl⟩
  have HMM := Aside0.mk hMM
  rw [← hMM] at HFA
  clear hMM
  refine region_cut (fun a a' w' => ∃ (g10 : Nat) (v49 v52 v54 : Value) (AM : Option Addr) (nM : Nat), a' = ((((((((((a.put (some 47) (.pointer (some ⟨g8, 0, none⟩))).put (some 48) (.int .i64 n)).put (some 49) v49).put (some 50) (.pointer (some ⟨g8, 1, none⟩))).put (some 51) (.slice AL LL.length nL)).put (some 52) v52).put (some 53) (.agg #[.int .i64 f, .int .i64 t, .int .i64 lo, .int .i64 hi])).put (some 54) v54).put (some 55) (.slice AM MM.length nM)).put (some 56) (.agg #[.int .i64 n, .slice AM MM.length nM])).put (some 10) (.pointer (some ⟨g10, 0, none⟩)) ∧ MM.length ≤ nM ∧ Mem w w' [(g10, #[.int .i64 n, .slice AM MM.length nM], 27), (g9, #[.int .i64 f, .int .i64 t, .int .i64 lo, .int .i64 hi], 35), (g8, #[.int .i64 n, .slice AL LL.length nL], 27)] ∧ k35.C w' AL LL.length LL ∧ k35.C w' AM MM.length MM) ?h8 ?hrest
  case h8 =>
    have HMd := Aside0.mk HM9.out.drew
    have HCd := Aside0.mk (Kd.C_drew HC9.out)
    clear HM9 HC9
    refine wp_region_noPanic ?_
    generalize hwd : w9.drew = wd at HMd HCd
    have q1 : wd.cell? ⟨g8, 0, none⟩ = some (.int .i64 (n : Int)) := (blk_cell HMd.out.second 0).trans rfl
    have q2 : wd.cell? ⟨g8, 1, none⟩ = some (.slice AL LL.length nL) := (blk_cell HMd.out.second 1).trans rfl
    have q3 : wd.cell? ⟨g9, 0, none⟩ = some (.int .i64 (f : Int)) := (blk_cell HMd.out.head 0).trans rfl
    have q4 : wd.cell? ⟨g9, 1, none⟩ = some (.int .i64 (t : Int)) := (blk_cell HMd.out.head 1).trans rfl
    have q5 : wd.cell? ⟨g9, 2, none⟩ = some (.int .i64 lo) := (blk_cell HMd.out.head 2).trans rfl
    have q6 : wd.cell? ⟨g9, 3, none⟩ = some (.int .i64 hi) := (blk_cell HMd.out.head 3).trans rfl
    refine H.wp_region_T [] (S := fun w' => w'.cell? ⟨g8, 0, none⟩ = some (.int .i64 n) ∧ w'.cell? ⟨g8, 1, none⟩ = some (.slice AL LL.length nL) ∧ w'.cell? ⟨g9, 0, none⟩ = some (.int .i64 f) ∧ w'.cell? ⟨g9, 1, none⟩ = some (.int .i64 t) ∧ w'.cell? ⟨g9, 2, none⟩ = some (.int .i64 lo) ∧ w'.cell? ⟨g9, 3, none⟩ = some (.int .i64 hi)) (by kernel_rfl) (by rw [hwd]; exact ⟨q1, q2, q3, q4, q5, q6⟩) (fun hHeld => ?_)
    rw [hwd] at hHeld ⊢
    clear hwd
    have HBx := Aside0.mk (Below.refl wd.heap.size wd)
    refine H.wpAnyT_takeY (i := 0) (v := .pointer (some ⟨g8, 0, none⟩)) rfl (by decide) (by kernel_rfl) (by kernel_rfl) (by kernel_rfl) (fun _ _ _ h => h) (Or.inl ⟨by rfl, ?_⟩) hHeld ?_
    · (intro w_ hSw; clear q1 q2 q3 q4 q5 q6; go_simp; try rfl)
    try simp only [Act.put, List.getElem_toArray, List.getElem_cons_succ, List.getElem_cons_zero, List.setIfInBounds_toArray, List.set_cons_zero, List.set_cons_succ]
    refine H.wpAnyT_take (i := 1) (v := .int .i64 n) rfl (by decide) (by kernel_rfl) (by kernel_rfl) (by kernel_rfl) (by kernel_rfl) (fun _ _ _ h => h) (Or.inl ⟨by rfl, ?_⟩) hHeld ?_
    · (intro w_ hSw; (try dsimp only at hSw); clear q1 q2 q3 q4 q5 q6; obtain ⟨q1, q2, q3, q4, q5, q6⟩ := hSw; go_simp; try rfl)
    try simp only [Act.put, List.getElem_toArray, List.getElem_cons_succ, List.getElem_cons_zero, List.setIfInBounds_toArray, List.set_cons_zero, List.set_cons_succ]
    refine H.wpAnyT_takeY (i := 3) (v := .pointer (some ⟨g8, 1, none⟩)) rfl (by decide) (by kernel_rfl) (by kernel_rfl) (by kernel_rfl) (fun _ _ _ h => h) (Or.inl ⟨by rfl, ?_⟩) hHeld ?_
    · (intro w_ hSw; clear q1 q2 q3 q4 q5 q6; go_simp; try rfl)
    try simp only [Act.put, List.getElem_toArray, List.getElem_cons_succ, List.getElem_cons_zero, List.setIfInBounds_toArray, List.set_cons_zero, List.set_cons_succ]
    refine H.wpAnyT_take (i := 4) (v := .slice AL LL.length nL) rfl (by decide) (by kernel_rfl) (by kernel_rfl) (by kernel_rfl) (by kernel_rfl) (fun _ _ _ h => h) (Or.inl ⟨by rfl, ?_⟩) hHeld ?_
    · (intro w_ hSw; (try dsimp only at hSw); clear q1 q2 q3 q4 q5 q6; obtain ⟨q1, q2, q3, q4, q5, q6⟩ := hSw; go_simp; try rfl)
    try simp only [Act.put, List.getElem_toArray, List.getElem_cons_succ, List.getElem_cons_zero, List.setIfInBounds_toArray, List.set_cons_zero, List.set_cons_succ]
    refine H.wpAnyT_take (i := 6) (v := .agg #[.int .i64 f, .int .i64 t, .int .i64 lo, .int .i64 hi]) rfl (by decide) (by kernel_rfl) (by kernel_rfl) (by kernel_rfl) (by kernel_rfl) (fun _ _ _ h => h) (Or.inl ⟨by rfl, ?_⟩) hHeld ?_
    · (intro w_ hSw; (try dsimp only at hSw); clear q1 q2 q3 q4 q5 q6; obtain ⟨q1, q2, q3, q4, q5, q6⟩ := hSw; go_simp; try rfl)
    try simp only [Act.put, List.getElem_toArray, List.getElem_cons_succ, List.getElem_cons_zero, List.setIfInBounds_toArray, List.set_cons_zero, List.set_cons_succ]
    refine H.wpAnyT_ready (rs := [2, 7, 10]) (by kernel_rfl) (by simp) ?_
    refine H.AllT.cons (i := 2) rfl (by decide) (fun K hK => ?_) ?_
    ·refine Kd.R_lit_step k35 (w0 := wd) wd.heap.size 35 ?hg (N := 49) ?hd (xs := ([] : List S35)) (inner := []) (ok := fun _ => True) (okp := fun _ => False) ?hr ?hp (fun _ h => h.elim) trivial HBx.out HBx.out.size (by simp) ?_; (case hd => rfl); (case hg => rfl); (case hr => first | (go_simp; done) | (go_simp; rfl)); (case hp => exact (Reps.none _ _))
     intro v49 x1 h49 hB2 hg2 hat49
     have H49 := Aside0.mk h49
     have HBx := Aside0.mk hB2
     clear h49 hB2 hg2 hat49
     refine hK.out _ _ (⟨cell_later HBx.out q1, cell_later HBx.out q2, cell_later HBx.out q3, cell_later HBx.out q4, cell_later HBx.out q5, cell_later HBx.out q6⟩) (fun hHeld => ?_)
     clear hK K
     try simp only [Act.put, List.getElem_toArray, List.getElem_cons_succ, List.getElem_cons_zero, List.setIfInBounds_toArray, List.set_cons_zero, List.set_cons_succ]
     refine H.wpAnyT_ready (rs := [5, 7, 10]) (by kernel_rfl) (by simp) ?_
     refine H.AllT.cons (i := 5) rfl (by decide) (fun K hK => ?_) ?_
     ·refine Kd.R_append_rows_step k35 (Rr := k35.K x1) (w0 := wd) wd.heap.size (by rfl) (.tmp 49) (.tmp 51) 25 35 (.agg #[.int .i64 0, .int .i64 0, .int .i64 0, .int .i64 0]) 32 rfl Try.underlying25 info35 rfl (by decide) (by omega) v49 ([] : List S35) LL AL LL.length nL (fun _ => True) (fun _ => False) (by simp [Act.eval, Act.put]) (by simp [Act.eval, Act.put]) H49.out (Kd.C_below HCd.out HBx.out) (fun x cs h => k35_KM h) (fun _ h => h.elim) (fun _ _ => trivial) HBx.out HBx.out.size (by simp only [List.length_nil]; omega) ?_
      intro v52 x2 h52 hB2 hg2 hat52
      have H52 := Aside0.mk h52
      have HBx := Aside0.mk hB2
      clear h52 hB2 hg2 hat52
      refine hK.out _ _ (⟨cell_later HBx.out q1, cell_later HBx.out q2, cell_later HBx.out q3, cell_later HBx.out q4, cell_later HBx.out q5, cell_later HBx.out q6⟩) (fun hHeld => ?_)
      clear hK K
      try simp only [Act.put, List.getElem_toArray, List.getElem_cons_succ, List.getElem_cons_zero, List.setIfInBounds_toArray, List.set_cons_zero, List.set_cons_succ]
      refine H.wpAnyT_ready (rs := [7, 10]) (by kernel_rfl) (by simp) ?_
      refine H.AllT.cons (i := 7) rfl (by decide) (fun K hK => ?_) ?_
      ·refine Kd.R_lit_step k35 (w0 := wd) wd.heap.size 35 ?hg (N := 54) ?hd (xs := ([⟨(f : Int), (t : Int), ⟨lo, hi⟩⟩] : List S35)) (inner := [.int .i64 (f : Int), .int .i64 (t : Int), .int .i64 lo, .int .i64 hi]) (ok := fun _ => True) (okp := fun _ => False) ?hr ?hp (fun _ h => h.elim) trivial HBx.out HBx.out.size (by simp) ?_; (case hd => rfl); (case hg => rfl); (case hr => first | (go_simp; done) | (go_simp; rfl)); (case hp => exact (Reps.c4 (k35_mkM _ _ _ (⟨(f : Int), (t : Int), ⟨lo, hi⟩⟩ : S35)) (Reps.none _ _)))
       intro v54 x3 h54 hB2 hg2 hat54
       have H52 := Aside0.mk (Kd.R_below H52.out (below_of_grown hg2))
       have H54 := Aside0.mk h54
       have HBx := Aside0.mk hB2
       clear h54 hB2 hg2 hat54
       refine hK.out _ _ (⟨cell_later HBx.out q1, cell_later HBx.out q2, cell_later HBx.out q3, cell_later HBx.out q4, cell_later HBx.out q5, cell_later HBx.out q6⟩) (fun hHeld => ?_)
       clear hK K
       try simp only [Act.put, List.getElem_toArray, List.getElem_cons_succ, List.getElem_cons_zero, List.setIfInBounds_toArray, List.set_cons_zero, List.set_cons_succ]
       refine H.wpAnyT_ready (rs := [8, 10]) (by kernel_rfl) (by simp) ?_
       refine H.AllT.cons (i := 8) rfl (by decide) (fun K hK => ?_) ?_
       ·obtain ⟨A54, n54, e54, hn54, hC54⟩ := Kd.R_reads H54.out
        refine Kd.R_append_rows_step k35 (Rr := k35.K x3) (w0 := wd) wd.heap.size (by rfl) (.tmp 52) (.tmp 54) 25 35 (.agg #[.int .i64 0, .int .i64 0, .int .i64 0, .int .i64 0]) 32 rfl Try.underlying25 info35 rfl (by decide) (by omega) v52 (([] : List S35) ++ LL) ([⟨(f : Int), (t : Int), ⟨lo, hi⟩⟩] : List S35) A54 1 n54 (fun _ => True) (fun _ => False) (by simp [Act.eval, Act.put]) (by simp [Act.eval, Act.put]; exact e54) H52.out hC54 (fun x cs h => k35_KM h) (fun _ h => h.elim) (fun _ _ => trivial) HBx.out HBx.out.size (by simp only [List.nil_append]; omega) ?_
        intro v55 x4 h55 hB2 hg2 hat55
        rw [List.nil_append, ← HMM.out] at h55
        obtain ⟨AM, nM, e55, hnM, _⟩ := Kd.R_reads h55
        subst e55
        have H55 := Aside0.mk h55
        have HBx := Aside0.mk hB2
        clear h55 hB2 hg2 hat55 hC54 e54 hn54
        refine hK.out _ _ (⟨cell_later HBx.out q1, cell_later HBx.out q2, cell_later HBx.out q3, cell_later HBx.out q4, cell_later HBx.out q5, cell_later HBx.out q6⟩) (fun hHeld => ?_)
        clear hK K
        try simp only [Act.put, List.getElem_toArray, List.getElem_cons_succ, List.getElem_cons_zero, List.setIfInBounds_toArray, List.set_cons_zero, List.set_cons_succ]
        refine H.wpAnyT_takeY (i := 9) (v := .agg #[.int .i64 n, .slice AM MM.length nM]) rfl (by decide) (by kernel_rfl) (by kernel_rfl) (by kernel_rfl) (fun _ _ _ h => h) (Or.inl ⟨by rfl, ?_⟩) hHeld ?_
        · (intro w_ hSw; clear q1 q2 q3 q4 q5 q6; go_simp; try rfl)
        try simp only [Act.put, List.getElem_toArray, List.getElem_cons_succ, List.getElem_cons_zero, List.setIfInBounds_toArray, List.set_cons_zero, List.set_cons_succ]
        refine H.wpAnyT_ready (rs := [10]) (by kernel_rfl) (by simp) ?_
        refine H.AllT.cons (i := 10) rfl (by decide) (fun K hK => ?_) H.AllT.nil
        go_simp
        have hbA : Below x4.heap.size x4 (x4.alloc (.cells #[.int .i64 0, .slice none 0 0] 27)) := below_alloc (Below.refl _ _) _
        have H55 := Aside0.mk (Kd.R_below H55.out hbA)
        have H10 := Aside0.mk (((Mem.start wd).step HBx.out).new (g := x4.heap.size) (cs := #[.int .i64 0, .slice none 0 0]) (t := 27) rfl (blk_new _ _) hbA)
        have HBx := Aside0.mk (below_step HBx.out hbA)
        clear hbA
        refine hK.out _ _ (⟨cell_later HBx.out q1, cell_later HBx.out q2, cell_later HBx.out q3, cell_later HBx.out q4, cell_later HBx.out q5, cell_later HBx.out q6⟩) (fun hHeld => ?_)
        clear hK K
        generalize x4.alloc (.cells #[.int .i64 0, .slice none 0 0] 27) = x5 at *
        generalize x4.heap.size = g10 at H10 ⊢
        try simp only [Act.put, List.getElem_toArray, List.getElem_cons_succ, List.getElem_cons_zero, List.setIfInBounds_toArray, List.set_cons_zero, List.set_cons_succ]
        refine H.wpAnyT_ready (rs := [11]) (by kernel_rfl) (by simp) ?_
        refine H.AllT.cons (i := 11) (o := { dst := none, op := Op.store 27 (Operand.tmp 10) (Operand.tmp 56), type := 0, pos := "outright.go:166", after := #[{ on := 10, ground := Ground.data }, { on := 9, ground := Ground.data }, { on := 8, ground := Ground.chain }, { on := 0, ground := Ground.phase }, { on := 1, ground := Ground.phase }, { on := 2, ground := Ground.phase }, { on := 3, ground := Ground.phase }, { on := 4, ground := Ground.phase }, { on := 5, ground := Ground.phase }, { on := 6, ground := Ground.phase }, { on := 7, ground := Ground.phase }, { on := 8, ground := Ground.phase }, { on := 9, ground := Ground.phase }, { on := 10, ground := Ground.phase }], guard := none }) rfl (by decide) (fun K hK => ?_) H.AllT.nil
        apply store_step27 (g := g10) (x := .int .i64 0) (y := .slice none 0 0) (n := (n : Int)) (A := AM) (m := MM.length) (c := nM)
        · rfl
        · rfl
        · simp [Act.eval, Act.put]
        · simp [Act.eval, Act.put]
        · exact H10.out.head
        have HBz := (H10.out.row #[.int .i64 n, .slice AM MM.length nM]).below
        refine hK.out _ _ (⟨cell_later HBz q1, cell_later HBz q2, cell_later HBz q3, cell_later HBz q4, cell_later HBz q5, cell_later HBz q6⟩) (fun hHeld => ?_)
        clear hK K hHeld HBz
        simp only [Act.put, List.getElem_toArray, List.getElem_cons_succ, List.getElem_cons_zero, List.setIfInBounds_toArray, List.set_cons_zero, List.set_cons_succ]
        refine wpAnyT_done' (by kernel_rfl) ?_
        refine NoPanic.normal ?_
        have H55c := Kd.R_mono (Kd.R_step (Kd.R_types H55.out H10.out.head (fun q hq => by rw [e35 hq]; decide)) (fun k hk _ => setRow_other _ g10 k #[.int .i64 n, .slice AM MM.length nM] hk.2)) (fun _ hk => hk.1)
        refine ⟨rfl, g10, v49, v52, v54, AM, nM, ?_, hnM, mem_add HMd.out (H10.out.row _), Kd.C_below HCd.out (H10.out.row _).below, (Kd.R_reads' H55c).2.2⟩
        (simp only [Act.put, List.setIfInBounds_toArray, List.set_cons_zero, List.set_cons_succ])
       refine H.AllT.cons (i := 10) rfl (by decide) (fun K hK => ?_) H.AllT.nil
       go_simp
       have hbA : Below x3.heap.size x3 (x3.alloc (.cells #[.int .i64 0, .slice none 0 0] 27)) := below_alloc (Below.refl _ _) _
       have H52 := Aside0.mk (Kd.R_below H52.out hbA)
       have H54 := Aside0.mk (Kd.R_below H54.out hbA)
       have H10 := Aside0.mk (((Mem.start wd).step HBx.out).new (g := x3.heap.size) (cs := #[.int .i64 0, .slice none 0 0]) (t := 27) rfl (blk_new _ _) hbA)
       have HBx := Aside0.mk (below_step HBx.out hbA)
       clear hbA
       refine hK.out _ _ (⟨cell_later HBx.out q1, cell_later HBx.out q2, cell_later HBx.out q3, cell_later HBx.out q4, cell_later HBx.out q5, cell_later HBx.out q6⟩) (fun hHeld => ?_)
       clear hK K
       generalize x3.alloc (.cells #[.int .i64 0, .slice none 0 0] 27) = x4 at *
       generalize x3.heap.size = g10 at H10 ⊢
       try simp only [Act.put, List.getElem_toArray, List.getElem_cons_succ, List.getElem_cons_zero, List.setIfInBounds_toArray, List.set_cons_zero, List.set_cons_succ]
       refine H.wpAnyT_ready (rs := [8]) (by kernel_rfl) (by simp) ?_
       refine H.AllT.cons (i := 8) rfl (by decide) (fun K hK => ?_) H.AllT.nil
       obtain ⟨A54, n54, e54, hn54, hC54⟩ := Kd.R_reads H54.out
       refine Kd.R_append_rows_step k35 (Rr := k35.K x4) (w0 := wd) wd.heap.size (by rfl) (.tmp 52) (.tmp 54) 25 35 (.agg #[.int .i64 0, .int .i64 0, .int .i64 0, .int .i64 0]) 32 rfl Try.underlying25 info35 rfl (by decide) (by omega) v52 (([] : List S35) ++ LL) ([⟨(f : Int), (t : Int), ⟨lo, hi⟩⟩] : List S35) A54 1 n54 (fun _ => True) (fun _ => False) (by simp [Act.eval, Act.put]) (by simp [Act.eval, Act.put]; exact e54) H52.out hC54 (fun x cs h => k35_KM h) (fun _ h => h.elim) (fun _ _ => trivial) HBx.out HBx.out.size (by simp only [List.nil_append]; omega) ?_
       intro v55 x5 h55 hB2 hg2 hat55
       rw [List.nil_append, ← HMM.out] at h55
       obtain ⟨AM, nM, e55, hnM, _⟩ := Kd.R_reads h55
       subst e55
       have H10 := Aside0.mk (H10.out.grownR H52.out hg2 (by simp))
       have H55 := Aside0.mk h55
       have HBx := Aside0.mk hB2
       clear h55 hB2 hg2 hat55 hC54 e54 hn54
       refine hK.out _ _ (⟨cell_later HBx.out q1, cell_later HBx.out q2, cell_later HBx.out q3, cell_later HBx.out q4, cell_later HBx.out q5, cell_later HBx.out q6⟩) (fun hHeld => ?_)
       clear hK K
       try simp only [Act.put, List.getElem_toArray, List.getElem_cons_succ, List.getElem_cons_zero, List.setIfInBounds_toArray, List.set_cons_zero, List.set_cons_succ]
       refine H.wpAnyT_takeY (i := 9) (v := .agg #[.int .i64 n, .slice AM MM.length nM]) rfl (by decide) (by kernel_rfl) (by kernel_rfl) (by kernel_rfl) (fun _ _ _ h => h) (Or.inl ⟨by rfl, ?_⟩) hHeld ?_
       · (intro w_ hSw; clear q1 q2 q3 q4 q5 q6; go_simp; try rfl)
       try simp only [Act.put, List.getElem_toArray, List.getElem_cons_succ, List.getElem_cons_zero, List.setIfInBounds_toArray, List.set_cons_zero, List.set_cons_succ]
       refine H.wpAnyT_ready (rs := [11]) (by kernel_rfl) (by simp) ?_
       refine H.AllT.cons (i := 11) (o := { dst := none, op := Op.store 27 (Operand.tmp 10) (Operand.tmp 56), type := 0, pos := "outright.go:166", after := #[{ on := 10, ground := Ground.data }, { on := 9, ground := Ground.data }, { on := 8, ground := Ground.chain }, { on := 0, ground := Ground.phase }, { on := 1, ground := Ground.phase }, { on := 2, ground := Ground.phase }, { on := 3, ground := Ground.phase }, { on := 4, ground := Ground.phase }, { on := 5, ground := Ground.phase }, { on := 6, ground := Ground.phase }, { on := 7, ground := Ground.phase }, { on := 8, ground := Ground.phase }, { on := 9, ground := Ground.phase }, { on := 10, ground := Ground.phase }], guard := none }) rfl (by decide) (fun K hK => ?_) H.AllT.nil
       apply store_step27 (g := g10) (x := .int .i64 0) (y := .slice none 0 0) (n := (n : Int)) (A := AM) (m := MM.length) (c := nM)
       · rfl
       · rfl
       · simp [Act.eval, Act.put]
       · simp [Act.eval, Act.put]
       · exact H10.out.head
       have HBz := (H10.out.row #[.int .i64 n, .slice AM MM.length nM]).below
       refine hK.out _ _ (⟨cell_later HBz q1, cell_later HBz q2, cell_later HBz q3, cell_later HBz q4, cell_later HBz q5, cell_later HBz q6⟩) (fun hHeld => ?_)
       clear hK K hHeld HBz
       simp only [Act.put, List.getElem_toArray, List.getElem_cons_succ, List.getElem_cons_zero, List.setIfInBounds_toArray, List.set_cons_zero, List.set_cons_succ]
       refine wpAnyT_done' (by kernel_rfl) ?_
       refine NoPanic.normal ?_
       have H55c := Kd.R_mono (Kd.R_step (Kd.R_types H55.out H10.out.head (fun q hq => by rw [e35 hq]; decide)) (fun k hk _ => setRow_other _ g10 k #[.int .i64 n, .slice AM MM.length nM] hk.2)) (fun _ hk => hk.1)
       refine ⟨rfl, g10, v49, v52, v54, AM, nM, ?_, hnM, mem_add HMd.out (H10.out.row _), Kd.C_below HCd.out (H10.out.row _).below, (Kd.R_reads' H55c).2.2⟩
       (simp only [Act.put, List.setIfInBounds_toArray, List.set_cons_zero, List.set_cons_succ])
      refine H.AllT.cons (i := 10) rfl (by decide) (fun K hK => ?_) H.AllT.nil
      go_simp
      have hbA : Below x2.heap.size x2 (x2.alloc (.cells #[.int .i64 0, .slice none 0 0] 27)) := below_alloc (Below.refl _ _) _
      have H52 := Aside0.mk (Kd.R_below H52.out hbA)
      have H10 := Aside0.mk (((Mem.start wd).step HBx.out).new (g := x2.heap.size) (cs := #[.int .i64 0, .slice none 0 0]) (t := 27) rfl (blk_new _ _) hbA)
      have HBx := Aside0.mk (below_step HBx.out hbA)
      clear hbA
      refine hK.out _ _ (⟨cell_later HBx.out q1, cell_later HBx.out q2, cell_later HBx.out q3, cell_later HBx.out q4, cell_later HBx.out q5, cell_later HBx.out q6⟩) (fun hHeld => ?_)
      clear hK K
      generalize x2.alloc (.cells #[.int .i64 0, .slice none 0 0] 27) = x3 at *
      generalize x2.heap.size = g10 at H10 ⊢
      try simp only [Act.put, List.getElem_toArray, List.getElem_cons_succ, List.getElem_cons_zero, List.setIfInBounds_toArray, List.set_cons_zero, List.set_cons_succ]
      refine H.wpAnyT_ready (rs := [7]) (by kernel_rfl) (by simp) ?_
      refine H.AllT.cons (i := 7) rfl (by decide) (fun K hK => ?_) H.AllT.nil
      refine Kd.R_lit_step k35 (w0 := wd) wd.heap.size 35 ?hg (N := 54) ?hd (xs := ([⟨(f : Int), (t : Int), ⟨lo, hi⟩⟩] : List S35)) (inner := [.int .i64 (f : Int), .int .i64 (t : Int), .int .i64 lo, .int .i64 hi]) (ok := fun _ => True) (okp := fun _ => False) ?hr ?hp (fun _ h => h.elim) trivial HBx.out HBx.out.size (by simp) ?_; (case hd => rfl); (case hg => rfl); (case hr => first | (go_simp; done) | (go_simp; rfl)); (case hp => exact (Reps.c4 (k35_mkM _ _ _ (⟨(f : Int), (t : Int), ⟨lo, hi⟩⟩ : S35)) (Reps.none _ _)))
      intro v54 x4 h54 hB2 hg2 hat54
      have H52 := Aside0.mk (Kd.R_below H52.out (below_of_grown hg2))
      have H10 := Aside0.mk (H10.out.step (below_of_grown hg2))
      have H54 := Aside0.mk h54
      have HBx := Aside0.mk hB2
      clear h54 hB2 hg2 hat54
      refine hK.out _ _ (⟨cell_later HBx.out q1, cell_later HBx.out q2, cell_later HBx.out q3, cell_later HBx.out q4, cell_later HBx.out q5, cell_later HBx.out q6⟩) (fun hHeld => ?_)
      clear hK K
      try simp only [Act.put, List.getElem_toArray, List.getElem_cons_succ, List.getElem_cons_zero, List.setIfInBounds_toArray, List.set_cons_zero, List.set_cons_succ]
      refine H.wpAnyT_ready (rs := [8]) (by kernel_rfl) (by simp) ?_
      refine H.AllT.cons (i := 8) rfl (by decide) (fun K hK => ?_) H.AllT.nil
      obtain ⟨A54, n54, e54, hn54, hC54⟩ := Kd.R_reads H54.out
      refine Kd.R_append_rows_step k35 (Rr := k35.K x4) (w0 := wd) wd.heap.size (by rfl) (.tmp 52) (.tmp 54) 25 35 (.agg #[.int .i64 0, .int .i64 0, .int .i64 0, .int .i64 0]) 32 rfl Try.underlying25 info35 rfl (by decide) (by omega) v52 (([] : List S35) ++ LL) ([⟨(f : Int), (t : Int), ⟨lo, hi⟩⟩] : List S35) A54 1 n54 (fun _ => True) (fun _ => False) (by simp [Act.eval, Act.put]) (by simp [Act.eval, Act.put]; exact e54) H52.out hC54 (fun x cs h => k35_KM h) (fun _ h => h.elim) (fun _ _ => trivial) HBx.out HBx.out.size (by simp only [List.nil_append]; omega) ?_
      intro v55 x5 h55 hB2 hg2 hat55
      rw [List.nil_append, ← HMM.out] at h55
      obtain ⟨AM, nM, e55, hnM, _⟩ := Kd.R_reads h55
      subst e55
      have H10 := Aside0.mk (H10.out.grownR H52.out hg2 (by simp))
      have H55 := Aside0.mk h55
      have HBx := Aside0.mk hB2
      clear h55 hB2 hg2 hat55 hC54 e54 hn54
      refine hK.out _ _ (⟨cell_later HBx.out q1, cell_later HBx.out q2, cell_later HBx.out q3, cell_later HBx.out q4, cell_later HBx.out q5, cell_later HBx.out q6⟩) (fun hHeld => ?_)
      clear hK K
      try simp only [Act.put, List.getElem_toArray, List.getElem_cons_succ, List.getElem_cons_zero, List.setIfInBounds_toArray, List.set_cons_zero, List.set_cons_succ]
      refine H.wpAnyT_takeY (i := 9) (v := .agg #[.int .i64 n, .slice AM MM.length nM]) rfl (by decide) (by kernel_rfl) (by kernel_rfl) (by kernel_rfl) (fun _ _ _ h => h) (Or.inl ⟨by rfl, ?_⟩) hHeld ?_
      · (intro w_ hSw; clear q1 q2 q3 q4 q5 q6; go_simp; try rfl)
      try simp only [Act.put, List.getElem_toArray, List.getElem_cons_succ, List.getElem_cons_zero, List.setIfInBounds_toArray, List.set_cons_zero, List.set_cons_succ]
      refine H.wpAnyT_ready (rs := [11]) (by kernel_rfl) (by simp) ?_
      refine H.AllT.cons (i := 11) (o := { dst := none, op := Op.store 27 (Operand.tmp 10) (Operand.tmp 56), type := 0, pos := "outright.go:166", after := #[{ on := 10, ground := Ground.data }, { on := 9, ground := Ground.data }, { on := 8, ground := Ground.chain }, { on := 0, ground := Ground.phase }, { on := 1, ground := Ground.phase }, { on := 2, ground := Ground.phase }, { on := 3, ground := Ground.phase }, { on := 4, ground := Ground.phase }, { on := 5, ground := Ground.phase }, { on := 6, ground := Ground.phase }, { on := 7, ground := Ground.phase }, { on := 8, ground := Ground.phase }, { on := 9, ground := Ground.phase }, { on := 10, ground := Ground.phase }], guard := none }) rfl (by decide) (fun K hK => ?_) H.AllT.nil
      apply store_step27 (g := g10) (x := .int .i64 0) (y := .slice none 0 0) (n := (n : Int)) (A := AM) (m := MM.length) (c := nM)
      · rfl
      · rfl
      · simp [Act.eval, Act.put]
      · simp [Act.eval, Act.put]
      · exact H10.out.head
      have HBz := (H10.out.row #[.int .i64 n, .slice AM MM.length nM]).below
      refine hK.out _ _ (⟨cell_later HBz q1, cell_later HBz q2, cell_later HBz q3, cell_later HBz q4, cell_later HBz q5, cell_later HBz q6⟩) (fun hHeld => ?_)
      clear hK K hHeld HBz
      simp only [Act.put, List.getElem_toArray, List.getElem_cons_succ, List.getElem_cons_zero, List.setIfInBounds_toArray, List.set_cons_zero, List.set_cons_succ]
      refine wpAnyT_done' (by kernel_rfl) ?_
      refine NoPanic.normal ?_
      have H55c := Kd.R_mono (Kd.R_step (Kd.R_types H55.out H10.out.head (fun q hq => by rw [e35 hq]; decide)) (fun k hk _ => setRow_other _ g10 k #[.int .i64 n, .slice AM MM.length nM] hk.2)) (fun _ hk => hk.1)
      refine ⟨rfl, g10, v49, v52, v54, AM, nM, ?_, hnM, mem_add HMd.out (H10.out.row _), Kd.C_below HCd.out (H10.out.row _).below, (Kd.R_reads' H55c).2.2⟩
      (simp only [Act.put, List.setIfInBounds_toArray, List.set_cons_zero, List.set_cons_succ])
     refine H.AllT.cons (i := 7) rfl (by decide) (fun K hK => ?_) ?_
     ·refine Kd.R_lit_step k35 (w0 := wd) wd.heap.size 35 ?hg (N := 54) ?hd (xs := ([⟨(f : Int), (t : Int), ⟨lo, hi⟩⟩] : List S35)) (inner := [.int .i64 (f : Int), .int .i64 (t : Int), .int .i64 lo, .int .i64 hi]) (ok := fun _ => True) (okp := fun _ => False) ?hr ?hp (fun _ h => h.elim) trivial HBx.out HBx.out.size (by simp) ?_; (case hd => rfl); (case hg => rfl); (case hr => first | (go_simp; done) | (go_simp; rfl)); (case hp => exact (Reps.c4 (k35_mkM _ _ _ (⟨(f : Int), (t : Int), ⟨lo, hi⟩⟩ : S35)) (Reps.none _ _)))
      intro v54 x2 h54 hB2 hg2 hat54
      have SEP : Aside0 (∀ k, v54.ownBlock = some k → some k ≠ v49.ownBlock) := ⟨fun k hk e => by obtain ⟨b, hb1, hb2⟩ := hat54; have h3 := ((Kd.R_bound H49.out).1 k e.symm).2.2.1; rw [hb1] at hk; have := Option.some.inj hk; omega⟩
      have H49 := Aside0.mk (Kd.R_below H49.out (below_of_grown hg2))
      have H54 := Aside0.mk h54
      have HBx := Aside0.mk hB2
      clear h54 hB2 hg2 hat54
      refine hK.out _ _ (⟨cell_later HBx.out q1, cell_later HBx.out q2, cell_later HBx.out q3, cell_later HBx.out q4, cell_later HBx.out q5, cell_later HBx.out q6⟩) (fun hHeld => ?_)
      clear hK K
      try simp only [Act.put, List.getElem_toArray, List.getElem_cons_succ, List.getElem_cons_zero, List.setIfInBounds_toArray, List.set_cons_zero, List.set_cons_succ]
      refine H.wpAnyT_ready (rs := [5, 10]) (by kernel_rfl) (by simp) ?_
      refine H.AllT.cons (i := 5) rfl (by decide) (fun K hK => ?_) ?_
      ·refine Kd.R_append_rows_step k35 (Rr := k35.K x2) (w0 := wd) wd.heap.size (by rfl) (.tmp 49) (.tmp 51) 25 35 (.agg #[.int .i64 0, .int .i64 0, .int .i64 0, .int .i64 0]) 32 rfl Try.underlying25 info35 rfl (by decide) (by omega) v49 ([] : List S35) LL AL LL.length nL (fun _ => True) (fun _ => False) (by simp [Act.eval, Act.put]) (by simp [Act.eval, Act.put]) H49.out (Kd.C_below HCd.out HBx.out) (fun x cs h => k35_KM h) (fun _ h => h.elim) (fun _ _ => trivial) HBx.out HBx.out.size (by simp only [List.length_nil]; omega) ?_
       intro v52 x3 h52 hB2 hg2 hat52
       have H54 := Aside0.mk (Kd.R_mono (Kd.R_grown (Kd.R_reok rfl H54.out SEP.out) hg2 (fun k hk => hk)) (fun _ _ => trivial))
       have H52 := Aside0.mk h52
       have HBx := Aside0.mk hB2
       clear h52 hB2 hg2 hat52
       refine hK.out _ _ (⟨cell_later HBx.out q1, cell_later HBx.out q2, cell_later HBx.out q3, cell_later HBx.out q4, cell_later HBx.out q5, cell_later HBx.out q6⟩) (fun hHeld => ?_)
       clear hK K
       try simp only [Act.put, List.getElem_toArray, List.getElem_cons_succ, List.getElem_cons_zero, List.setIfInBounds_toArray, List.set_cons_zero, List.set_cons_succ]
       refine H.wpAnyT_ready (rs := [8, 10]) (by kernel_rfl) (by simp) ?_
       refine H.AllT.cons (i := 8) rfl (by decide) (fun K hK => ?_) ?_
       ·obtain ⟨A54, n54, e54, hn54, hC54⟩ := Kd.R_reads H54.out
        refine Kd.R_append_rows_step k35 (Rr := k35.K x3) (w0 := wd) wd.heap.size (by rfl) (.tmp 52) (.tmp 54) 25 35 (.agg #[.int .i64 0, .int .i64 0, .int .i64 0, .int .i64 0]) 32 rfl Try.underlying25 info35 rfl (by decide) (by omega) v52 (([] : List S35) ++ LL) ([⟨(f : Int), (t : Int), ⟨lo, hi⟩⟩] : List S35) A54 1 n54 (fun _ => True) (fun _ => False) (by simp [Act.eval, Act.put]) (by simp [Act.eval, Act.put]; exact e54) H52.out hC54 (fun x cs h => k35_KM h) (fun _ h => h.elim) (fun _ _ => trivial) HBx.out HBx.out.size (by simp only [List.nil_append]; omega) ?_
        intro v55 x4 h55 hB2 hg2 hat55
        rw [List.nil_append, ← HMM.out] at h55
        obtain ⟨AM, nM, e55, hnM, _⟩ := Kd.R_reads h55
        subst e55
        have H55 := Aside0.mk h55
        have HBx := Aside0.mk hB2
        clear h55 hB2 hg2 hat55 hC54 e54 hn54
        refine hK.out _ _ (⟨cell_later HBx.out q1, cell_later HBx.out q2, cell_later HBx.out q3, cell_later HBx.out q4, cell_later HBx.out q5, cell_later HBx.out q6⟩) (fun hHeld => ?_)
        clear hK K
        try simp only [Act.put, List.getElem_toArray, List.getElem_cons_succ, List.getElem_cons_zero, List.setIfInBounds_toArray, List.set_cons_zero, List.set_cons_succ]
        refine H.wpAnyT_takeY (i := 9) (v := .agg #[.int .i64 n, .slice AM MM.length nM]) rfl (by decide) (by kernel_rfl) (by kernel_rfl) (by kernel_rfl) (fun _ _ _ h => h) (Or.inl ⟨by rfl, ?_⟩) hHeld ?_
        · (intro w_ hSw; clear q1 q2 q3 q4 q5 q6; go_simp; try rfl)
        try simp only [Act.put, List.getElem_toArray, List.getElem_cons_succ, List.getElem_cons_zero, List.setIfInBounds_toArray, List.set_cons_zero, List.set_cons_succ]
        refine H.wpAnyT_ready (rs := [10]) (by kernel_rfl) (by simp) ?_
        refine H.AllT.cons (i := 10) rfl (by decide) (fun K hK => ?_) H.AllT.nil
        go_simp
        have hbA : Below x4.heap.size x4 (x4.alloc (.cells #[.int .i64 0, .slice none 0 0] 27)) := below_alloc (Below.refl _ _) _
        have H55 := Aside0.mk (Kd.R_below H55.out hbA)
        have H10 := Aside0.mk (((Mem.start wd).step HBx.out).new (g := x4.heap.size) (cs := #[.int .i64 0, .slice none 0 0]) (t := 27) rfl (blk_new _ _) hbA)
        have HBx := Aside0.mk (below_step HBx.out hbA)
        clear hbA
        refine hK.out _ _ (⟨cell_later HBx.out q1, cell_later HBx.out q2, cell_later HBx.out q3, cell_later HBx.out q4, cell_later HBx.out q5, cell_later HBx.out q6⟩) (fun hHeld => ?_)
        clear hK K
        generalize x4.alloc (.cells #[.int .i64 0, .slice none 0 0] 27) = x5 at *
        generalize x4.heap.size = g10 at H10 ⊢
        try simp only [Act.put, List.getElem_toArray, List.getElem_cons_succ, List.getElem_cons_zero, List.setIfInBounds_toArray, List.set_cons_zero, List.set_cons_succ]
        refine H.wpAnyT_ready (rs := [11]) (by kernel_rfl) (by simp) ?_
        refine H.AllT.cons (i := 11) (o := { dst := none, op := Op.store 27 (Operand.tmp 10) (Operand.tmp 56), type := 0, pos := "outright.go:166", after := #[{ on := 10, ground := Ground.data }, { on := 9, ground := Ground.data }, { on := 8, ground := Ground.chain }, { on := 0, ground := Ground.phase }, { on := 1, ground := Ground.phase }, { on := 2, ground := Ground.phase }, { on := 3, ground := Ground.phase }, { on := 4, ground := Ground.phase }, { on := 5, ground := Ground.phase }, { on := 6, ground := Ground.phase }, { on := 7, ground := Ground.phase }, { on := 8, ground := Ground.phase }, { on := 9, ground := Ground.phase }, { on := 10, ground := Ground.phase }], guard := none }) rfl (by decide) (fun K hK => ?_) H.AllT.nil
        apply store_step27 (g := g10) (x := .int .i64 0) (y := .slice none 0 0) (n := (n : Int)) (A := AM) (m := MM.length) (c := nM)
        · rfl
        · rfl
        · simp [Act.eval, Act.put]
        · simp [Act.eval, Act.put]
        · exact H10.out.head
        have HBz := (H10.out.row #[.int .i64 n, .slice AM MM.length nM]).below
        refine hK.out _ _ (⟨cell_later HBz q1, cell_later HBz q2, cell_later HBz q3, cell_later HBz q4, cell_later HBz q5, cell_later HBz q6⟩) (fun hHeld => ?_)
        clear hK K hHeld HBz
        simp only [Act.put, List.getElem_toArray, List.getElem_cons_succ, List.getElem_cons_zero, List.setIfInBounds_toArray, List.set_cons_zero, List.set_cons_succ]
        refine wpAnyT_done' (by kernel_rfl) ?_
        refine NoPanic.normal ?_
        have H55c := Kd.R_mono (Kd.R_step (Kd.R_types H55.out H10.out.head (fun q hq => by rw [e35 hq]; decide)) (fun k hk _ => setRow_other _ g10 k #[.int .i64 n, .slice AM MM.length nM] hk.2)) (fun _ hk => hk.1)
        refine ⟨rfl, g10, v49, v52, v54, AM, nM, ?_, hnM, mem_add HMd.out (H10.out.row _), Kd.C_below HCd.out (H10.out.row _).below, (Kd.R_reads' H55c).2.2⟩
        (simp only [Act.put, List.setIfInBounds_toArray, List.set_cons_zero, List.set_cons_succ])
       refine H.AllT.cons (i := 10) rfl (by decide) (fun K hK => ?_) H.AllT.nil
       go_simp
       have hbA : Below x3.heap.size x3 (x3.alloc (.cells #[.int .i64 0, .slice none 0 0] 27)) := below_alloc (Below.refl _ _) _
       have H52 := Aside0.mk (Kd.R_below H52.out hbA)
       have H54 := Aside0.mk (Kd.R_below H54.out hbA)
       have H10 := Aside0.mk (((Mem.start wd).step HBx.out).new (g := x3.heap.size) (cs := #[.int .i64 0, .slice none 0 0]) (t := 27) rfl (blk_new _ _) hbA)
       have HBx := Aside0.mk (below_step HBx.out hbA)
       clear hbA
       refine hK.out _ _ (⟨cell_later HBx.out q1, cell_later HBx.out q2, cell_later HBx.out q3, cell_later HBx.out q4, cell_later HBx.out q5, cell_later HBx.out q6⟩) (fun hHeld => ?_)
       clear hK K
       generalize x3.alloc (.cells #[.int .i64 0, .slice none 0 0] 27) = x4 at *
       generalize x3.heap.size = g10 at H10 ⊢
       try simp only [Act.put, List.getElem_toArray, List.getElem_cons_succ, List.getElem_cons_zero, List.setIfInBounds_toArray, List.set_cons_zero, List.set_cons_succ]
       refine H.wpAnyT_ready (rs := [8]) (by kernel_rfl) (by simp) ?_
       refine H.AllT.cons (i := 8) rfl (by decide) (fun K hK => ?_) H.AllT.nil
       obtain ⟨A54, n54, e54, hn54, hC54⟩ := Kd.R_reads H54.out
       refine Kd.R_append_rows_step k35 (Rr := k35.K x4) (w0 := wd) wd.heap.size (by rfl) (.tmp 52) (.tmp 54) 25 35 (.agg #[.int .i64 0, .int .i64 0, .int .i64 0, .int .i64 0]) 32 rfl Try.underlying25 info35 rfl (by decide) (by omega) v52 (([] : List S35) ++ LL) ([⟨(f : Int), (t : Int), ⟨lo, hi⟩⟩] : List S35) A54 1 n54 (fun _ => True) (fun _ => False) (by simp [Act.eval, Act.put]) (by simp [Act.eval, Act.put]; exact e54) H52.out hC54 (fun x cs h => k35_KM h) (fun _ h => h.elim) (fun _ _ => trivial) HBx.out HBx.out.size (by simp only [List.nil_append]; omega) ?_
       intro v55 x5 h55 hB2 hg2 hat55
       rw [List.nil_append, ← HMM.out] at h55
       obtain ⟨AM, nM, e55, hnM, _⟩ := Kd.R_reads h55
       subst e55
       have H10 := Aside0.mk (H10.out.grownR H52.out hg2 (by simp))
       have H55 := Aside0.mk h55
       have HBx := Aside0.mk hB2
       clear h55 hB2 hg2 hat55 hC54 e54 hn54
       refine hK.out _ _ (⟨cell_later HBx.out q1, cell_later HBx.out q2, cell_later HBx.out q3, cell_later HBx.out q4, cell_later HBx.out q5, cell_later HBx.out q6⟩) (fun hHeld => ?_)
       clear hK K
       try simp only [Act.put, List.getElem_toArray, List.getElem_cons_succ, List.getElem_cons_zero, List.setIfInBounds_toArray, List.set_cons_zero, List.set_cons_succ]
       refine H.wpAnyT_takeY (i := 9) (v := .agg #[.int .i64 n, .slice AM MM.length nM]) rfl (by decide) (by kernel_rfl) (by kernel_rfl) (by kernel_rfl) (fun _ _ _ h => h) (Or.inl ⟨by rfl, ?_⟩) hHeld ?_
       · (intro w_ hSw; clear q1 q2 q3 q4 q5 q6; go_simp; try rfl)
       try simp only [Act.put, List.getElem_toArray, List.getElem_cons_succ, List.getElem_cons_zero, List.setIfInBounds_toArray, List.set_cons_zero, List.set_cons_succ]
       refine H.wpAnyT_ready (rs := [11]) (by kernel_rfl) (by simp) ?_
       refine H.AllT.cons (i := 11) (o := { dst := none, op := Op.store 27 (Operand.tmp 10) (Operand.tmp 56), type := 0, pos := "outright.go:166", after := #[{ on := 10, ground := Ground.data }, { on := 9, ground := Ground.data }, { on := 8, ground := Ground.chain }, { on := 0, ground := Ground.phase }, { on := 1, ground := Ground.phase }, { on := 2, ground := Ground.phase }, { on := 3, ground := Ground.phase }, { on := 4, ground := Ground.phase }, { on := 5, ground := Ground.phase }, { on := 6, ground := Ground.phase }, { on := 7, ground := Ground.phase }, { on := 8, ground := Ground.phase }, { on := 9, ground := Ground.phase }, { on := 10, ground := Ground.phase }], guard := none }) rfl (by decide) (fun K hK => ?_) H.AllT.nil
       apply store_step27 (g := g10) (x := .int .i64 0) (y := .slice none 0 0) (n := (n : Int)) (A := AM) (m := MM.length) (c := nM)
       · rfl
       · rfl
       · simp [Act.eval, Act.put]
       · simp [Act.eval, Act.put]
       · exact H10.out.head
       have HBz := (H10.out.row #[.int .i64 n, .slice AM MM.length nM]).below
       refine hK.out _ _ (⟨cell_later HBz q1, cell_later HBz q2, cell_later HBz q3, cell_later HBz q4, cell_later HBz q5, cell_later HBz q6⟩) (fun hHeld => ?_)
       clear hK K hHeld HBz
       simp only [Act.put, List.getElem_toArray, List.getElem_cons_succ, List.getElem_cons_zero, List.setIfInBounds_toArray, List.set_cons_zero, List.set_cons_succ]
       refine wpAnyT_done' (by kernel_rfl) ?_
       refine NoPanic.normal ?_
       have H55c := Kd.R_mono (Kd.R_step (Kd.R_types H55.out H10.out.head (fun q hq => by rw [e35 hq]; decide)) (fun k hk _ => setRow_other _ g10 k #[.int .i64 n, .slice AM MM.length nM] hk.2)) (fun _ hk => hk.1)
       refine ⟨rfl, g10, v49, v52, v54, AM, nM, ?_, hnM, mem_add HMd.out (H10.out.row _), Kd.C_below HCd.out (H10.out.row _).below, (Kd.R_reads' H55c).2.2⟩
       (simp only [Act.put, List.setIfInBounds_toArray, List.set_cons_zero, List.set_cons_succ])
      refine H.AllT.cons (i := 10) rfl (by decide) (fun K hK => ?_) H.AllT.nil
      go_simp
      have hbA : Below x2.heap.size x2 (x2.alloc (.cells #[.int .i64 0, .slice none 0 0] 27)) := below_alloc (Below.refl _ _) _
      have H49 := Aside0.mk (Kd.R_below H49.out hbA)
      have H54 := Aside0.mk (Kd.R_below H54.out hbA)
      have H10 := Aside0.mk (((Mem.start wd).step HBx.out).new (g := x2.heap.size) (cs := #[.int .i64 0, .slice none 0 0]) (t := 27) rfl (blk_new _ _) hbA)
      have HBx := Aside0.mk (below_step HBx.out hbA)
      clear hbA
      refine hK.out _ _ (⟨cell_later HBx.out q1, cell_later HBx.out q2, cell_later HBx.out q3, cell_later HBx.out q4, cell_later HBx.out q5, cell_later HBx.out q6⟩) (fun hHeld => ?_)
      clear hK K
      generalize x2.alloc (.cells #[.int .i64 0, .slice none 0 0] 27) = x3 at *
      generalize x2.heap.size = g10 at H10 ⊢
      try simp only [Act.put, List.getElem_toArray, List.getElem_cons_succ, List.getElem_cons_zero, List.setIfInBounds_toArray, List.set_cons_zero, List.set_cons_succ]
      refine H.wpAnyT_ready (rs := [5]) (by kernel_rfl) (by simp) ?_
      refine H.AllT.cons (i := 5) rfl (by decide) (fun K hK => ?_) H.AllT.nil
      refine Kd.R_append_rows_step k35 (Rr := k35.K x3) (w0 := wd) wd.heap.size (by rfl) (.tmp 49) (.tmp 51) 25 35 (.agg #[.int .i64 0, .int .i64 0, .int .i64 0, .int .i64 0]) 32 rfl Try.underlying25 info35 rfl (by decide) (by omega) v49 ([] : List S35) LL AL LL.length nL (fun _ => True) (fun _ => False) (by simp [Act.eval, Act.put]) (by simp [Act.eval, Act.put]) H49.out (Kd.C_below HCd.out HBx.out) (fun x cs h => k35_KM h) (fun _ h => h.elim) (fun _ _ => trivial) HBx.out HBx.out.size (by simp only [List.length_nil]; omega) ?_
      intro v52 x4 h52 hB2 hg2 hat52
      have H54 := Aside0.mk (Kd.R_mono (Kd.R_grown (Kd.R_reok rfl H54.out SEP.out) hg2 (fun k hk => hk)) (fun _ _ => trivial))
      have H10 := Aside0.mk (H10.out.grownR H49.out hg2 (by simp))
      have H52 := Aside0.mk h52
      have HBx := Aside0.mk hB2
      clear h52 hB2 hg2 hat52
      refine hK.out _ _ (⟨cell_later HBx.out q1, cell_later HBx.out q2, cell_later HBx.out q3, cell_later HBx.out q4, cell_later HBx.out q5, cell_later HBx.out q6⟩) (fun hHeld => ?_)
      clear hK K
      try simp only [Act.put, List.getElem_toArray, List.getElem_cons_succ, List.getElem_cons_zero, List.setIfInBounds_toArray, List.set_cons_zero, List.set_cons_succ]
      refine H.wpAnyT_ready (rs := [8]) (by kernel_rfl) (by simp) ?_
      refine H.AllT.cons (i := 8) rfl (by decide) (fun K hK => ?_) H.AllT.nil
      obtain ⟨A54, n54, e54, hn54, hC54⟩ := Kd.R_reads H54.out
      refine Kd.R_append_rows_step k35 (Rr := k35.K x4) (w0 := wd) wd.heap.size (by rfl) (.tmp 52) (.tmp 54) 25 35 (.agg #[.int .i64 0, .int .i64 0, .int .i64 0, .int .i64 0]) 32 rfl Try.underlying25 info35 rfl (by decide) (by omega) v52 (([] : List S35) ++ LL) ([⟨(f : Int), (t : Int), ⟨lo, hi⟩⟩] : List S35) A54 1 n54 (fun _ => True) (fun _ => False) (by simp [Act.eval, Act.put]) (by simp [Act.eval, Act.put]; exact e54) H52.out hC54 (fun x cs h => k35_KM h) (fun _ h => h.elim) (fun _ _ => trivial) HBx.out HBx.out.size (by simp only [List.nil_append]; omega) ?_
      intro v55 x5 h55 hB2 hg2 hat55
      rw [List.nil_append, ← HMM.out] at h55
      obtain ⟨AM, nM, e55, hnM, _⟩ := Kd.R_reads h55
      subst e55
      have H10 := Aside0.mk (H10.out.grownR H52.out hg2 (by simp))
      have H55 := Aside0.mk h55
      have HBx := Aside0.mk hB2
      clear h55 hB2 hg2 hat55 hC54 e54 hn54
      refine hK.out _ _ (⟨cell_later HBx.out q1, cell_later HBx.out q2, cell_later HBx.out q3, cell_later HBx.out q4, cell_later HBx.out q5, cell_later HBx.out q6⟩) (fun hHeld => ?_)
      clear hK K
      try simp only [Act.put, List.getElem_toArray, List.getElem_cons_succ, List.getElem_cons_zero, List.setIfInBounds_toArray, List.set_cons_zero, List.set_cons_succ]
      refine H.wpAnyT_takeY (i := 9) (v := .agg #[.int .i64 n, .slice AM MM.length nM]) rfl (by decide) (by kernel_rfl) (by kernel_rfl) (by kernel_rfl) (fun _ _ _ h => h) (Or.inl ⟨by rfl, ?_⟩) hHeld ?_
      · (intro w_ hSw; clear q1 q2 q3 q4 q5 q6; go_simp; try rfl)
      try simp only [Act.put, List.getElem_toArray, List.getElem_cons_succ, List.getElem_cons_zero, List.setIfInBounds_toArray, List.set_cons_zero, List.set_cons_succ]
      refine H.wpAnyT_ready (rs := [11]) (by kernel_rfl) (by simp) ?_
      refine H.AllT.cons (i := 11) (o := { dst := none, op := Op.store 27 (Operand.tmp 10) (Operand.tmp 56), type := 0, pos := "outright.go:166", after := #[{ on := 10, ground := Ground.data }, { on := 9, ground := Ground.data }, { on := 8, ground := Ground.chain }, { on := 0, ground := Ground.phase }, { on := 1, ground := Ground.phase }, { on := 2, ground := Ground.phase }, { on := 3, ground := Ground.phase }, { on := 4, ground := Ground.phase }, { on := 5, ground := Ground.phase }, { on := 6, ground := Ground.phase }, { on := 7, ground := Ground.phase }, { on := 8, ground := Ground.phase }, { on := 9, ground := Ground.phase }, { on := 10, ground := Ground.phase }], guard := none }) rfl (by decide) (fun K hK => ?_) H.AllT.nil
      apply store_step27 (g := g10) (x := .int .i64 0) (y := .slice none 0 0) (n := (n : Int)) (A := AM) (m := MM.length) (c := nM)
      · rfl
      · rfl
      · simp [Act.eval, Act.put]
      · simp [Act.eval, Act.put]
      · exact H10.out.head
      have HBz := (H10.out.row #[.int .i64 n, .slice AM MM.length nM]).below
      refine hK.out _ _ (⟨cell_later HBz q1, cell_later HBz q2, cell_later HBz q3, cell_later HBz q4, cell_later HBz q5, cell_later HBz q6⟩) (fun hHeld => ?_)
      clear hK K hHeld HBz
      simp only [Act.put, List.getElem_toArray, List.getElem_cons_succ, List.getElem_cons_zero, List.setIfInBounds_toArray, List.set_cons_zero, List.set_cons_succ]
      refine wpAnyT_done' (by kernel_rfl) ?_
      refine NoPanic.normal ?_
      have H55c := Kd.R_mono (Kd.R_step (Kd.R_types H55.out H10.out.head (fun q hq => by rw [e35 hq]; decide)) (fun k hk _ => setRow_other _ g10 k #[.int .i64 n, .slice AM MM.length nM] hk.2)) (fun _ hk => hk.1)
      refine ⟨rfl, g10, v49, v52, v54, AM, nM, ?_, hnM, mem_add HMd.out (H10.out.row _), Kd.C_below HCd.out (H10.out.row _).below, (Kd.R_reads' H55c).2.2⟩
      (simp only [Act.put, List.setIfInBounds_toArray, List.set_cons_zero, List.set_cons_succ])
     refine H.AllT.cons (i := 10) rfl (by decide) (fun K hK => ?_) H.AllT.nil
     go_simp
     have hbA : Below x1.heap.size x1 (x1.alloc (.cells #[.int .i64 0, .slice none 0 0] 27)) := below_alloc (Below.refl _ _) _
     have H49 := Aside0.mk (Kd.R_below H49.out hbA)
     have H10 := Aside0.mk (((Mem.start wd).step HBx.out).new (g := x1.heap.size) (cs := #[.int .i64 0, .slice none 0 0]) (t := 27) rfl (blk_new _ _) hbA)
     have HBx := Aside0.mk (below_step HBx.out hbA)
     clear hbA
     refine hK.out _ _ (⟨cell_later HBx.out q1, cell_later HBx.out q2, cell_later HBx.out q3, cell_later HBx.out q4, cell_later HBx.out q5, cell_later HBx.out q6⟩) (fun hHeld => ?_)
     clear hK K
     generalize x1.alloc (.cells #[.int .i64 0, .slice none 0 0] 27) = x2 at *
     generalize x1.heap.size = g10 at H10 ⊢
     try simp only [Act.put, List.getElem_toArray, List.getElem_cons_succ, List.getElem_cons_zero, List.setIfInBounds_toArray, List.set_cons_zero, List.set_cons_succ]
     refine H.wpAnyT_ready (rs := [5, 7]) (by kernel_rfl) (by simp) ?_
     refine H.AllT.cons (i := 5) rfl (by decide) (fun K hK => ?_) ?_
     ·refine Kd.R_append_rows_step k35 (Rr := k35.K x2) (w0 := wd) wd.heap.size (by rfl) (.tmp 49) (.tmp 51) 25 35 (.agg #[.int .i64 0, .int .i64 0, .int .i64 0, .int .i64 0]) 32 rfl Try.underlying25 info35 rfl (by decide) (by omega) v49 ([] : List S35) LL AL LL.length nL (fun _ => True) (fun _ => False) (by simp [Act.eval, Act.put]) (by simp [Act.eval, Act.put]) H49.out (Kd.C_below HCd.out HBx.out) (fun x cs h => k35_KM h) (fun _ h => h.elim) (fun _ _ => trivial) HBx.out HBx.out.size (by simp only [List.length_nil]; omega) ?_
      intro v52 x3 h52 hB2 hg2 hat52
      have H10 := Aside0.mk (H10.out.grownR H49.out hg2 (by simp))
      have H52 := Aside0.mk h52
      have HBx := Aside0.mk hB2
      clear h52 hB2 hg2 hat52
      refine hK.out _ _ (⟨cell_later HBx.out q1, cell_later HBx.out q2, cell_later HBx.out q3, cell_later HBx.out q4, cell_later HBx.out q5, cell_later HBx.out q6⟩) (fun hHeld => ?_)
      clear hK K
      try simp only [Act.put, List.getElem_toArray, List.getElem_cons_succ, List.getElem_cons_zero, List.setIfInBounds_toArray, List.set_cons_zero, List.set_cons_succ]
      refine H.wpAnyT_ready (rs := [7]) (by kernel_rfl) (by simp) ?_
      refine H.AllT.cons (i := 7) rfl (by decide) (fun K hK => ?_) H.AllT.nil
      refine Kd.R_lit_step k35 (w0 := wd) wd.heap.size 35 ?hg (N := 54) ?hd (xs := ([⟨(f : Int), (t : Int), ⟨lo, hi⟩⟩] : List S35)) (inner := [.int .i64 (f : Int), .int .i64 (t : Int), .int .i64 lo, .int .i64 hi]) (ok := fun _ => True) (okp := fun _ => False) ?hr ?hp (fun _ h => h.elim) trivial HBx.out HBx.out.size (by simp) ?_; (case hd => rfl); (case hg => rfl); (case hr => first | (go_simp; done) | (go_simp; rfl)); (case hp => exact (Reps.c4 (k35_mkM _ _ _ (⟨(f : Int), (t : Int), ⟨lo, hi⟩⟩ : S35)) (Reps.none _ _)))
      intro v54 x4 h54 hB2 hg2 hat54
      have H52 := Aside0.mk (Kd.R_below H52.out (below_of_grown hg2))
      have H10 := Aside0.mk (H10.out.step (below_of_grown hg2))
      have H54 := Aside0.mk h54
      have HBx := Aside0.mk hB2
      clear h54 hB2 hg2 hat54
      refine hK.out _ _ (⟨cell_later HBx.out q1, cell_later HBx.out q2, cell_later HBx.out q3, cell_later HBx.out q4, cell_later HBx.out q5, cell_later HBx.out q6⟩) (fun hHeld => ?_)
      clear hK K
      try simp only [Act.put, List.getElem_toArray, List.getElem_cons_succ, List.getElem_cons_zero, List.setIfInBounds_toArray, List.set_cons_zero, List.set_cons_succ]
      refine H.wpAnyT_ready (rs := [8]) (by kernel_rfl) (by simp) ?_
      refine H.AllT.cons (i := 8) rfl (by decide) (fun K hK => ?_) H.AllT.nil
      obtain ⟨A54, n54, e54, hn54, hC54⟩ := Kd.R_reads H54.out
      refine Kd.R_append_rows_step k35 (Rr := k35.K x4) (w0 := wd) wd.heap.size (by rfl) (.tmp 52) (.tmp 54) 25 35 (.agg #[.int .i64 0, .int .i64 0, .int .i64 0, .int .i64 0]) 32 rfl Try.underlying25 info35 rfl (by decide) (by omega) v52 (([] : List S35) ++ LL) ([⟨(f : Int), (t : Int), ⟨lo, hi⟩⟩] : List S35) A54 1 n54 (fun _ => True) (fun _ => False) (by simp [Act.eval, Act.put]) (by simp [Act.eval, Act.put]; exact e54) H52.out hC54 (fun x cs h => k35_KM h) (fun _ h => h.elim) (fun _ _ => trivial) HBx.out HBx.out.size (by simp only [List.nil_append]; omega) ?_
      intro v55 x5 h55 hB2 hg2 hat55
      rw [List.nil_append, ← HMM.out] at h55
      obtain ⟨AM, nM, e55, hnM, _⟩ := Kd.R_reads h55
      subst e55
      have H10 := Aside0.mk (H10.out.grownR H52.out hg2 (by simp))
      have H55 := Aside0.mk h55
      have HBx := Aside0.mk hB2
      clear h55 hB2 hg2 hat55 hC54 e54 hn54
      refine hK.out _ _ (⟨cell_later HBx.out q1, cell_later HBx.out q2, cell_later HBx.out q3, cell_later HBx.out q4, cell_later HBx.out q5, cell_later HBx.out q6⟩) (fun hHeld => ?_)
      clear hK K
      try simp only [Act.put, List.getElem_toArray, List.getElem_cons_succ, List.getElem_cons_zero, List.setIfInBounds_toArray, List.set_cons_zero, List.set_cons_succ]
      refine H.wpAnyT_takeY (i := 9) (v := .agg #[.int .i64 n, .slice AM MM.length nM]) rfl (by decide) (by kernel_rfl) (by kernel_rfl) (by kernel_rfl) (fun _ _ _ h => h) (Or.inl ⟨by rfl, ?_⟩) hHeld ?_
      · (intro w_ hSw; clear q1 q2 q3 q4 q5 q6; go_simp; try rfl)
      try simp only [Act.put, List.getElem_toArray, List.getElem_cons_succ, List.getElem_cons_zero, List.setIfInBounds_toArray, List.set_cons_zero, List.set_cons_succ]
      refine H.wpAnyT_ready (rs := [11]) (by kernel_rfl) (by simp) ?_
      refine H.AllT.cons (i := 11) (o := { dst := none, op := Op.store 27 (Operand.tmp 10) (Operand.tmp 56), type := 0, pos := "outright.go:166", after := #[{ on := 10, ground := Ground.data }, { on := 9, ground := Ground.data }, { on := 8, ground := Ground.chain }, { on := 0, ground := Ground.phase }, { on := 1, ground := Ground.phase }, { on := 2, ground := Ground.phase }, { on := 3, ground := Ground.phase }, { on := 4, ground := Ground.phase }, { on := 5, ground := Ground.phase }, { on := 6, ground := Ground.phase }, { on := 7, ground := Ground.phase }, { on := 8, ground := Ground.phase }, { on := 9, ground := Ground.phase }, { on := 10, ground := Ground.phase }], guard := none }) rfl (by decide) (fun K hK => ?_) H.AllT.nil
      apply store_step27 (g := g10) (x := .int .i64 0) (y := .slice none 0 0) (n := (n : Int)) (A := AM) (m := MM.length) (c := nM)
      · rfl
      · rfl
      · simp [Act.eval, Act.put]
      · simp [Act.eval, Act.put]
      · exact H10.out.head
      have HBz := (H10.out.row #[.int .i64 n, .slice AM MM.length nM]).below
      refine hK.out _ _ (⟨cell_later HBz q1, cell_later HBz q2, cell_later HBz q3, cell_later HBz q4, cell_later HBz q5, cell_later HBz q6⟩) (fun hHeld => ?_)
      clear hK K hHeld HBz
      simp only [Act.put, List.getElem_toArray, List.getElem_cons_succ, List.getElem_cons_zero, List.setIfInBounds_toArray, List.set_cons_zero, List.set_cons_succ]
      refine wpAnyT_done' (by kernel_rfl) ?_
      refine NoPanic.normal ?_
      have H55c := Kd.R_mono (Kd.R_step (Kd.R_types H55.out H10.out.head (fun q hq => by rw [e35 hq]; decide)) (fun k hk _ => setRow_other _ g10 k #[.int .i64 n, .slice AM MM.length nM] hk.2)) (fun _ hk => hk.1)
      refine ⟨rfl, g10, v49, v52, v54, AM, nM, ?_, hnM, mem_add HMd.out (H10.out.row _), Kd.C_below HCd.out (H10.out.row _).below, (Kd.R_reads' H55c).2.2⟩
      (simp only [Act.put, List.setIfInBounds_toArray, List.set_cons_zero, List.set_cons_succ])
     refine H.AllT.cons (i := 7) rfl (by decide) (fun K hK => ?_) H.AllT.nil
     refine Kd.R_lit_step k35 (w0 := wd) wd.heap.size 35 ?hg (N := 54) ?hd (xs := ([⟨(f : Int), (t : Int), ⟨lo, hi⟩⟩] : List S35)) (inner := [.int .i64 (f : Int), .int .i64 (t : Int), .int .i64 lo, .int .i64 hi]) (ok := fun _ => True) (okp := fun _ => False) ?hr ?hp (fun _ h => h.elim) trivial HBx.out HBx.out.size (by simp) ?_; (case hd => rfl); (case hg => rfl); (case hr => first | (go_simp; done) | (go_simp; rfl)); (case hp => exact (Reps.c4 (k35_mkM _ _ _ (⟨(f : Int), (t : Int), ⟨lo, hi⟩⟩ : S35)) (Reps.none _ _)))
     intro v54 x3 h54 hB2 hg2 hat54
     have SEP : Aside0 (∀ k, v54.ownBlock = some k → some k ≠ v49.ownBlock) := ⟨fun k hk e => by obtain ⟨b, hb1, hb2⟩ := hat54; have h3 := ((Kd.R_bound H49.out).1 k e.symm).2.2.1; rw [hb1] at hk; have := Option.some.inj hk; omega⟩
     have H49 := Aside0.mk (Kd.R_below H49.out (below_of_grown hg2))
     have H10 := Aside0.mk (H10.out.step (below_of_grown hg2))
     have H54 := Aside0.mk h54
     have HBx := Aside0.mk hB2
     clear h54 hB2 hg2 hat54
     refine hK.out _ _ (⟨cell_later HBx.out q1, cell_later HBx.out q2, cell_later HBx.out q3, cell_later HBx.out q4, cell_later HBx.out q5, cell_later HBx.out q6⟩) (fun hHeld => ?_)
     clear hK K
     try simp only [Act.put, List.getElem_toArray, List.getElem_cons_succ, List.getElem_cons_zero, List.setIfInBounds_toArray, List.set_cons_zero, List.set_cons_succ]
     refine H.wpAnyT_ready (rs := [5]) (by kernel_rfl) (by simp) ?_
     refine H.AllT.cons (i := 5) rfl (by decide) (fun K hK => ?_) H.AllT.nil
     refine Kd.R_append_rows_step k35 (Rr := k35.K x3) (w0 := wd) wd.heap.size (by rfl) (.tmp 49) (.tmp 51) 25 35 (.agg #[.int .i64 0, .int .i64 0, .int .i64 0, .int .i64 0]) 32 rfl Try.underlying25 info35 rfl (by decide) (by omega) v49 ([] : List S35) LL AL LL.length nL (fun _ => True) (fun _ => False) (by simp [Act.eval, Act.put]) (by simp [Act.eval, Act.put]) H49.out (Kd.C_below HCd.out HBx.out) (fun x cs h => k35_KM h) (fun _ h => h.elim) (fun _ _ => trivial) HBx.out HBx.out.size (by simp only [List.length_nil]; omega) ?_
     intro v52 x4 h52 hB2 hg2 hat52
     have H54 := Aside0.mk (Kd.R_mono (Kd.R_grown (Kd.R_reok rfl H54.out SEP.out) hg2 (fun k hk => hk)) (fun _ _ => trivial))
     have H10 := Aside0.mk (H10.out.grownR H49.out hg2 (by simp))
     have H52 := Aside0.mk h52
     have HBx := Aside0.mk hB2
     clear h52 hB2 hg2 hat52
     refine hK.out _ _ (⟨cell_later HBx.out q1, cell_later HBx.out q2, cell_later HBx.out q3, cell_later HBx.out q4, cell_later HBx.out q5, cell_later HBx.out q6⟩) (fun hHeld => ?_)
     clear hK K
     try simp only [Act.put, List.getElem_toArray, List.getElem_cons_succ, List.getElem_cons_zero, List.setIfInBounds_toArray, List.set_cons_zero, List.set_cons_succ]
     refine H.wpAnyT_ready (rs := [8]) (by kernel_rfl) (by simp) ?_
     refine H.AllT.cons (i := 8) rfl (by decide) (fun K hK => ?_) H.AllT.nil
     obtain ⟨A54, n54, e54, hn54, hC54⟩ := Kd.R_reads H54.out
     refine Kd.R_append_rows_step k35 (Rr := k35.K x4) (w0 := wd) wd.heap.size (by rfl) (.tmp 52) (.tmp 54) 25 35 (.agg #[.int .i64 0, .int .i64 0, .int .i64 0, .int .i64 0]) 32 rfl Try.underlying25 info35 rfl (by decide) (by omega) v52 (([] : List S35) ++ LL) ([⟨(f : Int), (t : Int), ⟨lo, hi⟩⟩] : List S35) A54 1 n54 (fun _ => True) (fun _ => False) (by simp [Act.eval, Act.put]) (by simp [Act.eval, Act.put]; exact e54) H52.out hC54 (fun x cs h => k35_KM h) (fun _ h => h.elim) (fun _ _ => trivial) HBx.out HBx.out.size (by simp only [List.nil_append]; omega) ?_
     intro v55 x5 h55 hB2 hg2 hat55
     rw [List.nil_append, ← HMM.out] at h55
     obtain ⟨AM, nM, e55, hnM, _⟩ := Kd.R_reads h55
     subst e55
     have H10 := Aside0.mk (H10.out.grownR H52.out hg2 (by simp))
     have H55 := Aside0.mk h55
     have HBx := Aside0.mk hB2
     clear h55 hB2 hg2 hat55 hC54 e54 hn54
     refine hK.out _ _ (⟨cell_later HBx.out q1, cell_later HBx.out q2, cell_later HBx.out q3, cell_later HBx.out q4, cell_later HBx.out q5, cell_later HBx.out q6⟩) (fun hHeld => ?_)
     clear hK K
     try simp only [Act.put, List.getElem_toArray, List.getElem_cons_succ, List.getElem_cons_zero, List.setIfInBounds_toArray, List.set_cons_zero, List.set_cons_succ]
     refine H.wpAnyT_takeY (i := 9) (v := .agg #[.int .i64 n, .slice AM MM.length nM]) rfl (by decide) (by kernel_rfl) (by kernel_rfl) (by kernel_rfl) (fun _ _ _ h => h) (Or.inl ⟨by rfl, ?_⟩) hHeld ?_
     · (intro w_ hSw; clear q1 q2 q3 q4 q5 q6; go_simp; try rfl)
     try simp only [Act.put, List.getElem_toArray, List.getElem_cons_succ, List.getElem_cons_zero, List.setIfInBounds_toArray, List.set_cons_zero, List.set_cons_succ]
     refine H.wpAnyT_ready (rs := [11]) (by kernel_rfl) (by simp) ?_
     refine H.AllT.cons (i := 11) (o := { dst := none, op := Op.store 27 (Operand.tmp 10) (Operand.tmp 56), type := 0, pos := "outright.go:166", after := #[{ on := 10, ground := Ground.data }, { on := 9, ground := Ground.data }, { on := 8, ground := Ground.chain }, { on := 0, ground := Ground.phase }, { on := 1, ground := Ground.phase }, { on := 2, ground := Ground.phase }, { on := 3, ground := Ground.phase }, { on := 4, ground := Ground.phase }, { on := 5, ground := Ground.phase }, { on := 6, ground := Ground.phase }, { on := 7, ground := Ground.phase }, { on := 8, ground := Ground.phase }, { on := 9, ground := Ground.phase }, { on := 10, ground := Ground.phase }], guard := none }) rfl (by decide) (fun K hK => ?_) H.AllT.nil
     apply store_step27 (g := g10) (x := .int .i64 0) (y := .slice none 0 0) (n := (n : Int)) (A := AM) (m := MM.length) (c := nM)
     · rfl
     · rfl
     · simp [Act.eval, Act.put]
     · simp [Act.eval, Act.put]
     · exact H10.out.head
     have HBz := (H10.out.row #[.int .i64 n, .slice AM MM.length nM]).below
     refine hK.out _ _ (⟨cell_later HBz q1, cell_later HBz q2, cell_later HBz q3, cell_later HBz q4, cell_later HBz q5, cell_later HBz q6⟩) (fun hHeld => ?_)
     clear hK K hHeld HBz
     simp only [Act.put, List.getElem_toArray, List.getElem_cons_succ, List.getElem_cons_zero, List.setIfInBounds_toArray, List.set_cons_zero, List.set_cons_succ]
     refine wpAnyT_done' (by kernel_rfl) ?_
     refine NoPanic.normal ?_
     have H55c := Kd.R_mono (Kd.R_step (Kd.R_types H55.out H10.out.head (fun q hq => by rw [e35 hq]; decide)) (fun k hk _ => setRow_other _ g10 k #[.int .i64 n, .slice AM MM.length nM] hk.2)) (fun _ hk => hk.1)
     refine ⟨rfl, g10, v49, v52, v54, AM, nM, ?_, hnM, mem_add HMd.out (H10.out.row _), Kd.C_below HCd.out (H10.out.row _).below, (Kd.R_reads' H55c).2.2⟩
     (simp only [Act.put, List.setIfInBounds_toArray, List.set_cons_zero, List.set_cons_succ])
    refine H.AllT.cons (i := 7) rfl (by decide) (fun K hK => ?_) ?_
    ·refine Kd.R_lit_step k35 (w0 := wd) wd.heap.size 35 ?hg (N := 54) ?hd (xs := ([⟨(f : Int), (t : Int), ⟨lo, hi⟩⟩] : List S35)) (inner := [.int .i64 (f : Int), .int .i64 (t : Int), .int .i64 lo, .int .i64 hi]) (ok := fun _ => True) (okp := fun _ => False) ?hr ?hp (fun _ h => h.elim) trivial HBx.out HBx.out.size (by simp) ?_; (case hd => rfl); (case hg => rfl); (case hr => first | (go_simp; done) | (go_simp; rfl)); (case hp => exact (Reps.c4 (k35_mkM _ _ _ (⟨(f : Int), (t : Int), ⟨lo, hi⟩⟩ : S35)) (Reps.none _ _)))
     intro v54 x1 h54 hB2 hg2 hat54
     have H54 := Aside0.mk h54
     have HBx := Aside0.mk hB2
     clear h54 hB2 hg2 hat54
     refine hK.out _ _ (⟨cell_later HBx.out q1, cell_later HBx.out q2, cell_later HBx.out q3, cell_later HBx.out q4, cell_later HBx.out q5, cell_later HBx.out q6⟩) (fun hHeld => ?_)
     clear hK K
     try simp only [Act.put, List.getElem_toArray, List.getElem_cons_succ, List.getElem_cons_zero, List.setIfInBounds_toArray, List.set_cons_zero, List.set_cons_succ]
     refine H.wpAnyT_ready (rs := [2, 10]) (by kernel_rfl) (by simp) ?_
     refine H.AllT.cons (i := 2) rfl (by decide) (fun K hK => ?_) ?_
     ·refine Kd.R_lit_step k35 (w0 := wd) wd.heap.size 35 ?hg (N := 49) ?hd (xs := ([] : List S35)) (inner := []) (ok := fun _ => True) (okp := fun _ => False) ?hr ?hp (fun _ h => h.elim) trivial HBx.out HBx.out.size (by simp) ?_; (case hd => rfl); (case hg => rfl); (case hr => first | (go_simp; done) | (go_simp; rfl)); (case hp => exact (Reps.none _ _))
      intro v49 x2 h49 hB2 hg2 hat49
      have SEP : Aside0 (∀ k, v54.ownBlock = some k → some k ≠ v49.ownBlock) := ⟨fun k hk e => by obtain ⟨b, hb1, hb2⟩ := hat49; have h3 := ((Kd.R_bound H54.out).1 k hk).2.2.1; rw [hb1] at e; have := Option.some.inj e; omega⟩
      have H54 := Aside0.mk (Kd.R_below H54.out (below_of_grown hg2))
      have H49 := Aside0.mk h49
      have HBx := Aside0.mk hB2
      clear h49 hB2 hg2 hat49
      refine hK.out _ _ (⟨cell_later HBx.out q1, cell_later HBx.out q2, cell_later HBx.out q3, cell_later HBx.out q4, cell_later HBx.out q5, cell_later HBx.out q6⟩) (fun hHeld => ?_)
      clear hK K
      try simp only [Act.put, List.getElem_toArray, List.getElem_cons_succ, List.getElem_cons_zero, List.setIfInBounds_toArray, List.set_cons_zero, List.set_cons_succ]
      refine H.wpAnyT_ready (rs := [5, 10]) (by kernel_rfl) (by simp) ?_
      refine H.AllT.cons (i := 5) rfl (by decide) (fun K hK => ?_) ?_
      ·refine Kd.R_append_rows_step k35 (Rr := k35.K x2) (w0 := wd) wd.heap.size (by rfl) (.tmp 49) (.tmp 51) 25 35 (.agg #[.int .i64 0, .int .i64 0, .int .i64 0, .int .i64 0]) 32 rfl Try.underlying25 info35 rfl (by decide) (by omega) v49 ([] : List S35) LL AL LL.length nL (fun _ => True) (fun _ => False) (by simp [Act.eval, Act.put]) (by simp [Act.eval, Act.put]) H49.out (Kd.C_below HCd.out HBx.out) (fun x cs h => k35_KM h) (fun _ h => h.elim) (fun _ _ => trivial) HBx.out HBx.out.size (by simp only [List.length_nil]; omega) ?_
       intro v52 x3 h52 hB2 hg2 hat52
       have H54 := Aside0.mk (Kd.R_mono (Kd.R_grown (Kd.R_reok rfl H54.out SEP.out) hg2 (fun k hk => hk)) (fun _ _ => trivial))
       have H52 := Aside0.mk h52
       have HBx := Aside0.mk hB2
       clear h52 hB2 hg2 hat52
       refine hK.out _ _ (⟨cell_later HBx.out q1, cell_later HBx.out q2, cell_later HBx.out q3, cell_later HBx.out q4, cell_later HBx.out q5, cell_later HBx.out q6⟩) (fun hHeld => ?_)
       clear hK K
       try simp only [Act.put, List.getElem_toArray, List.getElem_cons_succ, List.getElem_cons_zero, List.setIfInBounds_toArray, List.set_cons_zero, List.set_cons_succ]
       refine H.wpAnyT_ready (rs := [8, 10]) (by kernel_rfl) (by simp) ?_
       refine H.AllT.cons (i := 8) rfl (by decide) (fun K hK => ?_) ?_
       ·obtain ⟨A54, n54, e54, hn54, hC54⟩ := Kd.R_reads H54.out
        refine Kd.R_append_rows_step k35 (Rr := k35.K x3) (w0 := wd) wd.heap.size (by rfl) (.tmp 52) (.tmp 54) 25 35 (.agg #[.int .i64 0, .int .i64 0, .int .i64 0, .int .i64 0]) 32 rfl Try.underlying25 info35 rfl (by decide) (by omega) v52 (([] : List S35) ++ LL) ([⟨(f : Int), (t : Int), ⟨lo, hi⟩⟩] : List S35) A54 1 n54 (fun _ => True) (fun _ => False) (by simp [Act.eval, Act.put]) (by simp [Act.eval, Act.put]; exact e54) H52.out hC54 (fun x cs h => k35_KM h) (fun _ h => h.elim) (fun _ _ => trivial) HBx.out HBx.out.size (by simp only [List.nil_append]; omega) ?_
        intro v55 x4 h55 hB2 hg2 hat55
        rw [List.nil_append, ← HMM.out] at h55
        obtain ⟨AM, nM, e55, hnM, _⟩ := Kd.R_reads h55
        subst e55
        have H55 := Aside0.mk h55
        have HBx := Aside0.mk hB2
        clear h55 hB2 hg2 hat55 hC54 e54 hn54
        refine hK.out _ _ (⟨cell_later HBx.out q1, cell_later HBx.out q2, cell_later HBx.out q3, cell_later HBx.out q4, cell_later HBx.out q5, cell_later HBx.out q6⟩) (fun hHeld => ?_)
        clear hK K
        try simp only [Act.put, List.getElem_toArray, List.getElem_cons_succ, List.getElem_cons_zero, List.setIfInBounds_toArray, List.set_cons_zero, List.set_cons_succ]
        refine H.wpAnyT_takeY (i := 9) (v := .agg #[.int .i64 n, .slice AM MM.length nM]) rfl (by decide) (by kernel_rfl) (by kernel_rfl) (by kernel_rfl) (fun _ _ _ h => h) (Or.inl ⟨by rfl, ?_⟩) hHeld ?_
        · (intro w_ hSw; clear q1 q2 q3 q4 q5 q6; go_simp; try rfl)
        try simp only [Act.put, List.getElem_toArray, List.getElem_cons_succ, List.getElem_cons_zero, List.setIfInBounds_toArray, List.set_cons_zero, List.set_cons_succ]
        refine H.wpAnyT_ready (rs := [10]) (by kernel_rfl) (by simp) ?_
        refine H.AllT.cons (i := 10) rfl (by decide) (fun K hK => ?_) H.AllT.nil
        go_simp
        have hbA : Below x4.heap.size x4 (x4.alloc (.cells #[.int .i64 0, .slice none 0 0] 27)) := below_alloc (Below.refl _ _) _
        have H55 := Aside0.mk (Kd.R_below H55.out hbA)
        have H10 := Aside0.mk (((Mem.start wd).step HBx.out).new (g := x4.heap.size) (cs := #[.int .i64 0, .slice none 0 0]) (t := 27) rfl (blk_new _ _) hbA)
        have HBx := Aside0.mk (below_step HBx.out hbA)
        clear hbA
        refine hK.out _ _ (⟨cell_later HBx.out q1, cell_later HBx.out q2, cell_later HBx.out q3, cell_later HBx.out q4, cell_later HBx.out q5, cell_later HBx.out q6⟩) (fun hHeld => ?_)
        clear hK K
        generalize x4.alloc (.cells #[.int .i64 0, .slice none 0 0] 27) = x5 at *
        generalize x4.heap.size = g10 at H10 ⊢
        try simp only [Act.put, List.getElem_toArray, List.getElem_cons_succ, List.getElem_cons_zero, List.setIfInBounds_toArray, List.set_cons_zero, List.set_cons_succ]
        refine H.wpAnyT_ready (rs := [11]) (by kernel_rfl) (by simp) ?_
        refine H.AllT.cons (i := 11) (o := { dst := none, op := Op.store 27 (Operand.tmp 10) (Operand.tmp 56), type := 0, pos := "outright.go:166", after := #[{ on := 10, ground := Ground.data }, { on := 9, ground := Ground.data }, { on := 8, ground := Ground.chain }, { on := 0, ground := Ground.phase }, { on := 1, ground := Ground.phase }, { on := 2, ground := Ground.phase }, { on := 3, ground := Ground.phase }, { on := 4, ground := Ground.phase }, { on := 5, ground := Ground.phase }, { on := 6, ground := Ground.phase }, { on := 7, ground := Ground.phase }, { on := 8, ground := Ground.phase }, { on := 9, ground := Ground.phase }, { on := 10, ground := Ground.phase }], guard := none }) rfl (by decide) (fun K hK => ?_) H.AllT.nil
        apply store_step27 (g := g10) (x := .int .i64 0) (y := .slice none 0 0) (n := (n : Int)) (A := AM) (m := MM.length) (c := nM)
        · rfl
        · rfl
        · simp [Act.eval, Act.put]
        · simp [Act.eval, Act.put]
        · exact H10.out.head
        have HBz := (H10.out.row #[.int .i64 n, .slice AM MM.length nM]).below
        refine hK.out _ _ (⟨cell_later HBz q1, cell_later HBz q2, cell_later HBz q3, cell_later HBz q4, cell_later HBz q5, cell_later HBz q6⟩) (fun hHeld => ?_)
        clear hK K hHeld HBz
        simp only [Act.put, List.getElem_toArray, List.getElem_cons_succ, List.getElem_cons_zero, List.setIfInBounds_toArray, List.set_cons_zero, List.set_cons_succ]
        refine wpAnyT_done' (by kernel_rfl) ?_
        refine NoPanic.normal ?_
        have H55c := Kd.R_mono (Kd.R_step (Kd.R_types H55.out H10.out.head (fun q hq => by rw [e35 hq]; decide)) (fun k hk _ => setRow_other _ g10 k #[.int .i64 n, .slice AM MM.length nM] hk.2)) (fun _ hk => hk.1)
        refine ⟨rfl, g10, v49, v52, v54, AM, nM, ?_, hnM, mem_add HMd.out (H10.out.row _), Kd.C_below HCd.out (H10.out.row _).below, (Kd.R_reads' H55c).2.2⟩
        (simp only [Act.put, List.setIfInBounds_toArray, List.set_cons_zero, List.set_cons_succ])
       refine H.AllT.cons (i := 10) rfl (by decide) (fun K hK => ?_) H.AllT.nil
       go_simp
       have hbA : Below x3.heap.size x3 (x3.alloc (.cells #[.int .i64 0, .slice none 0 0] 27)) := below_alloc (Below.refl _ _) _
       have H52 := Aside0.mk (Kd.R_below H52.out hbA)
       have H54 := Aside0.mk (Kd.R_below H54.out hbA)
       have H10 := Aside0.mk (((Mem.start wd).step HBx.out).new (g := x3.heap.size) (cs := #[.int .i64 0, .slice none 0 0]) (t := 27) rfl (blk_new _ _) hbA)
       have HBx := Aside0.mk (below_step HBx.out hbA)
       clear hbA
       refine hK.out _ _ (⟨cell_later HBx.out q1, cell_later HBx.out q2, cell_later HBx.out q3, cell_later HBx.out q4, cell_later HBx.out q5, cell_later HBx.out q6⟩) (fun hHeld => ?_)
       clear hK K
       generalize x3.alloc (.cells #[.int .i64 0, .slice none 0 0] 27) = x4 at *
       generalize x3.heap.size = g10 at H10 ⊢
       try simp only [Act.put, List.getElem_toArray, List.getElem_cons_succ, List.getElem_cons_zero, List.setIfInBounds_toArray, List.set_cons_zero, List.set_cons_succ]
       refine H.wpAnyT_ready (rs := [8]) (by kernel_rfl) (by simp) ?_
       refine H.AllT.cons (i := 8) rfl (by decide) (fun K hK => ?_) H.AllT.nil
       obtain ⟨A54, n54, e54, hn54, hC54⟩ := Kd.R_reads H54.out
       refine Kd.R_append_rows_step k35 (Rr := k35.K x4) (w0 := wd) wd.heap.size (by rfl) (.tmp 52) (.tmp 54) 25 35 (.agg #[.int .i64 0, .int .i64 0, .int .i64 0, .int .i64 0]) 32 rfl Try.underlying25 info35 rfl (by decide) (by omega) v52 (([] : List S35) ++ LL) ([⟨(f : Int), (t : Int), ⟨lo, hi⟩⟩] : List S35) A54 1 n54 (fun _ => True) (fun _ => False) (by simp [Act.eval, Act.put]) (by simp [Act.eval, Act.put]; exact e54) H52.out hC54 (fun x cs h => k35_KM h) (fun _ h => h.elim) (fun _ _ => trivial) HBx.out HBx.out.size (by simp only [List.nil_append]; omega) ?_
       intro v55 x5 h55 hB2 hg2 hat55
       rw [List.nil_append, ← HMM.out] at h55
       obtain ⟨AM, nM, e55, hnM, _⟩ := Kd.R_reads h55
       subst e55
       have H10 := Aside0.mk (H10.out.grownR H52.out hg2 (by simp))
       have H55 := Aside0.mk h55
       have HBx := Aside0.mk hB2
       clear h55 hB2 hg2 hat55 hC54 e54 hn54
       refine hK.out _ _ (⟨cell_later HBx.out q1, cell_later HBx.out q2, cell_later HBx.out q3, cell_later HBx.out q4, cell_later HBx.out q5, cell_later HBx.out q6⟩) (fun hHeld => ?_)
       clear hK K
       try simp only [Act.put, List.getElem_toArray, List.getElem_cons_succ, List.getElem_cons_zero, List.setIfInBounds_toArray, List.set_cons_zero, List.set_cons_succ]
       refine H.wpAnyT_takeY (i := 9) (v := .agg #[.int .i64 n, .slice AM MM.length nM]) rfl (by decide) (by kernel_rfl) (by kernel_rfl) (by kernel_rfl) (fun _ _ _ h => h) (Or.inl ⟨by rfl, ?_⟩) hHeld ?_
       · (intro w_ hSw; clear q1 q2 q3 q4 q5 q6; go_simp; try rfl)
       try simp only [Act.put, List.getElem_toArray, List.getElem_cons_succ, List.getElem_cons_zero, List.setIfInBounds_toArray, List.set_cons_zero, List.set_cons_succ]
       refine H.wpAnyT_ready (rs := [11]) (by kernel_rfl) (by simp) ?_
       refine H.AllT.cons (i := 11) (o := { dst := none, op := Op.store 27 (Operand.tmp 10) (Operand.tmp 56), type := 0, pos := "outright.go:166", after := #[{ on := 10, ground := Ground.data }, { on := 9, ground := Ground.data }, { on := 8, ground := Ground.chain }, { on := 0, ground := Ground.phase }, { on := 1, ground := Ground.phase }, { on := 2, ground := Ground.phase }, { on := 3, ground := Ground.phase }, { on := 4, ground := Ground.phase }, { on := 5, ground := Ground.phase }, { on := 6, ground := Ground.phase }, { on := 7, ground := Ground.phase }, { on := 8, ground := Ground.phase }, { on := 9, ground := Ground.phase }, { on := 10, ground := Ground.phase }], guard := none }) rfl (by decide) (fun K hK => ?_) H.AllT.nil
       apply store_step27 (g := g10) (x := .int .i64 0) (y := .slice none 0 0) (n := (n : Int)) (A := AM) (m := MM.length) (c := nM)
       · rfl
       · rfl
       · simp [Act.eval, Act.put]
       · simp [Act.eval, Act.put]
       · exact H10.out.head
       have HBz := (H10.out.row #[.int .i64 n, .slice AM MM.length nM]).below
       refine hK.out _ _ (⟨cell_later HBz q1, cell_later HBz q2, cell_later HBz q3, cell_later HBz q4, cell_later HBz q5, cell_later HBz q6⟩) (fun hHeld => ?_)
       clear hK K hHeld HBz
       simp only [Act.put, List.getElem_toArray, List.getElem_cons_succ, List.getElem_cons_zero, List.setIfInBounds_toArray, List.set_cons_zero, List.set_cons_succ]
       refine wpAnyT_done' (by kernel_rfl) ?_
       refine NoPanic.normal ?_
       have H55c := Kd.R_mono (Kd.R_step (Kd.R_types H55.out H10.out.head (fun q hq => by rw [e35 hq]; decide)) (fun k hk _ => setRow_other _ g10 k #[.int .i64 n, .slice AM MM.length nM] hk.2)) (fun _ hk => hk.1)
       refine ⟨rfl, g10, v49, v52, v54, AM, nM, ?_, hnM, mem_add HMd.out (H10.out.row _), Kd.C_below HCd.out (H10.out.row _).below, (Kd.R_reads' H55c).2.2⟩
       (simp only [Act.put, List.setIfInBounds_toArray, List.set_cons_zero, List.set_cons_succ])
      refine H.AllT.cons (i := 10) rfl (by decide) (fun K hK => ?_) H.AllT.nil
      go_simp
      have hbA : Below x2.heap.size x2 (x2.alloc (.cells #[.int .i64 0, .slice none 0 0] 27)) := below_alloc (Below.refl _ _) _
      have H49 := Aside0.mk (Kd.R_below H49.out hbA)
      have H54 := Aside0.mk (Kd.R_below H54.out hbA)
      have H10 := Aside0.mk (((Mem.start wd).step HBx.out).new (g := x2.heap.size) (cs := #[.int .i64 0, .slice none 0 0]) (t := 27) rfl (blk_new _ _) hbA)
      have HBx := Aside0.mk (below_step HBx.out hbA)
      clear hbA
      refine hK.out _ _ (⟨cell_later HBx.out q1, cell_later HBx.out q2, cell_later HBx.out q3, cell_later HBx.out q4, cell_later HBx.out q5, cell_later HBx.out q6⟩) (fun hHeld => ?_)
      clear hK K
      generalize x2.alloc (.cells #[.int .i64 0, .slice none 0 0] 27) = x3 at *
      generalize x2.heap.size = g10 at H10 ⊢
      try simp only [Act.put, List.getElem_toArray, List.getElem_cons_succ, List.getElem_cons_zero, List.setIfInBounds_toArray, List.set_cons_zero, List.set_cons_succ]
      refine H.wpAnyT_ready (rs := [5]) (by kernel_rfl) (by simp) ?_
      refine H.AllT.cons (i := 5) rfl (by decide) (fun K hK => ?_) H.AllT.nil
      refine Kd.R_append_rows_step k35 (Rr := k35.K x3) (w0 := wd) wd.heap.size (by rfl) (.tmp 49) (.tmp 51) 25 35 (.agg #[.int .i64 0, .int .i64 0, .int .i64 0, .int .i64 0]) 32 rfl Try.underlying25 info35 rfl (by decide) (by omega) v49 ([] : List S35) LL AL LL.length nL (fun _ => True) (fun _ => False) (by simp [Act.eval, Act.put]) (by simp [Act.eval, Act.put]) H49.out (Kd.C_below HCd.out HBx.out) (fun x cs h => k35_KM h) (fun _ h => h.elim) (fun _ _ => trivial) HBx.out HBx.out.size (by simp only [List.length_nil]; omega) ?_
      intro v52 x4 h52 hB2 hg2 hat52
      have H54 := Aside0.mk (Kd.R_mono (Kd.R_grown (Kd.R_reok rfl H54.out SEP.out) hg2 (fun k hk => hk)) (fun _ _ => trivial))
      have H10 := Aside0.mk (H10.out.grownR H49.out hg2 (by simp))
      have H52 := Aside0.mk h52
      have HBx := Aside0.mk hB2
      clear h52 hB2 hg2 hat52
      refine hK.out _ _ (⟨cell_later HBx.out q1, cell_later HBx.out q2, cell_later HBx.out q3, cell_later HBx.out q4, cell_later HBx.out q5, cell_later HBx.out q6⟩) (fun hHeld => ?_)
      clear hK K
      try simp only [Act.put, List.getElem_toArray, List.getElem_cons_succ, List.getElem_cons_zero, List.setIfInBounds_toArray, List.set_cons_zero, List.set_cons_succ]
      refine H.wpAnyT_ready (rs := [8]) (by kernel_rfl) (by simp) ?_
      refine H.AllT.cons (i := 8) rfl (by decide) (fun K hK => ?_) H.AllT.nil
      obtain ⟨A54, n54, e54, hn54, hC54⟩ := Kd.R_reads H54.out
      refine Kd.R_append_rows_step k35 (Rr := k35.K x4) (w0 := wd) wd.heap.size (by rfl) (.tmp 52) (.tmp 54) 25 35 (.agg #[.int .i64 0, .int .i64 0, .int .i64 0, .int .i64 0]) 32 rfl Try.underlying25 info35 rfl (by decide) (by omega) v52 (([] : List S35) ++ LL) ([⟨(f : Int), (t : Int), ⟨lo, hi⟩⟩] : List S35) A54 1 n54 (fun _ => True) (fun _ => False) (by simp [Act.eval, Act.put]) (by simp [Act.eval, Act.put]; exact e54) H52.out hC54 (fun x cs h => k35_KM h) (fun _ h => h.elim) (fun _ _ => trivial) HBx.out HBx.out.size (by simp only [List.nil_append]; omega) ?_
      intro v55 x5 h55 hB2 hg2 hat55
      rw [List.nil_append, ← HMM.out] at h55
      obtain ⟨AM, nM, e55, hnM, _⟩ := Kd.R_reads h55
      subst e55
      have H10 := Aside0.mk (H10.out.grownR H52.out hg2 (by simp))
      have H55 := Aside0.mk h55
      have HBx := Aside0.mk hB2
      clear h55 hB2 hg2 hat55 hC54 e54 hn54
      refine hK.out _ _ (⟨cell_later HBx.out q1, cell_later HBx.out q2, cell_later HBx.out q3, cell_later HBx.out q4, cell_later HBx.out q5, cell_later HBx.out q6⟩) (fun hHeld => ?_)
      clear hK K
      try simp only [Act.put, List.getElem_toArray, List.getElem_cons_succ, List.getElem_cons_zero, List.setIfInBounds_toArray, List.set_cons_zero, List.set_cons_succ]
      refine H.wpAnyT_takeY (i := 9) (v := .agg #[.int .i64 n, .slice AM MM.length nM]) rfl (by decide) (by kernel_rfl) (by kernel_rfl) (by kernel_rfl) (fun _ _ _ h => h) (Or.inl ⟨by rfl, ?_⟩) hHeld ?_
      · (intro w_ hSw; clear q1 q2 q3 q4 q5 q6; go_simp; try rfl)
      try simp only [Act.put, List.getElem_toArray, List.getElem_cons_succ, List.getElem_cons_zero, List.setIfInBounds_toArray, List.set_cons_zero, List.set_cons_succ]
      refine H.wpAnyT_ready (rs := [11]) (by kernel_rfl) (by simp) ?_
      refine H.AllT.cons (i := 11) (o := { dst := none, op := Op.store 27 (Operand.tmp 10) (Operand.tmp 56), type := 0, pos := "outright.go:166", after := #[{ on := 10, ground := Ground.data }, { on := 9, ground := Ground.data }, { on := 8, ground := Ground.chain }, { on := 0, ground := Ground.phase }, { on := 1, ground := Ground.phase }, { on := 2, ground := Ground.phase }, { on := 3, ground := Ground.phase }, { on := 4, ground := Ground.phase }, { on := 5, ground := Ground.phase }, { on := 6, ground := Ground.phase }, { on := 7, ground := Ground.phase }, { on := 8, ground := Ground.phase }, { on := 9, ground := Ground.phase }, { on := 10, ground := Ground.phase }], guard := none }) rfl (by decide) (fun K hK => ?_) H.AllT.nil
      apply store_step27 (g := g10) (x := .int .i64 0) (y := .slice none 0 0) (n := (n : Int)) (A := AM) (m := MM.length) (c := nM)
      · rfl
      · rfl
      · simp [Act.eval, Act.put]
      · simp [Act.eval, Act.put]
      · exact H10.out.head
      have HBz := (H10.out.row #[.int .i64 n, .slice AM MM.length nM]).below
      refine hK.out _ _ (⟨cell_later HBz q1, cell_later HBz q2, cell_later HBz q3, cell_later HBz q4, cell_later HBz q5, cell_later HBz q6⟩) (fun hHeld => ?_)
      clear hK K hHeld HBz
      simp only [Act.put, List.getElem_toArray, List.getElem_cons_succ, List.getElem_cons_zero, List.setIfInBounds_toArray, List.set_cons_zero, List.set_cons_succ]
      refine wpAnyT_done' (by kernel_rfl) ?_
      refine NoPanic.normal ?_
      have H55c := Kd.R_mono (Kd.R_step (Kd.R_types H55.out H10.out.head (fun q hq => by rw [e35 hq]; decide)) (fun k hk _ => setRow_other _ g10 k #[.int .i64 n, .slice AM MM.length nM] hk.2)) (fun _ hk => hk.1)
      refine ⟨rfl, g10, v49, v52, v54, AM, nM, ?_, hnM, mem_add HMd.out (H10.out.row _), Kd.C_below HCd.out (H10.out.row _).below, (Kd.R_reads' H55c).2.2⟩
      (simp only [Act.put, List.setIfInBounds_toArray, List.set_cons_zero, List.set_cons_succ])
     refine H.AllT.cons (i := 10) rfl (by decide) (fun K hK => ?_) H.AllT.nil
     go_simp
     have hbA : Below x1.heap.size x1 (x1.alloc (.cells #[.int .i64 0, .slice none 0 0] 27)) := below_alloc (Below.refl _ _) _
     have H54 := Aside0.mk (Kd.R_below H54.out hbA)
     have H10 := Aside0.mk (((Mem.start wd).step HBx.out).new (g := x1.heap.size) (cs := #[.int .i64 0, .slice none 0 0]) (t := 27) rfl (blk_new _ _) hbA)
     have HBx := Aside0.mk (below_step HBx.out hbA)
     clear hbA
     refine hK.out _ _ (⟨cell_later HBx.out q1, cell_later HBx.out q2, cell_later HBx.out q3, cell_later HBx.out q4, cell_later HBx.out q5, cell_later HBx.out q6⟩) (fun hHeld => ?_)
     clear hK K
     generalize x1.alloc (.cells #[.int .i64 0, .slice none 0 0] 27) = x2 at *
     generalize x1.heap.size = g10 at H10 ⊢
     try simp only [Act.put, List.getElem_toArray, List.getElem_cons_succ, List.getElem_cons_zero, List.setIfInBounds_toArray, List.set_cons_zero, List.set_cons_succ]
     refine H.wpAnyT_ready (rs := [2]) (by kernel_rfl) (by simp) ?_
     refine H.AllT.cons (i := 2) rfl (by decide) (fun K hK => ?_) H.AllT.nil
     refine Kd.R_lit_step k35 (w0 := wd) wd.heap.size 35 ?hg (N := 49) ?hd (xs := ([] : List S35)) (inner := []) (ok := fun _ => True) (okp := fun _ => False) ?hr ?hp (fun _ h => h.elim) trivial HBx.out HBx.out.size (by simp) ?_; (case hd => rfl); (case hg => rfl); (case hr => first | (go_simp; done) | (go_simp; rfl)); (case hp => exact (Reps.none _ _))
     intro v49 x3 h49 hB2 hg2 hat49
     have SEP : Aside0 (∀ k, v54.ownBlock = some k → some k ≠ v49.ownBlock) := ⟨fun k hk e => by obtain ⟨b, hb1, hb2⟩ := hat49; have h3 := ((Kd.R_bound H54.out).1 k hk).2.2.1; rw [hb1] at e; have := Option.some.inj e; omega⟩
     have H54 := Aside0.mk (Kd.R_below H54.out (below_of_grown hg2))
     have H10 := Aside0.mk (H10.out.step (below_of_grown hg2))
     have H49 := Aside0.mk h49
     have HBx := Aside0.mk hB2
     clear h49 hB2 hg2 hat49
     refine hK.out _ _ (⟨cell_later HBx.out q1, cell_later HBx.out q2, cell_later HBx.out q3, cell_later HBx.out q4, cell_later HBx.out q5, cell_later HBx.out q6⟩) (fun hHeld => ?_)
     clear hK K
     try simp only [Act.put, List.getElem_toArray, List.getElem_cons_succ, List.getElem_cons_zero, List.setIfInBounds_toArray, List.set_cons_zero, List.set_cons_succ]
     refine H.wpAnyT_ready (rs := [5]) (by kernel_rfl) (by simp) ?_
     refine H.AllT.cons (i := 5) rfl (by decide) (fun K hK => ?_) H.AllT.nil
     refine Kd.R_append_rows_step k35 (Rr := k35.K x3) (w0 := wd) wd.heap.size (by rfl) (.tmp 49) (.tmp 51) 25 35 (.agg #[.int .i64 0, .int .i64 0, .int .i64 0, .int .i64 0]) 32 rfl Try.underlying25 info35 rfl (by decide) (by omega) v49 ([] : List S35) LL AL LL.length nL (fun _ => True) (fun _ => False) (by simp [Act.eval, Act.put]) (by simp [Act.eval, Act.put]) H49.out (Kd.C_below HCd.out HBx.out) (fun x cs h => k35_KM h) (fun _ h => h.elim) (fun _ _ => trivial) HBx.out HBx.out.size (by simp only [List.length_nil]; omega) ?_
     intro v52 x4 h52 hB2 hg2 hat52
     have H54 := Aside0.mk (Kd.R_mono (Kd.R_grown (Kd.R_reok rfl H54.out SEP.out) hg2 (fun k hk => hk)) (fun _ _ => trivial))
     have H10 := Aside0.mk (H10.out.grownR H49.out hg2 (by simp))
     have H52 := Aside0.mk h52
     have HBx := Aside0.mk hB2
     clear h52 hB2 hg2 hat52
     refine hK.out _ _ (⟨cell_later HBx.out q1, cell_later HBx.out q2, cell_later HBx.out q3, cell_later HBx.out q4, cell_later HBx.out q5, cell_later HBx.out q6⟩) (fun hHeld => ?_)
     clear hK K
     try simp only [Act.put, List.getElem_toArray, List.getElem_cons_succ, List.getElem_cons_zero, List.setIfInBounds_toArray, List.set_cons_zero, List.set_cons_succ]
     refine H.wpAnyT_ready (rs := [8]) (by kernel_rfl) (by simp) ?_
     refine H.AllT.cons (i := 8) rfl (by decide) (fun K hK => ?_) H.AllT.nil
     obtain ⟨A54, n54, e54, hn54, hC54⟩ := Kd.R_reads H54.out
     refine Kd.R_append_rows_step k35 (Rr := k35.K x4) (w0 := wd) wd.heap.size (by rfl) (.tmp 52) (.tmp 54) 25 35 (.agg #[.int .i64 0, .int .i64 0, .int .i64 0, .int .i64 0]) 32 rfl Try.underlying25 info35 rfl (by decide) (by omega) v52 (([] : List S35) ++ LL) ([⟨(f : Int), (t : Int), ⟨lo, hi⟩⟩] : List S35) A54 1 n54 (fun _ => True) (fun _ => False) (by simp [Act.eval, Act.put]) (by simp [Act.eval, Act.put]; exact e54) H52.out hC54 (fun x cs h => k35_KM h) (fun _ h => h.elim) (fun _ _ => trivial) HBx.out HBx.out.size (by simp only [List.nil_append]; omega) ?_
     intro v55 x5 h55 hB2 hg2 hat55
     rw [List.nil_append, ← HMM.out] at h55
     obtain ⟨AM, nM, e55, hnM, _⟩ := Kd.R_reads h55
     subst e55
     have H10 := Aside0.mk (H10.out.grownR H52.out hg2 (by simp))
     have H55 := Aside0.mk h55
     have HBx := Aside0.mk hB2
     clear h55 hB2 hg2 hat55 hC54 e54 hn54
     refine hK.out _ _ (⟨cell_later HBx.out q1, cell_later HBx.out q2, cell_later HBx.out q3, cell_later HBx.out q4, cell_later HBx.out q5, cell_later HBx.out q6⟩) (fun hHeld => ?_)
     clear hK K
     try simp only [Act.put, List.getElem_toArray, List.getElem_cons_succ, List.getElem_cons_zero, List.setIfInBounds_toArray, List.set_cons_zero, List.set_cons_succ]
     refine H.wpAnyT_takeY (i := 9) (v := .agg #[.int .i64 n, .slice AM MM.length nM]) rfl (by decide) (by kernel_rfl) (by kernel_rfl) (by kernel_rfl) (fun _ _ _ h => h) (Or.inl ⟨by rfl, ?_⟩) hHeld ?_
     · (intro w_ hSw; clear q1 q2 q3 q4 q5 q6; go_simp; try rfl)
     try simp only [Act.put, List.getElem_toArray, List.getElem_cons_succ, List.getElem_cons_zero, List.setIfInBounds_toArray, List.set_cons_zero, List.set_cons_succ]
     refine H.wpAnyT_ready (rs := [11]) (by kernel_rfl) (by simp) ?_
     refine H.AllT.cons (i := 11) (o := { dst := none, op := Op.store 27 (Operand.tmp 10) (Operand.tmp 56), type := 0, pos := "outright.go:166", after := #[{ on := 10, ground := Ground.data }, { on := 9, ground := Ground.data }, { on := 8, ground := Ground.chain }, { on := 0, ground := Ground.phase }, { on := 1, ground := Ground.phase }, { on := 2, ground := Ground.phase }, { on := 3, ground := Ground.phase }, { on := 4, ground := Ground.phase }, { on := 5, ground := Ground.phase }, { on := 6, ground := Ground.phase }, { on := 7, ground := Ground.phase }, { on := 8, ground := Ground.phase }, { on := 9, ground := Ground.phase }, { on := 10, ground := Ground.phase }], guard := none }) rfl (by decide) (fun K hK => ?_) H.AllT.nil
     apply store_step27 (g := g10) (x := .int .i64 0) (y := .slice none 0 0) (n := (n : Int)) (A := AM) (m := MM.length) (c := nM)
     · rfl
     · rfl
     · simp [Act.eval, Act.put]
     · simp [Act.eval, Act.put]
     · exact H10.out.head
     have HBz := (H10.out.row #[.int .i64 n, .slice AM MM.length nM]).below
     refine hK.out _ _ (⟨cell_later HBz q1, cell_later HBz q2, cell_later HBz q3, cell_later HBz q4, cell_later HBz q5, cell_later HBz q6⟩) (fun hHeld => ?_)
     clear hK K hHeld HBz
     simp only [Act.put, List.getElem_toArray, List.getElem_cons_succ, List.getElem_cons_zero, List.setIfInBounds_toArray, List.set_cons_zero, List.set_cons_succ]
     refine wpAnyT_done' (by kernel_rfl) ?_
     refine NoPanic.normal ?_
     have H55c := Kd.R_mono (Kd.R_step (Kd.R_types H55.out H10.out.head (fun q hq => by rw [e35 hq]; decide)) (fun k hk _ => setRow_other _ g10 k #[.int .i64 n, .slice AM MM.length nM] hk.2)) (fun _ hk => hk.1)
     refine ⟨rfl, g10, v49, v52, v54, AM, nM, ?_, hnM, mem_add HMd.out (H10.out.row _), Kd.C_below HCd.out (H10.out.row _).below, (Kd.R_reads' H55c).2.2⟩
     (simp only [Act.put, List.setIfInBounds_toArray, List.set_cons_zero, List.set_cons_succ])
    refine H.AllT.cons (i := 10) rfl (by decide) (fun K hK => ?_) H.AllT.nil
    go_simp
    have hbA : Below wd.heap.size wd (wd.alloc (.cells #[.int .i64 0, .slice none 0 0] 27)) := below_alloc (Below.refl _ _) _
    have H10 := Aside0.mk (((Mem.start wd).step HBx.out).new (g := wd.heap.size) (cs := #[.int .i64 0, .slice none 0 0]) (t := 27) rfl (blk_new _ _) hbA)
    have HBx := Aside0.mk (below_step HBx.out hbA)
    clear hbA
    refine hK.out _ _ (⟨cell_later HBx.out q1, cell_later HBx.out q2, cell_later HBx.out q3, cell_later HBx.out q4, cell_later HBx.out q5, cell_later HBx.out q6⟩) (fun hHeld => ?_)
    clear hK K
    generalize wd.alloc (.cells #[.int .i64 0, .slice none 0 0] 27) = x1 at *
    generalize wd.heap.size = g10 at H10 ⊢
    try simp only [Act.put, List.getElem_toArray, List.getElem_cons_succ, List.getElem_cons_zero, List.setIfInBounds_toArray, List.set_cons_zero, List.set_cons_succ]
    refine H.wpAnyT_ready (rs := [2, 7]) (by kernel_rfl) (by simp) ?_
    refine H.AllT.cons (i := 2) rfl (by decide) (fun K hK => ?_) ?_
    ·refine Kd.R_lit_step k35 (w0 := wd) wd.heap.size 35 ?hg (N := 49) ?hd (xs := ([] : List S35)) (inner := []) (ok := fun _ => True) (okp := fun _ => False) ?hr ?hp (fun _ h => h.elim) trivial HBx.out HBx.out.size (by simp) ?_; (case hd => rfl); (case hg => rfl); (case hr => first | (go_simp; done) | (go_simp; rfl)); (case hp => exact (Reps.none _ _))
     intro v49 x2 h49 hB2 hg2 hat49
     have H10 := Aside0.mk (H10.out.step (below_of_grown hg2))
     have H49 := Aside0.mk h49
     have HBx := Aside0.mk hB2
     clear h49 hB2 hg2 hat49
     refine hK.out _ _ (⟨cell_later HBx.out q1, cell_later HBx.out q2, cell_later HBx.out q3, cell_later HBx.out q4, cell_later HBx.out q5, cell_later HBx.out q6⟩) (fun hHeld => ?_)
     clear hK K
     try simp only [Act.put, List.getElem_toArray, List.getElem_cons_succ, List.getElem_cons_zero, List.setIfInBounds_toArray, List.set_cons_zero, List.set_cons_succ]
     refine H.wpAnyT_ready (rs := [5, 7]) (by kernel_rfl) (by simp) ?_
     refine H.AllT.cons (i := 5) rfl (by decide) (fun K hK => ?_) ?_
     ·refine Kd.R_append_rows_step k35 (Rr := k35.K x2) (w0 := wd) wd.heap.size (by rfl) (.tmp 49) (.tmp 51) 25 35 (.agg #[.int .i64 0, .int .i64 0, .int .i64 0, .int .i64 0]) 32 rfl Try.underlying25 info35 rfl (by decide) (by omega) v49 ([] : List S35) LL AL LL.length nL (fun _ => True) (fun _ => False) (by simp [Act.eval, Act.put]) (by simp [Act.eval, Act.put]) H49.out (Kd.C_below HCd.out HBx.out) (fun x cs h => k35_KM h) (fun _ h => h.elim) (fun _ _ => trivial) HBx.out HBx.out.size (by simp only [List.length_nil]; omega) ?_
      intro v52 x3 h52 hB2 hg2 hat52
      have H10 := Aside0.mk (H10.out.grownR H49.out hg2 (by simp))
      have H52 := Aside0.mk h52
      have HBx := Aside0.mk hB2
      clear h52 hB2 hg2 hat52
      refine hK.out _ _ (⟨cell_later HBx.out q1, cell_later HBx.out q2, cell_later HBx.out q3, cell_later HBx.out q4, cell_later HBx.out q5, cell_later HBx.out q6⟩) (fun hHeld => ?_)
      clear hK K
      try simp only [Act.put, List.getElem_toArray, List.getElem_cons_succ, List.getElem_cons_zero, List.setIfInBounds_toArray, List.set_cons_zero, List.set_cons_succ]
      refine H.wpAnyT_ready (rs := [7]) (by kernel_rfl) (by simp) ?_
      refine H.AllT.cons (i := 7) rfl (by decide) (fun K hK => ?_) H.AllT.nil
      refine Kd.R_lit_step k35 (w0 := wd) wd.heap.size 35 ?hg (N := 54) ?hd (xs := ([⟨(f : Int), (t : Int), ⟨lo, hi⟩⟩] : List S35)) (inner := [.int .i64 (f : Int), .int .i64 (t : Int), .int .i64 lo, .int .i64 hi]) (ok := fun _ => True) (okp := fun _ => False) ?hr ?hp (fun _ h => h.elim) trivial HBx.out HBx.out.size (by simp) ?_; (case hd => rfl); (case hg => rfl); (case hr => first | (go_simp; done) | (go_simp; rfl)); (case hp => exact (Reps.c4 (k35_mkM _ _ _ (⟨(f : Int), (t : Int), ⟨lo, hi⟩⟩ : S35)) (Reps.none _ _)))
      intro v54 x4 h54 hB2 hg2 hat54
      have H52 := Aside0.mk (Kd.R_below H52.out (below_of_grown hg2))
      have H10 := Aside0.mk (H10.out.step (below_of_grown hg2))
      have H54 := Aside0.mk h54
      have HBx := Aside0.mk hB2
      clear h54 hB2 hg2 hat54
      refine hK.out _ _ (⟨cell_later HBx.out q1, cell_later HBx.out q2, cell_later HBx.out q3, cell_later HBx.out q4, cell_later HBx.out q5, cell_later HBx.out q6⟩) (fun hHeld => ?_)
      clear hK K
      try simp only [Act.put, List.getElem_toArray, List.getElem_cons_succ, List.getElem_cons_zero, List.setIfInBounds_toArray, List.set_cons_zero, List.set_cons_succ]
      refine H.wpAnyT_ready (rs := [8]) (by kernel_rfl) (by simp) ?_
      refine H.AllT.cons (i := 8) rfl (by decide) (fun K hK => ?_) H.AllT.nil
      obtain ⟨A54, n54, e54, hn54, hC54⟩ := Kd.R_reads H54.out
      refine Kd.R_append_rows_step k35 (Rr := k35.K x4) (w0 := wd) wd.heap.size (by rfl) (.tmp 52) (.tmp 54) 25 35 (.agg #[.int .i64 0, .int .i64 0, .int .i64 0, .int .i64 0]) 32 rfl Try.underlying25 info35 rfl (by decide) (by omega) v52 (([] : List S35) ++ LL) ([⟨(f : Int), (t : Int), ⟨lo, hi⟩⟩] : List S35) A54 1 n54 (fun _ => True) (fun _ => False) (by simp [Act.eval, Act.put]) (by simp [Act.eval, Act.put]; exact e54) H52.out hC54 (fun x cs h => k35_KM h) (fun _ h => h.elim) (fun _ _ => trivial) HBx.out HBx.out.size (by simp only [List.nil_append]; omega) ?_
      intro v55 x5 h55 hB2 hg2 hat55
      rw [List.nil_append, ← HMM.out] at h55
      obtain ⟨AM, nM, e55, hnM, _⟩ := Kd.R_reads h55
      subst e55
      have H10 := Aside0.mk (H10.out.grownR H52.out hg2 (by simp))
      have H55 := Aside0.mk h55
      have HBx := Aside0.mk hB2
      clear h55 hB2 hg2 hat55 hC54 e54 hn54
      refine hK.out _ _ (⟨cell_later HBx.out q1, cell_later HBx.out q2, cell_later HBx.out q3, cell_later HBx.out q4, cell_later HBx.out q5, cell_later HBx.out q6⟩) (fun hHeld => ?_)
      clear hK K
      try simp only [Act.put, List.getElem_toArray, List.getElem_cons_succ, List.getElem_cons_zero, List.setIfInBounds_toArray, List.set_cons_zero, List.set_cons_succ]
      refine H.wpAnyT_takeY (i := 9) (v := .agg #[.int .i64 n, .slice AM MM.length nM]) rfl (by decide) (by kernel_rfl) (by kernel_rfl) (by kernel_rfl) (fun _ _ _ h => h) (Or.inl ⟨by rfl, ?_⟩) hHeld ?_
      · (intro w_ hSw; clear q1 q2 q3 q4 q5 q6; go_simp; try rfl)
      try simp only [Act.put, List.getElem_toArray, List.getElem_cons_succ, List.getElem_cons_zero, List.setIfInBounds_toArray, List.set_cons_zero, List.set_cons_succ]
      refine H.wpAnyT_ready (rs := [11]) (by kernel_rfl) (by simp) ?_
      refine H.AllT.cons (i := 11) (o := { dst := none, op := Op.store 27 (Operand.tmp 10) (Operand.tmp 56), type := 0, pos := "outright.go:166", after := #[{ on := 10, ground := Ground.data }, { on := 9, ground := Ground.data }, { on := 8, ground := Ground.chain }, { on := 0, ground := Ground.phase }, { on := 1, ground := Ground.phase }, { on := 2, ground := Ground.phase }, { on := 3, ground := Ground.phase }, { on := 4, ground := Ground.phase }, { on := 5, ground := Ground.phase }, { on := 6, ground := Ground.phase }, { on := 7, ground := Ground.phase }, { on := 8, ground := Ground.phase }, { on := 9, ground := Ground.phase }, { on := 10, ground := Ground.phase }], guard := none }) rfl (by decide) (fun K hK => ?_) H.AllT.nil
      apply store_step27 (g := g10) (x := .int .i64 0) (y := .slice none 0 0) (n := (n : Int)) (A := AM) (m := MM.length) (c := nM)
      · rfl
      · rfl
      · simp [Act.eval, Act.put]
      · simp [Act.eval, Act.put]
      · exact H10.out.head
      have HBz := (H10.out.row #[.int .i64 n, .slice AM MM.length nM]).below
      refine hK.out _ _ (⟨cell_later HBz q1, cell_later HBz q2, cell_later HBz q3, cell_later HBz q4, cell_later HBz q5, cell_later HBz q6⟩) (fun hHeld => ?_)
      clear hK K hHeld HBz
      simp only [Act.put, List.getElem_toArray, List.getElem_cons_succ, List.getElem_cons_zero, List.setIfInBounds_toArray, List.set_cons_zero, List.set_cons_succ]
      refine wpAnyT_done' (by kernel_rfl) ?_
      refine NoPanic.normal ?_
      have H55c := Kd.R_mono (Kd.R_step (Kd.R_types H55.out H10.out.head (fun q hq => by rw [e35 hq]; decide)) (fun k hk _ => setRow_other _ g10 k #[.int .i64 n, .slice AM MM.length nM] hk.2)) (fun _ hk => hk.1)
      refine ⟨rfl, g10, v49, v52, v54, AM, nM, ?_, hnM, mem_add HMd.out (H10.out.row _), Kd.C_below HCd.out (H10.out.row _).below, (Kd.R_reads' H55c).2.2⟩
      (simp only [Act.put, List.setIfInBounds_toArray, List.set_cons_zero, List.set_cons_succ])
     refine H.AllT.cons (i := 7) rfl (by decide) (fun K hK => ?_) H.AllT.nil
     refine Kd.R_lit_step k35 (w0 := wd) wd.heap.size 35 ?hg (N := 54) ?hd (xs := ([⟨(f : Int), (t : Int), ⟨lo, hi⟩⟩] : List S35)) (inner := [.int .i64 (f : Int), .int .i64 (t : Int), .int .i64 lo, .int .i64 hi]) (ok := fun _ => True) (okp := fun _ => False) ?hr ?hp (fun _ h => h.elim) trivial HBx.out HBx.out.size (by simp) ?_; (case hd => rfl); (case hg => rfl); (case hr => first | (go_simp; done) | (go_simp; rfl)); (case hp => exact (Reps.c4 (k35_mkM _ _ _ (⟨(f : Int), (t : Int), ⟨lo, hi⟩⟩ : S35)) (Reps.none _ _)))
     intro v54 x3 h54 hB2 hg2 hat54
     have SEP : Aside0 (∀ k, v54.ownBlock = some k → some k ≠ v49.ownBlock) := ⟨fun k hk e => by obtain ⟨b, hb1, hb2⟩ := hat54; have h3 := ((Kd.R_bound H49.out).1 k e.symm).2.2.1; rw [hb1] at hk; have := Option.some.inj hk; omega⟩
     have H49 := Aside0.mk (Kd.R_below H49.out (below_of_grown hg2))
     have H10 := Aside0.mk (H10.out.step (below_of_grown hg2))
     have H54 := Aside0.mk h54
     have HBx := Aside0.mk hB2
     clear h54 hB2 hg2 hat54
     refine hK.out _ _ (⟨cell_later HBx.out q1, cell_later HBx.out q2, cell_later HBx.out q3, cell_later HBx.out q4, cell_later HBx.out q5, cell_later HBx.out q6⟩) (fun hHeld => ?_)
     clear hK K
     try simp only [Act.put, List.getElem_toArray, List.getElem_cons_succ, List.getElem_cons_zero, List.setIfInBounds_toArray, List.set_cons_zero, List.set_cons_succ]
     refine H.wpAnyT_ready (rs := [5]) (by kernel_rfl) (by simp) ?_
     refine H.AllT.cons (i := 5) rfl (by decide) (fun K hK => ?_) H.AllT.nil
     refine Kd.R_append_rows_step k35 (Rr := k35.K x3) (w0 := wd) wd.heap.size (by rfl) (.tmp 49) (.tmp 51) 25 35 (.agg #[.int .i64 0, .int .i64 0, .int .i64 0, .int .i64 0]) 32 rfl Try.underlying25 info35 rfl (by decide) (by omega) v49 ([] : List S35) LL AL LL.length nL (fun _ => True) (fun _ => False) (by simp [Act.eval, Act.put]) (by simp [Act.eval, Act.put]) H49.out (Kd.C_below HCd.out HBx.out) (fun x cs h => k35_KM h) (fun _ h => h.elim) (fun _ _ => trivial) HBx.out HBx.out.size (by simp only [List.length_nil]; omega) ?_
     intro v52 x4 h52 hB2 hg2 hat52
     have H54 := Aside0.mk (Kd.R_mono (Kd.R_grown (Kd.R_reok rfl H54.out SEP.out) hg2 (fun k hk => hk)) (fun _ _ => trivial))
     have H10 := Aside0.mk (H10.out.grownR H49.out hg2 (by simp))
     have H52 := Aside0.mk h52
     have HBx := Aside0.mk hB2
     clear h52 hB2 hg2 hat52
     refine hK.out _ _ (⟨cell_later HBx.out q1, cell_later HBx.out q2, cell_later HBx.out q3, cell_later HBx.out q4, cell_later HBx.out q5, cell_later HBx.out q6⟩) (fun hHeld => ?_)
     clear hK K
     try simp only [Act.put, List.getElem_toArray, List.getElem_cons_succ, List.getElem_cons_zero, List.setIfInBounds_toArray, List.set_cons_zero, List.set_cons_succ]
     refine H.wpAnyT_ready (rs := [8]) (by kernel_rfl) (by simp) ?_
     refine H.AllT.cons (i := 8) rfl (by decide) (fun K hK => ?_) H.AllT.nil
     obtain ⟨A54, n54, e54, hn54, hC54⟩ := Kd.R_reads H54.out
     refine Kd.R_append_rows_step k35 (Rr := k35.K x4) (w0 := wd) wd.heap.size (by rfl) (.tmp 52) (.tmp 54) 25 35 (.agg #[.int .i64 0, .int .i64 0, .int .i64 0, .int .i64 0]) 32 rfl Try.underlying25 info35 rfl (by decide) (by omega) v52 (([] : List S35) ++ LL) ([⟨(f : Int), (t : Int), ⟨lo, hi⟩⟩] : List S35) A54 1 n54 (fun _ => True) (fun _ => False) (by simp [Act.eval, Act.put]) (by simp [Act.eval, Act.put]; exact e54) H52.out hC54 (fun x cs h => k35_KM h) (fun _ h => h.elim) (fun _ _ => trivial) HBx.out HBx.out.size (by simp only [List.nil_append]; omega) ?_
     intro v55 x5 h55 hB2 hg2 hat55
     rw [List.nil_append, ← HMM.out] at h55
     obtain ⟨AM, nM, e55, hnM, _⟩ := Kd.R_reads h55
     subst e55
     have H10 := Aside0.mk (H10.out.grownR H52.out hg2 (by simp))
     have H55 := Aside0.mk h55
     have HBx := Aside0.mk hB2
     clear h55 hB2 hg2 hat55 hC54 e54 hn54
     refine hK.out _ _ (⟨cell_later HBx.out q1, cell_later HBx.out q2, cell_later HBx.out q3, cell_later HBx.out q4, cell_later HBx.out q5, cell_later HBx.out q6⟩) (fun hHeld => ?_)
     clear hK K
     try simp only [Act.put, List.getElem_toArray, List.getElem_cons_succ, List.getElem_cons_zero, List.setIfInBounds_toArray, List.set_cons_zero, List.set_cons_succ]
     refine H.wpAnyT_takeY (i := 9) (v := .agg #[.int .i64 n, .slice AM MM.length nM]) rfl (by decide) (by kernel_rfl) (by kernel_rfl) (by kernel_rfl) (fun _ _ _ h => h) (Or.inl ⟨by rfl, ?_⟩) hHeld ?_
     · (intro w_ hSw; clear q1 q2 q3 q4 q5 q6; go_simp; try rfl)
     try simp only [Act.put, List.getElem_toArray, List.getElem_cons_succ, List.getElem_cons_zero, List.setIfInBounds_toArray, List.set_cons_zero, List.set_cons_succ]
     refine H.wpAnyT_ready (rs := [11]) (by kernel_rfl) (by simp) ?_
     refine H.AllT.cons (i := 11) (o := { dst := none, op := Op.store 27 (Operand.tmp 10) (Operand.tmp 56), type := 0, pos := "outright.go:166", after := #[{ on := 10, ground := Ground.data }, { on := 9, ground := Ground.data }, { on := 8, ground := Ground.chain }, { on := 0, ground := Ground.phase }, { on := 1, ground := Ground.phase }, { on := 2, ground := Ground.phase }, { on := 3, ground := Ground.phase }, { on := 4, ground := Ground.phase }, { on := 5, ground := Ground.phase }, { on := 6, ground := Ground.phase }, { on := 7, ground := Ground.phase }, { on := 8, ground := Ground.phase }, { on := 9, ground := Ground.phase }, { on := 10, ground := Ground.phase }], guard := none }) rfl (by decide) (fun K hK => ?_) H.AllT.nil
     apply store_step27 (g := g10) (x := .int .i64 0) (y := .slice none 0 0) (n := (n : Int)) (A := AM) (m := MM.length) (c := nM)
     · rfl
     · rfl
     · simp [Act.eval, Act.put]
     · simp [Act.eval, Act.put]
     · exact H10.out.head
     have HBz := (H10.out.row #[.int .i64 n, .slice AM MM.length nM]).below
     refine hK.out _ _ (⟨cell_later HBz q1, cell_later HBz q2, cell_later HBz q3, cell_later HBz q4, cell_later HBz q5, cell_later HBz q6⟩) (fun hHeld => ?_)
     clear hK K hHeld HBz
     simp only [Act.put, List.getElem_toArray, List.getElem_cons_succ, List.getElem_cons_zero, List.setIfInBounds_toArray, List.set_cons_zero, List.set_cons_succ]
     refine wpAnyT_done' (by kernel_rfl) ?_
     refine NoPanic.normal ?_
     have H55c := Kd.R_mono (Kd.R_step (Kd.R_types H55.out H10.out.head (fun q hq => by rw [e35 hq]; decide)) (fun k hk _ => setRow_other _ g10 k #[.int .i64 n, .slice AM MM.length nM] hk.2)) (fun _ hk => hk.1)
     refine ⟨rfl, g10, v49, v52, v54, AM, nM, ?_, hnM, mem_add HMd.out (H10.out.row _), Kd.C_below HCd.out (H10.out.row _).below, (Kd.R_reads' H55c).2.2⟩
     (simp only [Act.put, List.setIfInBounds_toArray, List.set_cons_zero, List.set_cons_succ])
    refine H.AllT.cons (i := 7) rfl (by decide) (fun K hK => ?_) H.AllT.nil
    refine Kd.R_lit_step k35 (w0 := wd) wd.heap.size 35 ?hg (N := 54) ?hd (xs := ([⟨(f : Int), (t : Int), ⟨lo, hi⟩⟩] : List S35)) (inner := [.int .i64 (f : Int), .int .i64 (t : Int), .int .i64 lo, .int .i64 hi]) (ok := fun _ => True) (okp := fun _ => False) ?hr ?hp (fun _ h => h.elim) trivial HBx.out HBx.out.size (by simp) ?_; (case hd => rfl); (case hg => rfl); (case hr => first | (go_simp; done) | (go_simp; rfl)); (case hp => exact (Reps.c4 (k35_mkM _ _ _ (⟨(f : Int), (t : Int), ⟨lo, hi⟩⟩ : S35)) (Reps.none _ _)))
    intro v54 x2 h54 hB2 hg2 hat54
    have H10 := Aside0.mk (H10.out.step (below_of_grown hg2))
    have H54 := Aside0.mk h54
    have HBx := Aside0.mk hB2
    clear h54 hB2 hg2 hat54
    refine hK.out _ _ (⟨cell_later HBx.out q1, cell_later HBx.out q2, cell_later HBx.out q3, cell_later HBx.out q4, cell_later HBx.out q5, cell_later HBx.out q6⟩) (fun hHeld => ?_)
    clear hK K
    try simp only [Act.put, List.getElem_toArray, List.getElem_cons_succ, List.getElem_cons_zero, List.setIfInBounds_toArray, List.set_cons_zero, List.set_cons_succ]
    refine H.wpAnyT_ready (rs := [2]) (by kernel_rfl) (by simp) ?_
    refine H.AllT.cons (i := 2) rfl (by decide) (fun K hK => ?_) H.AllT.nil
    refine Kd.R_lit_step k35 (w0 := wd) wd.heap.size 35 ?hg (N := 49) ?hd (xs := ([] : List S35)) (inner := []) (ok := fun _ => True) (okp := fun _ => False) ?hr ?hp (fun _ h => h.elim) trivial HBx.out HBx.out.size (by simp) ?_; (case hd => rfl); (case hg => rfl); (case hr => first | (go_simp; done) | (go_simp; rfl)); (case hp => exact (Reps.none _ _))
    intro v49 x3 h49 hB2 hg2 hat49
    have SEP : Aside0 (∀ k, v54.ownBlock = some k → some k ≠ v49.ownBlock) := ⟨fun k hk e => by obtain ⟨b, hb1, hb2⟩ := hat49; have h3 := ((Kd.R_bound H54.out).1 k hk).2.2.1; rw [hb1] at e; have := Option.some.inj e; omega⟩
    have H54 := Aside0.mk (Kd.R_below H54.out (below_of_grown hg2))
    have H10 := Aside0.mk (H10.out.step (below_of_grown hg2))
    have H49 := Aside0.mk h49
    have HBx := Aside0.mk hB2
    clear h49 hB2 hg2 hat49
    refine hK.out _ _ (⟨cell_later HBx.out q1, cell_later HBx.out q2, cell_later HBx.out q3, cell_later HBx.out q4, cell_later HBx.out q5, cell_later HBx.out q6⟩) (fun hHeld => ?_)
    clear hK K
    try simp only [Act.put, List.getElem_toArray, List.getElem_cons_succ, List.getElem_cons_zero, List.setIfInBounds_toArray, List.set_cons_zero, List.set_cons_succ]
    refine H.wpAnyT_ready (rs := [5]) (by kernel_rfl) (by simp) ?_
    refine H.AllT.cons (i := 5) rfl (by decide) (fun K hK => ?_) H.AllT.nil
    refine Kd.R_append_rows_step k35 (Rr := k35.K x3) (w0 := wd) wd.heap.size (by rfl) (.tmp 49) (.tmp 51) 25 35 (.agg #[.int .i64 0, .int .i64 0, .int .i64 0, .int .i64 0]) 32 rfl Try.underlying25 info35 rfl (by decide) (by omega) v49 ([] : List S35) LL AL LL.length nL (fun _ => True) (fun _ => False) (by simp [Act.eval, Act.put]) (by simp [Act.eval, Act.put]) H49.out (Kd.C_below HCd.out HBx.out) (fun x cs h => k35_KM h) (fun _ h => h.elim) (fun _ _ => trivial) HBx.out HBx.out.size (by simp only [List.length_nil]; omega) ?_
    intro v52 x4 h52 hB2 hg2 hat52
    have H54 := Aside0.mk (Kd.R_mono (Kd.R_grown (Kd.R_reok rfl H54.out SEP.out) hg2 (fun k hk => hk)) (fun _ _ => trivial))
    have H10 := Aside0.mk (H10.out.grownR H49.out hg2 (by simp))
    have H52 := Aside0.mk h52
    have HBx := Aside0.mk hB2
    clear h52 hB2 hg2 hat52
    refine hK.out _ _ (⟨cell_later HBx.out q1, cell_later HBx.out q2, cell_later HBx.out q3, cell_later HBx.out q4, cell_later HBx.out q5, cell_later HBx.out q6⟩) (fun hHeld => ?_)
    clear hK K
    try simp only [Act.put, List.getElem_toArray, List.getElem_cons_succ, List.getElem_cons_zero, List.setIfInBounds_toArray, List.set_cons_zero, List.set_cons_succ]
    refine H.wpAnyT_ready (rs := [8]) (by kernel_rfl) (by simp) ?_
    refine H.AllT.cons (i := 8) rfl (by decide) (fun K hK => ?_) H.AllT.nil
    obtain ⟨A54, n54, e54, hn54, hC54⟩ := Kd.R_reads H54.out
    refine Kd.R_append_rows_step k35 (Rr := k35.K x4) (w0 := wd) wd.heap.size (by rfl) (.tmp 52) (.tmp 54) 25 35 (.agg #[.int .i64 0, .int .i64 0, .int .i64 0, .int .i64 0]) 32 rfl Try.underlying25 info35 rfl (by decide) (by omega) v52 (([] : List S35) ++ LL) ([⟨(f : Int), (t : Int), ⟨lo, hi⟩⟩] : List S35) A54 1 n54 (fun _ => True) (fun _ => False) (by simp [Act.eval, Act.put]) (by simp [Act.eval, Act.put]; exact e54) H52.out hC54 (fun x cs h => k35_KM h) (fun _ h => h.elim) (fun _ _ => trivial) HBx.out HBx.out.size (by simp only [List.nil_append]; omega) ?_
    intro v55 x5 h55 hB2 hg2 hat55
    rw [List.nil_append, ← HMM.out] at h55
    obtain ⟨AM, nM, e55, hnM, _⟩ := Kd.R_reads h55
    subst e55
    have H10 := Aside0.mk (H10.out.grownR H52.out hg2 (by simp))
    have H55 := Aside0.mk h55
    have HBx := Aside0.mk hB2
    clear h55 hB2 hg2 hat55 hC54 e54 hn54
    refine hK.out _ _ (⟨cell_later HBx.out q1, cell_later HBx.out q2, cell_later HBx.out q3, cell_later HBx.out q4, cell_later HBx.out q5, cell_later HBx.out q6⟩) (fun hHeld => ?_)
    clear hK K
    try simp only [Act.put, List.getElem_toArray, List.getElem_cons_succ, List.getElem_cons_zero, List.setIfInBounds_toArray, List.set_cons_zero, List.set_cons_succ]
    refine H.wpAnyT_takeY (i := 9) (v := .agg #[.int .i64 n, .slice AM MM.length nM]) rfl (by decide) (by kernel_rfl) (by kernel_rfl) (by kernel_rfl) (fun _ _ _ h => h) (Or.inl ⟨by rfl, ?_⟩) hHeld ?_
    · (intro w_ hSw; clear q1 q2 q3 q4 q5 q6; go_simp; try rfl)
    try simp only [Act.put, List.getElem_toArray, List.getElem_cons_succ, List.getElem_cons_zero, List.setIfInBounds_toArray, List.set_cons_zero, List.set_cons_succ]
    refine H.wpAnyT_ready (rs := [11]) (by kernel_rfl) (by simp) ?_
    refine H.AllT.cons (i := 11) (o := { dst := none, op := Op.store 27 (Operand.tmp 10) (Operand.tmp 56), type := 0, pos := "outright.go:166", after := #[{ on := 10, ground := Ground.data }, { on := 9, ground := Ground.data }, { on := 8, ground := Ground.chain }, { on := 0, ground := Ground.phase }, { on := 1, ground := Ground.phase }, { on := 2, ground := Ground.phase }, { on := 3, ground := Ground.phase }, { on := 4, ground := Ground.phase }, { on := 5, ground := Ground.phase }, { on := 6, ground := Ground.phase }, { on := 7, ground := Ground.phase }, { on := 8, ground := Ground.phase }, { on := 9, ground := Ground.phase }, { on := 10, ground := Ground.phase }], guard := none }) rfl (by decide) (fun K hK => ?_) H.AllT.nil
    apply store_step27 (g := g10) (x := .int .i64 0) (y := .slice none 0 0) (n := (n : Int)) (A := AM) (m := MM.length) (c := nM)
    · rfl
    · rfl
    · simp [Act.eval, Act.put]
    · simp [Act.eval, Act.put]
    · exact H10.out.head
    have HBz := (H10.out.row #[.int .i64 n, .slice AM MM.length nM]).below
    refine hK.out _ _ (⟨cell_later HBz q1, cell_later HBz q2, cell_later HBz q3, cell_later HBz q4, cell_later HBz q5, cell_later HBz q6⟩) (fun hHeld => ?_)
    clear hK K hHeld HBz
    simp only [Act.put, List.getElem_toArray, List.getElem_cons_succ, List.getElem_cons_zero, List.setIfInBounds_toArray, List.set_cons_zero, List.set_cons_succ]
    refine wpAnyT_done' (by kernel_rfl) ?_
    refine NoPanic.normal ?_
    have H55c := Kd.R_mono (Kd.R_step (Kd.R_types H55.out H10.out.head (fun q hq => by rw [e35 hq]; decide)) (fun k hk _ => setRow_other _ g10 k #[.int .i64 n, .slice AM MM.length nM] hk.2)) (fun _ hk => hk.1)
    refine ⟨rfl, g10, v49, v52, v54, AM, nM, ?_, hnM, mem_add HMd.out (H10.out.row _), Kd.C_below HCd.out (H10.out.row _).below, (Kd.R_reads' H55c).2.2⟩
    (simp only [Act.put, List.setIfInBounds_toArray, List.set_cons_zero, List.set_cons_succ])
  case hrest =>
    rintro a' w' ⟨g10, v49, v52, v54, AM, nM, rfl, hnM, hM, hCL, hCM⟩
    simp only [Act.put, List.setIfInBounds_toArray, List.set_cons_zero, List.set_cons_succ]
    have HM := Aside0.mk hM
    have HCL := Aside0.mk hCL
    have HCM := Aside0.mk hCM
    clear hM hCL hCM
    have HT1 := Aside0.mk (fun W h => mount_Tight.calls n AL nL LL (tightRes n LL).1 (tightRes n LL).2 W h hnL rfl)
    have HT2 := Aside0.mk (fun W h => mount_Tight.calls n AM nM MM (tightRes n MM).1 (tightRes n MM).2 W h hnM rfl)
    have HAK := Aside0.mk (fun W A1 c1 h h1 hc1 => mount_Ask.calls n AL nL LL A1 c1 [⟨(f : Int), (t : Int), ⟨lo, hi⟩⟩] (askRes n LL [⟨(f : Int), (t : Int), ⟨lo, hi⟩⟩]).1 (askRes n LL [⟨(f : Int), (t : Int), ⟨lo, hi⟩⟩]).2 W h hnL h1 hc1 (by unfold mount_Ask.f; rw [if_pos (by simp)]))
    have HFD : Aside0 ([(⟨(f : Int), (t : Int), ⟨lo, hi⟩⟩ : S35)].find? (fun x => linkErr n x != 0) = none) := ⟨by simp [HLE.out]⟩
    have hres : ∀ (X : List S35) (T : List Int) (e : Int), tightOf n X = (T, e) → tightRes n X = if e = 0 then (rowsOf n T, 0) else ([], e) := fun X T e h => by unfold tightRes; rw [h]; simp only [Int.toNat_natCast]
    have hask : ∀ (T : List Int) (e : Int), tightOf n LL = (T, e) → askRes n LL [⟨(f : Int), (t : Int), ⟨lo, hi⟩⟩] = if e = 0 then ([verdictOf (spanOf T f t) ⟨lo, hi⟩], 0) else ([], e) := fun T e h => by
      unfold askRes
      rw [h, HFD.out]
      by_cases q : e = 0
      · rw [if_pos q, if_pos q]; simp [saysTo]
      · rw [if_neg q, if_neg q]
    obtain ⟨T, e1, hT⟩ : ∃ T e, tightOf n LL = (T, e) := ⟨_, _, rfl⟩
    obtain ⟨U, e2, hU⟩ : ∃ U e, tightOf n MM = (U, e) := ⟨_, _, rfl⟩
    have HF2 := HFA.out
    rw [hT, hU] at HF2
    rw [hres LL T e1 hT] at HT1
    rw [hres MM U e2 hU] at HT2
    rw [hask T e1 hT] at HAK
    clear hres hask hT hU HFA HFD HMM
    simp only [Int.toNat_natCast] at HF2
    generalize verdictOf (spanOf T f t) ⟨lo, hi⟩ = V at HF2 HAK
    rcases HF2 with ⟨rfl, rfl⟩ | ⟨rfl, rfl, rfl⟩ | ⟨rfl, rfl, rfl, hsame, hin⟩ | ⟨rfl, rfl, rfl, hsame, hin⟩
    · rw [if_neg (by decide)] at HT1 HT2 HAK
      simp only [] at HT1 HT2 HAK
      go_wp2_with (first
        | ((with_reducible refine gate_dst (N := 58) rfl ?_); refine ev_load HM.out.third rfl 27 (.tmp 8) rfl rfl _ Try.underlying27 rfl size27 rfl ?_)
        | (go_at_call 24; refine (HT1.out _ HCL.out).mono ?_; rintro e wA ⟨v11, rfl, hS, hd⟩; have HMA := Aside0.mk (HM.out.step hd); have HCLA := Aside0.mk (Kd.C_below HCL.out hd); have HCMA := Aside0.mk (Kd.C_below HCM.out hd); have HSA := Aside0.mk (Kd.S_reads hS); clear hS hd HT1 HM HCL HCM)
        | ((with_reducible refine gate_dst (N := 63) rfl ?_); refine ev_load HMA.out.head rfl 27 (.tmp 10) rfl rfl _ Try.underlying27 rfl size27 rfl ?_)
        | (go_at_call 24; refine (HT2.out _ HCMA.out).mono ?_; rintro e wB ⟨v13, rfl, hS, hd⟩; have HMB := Aside0.mk (HMA.out.step hd); have HCLB := Aside0.mk (Kd.C_below HCLA.out hd); have HSB := Aside0.mk (Kd.S_reads hS); have HSA2 := HSA.out; obtain ⟨A11, n11, e11, h11, hC11⟩ := HSA2; subst e11; have HC11 := Aside0.mk (Kd.C_below hC11 hd); obtain ⟨A13, n13, e13, h13, hC13⟩ := HSB.out; subst e13; have HC13 := Aside0.mk hC13; clear hS hd HT2 HMA HCLA HCMA HSA HSB hC11 hC13)
        | ((with_reducible refine gate_dst (N := 68) rfl ?_); refine ev_load HMB.out.third rfl 27 (.tmp 8) rfl rfl _ Try.underlying27 rfl size27 rfl ?_)
        | ((with_reducible refine gate_dst (N := 69) rfl ?_); refine ev_load HMB.out.second rfl 35 (.tmp 9) rfl rfl _ Try.underlying35 rfl size35 rfl ?_)
        | ((with_reducible refine gate_dst (N := 70) rfl ?_); refine Kd.R_lit k35 (w0 := wB) (W := wB) wB.heap.size 35 ?hg (N := 70) ?hd (xs := ([⟨(f : Int), (t : Int), ⟨lo, hi⟩⟩] : List S35)) (inner := [.int .i64 (f : Int), .int .i64 (t : Int), .int .i64 lo, .int .i64 hi]) (ok := fun _ => True) (okp := fun _ => False) ?hr ?hp (fun _ _ => trivial) trivial (Below.refl _ _) (Nat.le_refl _) (by simp) ?_; (case hd => rfl); (case hg => rfl); (case hr => first | (go_simp; done) | (go_simp; rfl)); (case hp => exact (Reps.c4 (k35_mkM _ _ _ (⟨(f : Int), (t : Int), ⟨lo, hi⟩⟩ : S35)) (Reps.none _ _))); intro v70 wC hR hB hg hat; obtain ⟨A70, n70, e70, h70, hC70⟩ := Kd.R_reads hR; subst e70; have HC70 := Aside0.mk hC70; have HMC := Aside0.mk (HMB.out.step hB); have HCLC := Aside0.mk (Kd.C_below HCLB.out hB); have HC11C := Aside0.mk (Kd.C_below HC11.out hB); have HC13C := Aside0.mk (Kd.C_below HC13.out hB); clear hR hB hg hat hC70 HMB HCLB HC11 HC13)
        | (go_at_call 25; refine (HAK.out _ A70 n70 HCLC.out HC70.out h70).mono ?_; rintro e wD ⟨v15, rfl, hR, hd⟩; have HMD := Aside0.mk (HMC.out.step hd); have HC11D := Aside0.mk (Kd.C_below HC11C.out hd); have HC13D := Aside0.mk (Kd.C_below HC13C.out hd); obtain ⟨A15, n15, e15, h15, hC15⟩ := Kd.R_reads hR; subst e15; skip; clear hR hd hC15 HMC HCLC HC11C HC13C HC70 HAK)
        | (go_at_call 21; refine (thermionlaw04_awake.calls 8 true _ HAW.out).mono ?_; rintro e wE ⟨rfl, hd⟩; have HME := Aside0.mk (HMD.out.step hd); clear hd))
      go_ret
      exact ⟨rfl, HME.out.below⟩
    · rw [if_pos rfl] at HT1 HAK
      rw [if_neg (by decide)] at HT2
      simp only [] at HT1 HT2 HAK
      go_wp2_with (first
        | ((with_reducible refine gate_dst (N := 58) rfl ?_); refine ev_load HM.out.third rfl 27 (.tmp 8) rfl rfl _ Try.underlying27 rfl size27 rfl ?_)
        | (go_at_call 24; refine (HT1.out _ HCL.out).mono ?_; rintro e wA ⟨v11, rfl, hS, hd⟩; have HMA := Aside0.mk (HM.out.step hd); have HCLA := Aside0.mk (Kd.C_below HCL.out hd); have HCMA := Aside0.mk (Kd.C_below HCM.out hd); have HSA := Aside0.mk (Kd.S_reads hS); clear hS hd HT1 HM HCL HCM)
        | ((with_reducible refine gate_dst (N := 63) rfl ?_); refine ev_load HMA.out.head rfl 27 (.tmp 10) rfl rfl _ Try.underlying27 rfl size27 rfl ?_)
        | (go_at_call 24; refine (HT2.out _ HCMA.out).mono ?_; rintro e wB ⟨v13, rfl, hS, hd⟩; have HMB := Aside0.mk (HMA.out.step hd); have HCLB := Aside0.mk (Kd.C_below HCLA.out hd); have HSB := Aside0.mk (Kd.S_reads hS); have HSA2 := HSA.out; obtain ⟨A11, n11, e11, h11, hC11⟩ := HSA2; subst e11; have HC11 := Aside0.mk (Kd.C_below hC11 hd); obtain ⟨A13, n13, e13, h13, hC13⟩ := HSB.out; subst e13; have HC13 := Aside0.mk hC13; clear hS hd HT2 HMA HCLA HCMA HSA HSB hC11 hC13)
        | ((with_reducible refine gate_dst (N := 68) rfl ?_); refine ev_load HMB.out.third rfl 27 (.tmp 8) rfl rfl _ Try.underlying27 rfl size27 rfl ?_)
        | ((with_reducible refine gate_dst (N := 69) rfl ?_); refine ev_load HMB.out.second rfl 35 (.tmp 9) rfl rfl _ Try.underlying35 rfl size35 rfl ?_)
        | ((with_reducible refine gate_dst (N := 70) rfl ?_); refine Kd.R_lit k35 (w0 := wB) (W := wB) wB.heap.size 35 ?hg (N := 70) ?hd (xs := ([⟨(f : Int), (t : Int), ⟨lo, hi⟩⟩] : List S35)) (inner := [.int .i64 (f : Int), .int .i64 (t : Int), .int .i64 lo, .int .i64 hi]) (ok := fun _ => True) (okp := fun _ => False) ?hr ?hp (fun _ _ => trivial) trivial (Below.refl _ _) (Nat.le_refl _) (by simp) ?_; (case hd => rfl); (case hg => rfl); (case hr => first | (go_simp; done) | (go_simp; rfl)); (case hp => exact (Reps.c4 (k35_mkM _ _ _ (⟨(f : Int), (t : Int), ⟨lo, hi⟩⟩ : S35)) (Reps.none _ _))); intro v70 wC hR hB hg hat; obtain ⟨A70, n70, e70, h70, hC70⟩ := Kd.R_reads hR; subst e70; have HC70 := Aside0.mk hC70; have HMC := Aside0.mk (HMB.out.step hB); have HCLC := Aside0.mk (Kd.C_below HCLB.out hB); have HC11C := Aside0.mk (Kd.C_below HC11.out hB); have HC13C := Aside0.mk (Kd.C_below HC13.out hB); clear hR hB hg hat hC70 HMB HCLB HC11 HC13)
        | (go_at_call 25; refine (HAK.out _ A70 n70 HCLC.out HC70.out h70).mono ?_; rintro e wD ⟨v15, rfl, hR, hd⟩; have HMD := Aside0.mk (HMC.out.step hd); have HC11D := Aside0.mk (Kd.C_below HC11C.out hd); have HC13D := Aside0.mk (Kd.C_below HC13C.out hd); obtain ⟨A15, n15, e15, h15, hC15⟩ := Kd.R_reads hR; subst e15; obtain ⟨ad15, ea15, x15⟩ := cell_int hC15 0 (by simp); cases ea15; have x15 : wD.cell? ad15 = some (.int .i64 2) := x15; have c8 : wD.cell? ⟨g8, 0, none⟩ = some (.int .i64 n) := (blk_cell HMD.out.third 0).trans rfl; clear hR hd hC15 HMC HCLC HC11C HC13C HC70 HAK)
        | (go_at_call 26; refine (thermionlaw04_square.calls 30 A11 n11 (rowsOf n T) n true _ HC11D.out h11 (square_rows n T (by omega) (by omega))).mono ?_; rintro e wF ⟨rfl, hd⟩; have HMF := Aside0.mk (HMD.out.step hd.below); have x15b : wF.cell? ad15 = some (.int .i64 2) := cell_later hd.below x15; clear hd)
        | (go_at_call 21; refine (thermionlaw04_awake.calls 8 true _ HAW.out).mono ?_; rintro e wE ⟨rfl, hd⟩; have HME := Aside0.mk (HMF.out.step hd); clear hd))
      go_ret
      exact ⟨rfl, HME.out.below⟩
    · rw [if_pos rfl] at HT1 HAK
      rw [if_pos rfl] at HT2
      simp only [] at HT1 HT2 HAK
      have HIN := Aside0.mk hin
      have hsr := same_rows n T U (by omega) (k := 60) (by omega)
      have HSR : Aside0 (thermionlaw04_sameTight.f 60 (rowsOf n T) (rowsOf n U) = some true) := ⟨by
        obtain ⟨b, hb, hq⟩ := hsr
        rw [hb, hq.2 hsame]⟩
      clear hin hsame hsr
      go_wp2_with (first
        | ((with_reducible refine gate_dst (N := 58) rfl ?_); refine ev_load HM.out.third rfl 27 (.tmp 8) rfl rfl _ Try.underlying27 rfl size27 rfl ?_)
        | (go_at_call 24; refine (HT1.out _ HCL.out).mono ?_; rintro e wA ⟨v11, rfl, hS, hd⟩; have HMA := Aside0.mk (HM.out.step hd); have HCLA := Aside0.mk (Kd.C_below HCL.out hd); have HCMA := Aside0.mk (Kd.C_below HCM.out hd); have HSA := Aside0.mk (Kd.S_reads hS); clear hS hd HT1 HM HCL HCM)
        | ((with_reducible refine gate_dst (N := 63) rfl ?_); refine ev_load HMA.out.head rfl 27 (.tmp 10) rfl rfl _ Try.underlying27 rfl size27 rfl ?_)
        | (go_at_call 24; refine (HT2.out _ HCMA.out).mono ?_; rintro e wB ⟨v13, rfl, hS, hd⟩; have HMB := Aside0.mk (HMA.out.step hd); have HCLB := Aside0.mk (Kd.C_below HCLA.out hd); have HSB := Aside0.mk (Kd.S_reads hS); have HSA2 := HSA.out; obtain ⟨A11, n11, e11, h11, hC11⟩ := HSA2; subst e11; have HC11 := Aside0.mk (Kd.C_below hC11 hd); obtain ⟨A13, n13, e13, h13, hC13⟩ := HSB.out; subst e13; have HC13 := Aside0.mk hC13; clear hS hd HT2 HMA HCLA HCMA HSA HSB hC11 hC13)
        | ((with_reducible refine gate_dst (N := 68) rfl ?_); refine ev_load HMB.out.third rfl 27 (.tmp 8) rfl rfl _ Try.underlying27 rfl size27 rfl ?_)
        | ((with_reducible refine gate_dst (N := 69) rfl ?_); refine ev_load HMB.out.second rfl 35 (.tmp 9) rfl rfl _ Try.underlying35 rfl size35 rfl ?_)
        | ((with_reducible refine gate_dst (N := 70) rfl ?_); refine Kd.R_lit k35 (w0 := wB) (W := wB) wB.heap.size 35 ?hg (N := 70) ?hd (xs := ([⟨(f : Int), (t : Int), ⟨lo, hi⟩⟩] : List S35)) (inner := [.int .i64 (f : Int), .int .i64 (t : Int), .int .i64 lo, .int .i64 hi]) (ok := fun _ => True) (okp := fun _ => False) ?hr ?hp (fun _ _ => trivial) trivial (Below.refl _ _) (Nat.le_refl _) (by simp) ?_; (case hd => rfl); (case hg => rfl); (case hr => first | (go_simp; done) | (go_simp; rfl)); (case hp => exact (Reps.c4 (k35_mkM _ _ _ (⟨(f : Int), (t : Int), ⟨lo, hi⟩⟩ : S35)) (Reps.none _ _))); intro v70 wC hR hB hg hat; obtain ⟨A70, n70, e70, h70, hC70⟩ := Kd.R_reads hR; subst e70; have HC70 := Aside0.mk hC70; have HMC := Aside0.mk (HMB.out.step hB); have HCLC := Aside0.mk (Kd.C_below HCLB.out hB); have HC11C := Aside0.mk (Kd.C_below HC11.out hB); have HC13C := Aside0.mk (Kd.C_below HC13.out hB); clear hR hB hg hat hC70 HMB HCLB HC11 HC13)
        | (go_at_call 25; refine (HAK.out _ A70 n70 HCLC.out HC70.out h70).mono ?_; rintro e wD ⟨v15, rfl, hR, hd⟩; have HMD := Aside0.mk (HMC.out.step hd); have HC11D := Aside0.mk (Kd.C_below HC11C.out hd); have HC13D := Aside0.mk (Kd.C_below HC13C.out hd); obtain ⟨A15, n15, e15, h15, hC15⟩ := Kd.R_reads hR; subst e15; obtain ⟨ad15, ea15, x15⟩ := cell_int hC15 0 (by simp); cases ea15; have x15 : wD.cell? ad15 = some (.int .i64 1) := x15; have c8 : wD.cell? ⟨g8, 0, none⟩ = some (.int .i64 n) := (blk_cell HMD.out.third 0).trans rfl; clear hR hd hC15 HMC HCLC HC11C HC13C HC70 HAK)
        | (go_at_call 26; refine (thermionlaw04_square.calls 30 A11 n11 (rowsOf n T) n true _ HC11D.out h11 (square_rows n T (by omega) (by omega))).mono ?_; rintro e wF ⟨rfl, hd⟩; have HMF := Aside0.mk (HMD.out.step hd.below); have HC11F := Aside0.mk (Kd.C_below HC11D.out hd.below); have HC13F := Aside0.mk (Kd.C_below HC13D.out hd.below); have x15b : wF.cell? ad15 = some (.int .i64 1) := cell_later hd.below x15; have c8b : wF.cell? ⟨g8, 0, none⟩ = some (.int .i64 n) := (blk_cell HMF.out.third 0).trans rfl; clear hd HMD HC11D HC13D x15 c8)
        | (go_at_call 26; refine (thermionlaw04_square.calls 30 A13 n13 (rowsOf n U) n true _ HC13F.out h13 (square_rows n U (by omega) (by omega))).mono ?_; rintro e wG ⟨rfl, hd⟩; have HMG := Aside0.mk (HMF.out.step hd.below); have HC11G := Aside0.mk (Kd.C_below HC11F.out hd.below); have HC13G := Aside0.mk (Kd.C_below HC13F.out hd.below); have x15c : wG.cell? ad15 = some (.int .i64 1) := cell_later hd.below x15b; have c8c : wG.cell? ⟨g8, 0, none⟩ = some (.int .i64 n) := (blk_cell HMG.out.third 0).trans rfl; clear hd HMF HC11F HC13F x15b c8b)
        | (go_at_call 27; refine (thermionlaw04_sameTight.calls 60 A11 n11 (rowsOf n T) A13 n13 (rowsOf n U) true _ HC11G.out h11 HC13G.out h13 HSR.out).mono ?_; rintro e wH ⟨rfl, hd⟩; have HMH := Aside0.mk (HMG.out.step hd.below); have HC11H := Aside0.mk (Kd.C_below HC11G.out hd.below); have HC13H := Aside0.mk (Kd.C_below HC13G.out hd.below); have x15d : wH.cell? ad15 = some (.int .i64 1) := cell_later hd.below x15c; clear hd HMG HC11G HC13G x15c c8c))
      clear x15d
      go_loopg [17] n (fun k v17 w' => ∃ (a : Nat), v17 = .int .i64 a ∧ Aside0 (a + k = n) ∧ Aside0 (Below wH.heap.size wH w'))
      case atStart => exact ⟨0, rfl, ⟨by omega⟩, ⟨Below.refl _ _⟩⟩
      case round =>
        obtain ⟨a, rfl, HK, HBL⟩ := hrel
        have cP : wr.cell? ⟨g8, 0, none⟩ = some (.int .i64 n) := (blk_cell (HMH.out.step HBL.out).third 0).trans rfl
        by_cases ha : a < n
        · have ha2 : decide ((a : Int) < (n : Int)) = true := by simp; omega
          go_wp2_with fail
          clear cP
          go_loopg [18] n (fun k v18 w' => ∃ (b : Nat), v18 = .int .i64 b ∧ Aside0 (b + k = n) ∧ Aside0 (Below wH.heap.size wH w'))
          case atStart => exact ⟨0, rfl, ⟨by omega⟩, HBL⟩
          case round =>
            clear HBL
            obtain ⟨b, rfl, HK2, HBL⟩ := hrel
            have cP : wr.cell? ⟨g8, 0, none⟩ = some (.int .i64 n) := (blk_cell (HMH.out.step HBL.out).third 0).trans rfl
            by_cases hb : b < n
            · have hb2 : decide ((b : Int) < (n : Int)) = true := by simp; omega
              obtain ⟨adU, AU, cU, eU, xU, hcU, hCU⟩ := at_L6 (Kd.C_below HC13H.out HBL.out) (a : Int) (by omega) (by rw [rowsOf_len]; omega)
              obtain ⟨adT, AT, cT, eT, xT, hcT, hCT⟩ := at_L6 (Kd.C_below HC11H.out HBL.out) (a : Int) (by omega) (by rw [rowsOf_len]; omega)
              rw [rowsOf_row n U a ha] at xU hcU hCU
              rw [rowsOf_row n T a ha] at xT hcT hCT
              simp only [List.length_map, List.length_range, Int.toNat_natCast] at xU xT hCU hCT
              obtain ⟨auU, eaU, y1, y2⟩ := at_T32 hCU (b : Int) (by omega) (by omega)
              obtain ⟨auT, eaT, y3, y4⟩ := at_T32 hCT (b : Int) (by omega) (by omega)
              rw [row_get n U a b hb] at y1 y2
              rw [row_get n T a b hb] at y3 y4
              simp only [Int.toNat_natCast] at y1 y2 y3 y4
              have HWI : Aside0 (thermionkit_Within.f (spanOf U a b).f0 (spanOf U a b).f1 (spanOf T a b).f0 (spanOf T a b).f1 = some true) := ⟨by rw [within_eq]; have := HIN.out a b ha hb; simp [this.1, this.2]⟩
              generalize (spanOf U a b).f0 = u0 at y1 HWI
              generalize (spanOf U a b).f1 = u1 at y2 HWI
              generalize (spanOf T a b).f0 = t0 at y3 HWI
              generalize (spanOf T a b).f1 = t1 at y4 HWI
              cases eU; cases eT; cases eaU; cases eaT
              clear hcU hcT hCU hCT
              have i1 : (0 : Int) ≤ (a : Int) := by omega
              have i3 : (a : Int) < (n : Int) := by omega
              have i4 : (b : Int) < (n : Int) := by omega
              have i2 : (0 : Int) ≤ (b : Int) := by omega
              have i5 : (a : Int) < ((rowsOf n U).length : Int) := by rw [rowsOf_len]; omega
              have i6 : (a : Int) < ((rowsOf n T).length : Int) := by rw [rowsOf_len]; omega
              go_wp2_with fail
              go_region_held3 (fun w' => w'.cell? (adU.add a) = some (.slice (some auU) n cU) ∧ w'.cell? (adT.add a) = some (.slice (some auT) n cT) ∧ w'.cell? (auU.add (b * 2)) = some (.int .i64 u0) ∧ w'.cell? ⟨(auU.add (b * 2)).block, (auU.add (b * 2)).off + 1, none⟩ = some (.int .i64 u1) ∧ w'.cell? (auT.add (b * 2)) = some (.int .i64 t0) ∧ w'.cell? ⟨(auT.add (b * 2)).block, (auT.add (b * 2)).off + 1, none⟩ = some (.int .i64 t1)) (first | exact ⟨xU, xT, y1, y2, y3, y4⟩ | exact ⟨k1, k2, k3, k4, k5, k6⟩) (first
                | (go_at_call 28; refine (thermionkit_Within.calls u0 u1 t0 t1 true _ HWI.out).mono ?_; rintro e w7 ⟨rfl, hd7⟩; have HB7 : Aside0 (Below wr.heap.size wr w7) := ⟨below_step (below_drew1 (Below.refl _ _)) hd7⟩; have k1 := cell_later hd7 (W := w7) xU; have k2 := cell_later hd7 (W := w7) xT; have k3 := cell_later hd7 (W := w7) y1; have k4 := cell_later hd7 (W := w7) y2; have k5 := cell_later hd7 (W := w7) y3; have k6 := cell_later hd7 (W := w7) y4; clear hd7))
              go_wp2_with fail
              go_roundg (n - (b + 1))
              case measure => have := HK2.out; omega
              case rel => exact ⟨b + 1, by go_num, ⟨by omega⟩, ⟨below_step HBL.out HB7.out⟩⟩
            · have hb2 : ¬ (b : Int) < (n : Int) := by omega
              go_wp2_with fail
              go_roundg (n - (a + 1))
              case measure => have := HK.out; omega
              case rel => exact ⟨a + 1, by go_num, ⟨by omega⟩, HBL⟩
        · have ha2 : ¬ (a : Int) < (n : Int) := by omega
          go_wp2_with (first
            | (go_at_call 21; refine (thermionlaw04_awake.calls 8 true _ HAW.out).mono ?_; rintro e wE ⟨rfl, hd⟩; have HBE := Aside0.mk (below_step HBL.out hd); clear hd))
          go_ret
          exact ⟨rfl, below_step HMH.out.below HBE.out⟩
    · rw [if_pos rfl] at HT1 HAK
      rw [if_pos rfl] at HT2
      simp only [] at HT1 HT2 HAK
      have HIN := Aside0.mk hin
      have hsr := same_rows n T U (by omega) (k := 60) (by omega)
      have HSR : Aside0 (thermionlaw04_sameTight.f 60 (rowsOf n T) (rowsOf n U) = some false) := ⟨by
        obtain ⟨b, hb, hq⟩ := hsr
        cases b with
        | true => exact absurd (hq.1 rfl) hsame
        | false => exact hb⟩
      clear hin hsame hsr
      go_wp2_with (first
        | ((with_reducible refine gate_dst (N := 58) rfl ?_); refine ev_load HM.out.third rfl 27 (.tmp 8) rfl rfl _ Try.underlying27 rfl size27 rfl ?_)
        | (go_at_call 24; refine (HT1.out _ HCL.out).mono ?_; rintro e wA ⟨v11, rfl, hS, hd⟩; have HMA := Aside0.mk (HM.out.step hd); have HCLA := Aside0.mk (Kd.C_below HCL.out hd); have HCMA := Aside0.mk (Kd.C_below HCM.out hd); have HSA := Aside0.mk (Kd.S_reads hS); clear hS hd HT1 HM HCL HCM)
        | ((with_reducible refine gate_dst (N := 63) rfl ?_); refine ev_load HMA.out.head rfl 27 (.tmp 10) rfl rfl _ Try.underlying27 rfl size27 rfl ?_)
        | (go_at_call 24; refine (HT2.out _ HCMA.out).mono ?_; rintro e wB ⟨v13, rfl, hS, hd⟩; have HMB := Aside0.mk (HMA.out.step hd); have HCLB := Aside0.mk (Kd.C_below HCLA.out hd); have HSB := Aside0.mk (Kd.S_reads hS); have HSA2 := HSA.out; obtain ⟨A11, n11, e11, h11, hC11⟩ := HSA2; subst e11; have HC11 := Aside0.mk (Kd.C_below hC11 hd); obtain ⟨A13, n13, e13, h13, hC13⟩ := HSB.out; subst e13; have HC13 := Aside0.mk hC13; clear hS hd HT2 HMA HCLA HCMA HSA HSB hC11 hC13)
        | ((with_reducible refine gate_dst (N := 68) rfl ?_); refine ev_load HMB.out.third rfl 27 (.tmp 8) rfl rfl _ Try.underlying27 rfl size27 rfl ?_)
        | ((with_reducible refine gate_dst (N := 69) rfl ?_); refine ev_load HMB.out.second rfl 35 (.tmp 9) rfl rfl _ Try.underlying35 rfl size35 rfl ?_)
        | ((with_reducible refine gate_dst (N := 70) rfl ?_); refine Kd.R_lit k35 (w0 := wB) (W := wB) wB.heap.size 35 ?hg (N := 70) ?hd (xs := ([⟨(f : Int), (t : Int), ⟨lo, hi⟩⟩] : List S35)) (inner := [.int .i64 (f : Int), .int .i64 (t : Int), .int .i64 lo, .int .i64 hi]) (ok := fun _ => True) (okp := fun _ => False) ?hr ?hp (fun _ _ => trivial) trivial (Below.refl _ _) (Nat.le_refl _) (by simp) ?_; (case hd => rfl); (case hg => rfl); (case hr => first | (go_simp; done) | (go_simp; rfl)); (case hp => exact (Reps.c4 (k35_mkM _ _ _ (⟨(f : Int), (t : Int), ⟨lo, hi⟩⟩ : S35)) (Reps.none _ _))); intro v70 wC hR hB hg hat; obtain ⟨A70, n70, e70, h70, hC70⟩ := Kd.R_reads hR; subst e70; have HC70 := Aside0.mk hC70; have HMC := Aside0.mk (HMB.out.step hB); have HCLC := Aside0.mk (Kd.C_below HCLB.out hB); have HC11C := Aside0.mk (Kd.C_below HC11.out hB); have HC13C := Aside0.mk (Kd.C_below HC13.out hB); clear hR hB hg hat hC70 HMB HCLB HC11 HC13)
        | (go_at_call 25; refine (HAK.out _ A70 n70 HCLC.out HC70.out h70).mono ?_; rintro e wD ⟨v15, rfl, hR, hd⟩; have HMD := Aside0.mk (HMC.out.step hd); have HC11D := Aside0.mk (Kd.C_below HC11C.out hd); have HC13D := Aside0.mk (Kd.C_below HC13C.out hd); obtain ⟨A15, n15, e15, h15, hC15⟩ := Kd.R_reads hR; subst e15; obtain ⟨ad15, ea15, x15⟩ := cell_int hC15 0 (by simp); cases ea15; have x15 : wD.cell? ad15 = some (.int .i64 3) := x15; have c8 : wD.cell? ⟨g8, 0, none⟩ = some (.int .i64 n) := (blk_cell HMD.out.third 0).trans rfl; clear hR hd hC15 HMC HCLC HC11C HC13C HC70 HAK)
        | (go_at_call 26; refine (thermionlaw04_square.calls 30 A11 n11 (rowsOf n T) n true _ HC11D.out h11 (square_rows n T (by omega) (by omega))).mono ?_; rintro e wF ⟨rfl, hd⟩; have HMF := Aside0.mk (HMD.out.step hd.below); have HC11F := Aside0.mk (Kd.C_below HC11D.out hd.below); have HC13F := Aside0.mk (Kd.C_below HC13D.out hd.below); have x15b : wF.cell? ad15 = some (.int .i64 3) := cell_later hd.below x15; have c8b : wF.cell? ⟨g8, 0, none⟩ = some (.int .i64 n) := (blk_cell HMF.out.third 0).trans rfl; clear hd HMD HC11D HC13D x15 c8)
        | (go_at_call 26; refine (thermionlaw04_square.calls 30 A13 n13 (rowsOf n U) n true _ HC13F.out h13 (square_rows n U (by omega) (by omega))).mono ?_; rintro e wG ⟨rfl, hd⟩; have HMG := Aside0.mk (HMF.out.step hd.below); have HC11G := Aside0.mk (Kd.C_below HC11F.out hd.below); have HC13G := Aside0.mk (Kd.C_below HC13F.out hd.below); have x15c : wG.cell? ad15 = some (.int .i64 3) := cell_later hd.below x15b; have c8c : wG.cell? ⟨g8, 0, none⟩ = some (.int .i64 n) := (blk_cell HMG.out.third 0).trans rfl; clear hd HMF HC11F HC13F x15b c8b)
        | (go_at_call 27; refine (thermionlaw04_sameTight.calls 60 A11 n11 (rowsOf n T) A13 n13 (rowsOf n U) false _ HC11G.out h11 HC13G.out h13 HSR.out).mono ?_; rintro e wH ⟨rfl, hd⟩; have HMH := Aside0.mk (HMG.out.step hd.below); have HC11H := Aside0.mk (Kd.C_below HC11G.out hd.below); have HC13H := Aside0.mk (Kd.C_below HC13G.out hd.below); have x15d : wH.cell? ad15 = some (.int .i64 3) := cell_later hd.below x15c; clear hd HMG HC11G HC13G x15c c8c))
      clear x15d
      go_loopg [17] n (fun k v17 w' => ∃ (a : Nat), v17 = .int .i64 a ∧ Aside0 (a + k = n) ∧ Aside0 (Below wH.heap.size wH w'))
      case atStart => exact ⟨0, rfl, ⟨by omega⟩, ⟨Below.refl _ _⟩⟩
      case round =>
        obtain ⟨a, rfl, HK, HBL⟩ := hrel
        have cP : wr.cell? ⟨g8, 0, none⟩ = some (.int .i64 n) := (blk_cell (HMH.out.step HBL.out).third 0).trans rfl
        by_cases ha : a < n
        · have ha2 : decide ((a : Int) < (n : Int)) = true := by simp; omega
          go_wp2_with fail
          clear cP
          go_loopg [18] n (fun k v18 w' => ∃ (b : Nat), v18 = .int .i64 b ∧ Aside0 (b + k = n) ∧ Aside0 (Below wH.heap.size wH w'))
          case atStart => exact ⟨0, rfl, ⟨by omega⟩, HBL⟩
          case round =>
            clear HBL
            obtain ⟨b, rfl, HK2, HBL⟩ := hrel
            have cP : wr.cell? ⟨g8, 0, none⟩ = some (.int .i64 n) := (blk_cell (HMH.out.step HBL.out).third 0).trans rfl
            by_cases hb : b < n
            · have hb2 : decide ((b : Int) < (n : Int)) = true := by simp; omega
              obtain ⟨adU, AU, cU, eU, xU, hcU, hCU⟩ := at_L6 (Kd.C_below HC13H.out HBL.out) (a : Int) (by omega) (by rw [rowsOf_len]; omega)
              obtain ⟨adT, AT, cT, eT, xT, hcT, hCT⟩ := at_L6 (Kd.C_below HC11H.out HBL.out) (a : Int) (by omega) (by rw [rowsOf_len]; omega)
              rw [rowsOf_row n U a ha] at xU hcU hCU
              rw [rowsOf_row n T a ha] at xT hcT hCT
              simp only [List.length_map, List.length_range, Int.toNat_natCast] at xU xT hCU hCT
              obtain ⟨auU, eaU, y1, y2⟩ := at_T32 hCU (b : Int) (by omega) (by omega)
              obtain ⟨auT, eaT, y3, y4⟩ := at_T32 hCT (b : Int) (by omega) (by omega)
              rw [row_get n U a b hb] at y1 y2
              rw [row_get n T a b hb] at y3 y4
              simp only [Int.toNat_natCast] at y1 y2 y3 y4
              have HWI : Aside0 (thermionkit_Within.f (spanOf U a b).f0 (spanOf U a b).f1 (spanOf T a b).f0 (spanOf T a b).f1 = some true) := ⟨by rw [within_eq]; have := HIN.out a b ha hb; simp [this.1, this.2]⟩
              generalize (spanOf U a b).f0 = u0 at y1 HWI
              generalize (spanOf U a b).f1 = u1 at y2 HWI
              generalize (spanOf T a b).f0 = t0 at y3 HWI
              generalize (spanOf T a b).f1 = t1 at y4 HWI
              cases eU; cases eT; cases eaU; cases eaT
              clear hcU hcT hCU hCT
              have i1 : (0 : Int) ≤ (a : Int) := by omega
              have i3 : (a : Int) < (n : Int) := by omega
              have i4 : (b : Int) < (n : Int) := by omega
              have i2 : (0 : Int) ≤ (b : Int) := by omega
              have i5 : (a : Int) < ((rowsOf n U).length : Int) := by rw [rowsOf_len]; omega
              have i6 : (a : Int) < ((rowsOf n T).length : Int) := by rw [rowsOf_len]; omega
              go_wp2_with fail
              go_region_held3 (fun w' => w'.cell? (adU.add a) = some (.slice (some auU) n cU) ∧ w'.cell? (adT.add a) = some (.slice (some auT) n cT) ∧ w'.cell? (auU.add (b * 2)) = some (.int .i64 u0) ∧ w'.cell? ⟨(auU.add (b * 2)).block, (auU.add (b * 2)).off + 1, none⟩ = some (.int .i64 u1) ∧ w'.cell? (auT.add (b * 2)) = some (.int .i64 t0) ∧ w'.cell? ⟨(auT.add (b * 2)).block, (auT.add (b * 2)).off + 1, none⟩ = some (.int .i64 t1)) (first | exact ⟨xU, xT, y1, y2, y3, y4⟩ | exact ⟨k1, k2, k3, k4, k5, k6⟩) (first
                | (go_at_call 28; refine (thermionkit_Within.calls u0 u1 t0 t1 true _ HWI.out).mono ?_; rintro e w7 ⟨rfl, hd7⟩; have HB7 : Aside0 (Below wr.heap.size wr w7) := ⟨below_step (below_drew1 (Below.refl _ _)) hd7⟩; have k1 := cell_later hd7 (W := w7) xU; have k2 := cell_later hd7 (W := w7) xT; have k3 := cell_later hd7 (W := w7) y1; have k4 := cell_later hd7 (W := w7) y2; have k5 := cell_later hd7 (W := w7) y3; have k6 := cell_later hd7 (W := w7) y4; clear hd7))
              go_wp2_with fail
              go_roundg (n - (b + 1))
              case measure => have := HK2.out; omega
              case rel => exact ⟨b + 1, by go_num, ⟨by omega⟩, ⟨below_step HBL.out HB7.out⟩⟩
            · have hb2 : ¬ (b : Int) < (n : Int) := by omega
              go_wp2_with fail
              go_roundg (n - (a + 1))
              case measure => have := HK.out; omega
              case rel => exact ⟨a + 1, by go_num, ⟨by omega⟩, HBL⟩
        · have ha2 : ¬ (a : Int) < (n : Int) := by omega
          go_wp2_with (first
            | (go_at_call 21; refine (thermionlaw04_awake.calls 8 true _ HAW.out).mono ?_; rintro e wE ⟨rfl, hd⟩; have HBE := Aside0.mk (below_step HBL.out hd); clear hd))
          go_ret
          exact ⟨rfl, below_step HMH.out.below HBE.out⟩
end Go.Proofs.Ytbcfphoheijmdaa.Print
end

section
-- PRINTED BY print.sh 35421559b90ae4d0a3588c463048766b98c2df88dd9212a6774a882060cdf62d: not written by this session
-- PRINTED WORDS (module Derived/Print/Sized.lean): go-gate-2's, for the rows of laws over slices: an AI agent of Go's test side, Tue Nov 17 2026; no person has read it. Lean checks it.
namespace Go.Proofs.YtbcfphoheijmdaaW.PrintWords
open Go.ChangeShapes Go.WideShapes
/-- A row's slice of whole numbers is no longer than its weight allows. -/
theorem sized_ints {H : Type} {enc : TypeId × Value → H} {P : Program} {W : World} {base : Nat} {spare : Nat → Bool} {held : Bool} {t e : TypeId} {k : IntKind} {a : Option Addr} {len cap : Nat} {d : DataW H} {ps : List MemPlace} {ts : List TypeId} {ds : List (DataW H)} {j : Nat}
    (hsz : (DataW.weightsEach P ts ds).all (· ≤ reachBytes) = true) (ht : ts[j]? = some t) (hd : ds[j]? = some d) (hu : P.underlying t = some (.slice e)) (he : P.underlying e = some (.int k)) (hc : P.cellsOf e = 1) {B : Nat} (hB : P.bytesOf e = B)
    (h : DataW.Trod enc P W base spare held t (.slice a len cap) d ps) : len * B ≤ 140737488351232 := by
  obtain ⟨fuel, hf⟩ := h
  rcases open_ints hu he hc hf with ⟨hcs, _⟩ | ⟨x, l, c, zs, hcs, _, hl, _, hz, hx, _, _⟩
  · simp [Value.cells] at hcs
    obtain ⟨rfl, rfl, rfl⟩ := hcs
    simp
  · simp [Value.cells] at hcs
    obtain ⟨rfl, rfl, rfl⟩ := hcs
    obtain ⟨hx, _⟩ := Prod.mk.inj hx
    subst hx
    have z := sized_slice hsz ht hd hu
    rw [hB] at z
    have hl2 : len ≤ zs.length := by
      rw [hz]
      split
      · exact hl
      · exact Nat.le_refl _
    have h1 : (lits (H := H) k (zs.take len)).length + (lits (H := H) k (zs.drop len)).length = zs.length := by
      simp [lits]
      omega
    rw [h1] at z
    exact Nat.le_trans (Nat.mul_le_mul_right _ hl2) z
end Go.Proofs.YtbcfphoheijmdaaW.PrintWords
end
