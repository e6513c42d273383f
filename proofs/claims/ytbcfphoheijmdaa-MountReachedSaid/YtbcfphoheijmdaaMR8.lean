/- Part 8 of the texts of a claim about Ytbcfphoheijmdaa, put together by a program of this work: what the Go functions do, and that their calls do so. -/
import Derived.Test.YtbcfphoheijmdaaMR5
import Derived.Test.YtbcfphoheijmdaaMR7
import Derived.SizedLaws
import Derived.ChangeSlices
section
/- MountReached: that the Go function's call gives true. -/
namespace Go.Proofs.Ytbcfphoheijmdaa.Print
open Go.RowKit Go.Proofs.YtbcfphoheijmdaaW.PrintWords Go.Proofs.YtbcfphoheijmdaaW.PrintLast Go.Proofs.YtbcfphoheijmdaaW.PrintMore Go.Proofs.Ytbcfphoheijmdaa.H
attribute [local go_sem] max2_int min2_int max_two min_two max_three min_three max_four min_four
attribute [local go_sem ↓] Go.wp_at_zero Go.wp_at_succ
set_option linter.unusedVariables false
set_option linter.unusedSimpArgs false

set_option maxHeartbeats 16000000 in
set_option maxRecDepth 100000 in
theorem reached_calls (A0 : Option Addr) (c0 : Nat) (l0 : List Int) (a1 : Int) (w : World) (hr0 : Kd.C (Kd.int .i64) w A0 l0.length l0) (hc0 : l0.length ≤ c0) :
    Calls Try.prog 8 #[.slice A0 l0.length c0, .int .i64 a1] w fun e w' => e = .returned (.bool true) ∧ Below w.heap.size w w' := by
  have HR0 := Aside0.mk hr0
  clear hr0
  obtain ⟨PP, LL, s1, hco, hp1, hp2, hll, hce⟩ := chainOf_fine (s := wordTo ((l0.length : Int) + 1374496523) l0) (points := 9) (wide := 6) ⟨by omega, by omega⟩ ⟨by omega, by omega⟩
  obtain ⟨n, rfl⟩ : ∃ n : Nat, PP = n := ⟨PP.toNat, by omega⟩
  have HCO := Aside0.mk hco
  have HND := Aside0.mk (show thermionkit_NewDice.f l0 = some (wordTo ((l0.length : Int) + 1374496523) l0) from rfl)
  generalize wordTo ((l0.length : Int) + 1374496523) l0 = s0 at HCO HND
  have HAW := Aside0.mk awake_true
  have HTO := Aside0.mk (fun (W : World) (h : Kd.C (Kd.int .i64) W A0 l0.length l0) => together_calls A0 c0 l0 W h hc0)
  have hu27 := Try.underlying27
  have hu35 := Try.underlying35
  have hu32 := Try.underlying32
  obtain ⟨aI, hmod, ha0, ha1⟩ := mod_eq a1 n (by omega) (by omega)
  obtain ⟨a, rfl⟩ : ∃ a : Nat, aI = a := ⟨aI.toNat, by omega⟩
  have HMO := Aside0.mk hmod
  have ha : a < n := by omega
  have hsem := tog_of hce
  have htr : tightRes (n : Int) LL = if (tightOf (n : Int) LL).2 = 0 then (rowsOf n (tightOf (n : Int) LL).1, 0) else ([], (tightOf (n : Int) LL).2) := by unfold tightRes; rw [Int.toNat_natCast]
  clear hco hce hmod ha0 ha1
  rcases hsem with ⟨h0, htog⟩ | h0
  rotate_left
  · rw [if_neg (by rw [h0]; decide), h0] at htr
    have HT1 := Aside0.mk (fun (c : Nat) (A : Option Addr) (W : World) (hW : Kd.C k35 W A LL.length LL) (hc : LL.length ≤ c) => mount_Tight.calls (n : Int) A c LL [] 12 W hW hc (congrArg some htr))
    have HFA := Aside0.mk (fun (c : Nat) (A : Option Addr) (W : World) (hW : Kd.C k35 W A LL.length LL) (hc : LL.length ≤ c) => mount_Far.calls (n : Int) A c LL (a : Int) [] 12 W hW hc (congrArg some (ends_clash true h0)))
    clear htr h0
    go_enter Try.func8, Try.ntmps8
    go_wp2_with (first
      | (go_at_call 48; refine (HTO.out w HR0.out).mono ?_; rintro e w0 ⟨rfl, hd⟩; have HB0 := Aside0.mk hd; clear hd HTO)
      | (go_at_call 19; refine (thermionkit_NewDice.calls A0 c0 l0 s0 w w0 HB0.out HR0.out hc0 HND.out).mono ?_; rintro e w1 ⟨g, rfl, hI1, hB1, hB1b⟩; have HI1 := Aside0.mk hI1; have HB1 := Aside0.mk hB1; clear hI1 hB1 hB1b HND)
      | (go_at_call 20; refine (thermionkit_ChainOf.calls g s0 9 6 n LL s1 w w1 HI1.out HB1.out HCO.out).mono ?_; rintro e w2 ⟨vL, rfl, hR2, hI2, hB2, hK2⟩; obtain ⟨AL, nL, rfl⟩ := Kd.R_slice hR2; have HR2 := Aside0.mk hR2; have HB2 := Aside0.mk hB2; have HN2 := Aside0.mk (Mem.start w2); clear hR2 hI2 hB2 hK2 HCO HI1)
      | ((with_reducible refine gate_dst (N := 5) rfl ?_); refine ev_new HN2.out rfl 27 rfl info27 ?_; intro g8 w3 hm3 hq1; clear hq1; have HN3 := Aside0.mk hm3; clear hm3 HN2)
      | (refine ev_store HN3.out rfl 27 (.tmp 5) (.tmp 23) rfl rfl (cs := #[.int .i64 n, .slice AL LL.length nL]) rfl size27 rfl rfl (by simp [Value.oneCell']) ?_; intro w4 hm4 hq1; clear hq1; have HN4 := Aside0.mk hm4; clear hm4 HN3; have HC4 := Aside0.mk (Kd.R_reads' (Kd.R_below HR2.out HN4.out.below)).2; clear HR2; have cP : w4.cell? ⟨g8, 0, none⟩ = some (.int .i64 n) := (blk_cell HN4.out.head 0).trans rfl)
      | (go_at_call 22; refine (thermionkit_Mod.calls a1 n a _ HMO.out).mono ?_; rintro e w5 ⟨rfl, hd⟩; have HN5 := Aside0.mk (HN4.out.step hd.below); have HC5 := Aside0.mk (And.intro HC4.out.1 (Kd.C_below HC4.out.2 hd.below)); clear hd HN4 HC4 cP)
      | ((with_reducible refine gate_dst (N := 29) rfl ?_); refine ev_load HN5.out.head rfl 27 (.tmp 5) rfl rfl _ Try.underlying27 rfl size27 rfl ?_)
      | (go_at_call 24; refine (HT1.out _ _ _ HC5.out.2 HC5.out.1).mono ?_; rintro e w6 ⟨v5, rfl, hS, hd⟩; have HN6 := Aside0.mk (HN5.out.step hd); have HC6 := Aside0.mk (And.intro HC5.out.1 (Kd.C_below HC5.out.2 hd)); clear hS hd HT1 HN5 HC5)
      | ((with_reducible refine gate_dst (N := 36) rfl ?_); refine ev_load HN6.out.head rfl 27 (.tmp 5) rfl rfl _ Try.underlying27 rfl size27 rfl ?_)
      | (go_at_call 49; refine (HFA.out _ _ _ HC6.out.2 HC6.out.1).mono ?_; rintro e w7 ⟨v7, rfl, hS, hd⟩; have HN7 := Aside0.mk (HN6.out.step hd); clear hS hd HFA HN6 HC6)
      | (go_at_call 21; refine (thermionlaw04_awake.calls 8 true _ HAW.out).mono ?_; rintro e w8 ⟨rfl, hd⟩; have HN8 := Aside0.mk (HN7.out.step hd); clear hd))
    go_ret
    exact ⟨rfl, below_step HB2.out HN8.out.below⟩
  rw [if_pos h0] at htr
  have HT1 := Aside0.mk (fun (c : Nat) (A : Option Addr) (W : World) (hW : Kd.C k35 W A LL.length LL) (hc : LL.length ≤ c) => mount_Tight.calls (n : Int) A c LL _ 0 W hW hc (congrArg some htr))
  have HFA := Aside0.mk (fun (c : Nat) (A : Option Addr) (W : World) (hW : Kd.C k35 W A LL.length LL) (hc : LL.length ≤ c) => mount_Far.calls (n : Int) A c LL (a : Int) _ 0 W hW hc (congrArg some (ends_ok true h0 ha)))
  have HNE := Aside0.mk (fun (c : Nat) (A : Option Addr) (W : World) (hW : Kd.C k35 W A LL.length LL) (hc : LL.length ≤ c) => mount_Near.calls (n : Int) A c LL (a : Int) _ 0 W hW hc (congrArg some (ends_ok false h0 ha)))
  clear htr h0
  generalize (tightOf (n : Int) LL).1 = T at HT1 HFA HNE htog
  have HTG := Aside0.mk htog
  have HFX := Aside0.mk (htog.fits_calls true ha)
  have HFY := Aside0.mk (htog.fits_calls false ha)
  have HXL := Aside0.mk (endsL_len true n T a)
  have HYL := Aside0.mk (endsL_len false n T a)
  have HXG := Aside0.mk (endsL_get true n T a)
  have HYG := Aside0.mk (endsL_get false n T a)
  clear htog
  generalize endsL true n T a = X at HFA HFX HXG HXL
  generalize endsL false n T a = Y at HNE HFY HYG HYL
  go_enter Try.func8, Try.ntmps8
  go_wp2_with (first
    | (go_at_call 48; refine (HTO.out w HR0.out).mono ?_; rintro e w0 ⟨rfl, hd⟩; have HB0 := Aside0.mk hd; clear hd HTO)
    | (go_at_call 19; refine (thermionkit_NewDice.calls A0 c0 l0 s0 w w0 HB0.out HR0.out hc0 HND.out).mono ?_; rintro e w1 ⟨g, rfl, hI1, hB1, hB1b⟩; have HI1 := Aside0.mk hI1; have HB1 := Aside0.mk hB1; clear hI1 hB1 hB1b HND)
    | (go_at_call 20; refine (thermionkit_ChainOf.calls g s0 9 6 n LL s1 w w1 HI1.out HB1.out HCO.out).mono ?_; rintro e w2 ⟨vL, rfl, hR2, hI2, hB2, hK2⟩; obtain ⟨AL, nL, rfl⟩ := Kd.R_slice hR2; have HR2 := Aside0.mk hR2; have HB2 := Aside0.mk hB2; have HN2 := Aside0.mk (Mem.start w2); clear hR2 hI2 hB2 hK2 HCO HI1)
    | ((with_reducible refine gate_dst (N := 5) rfl ?_); refine ev_new HN2.out rfl 27 rfl info27 ?_; intro g8 w3 hm3 hq1; clear hq1; have HN3 := Aside0.mk hm3; clear hm3 HN2)
    | (refine ev_store HN3.out rfl 27 (.tmp 5) (.tmp 23) rfl rfl (cs := #[.int .i64 n, .slice AL LL.length nL]) rfl size27 rfl rfl (by simp [Value.oneCell']) ?_; intro w4 hm4 hq1; clear hq1; have HN4 := Aside0.mk hm4; clear hm4 HN3; have HC4 := Aside0.mk (Kd.R_reads' (Kd.R_below HR2.out HN4.out.below)).2; clear HR2; have cP : w4.cell? ⟨g8, 0, none⟩ = some (.int .i64 n) := (blk_cell HN4.out.head 0).trans rfl)
    | (go_at_call 22; refine (thermionkit_Mod.calls a1 n a _ HMO.out).mono ?_; rintro e w5 ⟨rfl, hd⟩; have HN5 := Aside0.mk (HN4.out.step hd.below); have HC5 := Aside0.mk (And.intro HC4.out.1 (Kd.C_below HC4.out.2 hd.below)); clear hd HN4 HC4 cP)
    | ((with_reducible refine gate_dst (N := 29) rfl ?_); refine ev_load HN5.out.head rfl 27 (.tmp 5) rfl rfl _ Try.underlying27 rfl size27 rfl ?_)
    | (go_at_call 24; refine (HT1.out _ _ _ HC5.out.2 HC5.out.1).mono ?_; rintro e w6 ⟨v5, rfl, hS, hd⟩; have HN6 := Aside0.mk (HN5.out.step hd); have HC6 := Aside0.mk (And.intro HC5.out.1 (Kd.C_below HC5.out.2 hd)); obtain ⟨AT, nT, eT, hT6, hCT6⟩ := Kd.S_reads hS; rw [rowsOf_len] at eT hT6; subst eT; have HCT6 := Aside0.mk hCT6; clear hS hd hCT6 hT6 HT1 HN5 HC5)
    | ((with_reducible refine gate_dst (N := 52) rfl ?_); refine ev_load HN6.out.head rfl 27 (.tmp 5) rfl rfl _ Try.underlying27 rfl size27 rfl ?_)
    | (go_at_call 49; refine (HFA.out _ _ _ HC6.out.2 HC6.out.1).mono ?_; rintro e w7 ⟨v7, rfl, hS, hd⟩; have HN7 := Aside0.mk (HN6.out.step hd); have HC7 := Aside0.mk (And.intro HC6.out.1 (Kd.C_below HC6.out.2 hd)); have HCT7 := Aside0.mk (Kd.C_below HCT6.out hd); obtain ⟨AX, nX, eX, hX7, hCX7⟩ := Kd.R_reads hS; rw [HXL.out] at eX hX7 hCX7; subst eX; have HCX7 := Aside0.mk (And.intro hX7 hCX7); clear hS hd hX7 hCX7 HFA HN6 HC6 HCT6)
    | ((with_reducible refine gate_dst (N := 58) rfl ?_); refine ev_load HN7.out.head rfl 27 (.tmp 5) rfl rfl _ Try.underlying27 rfl size27 rfl ?_)
    | (go_at_call 50; refine (HNE.out _ _ _ HC7.out.2 HC7.out.1).mono ?_; rintro e w8 ⟨v8, rfl, hS, hd⟩; have HN8 := Aside0.mk (HN7.out.step hd); have HC8 := Aside0.mk (And.intro HC7.out.1 (Kd.C_below HC7.out.2 hd)); have HCT8 := Aside0.mk (Kd.C_below HCT7.out hd); have HCX8 := Aside0.mk (And.intro HCX7.out.1 (Kd.C_below HCX7.out.2 hd)); obtain ⟨AY, nY, eY, hY8, hCY8⟩ := Kd.R_reads hS; rw [HYL.out] at eY hY8 hCY8; subst eY; have HCY8 := Aside0.mk (And.intro hY8 hCY8); have cQ : w8.cell? ⟨g8, 0, none⟩ = some (.int .i64 n) := (blk_cell HN8.out.head 0).trans rfl; have cQ1 : w8.cell? ⟨g8, 1, none⟩ = some (.slice AL LL.length nL) := (blk_cell HN8.out.head 1).trans rfl; clear hS hd hY8 hCY8 HNE HN7 HC7 HCT7 HCX7)
    | (go_at_call 51; refine (HFX.out AL AX nL nX _ HC8.out.2 HC8.out.1 HCX8.out.2 HCX8.out.1).mono ?_; rintro e w9 ⟨rfl, hd⟩; have HN9 := Aside0.mk (HN8.out.step hd); have HC9 := Aside0.mk (And.intro HC8.out.1 (Kd.C_below HC8.out.2 hd)); have HCT9 := Aside0.mk (Kd.C_below HCT8.out hd); have HCX9 := Aside0.mk (Kd.C_below HCX8.out.2 hd); have HCY9 := Aside0.mk (And.intro HCY8.out.1 (Kd.C_below HCY8.out.2 hd)); have cR : w9.cell? ⟨g8, 0, none⟩ = some (.int .i64 n) := (blk_cell HN9.out.head 0).trans rfl; have cR1 : w9.cell? ⟨g8, 1, none⟩ = some (.slice AL LL.length nL) := (blk_cell HN9.out.head 1).trans rfl; clear hd HN8 HC8 HCT8 HCX8 HCY8 HFX cQ cQ1)
    | (go_at_call 51; refine (HFY.out AL AY nL nY _ HC9.out.2 HC9.out.1 HCY9.out.2 HCY9.out.1).mono ?_; rintro e wA ⟨rfl, hd⟩; have HNA := Aside0.mk (HN9.out.step hd); have HCTA := Aside0.mk (Kd.C_below HCT9.out hd); have HCXA := Aside0.mk (Kd.C_below HCX9.out hd); have HCXL : Aside0 (Kd.C (Kd.int .i64) wA AX X.length X) := ⟨by rw [HXL.out]; exact HCXA.out⟩; have HCYA := Aside0.mk (Kd.C_below HCY9.out.2 hd); have HCYL : Aside0 (Kd.C (Kd.int .i64) wA AY Y.length Y) := ⟨by rw [HYL.out]; exact HCYA.out⟩; have cS : wA.cell? ⟨g8, 0, none⟩ = some (.int .i64 n) := (blk_cell HNA.out.head 0).trans rfl; clear hd HN9 HC9 HCT9 HCX9 HCY9 HFY cR cR1))
  clear cS
  go_loopg [14] n (fun k v14 w' => ∃ (i : Nat), v14 = .int .i64 i ∧ Aside0 (i + k = n) ∧ Aside0 (Below wA.heap.size wA w'))
  case atStart => exact ⟨0, rfl, ⟨by omega⟩, ⟨Below.refl _ _⟩⟩
  case round =>
    obtain ⟨i, rfl, HK, HBL⟩ := hrel
    have cP : wr.cell? ⟨g8, 0, none⟩ = some (.int .i64 n) := (blk_cell (HNA.out.step HBL.out).head 0).trans rfl
    have j1 : (0 : Int) ≤ (a : Int) := by omega
    have j2 : (a : Int) < (n : Int) := by omega
    by_cases hi : i < n
    · have hi2 : decide ((i : Int) < (n : Int)) = true := by simp; omega
      obtain ⟨ad, AI, cI, eI, xI, hcI, hCI⟩ := at_L6 (Kd.C_below HCTA.out HBL.out) (i : Int) (by omega) (by rw [rowsOf_len]; omega)
      obtain ⟨ad', AA, cA, eA, xA, hcA, hCA⟩ := at_L6 (Kd.C_below HCTA.out HBL.out) (a : Int) (by omega) (by rw [rowsOf_len]; omega)
      obtain rfl : ad = ad' := by rw [eI] at eA; exact Option.some.inj eA
      rw [rowsOf_row n T i hi] at xI hcI hCI
      rw [rowsOf_row n T a ha] at xA hcA hCA
      simp only [List.length_map, List.length_range, Int.toNat_natCast] at xI xA hCI hCA
      obtain ⟨aa, eaA, y1, y2⟩ := at_T32 hCA (i : Int) (by omega) (by omega)
      rw [row_get n T a i hi] at y1 y2
      simp only [Int.toNat_natCast] at y1 y2
      obtain ⟨ax, eX, x1⟩ := cell_int (Kd.C_below HCXL.out HBL.out) i (by rw [HXL.out]; exact hi)
      obtain ⟨ay, eY, x2⟩ := cell_int (Kd.C_below HCYL.out HBL.out) i (by rw [HYL.out]; exact hi)
      rw [HXG.out i hi] at x1
      rw [HYG.out i hi] at x2
      have z1 : endOf true (spanOf T a i) = (spanOf T a i).f1 := rfl
      have z2 : endOf false (spanOf T a i) = (spanOf T a i).f0 := rfl
      have HKX := Aside0.mk (fun (k : Nat) (hk : k < n) => HTG.out.keeps true ha hi hk)
      have HKY := Aside0.mk (fun (k : Nat) (hk : k < n) => HTG.out.keeps false ha hi hk)
      rw [z1] at x1 HKX
      rw [z2] at x2 HKY
      clear z1 z2
      generalize hxi : (spanOf T a i).f1 = xi at y2 x1 HKX
      generalize hyi : (spanOf T a i).f0 = yi at y1 x2 HKY
      have HXI := Aside0.mk hxi
      have HYI := Aside0.mk hyi
      cases eI
      cases eX
      cases eY
      subst eaA
      clear hcI hcA hCI hCA eA hxi hyi
      have i1 : (0 : Int) ≤ (i : Int) := by omega
      have i2 : (i : Int) < (n : Int) := by omega
      have e0 : ((n : Int) != (n : Int)) = false := by simp
      go_upto_region 16 with (fail)
      go_quiet (fail)
      have HBQ : Aside0 (Below wA.heap.size wA (wr.drewN nq)) := ⟨pw_below_drewN HBL.out _⟩
      go_wp2_with fail
      clear cP xI xA y1 y2 x1 x2 HBL
      go_loopg [15] n (fun k v15 w' => ∃ (j : Nat), v15 = .int .i64 j ∧ Aside0 (j + k = n) ∧ Aside0 (Below wA.heap.size wA w'))
      case atStart => exact ⟨0, rfl, ⟨by omega⟩, HBQ⟩
      case round =>
        clear HBQ
        obtain ⟨j, rfl, HK2, HBJ⟩ := hrel
        have cP : wr.cell? ⟨g8, 0, none⟩ = some (.int .i64 n) := (blk_cell (HNA.out.step HBJ.out).head 0).trans rfl
        by_cases hj : j < n
        · have hj2 : decide ((j : Int) < (n : Int)) = true := by simp; omega
          obtain ⟨ax2, eX2, x1⟩ := cell_int (Kd.C_below HCXL.out HBJ.out) i (by rw [HXL.out]; exact hi)
          obtain ⟨ax3, eX3, x2⟩ := cell_int (Kd.C_below HCXL.out HBJ.out) j (by rw [HXL.out]; exact hj)
          obtain rfl : ax = ax2 := Option.some.inj eX2
          obtain rfl : ax = ax3 := Option.some.inj eX3
          rw [HXG.out i hi] at x1
          rw [HXG.out j hj] at x2
          rw [show endOf true (spanOf T a i) = (spanOf T a i).f1 from rfl, HXI.out] at x1
          obtain ⟨k1, k2, k3⟩ := HKX.out j hj
          obtain ⟨k4, k5, k6⟩ := HKY.out j hj
          generalize hxj : endOf true (spanOf T a j) = xj at x2 k1 k2 k3
          generalize hyj : endOf false (spanOf T a j) = yj at k4 k5 k6
          have HYJ := Aside0.mk hyj
          clear hxj hyj eX2 eX3
          have i3 : (0 : Int) ≤ (j : Int) := by omega
          have i4 : (j : Int) < (n : Int) := by omega
          go_upto_region 21 with (fail)
          go_quiet (fail)
          have HBQ1 : Aside0 (Below wA.heap.size wA (wr.drewN nq)) := ⟨pw_below_drewN HBJ.out _⟩
          clear cP x1 x2 HBJ
          generalize wr.drewN nq = wq at HBQ1 ⊢
          obtain ⟨ad3, AI, cI, eI, xI, hcI, hCI⟩ := at_L6 (Kd.C_below HCTA.out HBQ1.out) (i : Int) (by omega) (by rw [rowsOf_len]; omega)
          obtain rfl : ad = ad3 := Option.some.inj eI
          rw [rowsOf_row n T i hi] at xI hcI hCI
          simp only [List.length_map, List.length_range, Int.toNat_natCast] at xI hCI
          obtain ⟨ai, eaI, y1, y2⟩ := at_T32 hCI (j : Int) (by omega) (by omega)
          rw [row_get n T i j hj] at y1 y2
          simp only [Int.toNat_natCast] at y1 y2
          generalize hlo : (spanOf T i j).f0 = lo at y1 k2 k5
          generalize hhi : (spanOf T i j).f1 = up at y2 k3 k6
          have HLO := Aside0.mk hlo
          have HHI := Aside0.mk hhi
          subst eaI
          clear hcI hCI eI hlo hhi
          obtain ⟨ay2, eY2, x1⟩ := cell_int (Kd.C_below HCYL.out HBQ1.out) i (by rw [HYL.out]; exact hi)
          obtain ⟨ay3, eY3, x2⟩ := cell_int (Kd.C_below HCYL.out HBQ1.out) j (by rw [HYL.out]; exact hj)
          obtain rfl : ay = ay2 := Option.some.inj eY2
          obtain rfl : ay = ay3 := Option.some.inj eY3
          rw [HYG.out i hi] at x1
          rw [HYG.out j hj] at x2
          rw [show endOf false (spanOf T a i) = (spanOf T a i).f0 from rfl, HYI.out] at x1
          rw [HYJ.out] at x2
          clear eY2 eY3
          go_upto_region 24 with (fail)
          clear xI y1 y2
          go_quiet (fail)
          have HBQ2 : Aside0 (Below wA.heap.size wA (wq.drewN nq)) := ⟨pw_below_drewN HBQ1.out _⟩
          clear x1 x2 HBQ1 k1 k2 k3
          generalize wq.drewN nq = wp at HBQ2 ⊢
          obtain ⟨ad4, AI, cI, eI, xI, hcI, hCI⟩ := at_L6 (Kd.C_below HCTA.out HBQ2.out) (i : Int) (by omega) (by rw [rowsOf_len]; omega)
          obtain rfl : ad = ad4 := Option.some.inj eI
          rw [rowsOf_row n T i hi] at xI hcI hCI
          simp only [List.length_map, List.length_range, Int.toNat_natCast] at xI hCI
          obtain ⟨ai, eaI, y1, y2⟩ := at_T32 hCI (j : Int) (by omega) (by omega)
          rw [row_get n T i j hj] at y1 y2
          simp only [Int.toNat_natCast] at y1 y2
          rw [HLO.out] at y1
          rw [HHI.out] at y2
          subst eaI
          clear hcI hCI eI
          go_wp2_with fail
          go_roundg (n - (j + 1))
          case measure => have := HK2.out; omega
          case rel => exact ⟨j + 1, by go_num, ⟨by omega⟩, HBQ2⟩
        · have hj2 : ¬ (j : Int) < (n : Int) := by omega
          go_wp2_with fail
          go_roundg (n - (i + 1))
          case measure => have := HK.out; omega
          case rel => exact ⟨i + 1, by go_num, ⟨by omega⟩, HBJ⟩
    · have hi2 : ¬ (i : Int) < (n : Int) := by omega
      obtain ⟨ax, eX, x1⟩ := cell_int (Kd.C_below HCXL.out HBL.out) a (by rw [HXL.out]; exact ha)
      obtain ⟨ay, eY, x2⟩ := cell_int (Kd.C_below HCYL.out HBL.out) a (by rw [HYL.out]; exact ha)
      rw [HXG.out a ha, HTG.out.zero true ha] at x1
      rw [HYG.out a ha, HTG.out.zero false ha] at x2
      cases eX
      cases eY
      go_wp2_with (first
        | (go_at_call 21; refine (thermionlaw04_awake.calls 8 true _ HAW.out).mono ?_; rintro e wE ⟨rfl, hd⟩; have HBE := Aside0.mk (below_step HBL.out hd); clear hd))
      go_ret
      exact ⟨rfl, below_step HB2.out (below_step HNA.out.below HBE.out)⟩
end Go.Proofs.Ytbcfphoheijmdaa.Print
end

section
-- PRINTED BY print.sh 35421559b90ae4d0a3588c463048766b98c2df88dd9212a6774a882060cdf62d: not written by this session
-- PRINTED WORDS (module Derived/Print/Sized.lean): go-gate-2's, for the rows of laws over slices: an AI agent of Go's test side, Tue Nov 17 2026; no person has read it. Lean checks it.
namespace Go.Proofs.YtbcfphoheijmdaaW.PrintWords
open Go.ChangeShapes Go.WideShapes
/-- A row's slice of whole numbers is no longer than its weight allows. -/
theorem sized_ints {H : Type} {enc : TypeId × Value → H} {P : Program} {W : World} {base : Nat} {spare : Nat → Bool} {held : Bool} {t e : TypeId} {k : IntKind} {a : Option Addr} {len cap : Nat} {d : DataW H} {ps : List MemPlace} {ts : List TypeId} {ds : List (DataW H)} {j : Nat}
    (hsz : (DataW.weightsEach P ts ds).all (· ≤ reachBytes) = true) (ht : ts[j]? = some t) (hd : ds[j]? = some d) (hu : P.underlying t = some (.slice e)) (he : P.underlying e = some (.int k)) (hc : P.cellsOf e = 1) {B : Nat} (hB : P.bytesOf e = B)
    (h : DataW.Trod enc P W base spare held t (.slice a len cap) d ps) : len * B ≤ 140737488351232 := by
  obtain ⟨fuel, hf⟩ := h
  rcases open_ints hu he hc hf with ⟨hcs, _⟩ | ⟨x, l, c, zs, hcs, _, hl, _, hz, hx, _, _⟩
  · simp [Value.cells] at hcs
    obtain ⟨rfl, rfl, rfl⟩ := hcs
    simp
  · simp [Value.cells] at hcs
    obtain ⟨rfl, rfl, rfl⟩ := hcs
    obtain ⟨hx, _⟩ := Prod.mk.inj hx
    subst hx
    have z := sized_slice hsz ht hd hu
    rw [hB] at z
    have hl2 : len ≤ zs.length := by
      rw [hz]
      split
      · exact hl
      · exact Nat.le_refl _
    have h1 : (lits (H := H) k (zs.take len)).length + (lits (H := H) k (zs.drop len)).length = zs.length := by
      simp [lits]
      omega
    rw [h1] at z
    exact Nat.le_trans (Nat.mul_le_mul_right _ hl2) z
end Go.Proofs.YtbcfphoheijmdaaW.PrintWords
end
