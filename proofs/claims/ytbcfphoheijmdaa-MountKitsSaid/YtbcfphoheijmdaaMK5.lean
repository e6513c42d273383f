/- Part 5 of the texts of a claim about Ytbcfphoheijmdaa, put together by a program of this work: what the Go functions do, and that their calls do so. -/
import Derived.Test.YtbcfphoheijmdaaMK4
import Derived.Test.YtbcfphoheijmdaaMK2
import Derived.KernelRfl
import Derived.Test.YtbcfphoheijmdaaMK3
section
/- tight: the table of a chain, and the error, as the Go function gives them. -/
namespace Go.Proofs.Ytbcfphoheijmdaa.Print
open Go.RowKit Go.Proofs.YtbcfphoheijmdaaW.PrintWords Go.Proofs.YtbcfphoheijmdaaW.PrintLast Go.Proofs.YtbcfphoheijmdaaW.PrintMore Go.Proofs.Ytbcfphoheijmdaa.H
attribute [local go_sem] max2_int min2_int max_two min_two max_three min_three max_four min_four
set_option linter.unusedVariables false
set_option linter.unusedSimpArgs false

/-- Two results, of which the first is a whole array in memory. -/
theorem results_row_tmp {P : Program} {fn : Func} {p q : Tmp} {ty : TypeId} (h : fn.results = #[.cell p ty, .tmp q]) (tmps : Array Value) (w : World) (g : Nat) (t : TypeId) (cs : Array Value) (fr : Nat × Nat) (d : TypeDesc)
    (hp : tmps.getD p undef = .pointer (some ⟨g, 0, none⟩)) (hg : w.heap[g]? = some (.cells cs t fr))
    (hu : P.underlying ty = some d) (hd : (match d with | .struct _ | .array _ _ => true | _ => false) = true) (hi : (P.info? ty).map (·.size) = some cs.size) :
    (results fn tmps).run P w = .ok (.tuple #[.agg cs, tmps.getD q undef]) w := by
  have hp' : tmps[p]?.getD undef = .pointer (some ⟨g, 0, none⟩) := by simpa using hp
  simp [results, h, hp', asAddr, run_loadVar_row w g t ty cs fr d hg hu hd hi]

theorem chainErr_ok {P : Int} {L : List S35} (h : chainErr P L = 0) : 1 ≤ P ∧ P ≤ 24 ∧ L.length ≤ 80 ∧ ∀ l, l ∈ L → linkErr P l = 0 := by
  unfold chainErr at h
  split at h
  · omega
  · split at h
    · omega
    · refine ⟨by omega, by omega, by omega, ?_⟩
      split at h
      · rename_i l hl
        have := List.find?_some hl
        simp [h] at this
      · rename_i hl
        intro l hm
        have := List.find?_eq_none.1 hl l hm
        simpa using this
theorem negDiag_true {n a : Nat} {T : List Int} (ha : a < n) (h : T.getD (a * 24 + a) 0 < 0) : negDiag n T = true := by
  unfold negDiag
  rw [List.any_eq_true]
  exact ⟨a, by simpa using ha, by simpa using h⟩
theorem negDiag_false {n : Nat} {T : List Int} (h : ∀ a, a < n → ¬ T.getD (a * 24 + a) 0 < 0) : negDiag n T = false := by
  unfold negDiag
  rw [List.any_eq_false]
  intro a ha
  simpa using h a (by simpa using ha)
theorem floyd_neg {n k m : Nat} {T : List Int} (h : negDiag n (overTab T m n) = true) : floyd n (k + 1) m T = (overTab T m n, 12) := by rw [floyd, if_pos h]
theorem floyd_next {n k m : Nat} {T : List Int} (h : negDiag n (overTab T m n) = false) : floyd n (k + 1) m T = floyd n k (m + 1) (overTab T m n) := by rw [floyd, if_neg (by rw [h]; simp)]
/-- How small the numbers of the table stay. -/
def bnd (m : Nat) : Int := 1000000 * 2 ^ m
theorem bnd_succ (m : Nat) : bnd (m + 1) = 2 * bnd m := by unfold bnd; rw [Int.pow_succ]; omega
theorem bnd_le (m : Nat) (h : m ≤ 24) : 0 ≤ bnd m ∧ bnd m ≤ 16777216000000 := by
  have : ∀ k : Nat, k ≤ 24 → bnd (24 - k) ≤ 16777216000000 ∧ 0 ≤ bnd (24 - k) := by
    intro k
    induction k with
    | zero => intro _; unfold bnd; decide
    | succ k ih =>
      intro hk
      have := ih (by omega)
      have e := bnd_succ (24 - (k + 1))
      rw [show 24 - (k + 1) + 1 = 24 - k by omega] at e
      omega
  have := this (24 - m) (by omega)
  rw [show 24 - (24 - m) = m by omega] at this
  exact ⟨this.2, this.1⟩
theorem Small.wide {B : Int} {T : List Int} (h : Small B T) (hB : B ≤ 16777216000000) : ∀ i, -4611686018427387904 ≤ T.getD i 0 ∧ T.getD i 0 ≤ 4611686018427387904 := fun i => by have := h i; omega
set_option maxHeartbeats 3200000 in
set_option maxRecDepth 100000 in
theorem tight_calls (P : Int) (A : Option Addr) (c : Nat) (L : List S35) (w : World) (hr : Kd.C k35 w A L.length L) (hc : L.length ≤ c) :
    Calls Try.prog 89 #[.agg #[.int .i64 P, .slice A L.length c]] w fun e w' => e = .returned (.tuple #[.agg (nums .i64 (tightOf P L).1).toArray, .int .i64 (tightOf P L).2]) ∧ Below w.heap.size w w' := by
  have HR := Aside0.mk hr
  have HM := Aside0.mk (Mem.start w)
  clear hr
  have hu27 := Try.underlying27
  have HCE := Aside0.mk (show mount_CheckChain.f P L = some (chainErr P L) from rfl)
  by_cases t1 : chainErr P L = 0
  rotate_left
  · have HF : Aside0 (tightOf P L = (List.replicate 576 0, chainErr P L)) := ⟨if_neg t1⟩
    rw [HF.out]
    generalize hE : chainErr P L = E at t1 HCE
    clear hE
    have t2 : (E != 0) = true := by simpa using t1
    generalize hZ : (nums .i64 (List.replicate 576 0)).toArray = Z
    have HZ := Aside0.mk hZ
    clear hZ t1
    go_enter Try.func89, Try.ntmps89
    go_wp2_with (first
      | ((with_reducible refine gate_dst (N := 1) rfl ?_); refine ev_box HM.out rfl 27 (.tmp 0) rfl (cs := #[.int .i64 P, .slice A L.length c]) rfl ?_; intro g1 w1 hm1 hq1; clear hq1; have HM1 := Aside0.mk hm1; clear hm1 HM)
      | ((with_reducible refine gate_dst (N := 2) rfl ?_); refine ev_new HM1.out rfl 125 rfl info125 ?_; intro g2 w2 hm2 hq1; clear hq1; have HM2 := Aside0.mk hm2; clear hm2 HM1)
      | ((with_reducible refine gate_dst (N := 4) rfl ?_); refine ev_new HM2.out rfl 125 rfl info125 ?_; intro g3 w3 hm3 hq1; clear hq1; have HM3 := Aside0.mk hm3; clear hm3 HM2; rw [zero_nums, HZ.out] at HM3)
      | ((with_reducible refine gate_dst (N := 12) rfl ?_); refine ev_load HM3.out.third rfl 27 (.tmp 1) rfl rfl _ Try.underlying27 rfl (n := 2) (by kernel_rfl) rfl ?_)
      | (go_at_call 53; refine (mount_CheckChain.calls _ _ _ _ _ _ (Kd.C_below HR.out HM3.out.below) hc HCE.out).mono ?_; rintro e w' ⟨rfl, hd⟩; have HM4 := Aside0.mk (HM3.out.step hd); clear hd HM3)
      | ((with_reducible refine gate_dst (N := 16) rfl ?_); refine ev_load HM4.out.head rfl 125 (.tmp 4) rfl rfl _ Try.underlying125 rfl size125 (by rw [← HZ.out]; exact size_nums (by simp)) ?_)
      | (refine ev_store HM4.out.swap rfl 125 (.tmp 2) (.tmp 16) rfl rfl rfl size125 (by rw [← HZ.out]; exact size_nums (by simp)) (by rw [← HZ.out]; exact size_nums (by simp)) (by rw [← HZ.out]; exact one_nums _) ?_; intro w5 hm5 hq1; clear hq1; have HM5 := Aside0.mk hm5; clear hm5 HM4))
    refine bodyPost_ret (results_row_tmp rfl _ _ _ _ _ _ _ rfl HM5.out.head Try.underlying125 rfl (by rw [size125, ← HZ.out, size_nums (n := 576) (by simp)])) rfl ⟨rfl, HM5.out.below⟩
  obtain ⟨n, rfl⟩ : ∃ n : Nat, P = n := ⟨P.toNat, by have := chainErr_ok t1; omega⟩
  have HOK := Aside0.mk (chainErr_ok t1)
  have hn1 : 1 ≤ n := by have := HOK.out.1; omega
  have hn2 : n ≤ 24 := by have := HOK.out.2.1; omega
  have hL : L.length ≤ 80 := HOK.out.2.2.1
  have HF : Aside0 (tightOf n L = floyd n n 0 (initTab L)) := ⟨if_pos t1⟩
  rw [t1] at HCE
  clear t1
  go_enter Try.func89, Try.ntmps89
  go_wp2_with (first
    | ((with_reducible refine gate_dst (N := 1) rfl ?_); refine ev_box HM.out rfl 27 (.tmp 0) rfl (cs := #[.int .i64 (n : Int), .slice A L.length c]) rfl ?_; intro g1 w1 hm1 hq1; clear hq1; have HM1 := Aside0.mk hm1; clear hm1 HM)
    | ((with_reducible refine gate_dst (N := 2) rfl ?_); refine ev_new HM1.out rfl 125 rfl info125 ?_; intro g2 w2 hm2 hq1; clear hq1; have HM2 := Aside0.mk hm2; clear hm2 HM1)
    | ((with_reducible refine gate_dst (N := 4) rfl ?_); refine ev_new HM2.out rfl 125 rfl info125 ?_; intro g3 w3 hm3 hq1; clear hq1; have HM3 := Aside0.mk hm3; clear hm3 HM2)
    | ((with_reducible refine gate_dst (N := 12) rfl ?_); refine ev_load HM3.out.third rfl 27 (.tmp 1) rfl rfl _ Try.underlying27 rfl (n := 2) (by kernel_rfl) rfl ?_)
    | (go_at_call 53; refine (mount_CheckChain.calls _ _ _ _ _ _ (Kd.C_below HR.out HM3.out.below) hc HCE.out).mono ?_; rintro e w' ⟨rfl, hd⟩; have HM4 := Aside0.mk (HM3.out.step hd); clear hd HM3))
  rw [zero_nums] at HM4
  -- the base
  go_loopg [18] 24 (fun k v18 w' => ∃ (a : Nat) (U : List Int), v18 = .int .i64 a ∧ Aside0 (a + k = 24) ∧ Aside0 (Is 576 U (fun i => if i < a * 24 then (if i / 24 = i % 24 then 0 else 1099511627776) else 0)) ∧ Aside0 (Mem w w' [(g3, (nums .i64 U).toArray, 125), (g2, (nums .i64 (List.replicate 576 0)).toArray, 125), (g1, #[.int .i64 (n : Int), .slice A L.length c], 27)]))
  case atStart => exact ⟨0, _, rfl, ⟨rfl⟩, ⟨(Is.zero 576).congr (fun j hj => (if_neg (by omega)).symm)⟩, HM4⟩
  case round =>
    clear HM4
    obtain ⟨a, U, rfl, HK, HU, HM⟩ := hrel
    by_cases ha : a < 24
    · go_wp2_with fail
      go_loopg [21] 24 (fun k v21 w' => ∃ (b : Nat) (U : List Int), v21 = .int .i64 b ∧ Aside0 (b + k = 24) ∧ Aside0 (Is 576 U (fun i => if i < a * 24 + b then (if i / 24 = i % 24 then 0 else 1099511627776) else 0)) ∧ Aside0 (Mem w w' [(g3, (nums .i64 U).toArray, 125), (g2, (nums .i64 (List.replicate 576 0)).toArray, 125), (g1, #[.int .i64 (n : Int), .slice A L.length c], 27)]))
      case atStart => exact ⟨0, U, rfl, ⟨by omega⟩, HU, HM⟩
      case round =>
        obtain ⟨b, V, rfl, HK2, HV, HN⟩ := hrel
        by_cases hb : b < 24
        · have c1 : wr.cell? ⟨g3, a * 24 + b, none⟩ = some (.int .i64 (V.getD (a * 24 + b) 0)) := by rw [HN.out.cell, get_nums _ _ (by rw [HV.out.1]; omega)]
          have f1 : wr.frozen? ⟨g3, a * 24 + b, none⟩ = false := HN.out.frozen _
          generalize hX : V.getD (a * 24 + b) 0 = X at c1
          have HX := Aside0.mk hX
          clear hX
          by_cases hab : a = b
          · have hab1 : ((a : Int) != (b : Int)) = false := by simp; omega
            have HAB := Aside0.mk hab
            clear hab
            go_wp2_with fail
            go_roundg (24 - (b + 1))
            case measure => have := HK2.out; omega
            case rel => exact ⟨b + 1, V, by go_num, ⟨by omega⟩, ⟨HV.out.congr (fun j hj => by
              by_cases q : j = a * 24 + b
              · subst q
                rw [if_neg (by omega), if_pos (by omega), if_pos (by have := HAB.out; omega)]
              · exact if_step q)⟩, HN⟩
          · have hab1 : ((a : Int) != (b : Int)) = true := by simp; omega
            have HAB := Aside0.mk hab
            clear hab
            go_wp2_with fail
            go_roundg (24 - (b + 1))
            case measure => have := HK2.out; omega
            case rel => exact ⟨b + 1, _, by go_num, ⟨by omega⟩, ⟨HV.out.set (by omega) ((if_pos (by omega)).trans (if_neg (by have := HAB.out; omega))) (fun j hj q => if_step q)⟩, ⟨HN.out.put _ _ (set_nums _ _ _)⟩⟩
        · go_wp2_with fail
          go_roundg (24 - (a + 1))
          case measure => have := HK.out; omega
          case rel => exact ⟨a + 1, V, by go_num, ⟨by omega⟩, ⟨HV.out.congr (fun j hj => by
            have := HK2.out
            by_cases q : j < a * 24 + b
            · rw [if_pos q, if_pos (show j < (a + 1) * 24 by omega)]
            · rw [if_neg q, if_neg (show ¬ j < (a + 1) * 24 by omega)])⟩, HN⟩
    · have HU2 : Aside0 (U = initTab []) := ⟨by rw [(HU.out.congr (g := fun i => if i / 24 = i % 24 then 0 else 1099511627776) (fun j hj => if_pos (by omega))).list]; rfl⟩
      have c1 : wr.cell? ⟨g1, 1, none⟩ = some (.slice A L.length c) := (blk_cell HM.out.third 1).trans rfl
      go_wp2_with fail
      clear c1
      -- the links
      go_loopg [36] L.length (fun k v36 w' => ∃ (i : Nat) (U : List Int), v36 = .int .i64 i ∧ Aside0 (i + k = L.length) ∧ Aside0 (U = initTab (L.take i)) ∧ Aside0 (Mem w w' [(g3, (nums .i64 U).toArray, 125), (g2, (nums .i64 (List.replicate 576 0)).toArray, 125), (g1, #[.int .i64 (n : Int), .slice A L.length c], 27)]))
      case atStart => exact ⟨0, U, rfl, ⟨by omega⟩, HU2, HM⟩
      case round =>
        obtain ⟨k, T, rfl, HK2, HT, HN⟩ := hrel
        by_cases hk : k < L.length
        · obtain ⟨ad, e0, x0, x1, x2, x3⟩ := at35 (Kd.C_below HR.out HN.out.below) k hk
          have HOKk := HOK.out.2.2.2 L[k] (List.getElem_mem hk)
          have HTn := Aside0.mk (show initTab (L.take (k + 1)) = linkStep T L[k] by rw [take_at _ _ hk, initTab_snoc, HT.out])
          generalize hX : L[k] = X at x0 x1 x2 x3 HOKk HTn
          clear hX
          cases e0
          have hk1 : (0 : Int) ≤ (k : Int) := by omega
          have hk2 : (k : Int) < (L.length : Int) := by omega
          obtain ⟨q1, q2, q3, q4, q5, q6, q7, q8⟩ := linkErr_ok HOKk
          clear HOKk
          go_wp2_with (first
            | ((with_reducible refine gate_dst (N := 9) rfl ?_); refine ev_new HN.out rfl 35 rfl info35 ?_; intro g4 w4 hm4 hq1; have HM5 := Aside0.mk hm4; clear hm4)
            | (refine ev_store HM5.out rfl 35 (.tmp 9) (.tmp 39) rfl rfl (cs := #[.int .i64 X.f0, .int .i64 X.f1, .int .i64 X.f2.f0, .int .i64 X.f2.f1]) rfl size35 rfl rfl (by simp [Value.oneCell']) ?_; intro w5 hm5 hq1; clear hq1; have HM6 := Aside0.mk hm5; clear hm5 HM5))
          have d0 : w5.cell? ⟨g4, 0, none⟩ = some (.int .i64 X.f0) := (HM6.out.cell 0).trans rfl
          have d1 : w5.cell? ⟨g4, 1, none⟩ = some (.int .i64 X.f1) := (HM6.out.cell 1).trans rfl
          have d2 : w5.cell? ⟨g4, 2, none⟩ = some (.int .i64 X.f2.f0) := (HM6.out.cell 2).trans rfl
          have d3 : w5.cell? ⟨g4, 3, none⟩ = some (.int .i64 X.f2.f1) := (HM6.out.cell 3).trans rfl
          obtain ⟨f, hf⟩ : ∃ f : Nat, X.f0 = f := ⟨X.f0.toNat, by omega⟩
          obtain ⟨t, ht⟩ : ∃ t : Nat, X.f1 = t := ⟨X.f1.toNat, by omega⟩
          generalize hlo : X.f2.f0 = lo at d2 q6 q7
          generalize hhi : X.f2.f1 = hi at d3 q6 q8
          have HLT := Aside0.mk (show T.length = 576 by rw [HT.out, initTab_length])
          have HTn2 : Aside0 (initTab (L.take (k + 1)) = (T.set (f * 24 + t) (mn (T.getD (f * 24 + t) 0) hi)).set (t * 24 + f) (mn ((T.set (f * 24 + t) (mn (T.getD (f * 24 + t) 0) hi)).getD (t * 24 + f) 0) (-lo))) := ⟨by rw [HTn.out]; unfold linkStep; simp only [hf, ht, hlo, hhi, Int.toNat_natCast]⟩
          have HCS : Aside0 (#[Value.int .i64 X.f0, .int .i64 X.f1, .int .i64 X.f2.f0, .int .i64 X.f2.f1] = #[Value.int .i64 (f : Int), .int .i64 (t : Int), .int .i64 lo, .int .i64 hi]) := ⟨by rw [hf, ht, hlo, hhi]⟩
          rw [HCS.out] at HM6
          rw [hf] at d0 q1 q2 q5
          rw [ht] at d1 q3 q4 q5
          clear HTn HCS x0 x1 x2 x3 hf ht hlo hhi
          have i1 : (0 : Int) ≤ (f : Int) := by omega
          have i2 : (f : Int) < 24 := by omega
          have i3 : (0 : Int) ≤ (t : Int) := by omega
          have i4 : (t : Int) < 24 := by omega
          have HNE := Aside0.mk q5
          clear q5 q1 q2 q3 q4
          have e1 : w5.cell? ⟨g3, f * 24 + t, none⟩ = some (.int .i64 (T.getD (f * 24 + t) 0)) := by rw [blk_cell HM6.out.second, get_nums _ _ (by rw [HLT.out]; omega)]
          have e2 : w5.frozen? ⟨g3, f * 24 + t, none⟩ = false := blk_frozen HM6.out.second _
          have HS1 := Aside0.mk (fun v => (HM6.out.swap.put (f * 24 + t) (.int .i64 v) (set_nums T (f * 24 + t) v)).swap.drew)
          generalize hY : T.getD (f * 24 + t) 0 = Y at e1 HTn2
          clear hY
          have HMN : Aside0 (mn Y hi = if hi < Y then hi else Y) := ⟨rfl⟩
          rw [HMN.out] at HTn2
          clear HMN
          have hnl : IntKind.i64.wrap (-lo) = -lo := IntWalk.i64_in _ (by omega)
          have HNL := Aside0.mk hnl
          clear hnl
          by_cases tm : hi < Y
          · rw [if_pos tm] at HTn2
            go_still_tail 17, (by kernel_rfl)
            go_wp2_with fail
            generalize hW : (w5.setCell ⟨g3, f * 24 + t, none⟩ (.int .i64 hi)).drew = W7
            have HM7 := HS1.out hi
            rw [hW] at HM7
            have hl7 : (T.set (f * 24 + t) hi).length = 576 := by rw [List.length_set]; exact HLT.out
            generalize T.set (f * 24 + t) hi = T1 at HM7 HTn2 hl7
            clear hW HS1 d0 d1 d2 d3 e1 e2 HM6
            have HM8 := Aside0.mk HM7
            have HL7 := Aside0.mk hl7
            clear HM7 hl7
            have d0 : W7.cell? ⟨g4, 0, none⟩ = some (.int .i64 (f : Int)) := (HM8.out.cell 0).trans rfl
            have d1 : W7.cell? ⟨g4, 1, none⟩ = some (.int .i64 (t : Int)) := (HM8.out.cell 1).trans rfl
            have d2 : W7.cell? ⟨g4, 2, none⟩ = some (.int .i64 lo) := (HM8.out.cell 2).trans rfl
            have e1 : W7.cell? ⟨g3, t * 24 + f, none⟩ = some (.int .i64 (T1.getD (t * 24 + f) 0)) := by rw [blk_cell HM8.out.second, get_nums _ _ (by rw [HL7.out]; omega)]
            have e2 : W7.frozen? ⟨g3, t * 24 + f, none⟩ = false := blk_frozen HM8.out.second _
            generalize hY2 : T1.getD (t * 24 + f) 0 = Y2 at e1 HTn2
            clear hY2
            have HMN : Aside0 (mn Y2 (-lo) = if -lo < Y2 then -lo else Y2) := ⟨rfl⟩
            rw [HMN.out] at HTn2
            clear HMN
            have HS2 := Aside0.mk (fun v => (HM8.out.swap.put (t * 24 + f) (.int .i64 v) (set_nums T1 (t * 24 + f) v)).swap.drop.drew)
            by_cases tm2 : -lo < Y2
            all_goals
              first | rw [if_pos tm2] at HTn2 | rw [if_neg tm2] at HTn2
              have hnl := HNL.out
              go_still_tail 18, (by kernel_rfl)
              clear hnl
              go_wp2_with fail
              go_roundg (L.length - (k + 1))
              case measure => have := HK2.out; omega
              case rel => exact ⟨k + 1, _, by go_num, ⟨by have := HK2.out; omega⟩, ⟨HTn2.out.symm⟩, ⟨HS2.out _⟩⟩
          · rw [if_neg tm] at HTn2
            go_still_tail 17, (by kernel_rfl)
            go_wp2_with fail
            generalize hW : (w5.setCell ⟨g3, f * 24 + t, none⟩ (.int .i64 Y)).drew = W7
            have HM7 := HS1.out Y
            rw [hW] at HM7
            have hl7 : (T.set (f * 24 + t) Y).length = 576 := by rw [List.length_set]; exact HLT.out
            generalize T.set (f * 24 + t) Y = T1 at HM7 HTn2 hl7
            clear hW HS1 d0 d1 d2 d3 e1 e2 HM6
            have HM8 := Aside0.mk HM7
            have HL7 := Aside0.mk hl7
            clear HM7 hl7
            have d0 : W7.cell? ⟨g4, 0, none⟩ = some (.int .i64 (f : Int)) := (HM8.out.cell 0).trans rfl
            have d1 : W7.cell? ⟨g4, 1, none⟩ = some (.int .i64 (t : Int)) := (HM8.out.cell 1).trans rfl
            have d2 : W7.cell? ⟨g4, 2, none⟩ = some (.int .i64 lo) := (HM8.out.cell 2).trans rfl
            have e1 : W7.cell? ⟨g3, t * 24 + f, none⟩ = some (.int .i64 (T1.getD (t * 24 + f) 0)) := by rw [blk_cell HM8.out.second, get_nums _ _ (by rw [HL7.out]; omega)]
            have e2 : W7.frozen? ⟨g3, t * 24 + f, none⟩ = false := blk_frozen HM8.out.second _
            generalize hY2 : T1.getD (t * 24 + f) 0 = Y2 at e1 HTn2
            clear hY2
            have HMN : Aside0 (mn Y2 (-lo) = if -lo < Y2 then -lo else Y2) := ⟨rfl⟩
            rw [HMN.out] at HTn2
            clear HMN
            have HS2 := Aside0.mk (fun v => (HM8.out.swap.put (t * 24 + f) (.int .i64 v) (set_nums T1 (t * 24 + f) v)).swap.drop.drew)
            by_cases tm2 : -lo < Y2
            all_goals
              first | rw [if_pos tm2] at HTn2 | rw [if_neg tm2] at HTn2
              have hnl := HNL.out
              go_still_tail 18, (by kernel_rfl)
              clear hnl
              go_wp2_with fail
              go_roundg (L.length - (k + 1))
              case measure => have := HK2.out; omega
              case rel => exact ⟨k + 1, _, by go_num, ⟨by have := HK2.out; omega⟩, ⟨HTn2.out.symm⟩, ⟨HS2.out _⟩⟩
        · have d0 : wr.cell? ⟨g1, 0, none⟩ = some (.int .i64 (n : Int)) := (blk_cell HN.out.third 0).trans rfl
          have HT2 : Aside0 (T = initTab L) := ⟨by rw [HT.out, List.take_of_length_le (by omega)]⟩
          have hp1 : (1 : Int) ≤ (n : Int) := by omega
          go_wp2_with fail
          clear d0
          -- the ways over ever more points
          go_loopg [78] n (fun k v78 w' => ∃ (m : Nat) (T : List Int), v78 = .int .i64 m ∧ Aside0 (m + k = n) ∧ Aside0 (T.length = 576 ∧ Small (bnd m) T ∧ floyd n (n - m) m T = floyd n n 0 (initTab L)) ∧ Aside0 (Mem w w' [(g3, (nums .i64 T).toArray, 125), (g2, (nums .i64 (List.replicate 576 0)).toArray, 125), (g1, #[.int .i64 (n : Int), .slice A L.length c], 27)]))
          case atStart => exact ⟨0, T, rfl, ⟨by omega⟩, ⟨by rw [HT2.out, initTab_length], by rw [HT2.out]; exact Small.init L HOK.out.2.2.2, by rw [HT2.out]; rfl⟩, HN⟩
          case round =>
            obtain ⟨m, T3, rfl, HK3, HT3, HN3⟩ := hrel
            by_cases hm : m < n
            · have hb3 := bnd_le m (by omega)
              have HOC := Aside0.mk (fun W => over_calls T3 m n HT3.out.1 (by omega) hn2 (HT3.out.2.1.wide (by omega)) W)
              have d0 : wr.cell? ⟨g1, 0, none⟩ = some (.int .i64 (n : Int)) := (blk_cell HN3.out.third 0).trans rfl
              go_wp2_with (first
                | ((with_reducible refine gate_dst (N := 81) rfl ?_); refine ev_load HN3.out.head rfl 125 (.tmp 4) rfl rfl _ Try.underlying125 rfl size125 (size_nums HT3.out.1) ?_)
                | (go_at_call 133; refine (HOC.out _).mono ?_; rintro e w6 ⟨U, hU, rfl, hd⟩; have HU5 := Aside0.mk hU; clear hU; have HM5 := Aside0.mk (HN3.out.step hd); clear hd)
                | (refine ev_store HM5.out rfl 125 (.tmp 4) (.tmp 85) rfl rfl rfl size125 (size_nums HT3.out.1) (size_nums HU5.out.1) (one_nums U) ?_; intro w7 hm7 hq1; clear hq1; have HM6 := Aside0.mk hm7; clear hm7 HM5; have d2 : w7.cell? ⟨g1, 0, none⟩ = some (.int .i64 (n : Int)) := (blk_cell HM6.out.third 0).trans rfl))
              have HUT := Aside0.mk (OvTo.tab HU5.out)
              have HUL := Aside0.mk HU5.out.1
              clear HU5 d0 d2
              go_loopg [88] n (fun k v88 w' => ∃ (a : Nat), v88 = .int .i64 a ∧ Aside0 (a + k = n) ∧ Aside0 (∀ x, x < a → ¬ U.getD (x * 24 + x) 0 < 0) ∧ Aside0 (Mem w w' [(g3, (nums .i64 U).toArray, 125), (g2, (nums .i64 (List.replicate 576 0)).toArray, 125), (g1, #[.int .i64 (n : Int), .slice A L.length c], 27)]))
              case atStart => exact ⟨0, rfl, ⟨by omega⟩, ⟨fun x hx => absurd hx (by omega)⟩, HM6⟩
              case round =>
                obtain ⟨a, rfl, HK4, HD, HN4⟩ := hrel
                by_cases ha : a < n
                · have e1 : wr.cell? ⟨g3, a * 24 + a, none⟩ = some (.int .i64 (U.getD (a * 24 + a) 0)) := by rw [HN4.out.cell, get_nums _ _ (by rw [HUL.out]; omega)]
                  generalize hV : U.getD (a * 24 + a) 0 = V at e1
                  have HV := Aside0.mk hV
                  clear hV
                  by_cases tv : V < 0
                  · have HFL : Aside0 (tightOf (n : Int) L = (U, 12)) := ⟨by
                      rw [HF.out, ← HT3.out.2.2, show n - m = (n - m - 1) + 1 by omega, floyd_neg (by rw [← HUT.out]; exact negDiag_true ha (by rw [HV.out]; exact tv)), ← HUT.out]⟩
                    go_wp2_with (first
                      | ((with_reducible refine gate_dst (N := 97) rfl ?_); refine ev_load HN4.out.head rfl 125 (.tmp 4) rfl rfl _ Try.underlying125 rfl size125 (size_nums HUL.out) ?_)
                      | (refine ev_store HN4.out.swap rfl 125 (.tmp 2) (.tmp 97) rfl rfl rfl size125 (size_nums (by simp)) (size_nums HUL.out) (one_nums U) ?_; intro w8 hm8 hq1; clear hq1; have HM8 := Aside0.mk hm8; clear hm8 HN4))
                    refine bodyPost_ret (results_row_tmp rfl _ _ _ _ _ _ _ rfl HM8.out.head Try.underlying125 rfl (by rw [size125, size_nums HUL.out])) rfl ⟨by rw [HFL.out]; rfl, HM8.out.below⟩
                  · have HD2 : Aside0 (∀ x, x < a + 1 → ¬ U.getD (x * 24 + x) 0 < 0) := ⟨fun x hx => by
                      by_cases q : x = a
                      · subst q; rw [HV.out]; exact tv
                      · exact HD.out x (by omega)⟩
                    go_wp2_with fail
                    go_roundg (n - (a + 1))
                    case measure => have := HK4.out; omega
                    case rel => exact ⟨a + 1, by go_num, ⟨by omega⟩, HD2, HN4⟩
                · have HNX : Aside0 (floyd n (n - (m + 1)) (m + 1) U = floyd n n 0 (initTab L)) := ⟨by
                    rw [← HT3.out.2.2, show n - m = (n - (m + 1)) + 1 by omega, floyd_next (by rw [← HUT.out]; exact negDiag_false (fun x hx => HD.out x (by omega))), ← HUT.out]⟩
                  go_wp2_with fail
                  go_roundg (n - (m + 1))
                  case measure => have := HK3.out; omega
                  case rel => exact ⟨m + 1, U, by go_num, ⟨by omega⟩, ⟨HUL.out, by rw [bnd_succ, HUT.out]; exact HT3.out.2.1.over (by omega), HNX.out⟩, HN4⟩
            · have HFL : Aside0 (tightOf (n : Int) L = (T3, 0)) := ⟨by rw [HF.out, ← HT3.out.2.2, show n - m = 0 by omega]; rfl⟩
              go_wp2_with (first
                | ((with_reducible refine gate_dst (N := 100) rfl ?_); refine ev_load HN3.out.head rfl 125 (.tmp 4) rfl rfl _ Try.underlying125 rfl size125 (size_nums HT3.out.1) ?_)
                | (refine ev_store HN3.out.swap rfl 125 (.tmp 2) (.tmp 100) rfl rfl rfl size125 (size_nums (by simp)) (size_nums HT3.out.1) (one_nums T3) ?_; intro w8 hm8 hq1; clear hq1; have HM8 := Aside0.mk hm8; clear hm8 HN3))
              refine bodyPost_ret (results_row_tmp rfl _ _ _ _ _ _ _ rfl HM8.out.head Try.underlying125 rfl (by rw [size125, size_nums HT3.out.1])) rfl ⟨by rw [HFL.out]; rfl, HM8.out.below⟩
end Go.Proofs.Ytbcfphoheijmdaa.Print
end

section
/- table.span: the range between two points that the Go method reads off a table. -/
namespace Go.Proofs.Ytbcfphoheijmdaa.Print
open Go.RowKit Go.Proofs.YtbcfphoheijmdaaW.PrintWords Go.Proofs.YtbcfphoheijmdaaW.PrintLast Go.Proofs.YtbcfphoheijmdaaW.PrintMore Go.Proofs.Ytbcfphoheijmdaa.H
set_option linter.unusedVariables false
set_option linter.unusedSimpArgs false

theorem info32a : (Try.prog.info? 32).map (fun i => (i.zero, i.size, i.bytes)) = some (some (.agg #[.int .i64 0, .int .i64 0]), 2, 16) := by kernel_rfl
theorem size32 : (Try.prog.info? 32).map (·.size) = some 2 := by kernel_rfl
/-- The tight range from a to b. -/
def spanOf (T : List Int) (a b : Nat) : S32 := ⟨-(T.getD (b * 24 + a) 0), T.getD (a * 24 + b) 0⟩
set_option maxHeartbeats 800000 in
set_option maxRecDepth 100000 in
theorem span_calls (T : List Int) (a b : Nat) (hT : T.length = 576) (ha : a < 24) (hb : b < 24) (hbd : ∀ i, -4611686018427387904 ≤ T.getD i 0 ∧ T.getD i 0 ≤ 4611686018427387904) (w : World) :
    Calls Try.prog 90 #[.agg (nums .i64 T).toArray, .int .i64 a, .int .i64 b] w fun e w' => e = .returned (.agg #[.int .i64 (spanOf T a b).f0, .int .i64 (spanOf T a b).f1]) ∧ Below w.heap.size w w' := by
  have HM := Aside0.mk (Mem.start w)
  have HT := Aside0.mk hT
  have hX1 := (hbd (b * 24 + a)).1
  have hX2 := (hbd (b * 24 + a)).2
  clear hT hbd
  have HC1 := Aside0.mk (get_nums T (b * 24 + a) (by rw [HT.out]; omega))
  have HC2 := Aside0.mk (get_nums T (a * 24 + b) (by rw [HT.out]; omega))
  unfold spanOf
  generalize hX : T.getD (b * 24 + a) 0 = X at hX1 hX2 HC1 ⊢
  generalize hY : T.getD (a * 24 + b) 0 = Y at HC2 ⊢
  clear hX hY
  have HS := Aside0.mk (size_nums HT.out)
  generalize (nums .i64 T).toArray = A at HC1 HC2 HS ⊢
  have i1 : (0 : Int) ≤ (a : Int) := by omega
  have i2 : (a : Int) < 24 := by omega
  have i3 : (0 : Int) ≤ (b : Int) := by omega
  have i4 : (b : Int) < 24 := by omega
  have hu32 := Try.underlying32
  go_enter Try.func90, Try.ntmps90
  go_wp2_with (first
    | ((with_reducible refine gate_dst (N := 3) rfl ?_); refine ev_box HM.out rfl 125 (.tmp 0) rfl (cs := A) rfl ?_; intro g1 w1 hm1 hq1; clear hq1; have HM1 := Aside0.mk hm1; clear hm1 HM)
    | ((with_reducible refine gate_dst (N := 6) rfl ?_); refine ev_new HM1.out rfl 32 rfl info32a ?_; intro g2 w2 hm2 hq1; clear hq1; have HM2 := Aside0.mk hm2; clear hm2 HM1))
  have c1 : w2.cell? ⟨g1, b * 24 + a, none⟩ = some (.int .i64 X) := by rw [blk_cell HM2.out.second]; exact HC1.out
  have c2 : w2.cell? ⟨g1, a * 24 + b, none⟩ = some (.int .i64 Y) := by rw [blk_cell HM2.out.second]; exact HC2.out
  have c3 : w2.cell? ⟨g2, 0, none⟩ = some (.int .i64 0) := (HM2.out.cell 0).trans rfl
  have c4 : w2.cell? ⟨g2, 1, none⟩ = some (.int .i64 0) := (HM2.out.cell 1).trans rfl
  have f3 : w2.frozen? ⟨g2, 0, none⟩ = false := HM2.out.frozen _
  have f4 : w2.frozen? ⟨g2, 1, none⟩ = false := HM2.out.frozen _
  have hn : IntKind.i64.wrap (-X) = -X := IntWalk.i64_in _ (by omega)
  go_still_tail 12, (by kernel_rfl)
  clear hn
  go_wp2_with fail
  have HM3 := ((HM2.out.put 0 (.int .i64 (-X)) rfl).put 1 (.int .i64 Y) rfl).drew
  exact bodyPost_ret (results_cell_row rfl _ _ _ _ _ _ _ rfl HM3.head Try.underlying32 rfl size32) rfl ⟨rfl, HM3.below⟩
end Go.Proofs.Ytbcfphoheijmdaa.Print
end

section
/- Tight: the tight ranges of a chain, and that the Go function's call gives them. -/
namespace Go.Proofs.Ytbcfphoheijmdaa.Print
open Go.RowKit Go.Proofs.YtbcfphoheijmdaaW.PrintWords Go.Proofs.YtbcfphoheijmdaaW.PrintLast Go.Proofs.YtbcfphoheijmdaaW.PrintMore Go.Proofs.Ytbcfphoheijmdaa.H
attribute [local go_sem] max2_int min2_int max_two min_two max_three min_three max_four min_four
attribute [local go_sem ↓] Go.wp_at_zero Go.wp_at_succ
set_option linter.unusedVariables false
set_option linter.unusedSimpArgs false

/-- The tight ranges as rows. -/
def rowsOf (n : Nat) (T : List Int) : List (List S32) := (List.range n).map (fun a => (List.range n).map (fun b => spanOf T a b))
def tightRes (P : Int) (L : List S35) : List (List S32) × Int := if (tightOf P L).2 = 0 then (rowsOf P.toNat (tightOf P L).1, 0) else ([], (tightOf P L).2)
def mount_Tight.f (a0_0 : Int) (l0_1 : List (S35)) : Option ((List (List (S32))) × Int) := some (tightRes a0_0 l0_1)

theorem floyd_small {n : Nat} : ∀ (k m : Nat) (T : List Int), m + k ≤ 24 → Small (bnd m) T → T.length = 576 → Small (bnd 24) (floyd n k m T).1 ∧ (floyd n k m T).1.length = 576
  | 0, m, T, h, hs, hl => ⟨hs.mono (by
      have : ∀ j, m + j ≤ 24 → bnd m ≤ bnd (m + j) := by
        intro j
        induction j with
        | zero => intro _; exact Int.le_refl _
        | succ j ih => intro hj; have := ih (by omega); have e := bnd_succ (m + j); have := bnd_le (m + j) (by omega); rw [← Nat.add_assoc, e]; omega
      have := this (24 - m) (by omega)
      rwa [show m + (24 - m) = 24 by omega] at this), hl⟩
  | k + 1, m, T, h, hs, hl => by
    have hb := bnd_le m (by omega)
    have h1 : Small (bnd (m + 1)) (overTab T m n) := by rw [bnd_succ]; exact hs.over hb.1
    rw [floyd]
    split
    · exact floyd_small (n := n) 0 (m + 1) _ (by omega) h1 (overTab_length _ _ _)
    · exact floyd_small k (m + 1) _ (by omega) h1 (overTab_length _ _ _)
theorem tightOf_small {P : Int} {L : List S35} (h : (tightOf P L).2 = 0) : chainErr P L = 0 ∧ (tightOf P L).1.length = 576 ∧ Small (bnd 24) (tightOf P L).1 := by
  unfold tightOf at h ⊢
  split at h
  · rename_i hc
    rw [if_pos hc]
    have hok := chainErr_ok hc
    have := floyd_small (n := P.toNat) P.toNat 0 (initTab L) (by omega) (Small.init L hok.2.2.2) (initTab_length L)
    exact ⟨hc, this.2, this.1⟩
  · rename_i hc
    exact absurd h hc

/-- The rows on the way: those before a whole, of row a the first b ranges. -/
def rowsTo (n : Nat) (T : List Int) (a b : Nat) : List (List S32) := (List.range n).map (fun j => if j < a then (List.range n).map (fun b => spanOf T j b) else if j = a then (List.range b).map (fun b => spanOf T j b) else [])
theorem rowsTo_length (n : Nat) (T : List Int) (a b : Nat) : (rowsTo n T a b).length = n := by simp [rowsTo]
theorem rowsTo_start (n : Nat) (T : List Int) : rowsTo n T 0 0 = List.replicate n [] := by
  apply List.ext_getElem
  · simp [rowsTo]
  · intro i h1 h2
    simp [rowsTo]
theorem rowsTo_get (n : Nat) (T : List Int) (a b : Nat) (ha : a < n) : (rowsTo n T a b).getD a [] = (List.range b).map (fun b => spanOf T a b) := by
  simp [rowsTo, List.getD_eq_getElem?_getD, ha]
theorem rowsTo_next (n : Nat) (T : List Int) (a b : Nat) (hb : b = n) : rowsTo n T a b = rowsTo n T (a + 1) 0 := by
  subst hb
  apply List.ext_getElem
  · simp [rowsTo]
  · intro i h1 h2
    simp only [rowsTo, List.getElem_map, List.getElem_range]
    by_cases q : i < a
    · rw [if_pos q, if_pos (by omega)]
    · by_cases q2 : i = a
      · rw [if_neg q, if_pos q2, if_pos (by omega)]
      · rw [if_neg q, if_neg q2, if_neg (by omega)]
        by_cases q3 : i = a + 1
        · rw [if_pos q3]; rfl
        · rw [if_neg q3]
theorem rowsTo_done (n : Nat) (T : List Int) (a b : Nat) (ha : n ≤ a) : rowsTo n T a b = rowsOf n T := by
  apply List.ext_getElem
  · simp [rowsTo, rowsOf]
  · intro i h1 h2
    have hi : i < n := by simpa [rowsTo] using h1
    simp only [rowsTo, rowsOf, List.getElem_map, List.getElem_range]
    rw [if_pos (by omega)]
theorem rowsTo_set (n : Nat) (T : List Int) (a b : Nat) : (rowsTo n T a b).set a ((List.range b).map (fun b => spanOf T a b) ++ [spanOf T a b]) = rowsTo n T a (b + 1) := by
  apply List.ext_getElem
  · simp [rowsTo]
  · intro i h1 h2
    rw [List.getElem_set]
    simp only [rowsTo, List.getElem_map, List.getElem_range]
    by_cases q : a = i
    · subst q
      rw [if_pos rfl, if_neg (by omega), if_pos rfl, List.range_succ, List.map_append]
      rfl
    · rw [if_neg q]
      by_cases q2 : i < a
      · rw [if_pos q2, if_pos q2]
      · rw [if_neg q2, if_neg q2, if_neg (by omega), if_neg (by omega)]
theorem rangeAt_blk {W : World} {g : Nat} {T : List Value} {t : TypeId} (h : W.heap[g]? = some (.cells T.toArray t (0, 0))) : W.rangeAt g 0 T := fun j v hv => by
  rw [Nat.zero_add, blk_cell h j, List.getElem?_toArray]
  exact hv
set_option maxHeartbeats 3200000 in
set_option maxRecDepth 100000 in
theorem mount_Tight.calls (a0_0 : Int) (A0_1 : Option Addr) (c0_1 : Nat) (l0_1 : List (S35)) (r1 : List (List (S32))) (r2 : Int) (w : World) (hr0_1 : Kd.C k35 w A0_1 l0_1.length l0_1) (hc0_1 : l0_1.length ≤ c0_1) (h : mount_Tight.f a0_0 l0_1 = some (r1, r2)) :
    Calls Try.prog 24 #[.agg #[.int .i64 a0_0, .slice A0_1 l0_1.length c0_1]] w fun e w' => ∃ v0_ : Value, e = .returned (.tuple #[v0_, .int .i64 r2]) ∧ Kd.S (Kd.slice 32 k32) 45 w' w.heap.size (fun _ => True) v0_ r1 ∧ Below w.heap.size w w' := by
  have HF := Aside0.mk (Option.some.inj h)
  have HR := Aside0.mk hr0_1
  have HM := Aside0.mk (Mem.start w)
  clear h hr0_1
  have hu27 := Try.underlying27
  have HTC := Aside0.mk (fun W hW => tight_calls a0_0 A0_1 c0_1 l0_1 W hW hc0_1)
  have HLT : Aside0 ((tightOf a0_0 l0_1).1.length = 576) := ⟨by
    by_cases hc : chainErr a0_0 l0_1 = 0
    · unfold tightOf; rw [if_pos hc]; exact (floyd_small (n := a0_0.toNat) a0_0.toNat 0 (initTab l0_1) (by have := chainErr_ok hc; omega) (Small.init _ (chainErr_ok hc).2.2.2) (initTab_length _)).2
    · unfold tightOf; rw [if_neg hc]; simp⟩
  by_cases t1 : (tightOf a0_0 l0_1).2 = 0
  rotate_left
  · have HF2 : Aside0 (r1 = [] ∧ r2 = (tightOf a0_0 l0_1).2) := ⟨by have := HF.out; unfold tightRes at this; rw [if_neg t1] at this; exact ⟨(congrArg Prod.fst this).symm, (congrArg Prod.snd this).symm⟩⟩
    generalize (tightOf a0_0 l0_1).2 = E at t1 HTC HF2
    generalize (tightOf a0_0 l0_1).1 = T at HTC HLT
    have t2 : (E != 0) = true := by simpa using t1
    clear t1
    go_enter Try.func24, Try.ntmps24
    go_wp2_with (first
      | ((with_reducible refine gate_dst (N := 1) rfl ?_); refine ev_box HM.out rfl 27 (.tmp 0) rfl (cs := #[.int .i64 a0_0, .slice A0_1 l0_1.length c0_1]) rfl ?_; intro g1 w1 hm1 hq1; clear hq1; have HM1 := Aside0.mk hm1; clear hm1 HM)
      | ((with_reducible refine gate_dst (N := 10) rfl ?_); refine ev_load HM1.out.head rfl 27 (.tmp 1) rfl rfl _ Try.underlying27 rfl (n := 2) (by kernel_rfl) rfl ?_)
      | (go_at_call 89; refine (HTC.out _ (Kd.C_below HR.out HM1.out.below)).mono ?_; rintro e w' ⟨rfl, hd⟩; have HM2 := Aside0.mk (HM1.out.step hd); clear hd HM1)
      | ((with_reducible refine gate_dst (N := 4) rfl ?_); refine ev_new HM2.out rfl 125 rfl info125 ?_; intro g3 w3 hm3 hq1; clear hq1; have HM3 := Aside0.mk hm3; clear hm3 HM2)
      | (refine ev_store HM3.out rfl 125 (.tmp 4) (.tmp 12) rfl rfl rfl size125 (by simp) (size_nums HLT.out) (one_nums _) ?_; intro w5 hm5 hq1; clear hq1; have HM5 := Aside0.mk hm5; clear hm5 HM3))
    go_ret2
    exact ⟨.slice none 0 0, by rw [HF2.out.2]; rfl, by rw [HF2.out.1]; exact Kd.S_nil _ _ _ _ _, HM5.out.below⟩
  obtain ⟨hce, _, hsm⟩ := tightOf_small t1
  have HOK := Aside0.mk (chainErr_ok hce)
  have HF2 : Aside0 (r1 = rowsOf a0_0.toNat (tightOf a0_0 l0_1).1 ∧ r2 = 0) := ⟨by have := HF.out; unfold tightRes at this; rw [if_pos t1] at this; exact ⟨(congrArg Prod.fst this).symm, (congrArg Prod.snd this).symm⟩⟩
  rw [t1] at HTC
  have HBD := Aside0.mk (hsm.wide (bnd_le 24 (by omega)).2)
  clear t1 hce hsm HF
  generalize (tightOf a0_0 l0_1).1 = T at HTC HLT HF2 HBD
  obtain ⟨n, rfl⟩ : ∃ n : Nat, a0_0 = n := ⟨a0_0.toNat, by have := HOK.out; omega⟩
  have hn1 : 1 ≤ n := by have := HOK.out.1; omega
  have hn2 : n ≤ 24 := by have := HOK.out.2.1; omega
  clear HOK
  go_enter Try.func24, Try.ntmps24
  go_wp2_with (first
    | ((with_reducible refine gate_dst (N := 1) rfl ?_); refine ev_box HM.out rfl 27 (.tmp 0) rfl (cs := #[.int .i64 (n : Int), .slice A0_1 l0_1.length c0_1]) rfl ?_; intro g1 w1 hm1 hq1; clear hq1; have HM1 := Aside0.mk hm1; clear hm1 HM)
    | ((with_reducible refine gate_dst (N := 10) rfl ?_); refine ev_load HM1.out.head rfl 27 (.tmp 1) rfl rfl _ Try.underlying27 rfl (n := 2) (by kernel_rfl) rfl ?_)
    | (go_at_call 89; refine (HTC.out _ (Kd.C_below HR.out HM1.out.below)).mono ?_; rintro e w' ⟨rfl, hd⟩; have HM2 := Aside0.mk (HM1.out.step hd); clear hd HM1)
    | ((with_reducible refine gate_dst (N := 4) rfl ?_); refine ev_new HM2.out rfl 125 rfl info125 ?_; intro g3 w3 hm3 hq1; clear hq1; have HM3 := Aside0.mk hm3; clear hm3 HM2)
    | (refine ev_store HM3.out rfl 125 (.tmp 4) (.tmp 12) rfl rfl rfl size125 (by simp) (size_nums HLT.out) (one_nums _) ?_; intro w5 hm5 hq1; clear hq1; have HM5 := Aside0.mk hm5; clear hm5 HM3; have c0 : w5.cell? ⟨g1, 0, none⟩ = some (.int .i64 (n : Int)) := (blk_cell HM5.out.second 0).trans rfl)
    | ((with_reducible refine gate_dst (N := 19) rfl ?_); refine ev_make HM5.out rfl 36 (.tmp 18) rfl n rfl 45 (.slice none 0 0) 24 Try.underlying36 info45 rfl (by omega) (by unfold maxLen; omega) ?_; intro g6 w6 hm6 hq6; have HM6 := Aside0.mk hm6; clear hm6 HM5 hq6))
  have HRA : Aside0 (RowsAt k32 32 w6 w.heap.size g6 (fun _ => 0) (List.replicate n (.slice none 0 0)) (rowsTo n T 0 0)) := ⟨by rw [rowsTo_start]; exact RowsAt.start _ _ _ _ _ _ _⟩
  go_loopg [22] n (fun k v22 w' => ∃ (a : Nat) (f : Nat → Nat) (vs : List Value), v22 = .int .i64 a ∧ Aside0 (a + k = n) ∧ Aside0 (Mem w w' [(g6, vs.toArray, 45), (g3, (nums .i64 T).toArray, 125), (g1, #[.int .i64 (n : Int), .slice A0_1 l0_1.length c0_1], 27)]) ∧ Aside0 (RowsAt k32 32 w' w.heap.size g6 f vs (rowsTo n T a 0) ∧ ∀ k, w'.heap.size ≤ k → f k = a))
  case atStart => exact ⟨0, _, _, rfl, ⟨by omega⟩, HM6, ⟨HRA.out, fun _ _ => rfl⟩⟩
  case round =>
    clear HM6 HRA
    obtain ⟨a, f, vs, rfl, HK, HM, HRA⟩ := hrel
    by_cases ha : a < n
    · have d0 : wr.cell? ⟨g1, 0, none⟩ = some (.int .i64 (n : Int)) := (blk_cell HM.out.third 0).trans rfl
      go_wp2_with fail
      clear d0
      go_loopg [27] n (fun k v27 w' => ∃ (b : Nat) (f : Nat → Nat) (vs : List Value), v27 = .int .i64 b ∧ Aside0 (b + k = n) ∧ Aside0 (Mem w w' [(g6, vs.toArray, 45), (g3, (nums .i64 T).toArray, 125), (g1, #[.int .i64 (n : Int), .slice A0_1 l0_1.length c0_1], 27)]) ∧ Aside0 (RowsAt k32 32 w' w.heap.size g6 f vs (rowsTo n T a b) ∧ ∀ k, w'.heap.size ≤ k → f k = a))
      case atStart => exact ⟨0, f, vs, rfl, ⟨by omega⟩, HM, HRA⟩
      case round =>
        obtain ⟨b, f2, vs2, rfl, HK2, HN, HRB⟩ := hrel
        by_cases hb : b < n
        · have HRow := HRB.out.1.2 a (by rw [rowsTo_length]; exact ha)
          rw [rowsTo_get _ _ _ _ ha] at HRow
          have hvl : a < vs2.length := by rw [HRB.out.1.1, rowsTo_length]; exact ha
          have HVA := Aside0.mk (show vs2.toArray[a]? = some (vs2.getD a undef) by
            rw [List.getD_eq_getElem?_getD, List.getElem?_eq_getElem hvl]
            simp [hvl])
          have c1 : wr.cell? ⟨g6, a, none⟩ = some (vs2.getD a undef) := by rw [HN.out.cell]; exact HVA.out
          have f1 : wr.frozen? ⟨g6, a, none⟩ = false := HN.out.frozen _
          generalize hV : vs2.getD a undef = v at c1 HRow HVA
          have HV := Aside0.mk hV
          have HROW := Aside0.mk HRow
          clear hV HRow hvl
          have i1 : (0 : Int) ≤ (a : Int) := by omega
          have i2 : (a : Int) < (n : Int) := by omega
          have HSP := Aside0.mk (fun W => span_calls T a b HLT.out (by omega) (by omega) HBD.out W)
          go_wp2_with fail
          have hu125 := Try.underlying125
          have hi125 : (Try.prog.info? 125).map (·.size) = some (nums .i64 T).length := by rw [size125]; simp [nums, HLT.out]
          have hfr : ∀ k, wr.heap.size ≤ k → f2 k = a ∧ k ≠ g6 := fun k hk => ⟨HRB.out.2 k hk, by have := blk_lt HN.out.head; omega⟩
          have HFR := Aside0.mk hfr
          clear hfr
          have HLX := Aside0.mk (show ((List.range b).map (fun b => spanOf T a b)).length = b by simp)
          generalize hXS : (List.range b).map (fun b => spanOf T a b) = XS at HROW HLX
          have HXS := Aside0.mk hXS
          clear hXS
          refine wp_region_noPanic ?_
          refine H.wp_region_T [13] (S := fun w' => w'.cell? ⟨g6, a, none⟩ = some v ∧ w'.rangeAt g3 0 (nums .i64 T)) (by kernel_rfl) ⟨(HN.out.drew.cell a).trans HVA.out, rangeAt_blk HN.out.drew.second⟩ (fun hHeld => ?_)
          refine H.wpAnyT_takeY (i := 0) (v := .slice (some ⟨g6, 0, none⟩) n n) rfl (by decide) (by kernel_rfl) (by kernel_rfl) (by kernel_rfl) (fun _ _ _ h => h) (Or.inl ⟨by rfl, ?_⟩) hHeld ?_
          · (intro w_ hSw; go_simp; try rfl)
          try simp only [Act.put, List.setIfInBounds_toArray, List.set_cons_zero, List.set_cons_succ]
          refine H.wpAnyT_takeY (i := 1) (v := .int .i64 (a : Int)) rfl (by decide) (by kernel_rfl) (by kernel_rfl) (by kernel_rfl) (fun _ _ _ h => h) (Or.inl ⟨by rfl, ?_⟩) hHeld ?_
          · (intro w_ hSw; go_simp; try rfl)
          try simp only [Act.put, List.setIfInBounds_toArray, List.set_cons_zero, List.set_cons_succ]
          refine H.wpAnyT_takeY (i := 2) (v := .slice (some ⟨g6, 0, none⟩) n n) rfl (by decide) (by kernel_rfl) (by kernel_rfl) (by kernel_rfl) (fun _ _ _ h => h) (Or.inl ⟨by rfl, ?_⟩) hHeld ?_
          · (intro w_ hSw; go_simp; try rfl)
          try simp only [Act.put, List.setIfInBounds_toArray, List.set_cons_zero, List.set_cons_succ]
          refine H.wpAnyT_takeY (i := 3) (v := .int .i64 (a : Int)) rfl (by decide) (by kernel_rfl) (by kernel_rfl) (by kernel_rfl) (fun _ _ _ h => h) (Or.inl ⟨by rfl, ?_⟩) hHeld ?_
          · (intro w_ hSw; go_simp; try rfl)
          try simp only [Act.put, List.setIfInBounds_toArray, List.set_cons_zero, List.set_cons_succ]
          refine H.wpAnyT_takeY (i := 4) (v := .pointer (some ⟨g6, a, none⟩)) rfl (by decide) (by kernel_rfl) (by kernel_rfl) (by kernel_rfl) (fun _ _ _ h => h) (Or.inl ⟨by rfl, ?_⟩) hHeld ?_
          · (intro w_ hSw; go_simp; try rfl)
          try simp only [Act.put, List.setIfInBounds_toArray, List.set_cons_zero, List.set_cons_succ]
          refine H.wpAnyT_take (i := 5) (v := v) rfl (by decide) (by kernel_rfl) (by kernel_rfl) (by kernel_rfl) (by kernel_rfl) (fun _ _ _ h => h) (Or.inl ⟨by rfl, ?_⟩) hHeld ?_
          · (intro w_ hSw; (try dsimp only at hSw); obtain ⟨q1, q2⟩ := hSw; go_simp; try rfl)
          try simp only [Act.put, List.setIfInBounds_toArray, List.set_cons_zero, List.set_cons_succ]
          refine H.wpAnyT_take (i := 6) (v := .agg (nums .i64 T).toArray) rfl (by decide) (by kernel_rfl) (by kernel_rfl) (by kernel_rfl) (by kernel_rfl) (fun _ _ _ h => h) (yieldsIf_load_mid (by rfl) _ _ rfl _ _ rfl _ _ (fun w_ hSw => hSw.2) hu125 rfl hi125) hHeld ?_
          try simp only [Act.put, List.setIfInBounds_toArray, List.set_cons_zero, List.set_cons_succ]
          refine H.wpAnyT_takeY (i := 7) (v := .int .i64 (a : Int)) rfl (by decide) (by kernel_rfl) (by kernel_rfl) (by kernel_rfl) (fun _ _ _ h => h) (Or.inl ⟨by rfl, ?_⟩) hHeld ?_
          · (intro w_ hSw; go_simp; try rfl)
          try simp only [Act.put, List.setIfInBounds_toArray, List.set_cons_zero, List.set_cons_succ]
          refine H.wpAnyT_takeY (i := 8) (v := .int .i64 (b : Int)) rfl (by decide) (by kernel_rfl) (by kernel_rfl) (by kernel_rfl) (fun _ _ _ h => h) (Or.inl ⟨by rfl, ?_⟩) hHeld ?_
          · (intro w_ hSw; go_simp; try rfl)
          try simp only [Act.put, List.setIfInBounds_toArray, List.set_cons_zero, List.set_cons_succ]
          refine H.wpAnyT_ready (rs := [9]) (by kernel_rfl) (by simp) ?_
          refine H.AllT.cons (i := 9) rfl (by decide) (fun K hK => ?_) H.AllT.nil
          go_simp
          go_at_call 90
          refine (HSP.out _).mono ?_
          rintro e w7 ⟨rfl, hd7⟩
          have HM7 := Aside0.mk (HN.out.drew.step hd7)
          have HR7 := Aside0.mk (Kd.R_below (Kd.R_drew HROW.out) hd7)
          have HS7 := Aside0.mk hd7.size
          have HRB7 := Aside0.mk ((HRB.out.1.below (below_drew1 (Below.refl _ _))).below hd7)
          have c7 : w7.cell? ⟨g6, a, none⟩ = some v := (HM7.out.cell a).trans HVA.out
          have c7a : ∀ o, (w7.alloc o).cell? ⟨g6, a, none⟩ = some v := (fun o => ((HM7.out.alloc o).cell a).trans HVA.out)
          clear hd7
          refine hK.out _ _ (⟨c7, rangeAt_blk HM7.out.second⟩) (fun hHeld => ?_)
          clear hK K
          try simp only [Act.put, List.setIfInBounds_toArray, List.set_cons_zero, List.set_cons_succ]
          refine H.wpAnyT_ready (rs := [10]) (by kernel_rfl) (by simp) ?_
          refine H.AllT.cons (i := 10) rfl (by decide) (fun K hK => ?_) H.AllT.nil
          go_simp
          refine hK.out _ _ (⟨c7a _, rangeAt_blk (HM7.out.alloc _).second⟩) (fun hHeld => ?_)
          clear hK K
          try simp only [Act.put, List.setIfInBounds_toArray, List.set_cons_zero, List.set_cons_succ]
          refine H.wpAnyT_ready (rs := [11]) (by kernel_rfl) (by simp) ?_
          refine H.AllT.cons (i := 11) rfl (by decide) (fun K hK => ?_) H.AllT.nil
          refine Kd.R_append_step k32 (w0 := w) w.heap.size (by rfl) (.tmp 35) (.tmp 40) 45 32 (.agg #[.int .i64 0, .int .i64 0]) 16 rfl Try.underlying45 info32 rfl (by decide) (by omega) v XS (spanOf T a b) [.int .i64 (spanOf T a b).f0, .int .i64 (spanOf T a b).f1] (fun k => f2 k = a ∧ k ≠ g6) (fun _ => False) (by rfl) (by rfl) (k32_mkM _ _ _ _) (fun _ hk => hk.elim) (fun k hk => HFR.out k (Nat.le_trans HS7.out hk)) HR7.out HM7.out.below HM7.out.below.size (by rw [HLX.out]; omega) ?_
          intro v1 w8 hR8 hB8 hg8 hat8
          obtain ⟨A1, n1, he1⟩ := Kd.R_slice hR8
          subst he1
          rw [List.length_append, List.length_singleton] at hR8
          have HM8 := Aside0.mk (HM7.out.grownR HR7.out hg8 (by simp))
          have HR8 := Aside0.mk hR8
          have HG8 := Aside0.mk hg8
          have c8 : w8.cell? ⟨g6, a, none⟩ = some v := (HM8.out.cell a).trans HVA.out
          have f8 : w8.frozen? ⟨g6, a, none⟩ = false := HM8.out.frozen _
          clear hR8 hB8 hg8 hat8
          refine hK.out _ _ (⟨c8, rangeAt_blk HM8.out.second⟩) (fun hHeld => ?_)
          clear hK K
          try simp only [Act.put, List.setIfInBounds_toArray, List.set_cons_zero, List.set_cons_succ]
          refine H.wpAnyT_takeY (i := 12) (v := .pointer (some ⟨g6, a, none⟩)) rfl (by decide) (by kernel_rfl) (by kernel_rfl) (by kernel_rfl) (fun _ _ _ h => h) (Or.inl ⟨by rfl, ?_⟩) hHeld ?_
          · (intro w_ hSw; go_simp; try rfl)
          try simp only [Act.put, List.setIfInBounds_toArray, List.set_cons_zero, List.set_cons_succ]
          refine H.wpAnyT_ready (rs := [13]) (by kernel_rfl) (by simp) ?_
          refine H.AllT.last (i := 13) rfl (by decide) (fun K hK => ?_) H.AllT.nil
          go_simp
          refine hK.out _ _ ?_
          clear hK K
          try simp only [Act.put, List.setIfInBounds_toArray, List.set_cons_zero, List.set_cons_succ]
          refine wpAny_done (by kernel_rfl) ?_ _
          refine NoPanic.normal ?_
          (
            go_wp2_with fail
            go_roundg (n - (b + 1))
            case measure => have := HK2.out; omega
            case rel => exact ⟨b + 1, f2, vs2.set a (.slice A1 (XS.length + 1) n1), by go_num, ⟨by omega⟩, ⟨HM8.out.put a _ (by simp)⟩, ⟨by
              have := (HRB7.out.put (by rw [rowsTo_length]; exact ha) HV.out HG8.out HR8.out).far a (.slice A1 (XS.length + 1) n1)
              rwa [← HXS.out, rowsTo_set, HXS.out] at this, fun k hk => HRB.out.2 k (Nat.le_trans HS7.out (Nat.le_trans HG8.out.size (by rw [World.size_setCell] at hk; exact hk)))⟩⟩)
        · have HO2 : Aside0 (RowsAt k32 32 wr w.heap.size g6 (fun k => if k < wr.heap.size then f2 k else a + 1) vs2 (rowsTo n T (a + 1) 0) ∧ ∀ k, wr.heap.size ≤ k → (if k < wr.heap.size then f2 k else a + 1) = a + 1) := ⟨by rw [← rowsTo_next n T a b (by have := HK2.out; omega)]; exact HRB.out.1.owner (fun k hk => if_pos hk), fun k hk => if_neg (by omega)⟩
          go_wp2_with fail
          go_roundg (n - (a + 1))
          case measure => have := HK.out; omega
          case rel => exact ⟨a + 1, _, vs2, by go_num, ⟨by omega⟩, HN, HO2⟩
    · have HWH := HRA.out.1.whole HM.out.head HM.out.geh (by rw [rowsTo_length]; unfold maxLen; omega)
      rw [rowsTo_length, rowsTo_done n T a 0 (by omega)] at HWH
      have HW2 := Aside0.mk HWH
      clear HWH
      go_wp2_with fail
      go_ret2
      exact ⟨.slice (some ⟨g6, 0, none⟩) n n, by rw [HF2.out.2]; rfl, by rw [HF2.out.1]; exact HW2.out, HM.out.below⟩
end Go.Proofs.Ytbcfphoheijmdaa.Print
end

section
/- What the Go function thermionlaw04_awake does, as a Lean function, and that its call does so. Printed by a program of this work out of the translation. -/
namespace Go.Proofs.Ytbcfphoheijmdaa.Print
open Go.RowKit Go.Proofs.YtbcfphoheijmdaaW.PrintWords Go.Proofs.YtbcfphoheijmdaaW.PrintLast Go.Proofs.YtbcfphoheijmdaaW.PrintMore
attribute [local go_sem] max2_int min2_int max_two min_two max_three min_three max_four min_four
set_option linter.unusedVariables false
set_option linter.unusedSimpArgs false

/-! ### thermionlaw04_awake: function 21 -/
def thermionlaw04_awake.f (k : Nat)  : Option (Bool) := (thermionlaw04_chain.f).bind fun bt144 => ((mount_Tight.f bt144.1 bt144.2).bind fun bt148 => ((thermionlaw04_kit.f).bind fun bt152 => ((mount_Orders.f bt152.1 bt152.2).bind fun bt156 => (if bt148.2 = 0 then (if (bt148.1.length : Int) = 3 then (if 0 < (bt148.1.length : Int) then ((thermionlaw04_of.f 10 12).bind fun bt159 => ((thermionlaw04_of.f 17 18).bind fun bt161 => ((thermionkit_SameRanges.f k (rd_L6 bt148.1 0) (([(⟨0, 0⟩ : S32), (⟨bt159.1, bt159.2⟩ : S32), (⟨bt161.1, bt161.2⟩ : S32)] : List (S32)))).bind fun t166 => (if t166 = true then (if bt156.1 = 2 then (some (bt156.2 == 0)) else (some false)) else (some false))))) else (none)) else (some false)) else (some false)))))
theorem thermionlaw04_awake.mono : ∀ k, LeO (thermionlaw04_awake.f k ) (thermionlaw04_awake.f (k + 1) ) := by
 intro  k
 unfold thermionlaw04_awake.f
 repeat' first
   | (with_reducible exact thermionkit_SameRanges.mono _ _ _)
   | (with_reducible exact LeO.refl _)
   | (with_reducible exact LeO.none _)
   | (with_reducible refine LeO.ite ?_ ?_)
   | (with_reducible refine LeO.bind ?_ (fun _ => ?_))
   | exact thermionkit_SameRanges.mono _ _ _
   | exact LeO.none _
   | refine LeO.ite ?_ ?_
   | refine LeO.bind ?_ (fun _ => ?_)
def thermionlaw04_awake.T3 : Bool × List (List Nat × List Nat) := (true, [([], []), ([0], [0]), ([1], [1]), ([2], [2]), ([3, 2], [2, 3]), ([4, 2], [2, 4]), ([2, 5], [2, 5]), ([6, 2], [6]), ([7], [7]), ([8, 7], [7, 8]), ([9, 7], [7, 9]), ([7], [7]), ([7, 7], [7]), ([12, 7], [7]), ([11, 12, 13, 7], [7, 11, 12, 13]), ([10, 14, 13, 7], [7, 10, 14]), ([7, 15], [7, 15]), ([16, 15], [16]), ([17], [17]), ([18, 17], [17, 18]), ([17, 19], [17, 19]), ([20, 17], [20]), ([21], [21]), ([22, 21], [21, 22]), ([21, 23], [21, 23]), ([24, 21, 0, 1, 2, 3, 4, 5, 6, 7, 8, 9, 10, 11, 12, 13, 14, 15, 16, 17, 18, 19, 20, 21, 22, 23, 24], [24])])
def thermionlaw04_awake.B3 : List Nat := [0, 1, 3, 7, 15, 31, 63, 127, 255, 511, 1023, 255, 255, 4351, 14591, 32767, 65535, 131071, 262143, 524287, 1048575, 2097151, 4194303, 8388607, 16777215, 33554431]
theorem thermionlaw04_awake.tab3 : rtab .any (opsOf Try.f21 3) = thermionlaw04_awake.T3 := by kernel_rfl
theorem thermionlaw04_awake.bits3 : waitsOk thermionlaw04_awake.T3.2 thermionlaw04_awake.B3 = true := by kernel_rfl
set_option maxHeartbeats 8000000 in
set_option maxRecDepth 100000 in
theorem thermionlaw04_awake.calls (k : Nat)  (r : Bool) (w : World) (h : thermionlaw04_awake.f k  = some r) :
  Calls Try.prog 21 #[] w fun e w' => e = .returned (.bool r) ∧ Below w.heap.size w w' := by
 have hu32 := Try.underlying32
 have HB := Aside0.mk (Below.refl w.heap.size w)
 have H : ((thermionlaw04_chain.f).bind fun bt144 => ((mount_Tight.f bt144.1 bt144.2).bind fun bt148 => ((thermionlaw04_kit.f).bind fun bt152 => ((mount_Orders.f bt152.1 bt152.2).bind fun bt156 => (if bt148.2 = 0 then (if (bt148.1.length : Int) = 3 then (if 0 < (bt148.1.length : Int) then ((thermionlaw04_of.f 10 12).bind fun bt159 => ((thermionlaw04_of.f 17 18).bind fun bt161 => ((thermionkit_SameRanges.f k (rd_L6 bt148.1 0) (([(⟨0, 0⟩ : S32), (⟨bt159.1, bt159.2⟩ : S32), (⟨bt161.1, bt161.2⟩ : S32)] : List (S32)))).bind fun t166 => (if t166 = true then (if bt156.1 = 2 then (some (bt156.2 == 0)) else (some false)) else (some false))))) else (none)) else (some false)) else (some false)))))) = some r := h
 clear h
 replace H := Option.bind_eq_some_iff.mp H
 obtain ⟨⟨t144, t145⟩, A10, H⟩ := H
 replace H : ((mount_Tight.f t144 t145).bind fun bt148 => ((thermionlaw04_kit.f).bind fun bt152 => ((mount_Orders.f bt152.1 bt152.2).bind fun bt156 => (if bt148.2 = 0 then (if (bt148.1.length : Int) = 3 then (if 0 < (bt148.1.length : Int) then ((thermionlaw04_of.f 10 12).bind fun bt159 => ((thermionlaw04_of.f 17 18).bind fun bt161 => ((thermionkit_SameRanges.f k (rd_L6 bt148.1 0) (([(⟨0, 0⟩ : S32), (⟨bt159.1, bt159.2⟩ : S32), (⟨bt161.1, bt161.2⟩ : S32)] : List (S32)))).bind fun t166 => (if t166 = true then (if bt156.1 = 2 then (some (bt156.2 == 0)) else (some false)) else (some false))))) else (none)) else (some false)) else (some false))))) = some r := H
 have A1 := Aside0.mk A10
 clear A10
 replace H := Option.bind_eq_some_iff.mp H
 obtain ⟨⟨t148, t151⟩, A20, H⟩ := H
 replace H : ((thermionlaw04_kit.f).bind fun bt152 => ((mount_Orders.f bt152.1 bt152.2).bind fun bt156 => (if t151 = 0 then (if (t148.length : Int) = 3 then (if 0 < (t148.length : Int) then ((thermionlaw04_of.f 10 12).bind fun bt159 => ((thermionlaw04_of.f 17 18).bind fun bt161 => ((thermionkit_SameRanges.f k (rd_L6 t148 0) (([(⟨0, 0⟩ : S32), (⟨bt159.1, bt159.2⟩ : S32), (⟨bt161.1, bt161.2⟩ : S32)] : List (S32)))).bind fun t166 => (if t166 = true then (if bt156.1 = 2 then (some (bt156.2 == 0)) else (some false)) else (some false))))) else (none)) else (some false)) else (some false)))) = some r := H
 have A2 := Aside0.mk A20
 clear A20
 replace H := Option.bind_eq_some_iff.mp H
 obtain ⟨⟨t152, t155⟩, A30, H⟩ := H
 replace H : ((mount_Orders.f t152 t155).bind fun bt156 => (if t151 = 0 then (if (t148.length : Int) = 3 then (if 0 < (t148.length : Int) then ((thermionlaw04_of.f 10 12).bind fun bt159 => ((thermionlaw04_of.f 17 18).bind fun bt161 => ((thermionkit_SameRanges.f k (rd_L6 t148 0) (([(⟨0, 0⟩ : S32), (⟨bt159.1, bt159.2⟩ : S32), (⟨bt161.1, bt161.2⟩ : S32)] : List (S32)))).bind fun t166 => (if t166 = true then (if bt156.1 = 2 then (some (bt156.2 == 0)) else (some false)) else (some false))))) else (none)) else (some false)) else (some false))) = some r := H
 have A3 := Aside0.mk A30
 clear A30
 replace H := Option.bind_eq_some_iff.mp H
 obtain ⟨⟨t156, t157⟩, A40, H⟩ := H
 replace H : (if t151 = 0 then (if (t148.length : Int) = 3 then (if 0 < (t148.length : Int) then ((thermionlaw04_of.f 10 12).bind fun bt159 => ((thermionlaw04_of.f 17 18).bind fun bt161 => ((thermionkit_SameRanges.f k (rd_L6 t148 0) (([(⟨0, 0⟩ : S32), (⟨bt159.1, bt159.2⟩ : S32), (⟨bt161.1, bt161.2⟩ : S32)] : List (S32)))).bind fun t166 => (if t166 = true then (if t156 = 2 then (some (t157 == 0)) else (some false)) else (some false))))) else (none)) else (some false)) else (some false)) = some r := H
 have A4 := Aside0.mk A40
 clear A40
 by_cases c5 : t151 = 0
 ·rw [if_pos c5] at H
  have c5b0 : (t151 == 0) = true := beq_iff_eq.mpr c5
  have c5b1 : (t151 != 0) = false := bne_eq_false_iff_eq.mpr c5
  clear c5
  by_cases c6 : (t148.length : Int) = 3
  ·rw [if_pos c6] at H
   have c6b0 : ((t148.length : Int) == 3) = true := beq_iff_eq.mpr c6
   have c6b1 : ((t148.length : Int) != 3) = false := bne_eq_false_iff_eq.mpr c6
   clear c6
   by_cases c7 : 0 < (t148.length : Int)
   ·rw [if_pos c7] at H
    have c7b0 : decide (0 < (t148.length : Int)) = true := decide_eq_true c7
    have c7b1 : decide (0 < t148.length) = true := decide_eq_true (by omega)
    clear c7
    replace H := Option.bind_eq_some_iff.mp H
    obtain ⟨⟨t159, t160⟩, A80, H⟩ := H
    replace H : ((thermionlaw04_of.f 17 18).bind fun bt161 => ((thermionkit_SameRanges.f k (rd_L6 t148 0) (([(⟨0, 0⟩ : S32), (⟨t159, t160⟩ : S32), (⟨bt161.1, bt161.2⟩ : S32)] : List (S32)))).bind fun t166 => (if t166 = true then (if t156 = 2 then (some (t157 == 0)) else (some false)) else (some false)))) = some r := H
    have A8 := Aside0.mk A80
    clear A80
    replace H := Option.bind_eq_some_iff.mp H
    obtain ⟨⟨t161, t162⟩, A90, H⟩ := H
    replace H : ((thermionkit_SameRanges.f k (rd_L6 t148 0) (([(⟨0, 0⟩ : S32), (⟨t159, t160⟩ : S32), (⟨t161, t162⟩ : S32)] : List (S32)))).bind fun t166 => (if t166 = true then (if t156 = 2 then (some (t157 == 0)) else (some false)) else (some false))) = some r := H
    have A9 := Aside0.mk A90
    clear A90
    obtain ⟨y163, hy163⟩ : ∃ y_ : List (S32), y_ = (([(⟨0, 0⟩ : S32), (⟨t159, t160⟩ : S32), (⟨t161, t162⟩ : S32)] : List (S32))) := ⟨_, rfl⟩
    replace H : ((thermionkit_SameRanges.f k (rd_L6 t148 0) y163).bind fun t166 => (if t166 = true then (if t156 = 2 then (some (t157 == 0)) else (some false)) else (some false))) = some r := by first | (rw [hy163]; with_reducible exact H) | (have H2_ := (Option.bind_some _ _).symm.trans H; rw [hy163]; with_reducible exact H2_) | (have H2_ := (Option.bind_some _ _).symm.trans H; with_reducible exact H2_) | with_reducible exact H | (rw [hy163]; exact H) | exact H
    have Ny163 := Aside0.mk hy163
    clear hy163
    replace H := Option.bind_eq_some_iff.mp H
    obtain ⟨t166, A100, H⟩ := H
    replace H : (if t166 = true then (if t156 = 2 then (some (t157 == 0)) else (some false)) else (some false)) = some r := H
    have A10 := Aside0.mk A100
    clear A100
    by_cases c11 : t166 = true
    ·subst c11
     have H1 : (if t156 = 2 then (some (t157 == 0)) else (some false)) = some r := by rw [if_pos rfl] at H; exact H
     clear H
     have H := H1
     clear H1
     by_cases c12 : t156 = 2
     ·rw [if_pos c12] at H
      have c12b0 : (t156 == 2) = true := beq_iff_eq.mpr c12
      have c12b1 : (t156 != 2) = false := bne_eq_false_iff_eq.mpr c12
      clear c12
      obtain rfl := Option.some.inj H
      go_enter Try.func21, Try.ntmps21
      try go_wp2_with (first | ((with_reducible refine gate_callee (f := 87) rfl ?_); refine goesL_ (some 6) rfl rfl Try.func87 (by kernel_rfl) rfl #[] rfl (by (try simp only [List.map_toArray, List.map_cons, List.map_nil]); first | done | rfl | (simp only [List.length_drop, List.length_take]; rfl)) ?_; (with_reducible refine (thermionlaw04_chain.calls  t144 t145 _ A1.out).mono ?_); rintro e w13 ⟨v146, rfl, ho0, hb⟩; refine ⟨_, rfl, ?_⟩; have n0_ := Aside0.mk (Kd.R_lower ho0 (below_size (by repeat (first | (with_reducible first | exact HB.out | apply below_alloc | apply pw_below_drewN | apply below_drew1) | exact HB.out)))); have n1_ := Aside0.mk (below_step (by repeat (first | (with_reducible first | exact HB.out | apply below_alloc | apply pw_below_drewN | apply below_drew1) | exact HB.out)) hb); clear HB; have HO147 := n0_; have HB := n1_; clear n0_ n1_; (try clear hb); (try clear hb2); (try clear hk); (try clear hi); (try clear ho0); obtain ⟨Ao14, co14, eo14⟩ := Kd.R_slice HO147.out; subst eo14) | ((with_reducible refine gate_callee (f := 24) rfl ?_); refine goesL_ (some 7) rfl rfl Try.func24 (by kernel_rfl) rfl #[.agg #[.int .i64 t144, .slice Ao14 t145.length co14]] rfl (by (try simp only [List.map_toArray, List.map_cons, List.map_nil]); first | done | rfl | (simp only [List.length_drop, List.length_take]; rfl)) ?_; (with_reducible refine (mount_Tight.calls t144 _ _ t145 t148 t151 _ ?side1 ?side2 A2.out).mono ?_); (case side1 => repeat (first | exact (Kd.R_reads' HO147.out).2.2 | (with_reducible refine Kd.C_alloc ?_ _) | (with_reducible refine Kd.C_drewN ?_ _) | (with_reducible refine Kd.C_drew ?_))); (case side2 => exact (Kd.R_reads' HO147.out).2.1); rintro e w15 ⟨v149, rfl, ho0, hb⟩; refine ⟨_, rfl, ?_⟩; have n0_ := Aside0.mk (Kd.R_below (by (with_reducible repeat (first | apply Kd.R_alloc | apply Kd.R_drewN | apply Kd.R_drew)); exact HO147.out) hb); have n1_ := Aside0.mk (Kd.N_lower (Kd.N_mono (ok' := fun k_ => some k_ ≠ (.slice Ao14 t145.length co14 : Value).ownBlock) (Kd.S_N (Kd.S_bound ho0)) (fun k_ hk_ => (Kd.fresh' (Kd.R_lt (by (with_reducible repeat (first | apply Kd.R_alloc | apply Kd.R_drewN | apply Kd.R_drew)); exact HO147.out)) k_ hk_.2.1))) (below_size (by repeat (first | (with_reducible first | exact HB.out | apply below_alloc | apply pw_below_drewN | apply below_drew1) | exact HB.out)))); have n2_ := Aside0.mk (below_step (by repeat (first | (with_reducible first | exact HB.out | apply below_alloc | apply pw_below_drewN | apply below_drew1) | exact HB.out)) hb); clear HO147; clear HB; have HO147 := n0_; have HO150 := n1_; have HB := n2_; clear n0_ n1_ n2_; (try clear hb); (try clear hb2); (try clear hk); (try clear hi); (try clear ho0)) | ((with_reducible refine gate_callee (f := 59) rfl ?_); refine goesL_ (some 11) rfl rfl Try.func59 (by kernel_rfl) rfl #[] rfl (by (try simp only [List.map_toArray, List.map_cons, List.map_nil]); first | done | rfl | (simp only [List.length_drop, List.length_take]; rfl)) ?_; (with_reducible refine (thermionlaw04_kit.calls  t152 t155 _ A3.out).mono ?_); rintro e w16 ⟨v153, rfl, ho0, hb⟩; refine ⟨_, rfl, ?_⟩; have n0_ := Aside0.mk (Kd.R_below (by (with_reducible repeat (first | apply Kd.R_alloc | apply Kd.R_drewN | apply Kd.R_drew)); exact HO147.out) hb); have n1_ := Aside0.mk (Kd.N_elder' (by (with_reducible repeat (first | apply Kd.N_alloc | apply Kd.N_drewN | apply Kd.N_drew)); exact HO150.out) (Kd.N_base ho0) hb); have n2_ := Aside0.mk (Kd.N_lower (Kd.N_mono (ok' := fun k_ => some k_ ≠ (.slice Ao14 t145.length co14 : Value).ownBlock ∧ some k_ ≠ (v149 : Value).ownBlock) ho0 (fun k_ hk_ => ⟨(Kd.fresh' (Kd.R_lt (by (with_reducible repeat (first | apply Kd.R_alloc | apply Kd.R_drewN | apply Kd.R_drew)); exact HO147.out)) k_ hk_), (Kd.fresh' (Kd.N_lt (by (with_reducible repeat (first | apply Kd.N_alloc | apply Kd.N_drewN | apply Kd.N_drew)); exact HO150.out)) k_ hk_)⟩)) (below_size (by repeat (first | (with_reducible first | exact HB.out | apply below_alloc | apply pw_below_drewN | apply below_drew1) | exact HB.out)))); have n3_ := Aside0.mk (below_step (by repeat (first | (with_reducible first | exact HB.out | apply below_alloc | apply pw_below_drewN | apply below_drew1) | exact HB.out)) hb); clear HO147; clear HO150; clear HB; have HO147 := n0_; have HO150 := n1_; have HO154 := n2_; have HB := n3_; clear n0_ n1_ n2_ n3_; (try clear hb); (try clear hb2); (try clear hk); (try clear hi); (try clear ho0); obtain ⟨Ao17, co17, eo17⟩ := Kd.N_slice HO154.out; subst eo17) | ((with_reducible refine gate_callee (f := 30) rfl ?_); refine goesL_ (some 12) rfl rfl Try.func30 (by kernel_rfl) rfl #[.agg #[.slice Ao17 t152.length co17, .int .i64 t155]] rfl (by (try simp only [List.map_toArray, List.map_cons, List.map_nil]); first | done | rfl | (simp only [List.length_drop, List.length_take]; rfl)) ?_; (with_reducible refine (mount_Orders.calls _ _ t152 t155 t156 t157 _ ?side1 ?side2 A4.out).mono ?_); (case side1 => repeat (first | exact (Kd.N_reads' HO154.out).2.2 | (with_reducible refine Kd.C_alloc ?_ _) | (with_reducible refine Kd.C_drewN ?_ _) | (with_reducible refine Kd.C_drew ?_))); (case side2 => exact (Kd.N_reads' HO154.out).2.1); rintro e w18 ⟨rfl, hb⟩; refine ⟨_, rfl, ?_⟩; have n0_ := Aside0.mk (Kd.R_below (by (with_reducible repeat (first | apply Kd.R_alloc | apply Kd.R_drewN | apply Kd.R_drew)); exact HO147.out) hb); have n1_ := Aside0.mk (Kd.N_below (by (with_reducible repeat (first | apply Kd.N_alloc | apply Kd.N_drewN | apply Kd.N_drew)); exact HO150.out) hb); have n2_ := Aside0.mk (Kd.N_below (by (with_reducible repeat (first | apply Kd.N_alloc | apply Kd.N_drewN | apply Kd.N_drew)); exact HO154.out) hb); have n3_ := Aside0.mk (below_step (by repeat (first | (with_reducible first | exact HB.out | apply below_alloc | apply pw_below_drewN | apply below_drew1) | exact HB.out)) hb); clear HO147; clear HO150; clear HO154; clear HB; have HO147 := n0_; have HO150 := n1_; have HO154 := n2_; have HB := n3_; clear n0_ n1_ n2_ n3_; (try clear hb); (try clear hb2); (try clear hk); (try clear hi)))
      have n0_ := Aside0.mk (Kd.R_drew HO147.out)
      have n1_ := Aside0.mk (Kd.N_drew HO150.out)
      have n2_ := Aside0.mk (Kd.N_drew HO154.out)
      have n3_ := Aside0.mk (below_drew1 HB.out)
      clear HO147
      clear HO150
      clear HO154
      clear HB
      have HO147 := n0_
      have HO150 := n1_
      have HO154 := n2_
      have HB := n3_
      clear n0_ n1_ n2_ n3_
      obtain ⟨Ao20, co20, eo20⟩ := Kd.N_slice HO150.out
      (first | subst eo20 | (injection eo20 with f1_ f2_ f3_; have f4_ := f1_.symm; have f5_ := f3_.symm; clear f1_ f2_ f3_; subst f4_; subst f5_))
      have p158 : 0 ≤ (0 : Int) := (by omega)
      have q158 : 0 < (t148.length : Int) := of_decide_eq_true (by first | (with_reducible assumption) | assumption)
      obtain ⟨ad158, A158_0, c158_0, e158, hx158_0, hl158_0, hi158_0⟩ := at_L6 (Kd.N_reads' HO150.out).2.2 0 p158 q158
      cases e158
      obtain ⟨ce158, hce158, hMe158, hcc158⟩ := Kd.N_get HO150.out [] 0 p158 (by first | exact q158 | exact of_decide_eq_true (by first | (with_reducible assumption) | assumption) | (have e_ := (Kd.N_reads' HO150.out).1; omega))
      obtain ⟨ua158_0, uc158_0, rfl, ul158_0, ge158_0⟩ := Kd.FK_slice_open hMe158
      have hv158_0 := hcc158 0 _ rfl
      rw [Nat.add_zero, show ((Kd.slice 32 k32)).sz = 1 from rfl, Nat.mul_one] at hv158_0
      replace hv158_0 := Option.some.inj (hv158_0.symm.trans hx158_0)
      injection hv158_0 with hva_ hvn_ hvc_
      rw [hva_] at ge158_0
      rw [hvc_] at ul158_0
      have HL158_0 := Aside0.mk (show Kd.V k32 32 _ w.heap.size _ _ (rd_L6 t148 0) from Kd.V_mk ul158_0 ge158_0)
      clear hva_ hvn_ hvc_ ge158_0 ul158_0
      clear hcc158 hce158
      have qi158 : (0 < t148.length) = True := eq_true (by omega)
      (try rw [show ((0 : Int)).toNat = 0 from rfl] at hx158_0)
      (try rw [Addr.add_zero'] at hx158_0)
      have HR158_0 := Aside0.mk hi158_0
      have HC158_0 := Aside0.mk hl158_0
      clear hi158_0 hl158_0
      replace p158 := eq_true p158
      replace q158 := eq_true q158
      refine start_ (n := 26) (S := fun w' => w'.cell? ad158 = some (.slice A158_0 (rd_L6 t148 0).length c158_0)) (ds := []) #[false, false, false, false, false, false, false, false, false, false, false, false, false, false, false, false, false, false, false, false, false, false, false, false, false, false] (by kernel_rfl) rfl rfl (hx158_0) (fun hHeld => ?_); refine with_tabW thermionlaw04_awake.tab3 thermionlaw04_awake.bits3 (fun HT_ HW_ => ?_)
      generalize w18.drew = w19 at HO147 HO150 HO154 HB HL158_0 HR158_0 hx158_0 hHeld ⊢
      refine pure_ (i := 0) (N := some 15) (v := ?_) (a' := ?_) #[true, false, false, false, false, false, false, false, false, false, false, false, false, false, false, false, false, false, false, false, false, false, false, false, false, false] rfl rfl (any_of HT_.out (by kernel_rfl)) (fun _ _ _ h => h) (Or.inl ⟨by rfl, ?_⟩) ?_ ?_
      rotate_left
      ·intro w'
       go_simp
       with_reducible rfl
      rotate_left
      ·simp only [Act.put, List.setIfInBounds_toArray, List.set_cons_zero, List.set_cons_succ, i64_w, i32_w]
       rfl
      refine pure_ (i := 1) (N := some 16) (v := ?_) (a' := ?_) #[true, true, false, false, false, false, false, false, false, false, false, false, false, false, false, false, false, false, false, false, false, false, false, false, false, false] rfl rfl (any_of HT_.out (by kernel_rfl)) (fun _ _ _ h => h) (Or.inl ⟨by rfl, ?_⟩) ?_ ?_
      rotate_left
      ·intro w'
       go_simp
       with_reducible rfl
      rotate_left
      ·simp only [Act.put, List.setIfInBounds_toArray, List.set_cons_zero, List.set_cons_succ, i64_w, i32_w]
       rfl
      refine pure_ (i := 2) (N := some 17) (v := ?_) (a' := ?_) #[true, true, true, false, false, false, false, false, false, false, false, false, false, false, false, false, false, false, false, false, false, false, false, false, false, false] rfl rfl (any_of HT_.out (by kernel_rfl)) (fun _ _ _ h => h) (Or.inl ⟨by rfl, ?_⟩) ?_ ?_
      rotate_left
      ·intro w'
       go_simp
       with_reducible rfl
      rotate_left
      ·simp only [Act.put, List.setIfInBounds_toArray, List.set_cons_zero, List.set_cons_succ, i64_w, i32_w]
       rfl
      refine pure_ (i := 3) (N := some 18) (v := ?_) (a' := ?_) #[true, true, true, true, false, false, false, false, false, false, false, false, false, false, false, false, false, false, false, false, false, false, false, false, false, false] rfl rfl (any_of HT_.out (by kernel_rfl)) (fun _ _ _ h => h) (Or.inl ⟨by rfl, ?_⟩) ?_ ?_
      rotate_left
      ·intro w'
       go_simp
       with_reducible rfl
      rotate_left
      ·simp only [Act.put, List.setIfInBounds_toArray, List.set_cons_zero, List.set_cons_succ, i64_w, i32_w]
       rfl
      refine pure_ (i := 4) (N := some 19) (v := ?_) (a' := ?_) #[true, true, true, true, true, false, false, false, false, false, false, false, false, false, false, false, false, false, false, false, false, false, false, false, false, false] rfl rfl (any_of HT_.out (by kernel_rfl)) (fun _ _ _ h => h) (Or.inl ⟨by rfl, ?_⟩) ?_ ?_
      rotate_left
      ·intro w'
       go_simp
       with_reducible rfl
      rotate_left
      ·simp only [Act.put, List.setIfInBounds_toArray, List.set_cons_zero, List.set_cons_succ, i64_w, i32_w]
       rfl
      refine pure_ (i := 5) (N := some 20) (v := ?_) (a' := ?_) #[true, true, true, true, true, true, false, false, false, false, false, false, false, false, false, false, false, false, false, false, false, false, false, false, false, false] rfl rfl (any_of HT_.out (by kernel_rfl)) (fun _ _ _ h => h) (Or.inl ⟨by rfl, ?_⟩) ?_ ?_
      rotate_left
      ·intro w'
       go_simp
       with_reducible rfl
      rotate_left
      ·simp only [Act.put, List.setIfInBounds_toArray, List.set_cons_zero, List.set_cons_succ, i64_w, i32_w]
       rfl
      refine pure_ (i := 6) (N := some 21) (v := ?_) (a' := ?_) #[true, true, true, true, true, true, true, false, false, false, false, false, false, false, false, false, false, false, false, false, false, false, false, false, false, false] rfl rfl (any_of HT_.out (by kernel_rfl)) (fun _ _ _ h => h) (Or.inl ⟨by rfl, ?_⟩) ?_ ?_
      rotate_left
      ·intro w'
       go_simp
       with_reducible rfl
      rotate_left
      ·simp only [Act.put, List.setIfInBounds_toArray, List.set_cons_zero, List.set_cons_succ, i64_w, i32_w]
       rfl
      refine pure_ (i := 7) (N := some 22) (v := ?_) (a' := ?_) #[true, true, true, true, true, true, true, true, false, false, false, false, false, false, false, false, false, false, false, false, false, false, false, false, false, false] rfl rfl (any_of HT_.out (by kernel_rfl)) (fun _ _ _ h => h) (Or.inl ⟨by rfl, ?_⟩) ?_ ?_
      rotate_left
      ·intro w'
       go_simp
       with_reducible rfl
      rotate_left
      ·simp only [Act.put, List.setIfInBounds_toArray, List.set_cons_zero, List.set_cons_succ, i64_w, i32_w]
       rfl
      refine pure_ (i := 8) (N := some 23) (v := ?_) (a' := ?_) #[true, true, true, true, true, true, true, true, true, false, false, false, false, false, false, false, false, false, false, false, false, false, false, false, false, false] rfl rfl (any_of HT_.out (by kernel_rfl)) (fun _ _ _ h => h) (Or.inl ⟨by rfl, ?_⟩) ?_ ?_
      rotate_left
      ·intro w'
       go_simp
       with_reducible rfl
      rotate_left
      ·simp only [Act.put, List.setIfInBounds_toArray, List.set_cons_zero, List.set_cons_succ, i64_w, i32_w]
       rfl
      refine pure_ (i := 9) (N := some 24) (v := ?_) (a' := ?_) #[true, true, true, true, true, true, true, true, true, true, false, false, false, false, false, false, false, false, false, false, false, false, false, false, false, false] rfl rfl (any_of HT_.out (by kernel_rfl)) (fun _ _ _ h => h) (Or.inl ⟨by rfl, ?_⟩) ?_ ?_
      rotate_left
      ·intro w'
       go_simp
       with_reducible rfl
      rotate_left
      ·simp only [Act.put, List.setIfInBounds_toArray, List.set_cons_zero, List.set_cons_succ, i64_w, i32_w]
       rfl
      refine pure_ (i := 11) (N := some 26) (v := ?_) (a' := ?_) #[true, true, true, true, true, true, true, true, true, true, false, true, false, false, false, false, false, false, false, false, false, false, false, false, false, false] rfl rfl (any_of HT_.out (by kernel_rfl)) (fun _ _ _ h => h) (Or.inl ⟨by rfl, ?_⟩) ?_ ?_
      rotate_left
      ·intro w'
       go_simp
       with_reducible rfl
      rotate_left
      ·simp only [Act.put, List.setIfInBounds_toArray, List.set_cons_zero, List.set_cons_succ, i64_w, i32_w]
       rfl
      refine take_ (i := 10) (N := some 25) (v := ?_) (a' := ?_) #[true, true, true, true, true, true, true, true, true, true, true, true, false, false, false, false, false, false, false, false, false, false, false, false, false, false] rfl rfl (take_ofW HT_.out HW_.out (by kernel_rfl)) (fun _ _ _ h => h) (Or.inl ⟨by rfl, ?_⟩) hHeld ?_ ?_
      rotate_left
      ·intro w' s0
       go_simp
       with_reducible rfl
      rotate_left
      ·simp only [Act.put, List.setIfInBounds_toArray, List.set_cons_zero, List.set_cons_succ, i64_w, i32_w]
       rfl
      refine one_ (i := 12) (N := some 27) #[true, true, true, true, true, true, true, true, true, true, true, true, true, false, false, false, false, false, false, false, false, false, false, false, false, false] rfl rfl (one_of HT_.out (by kernel_rfl)) (by decide) (fun K hK => ?_)
      refine goes_ Try.func52 (by kernel_rfl) rfl #[.int .i64 10, .int .i64 12] (by rfl) rfl rfl (by (try simp only [List.map_toArray, List.map_cons, List.map_nil]); first | done | rfl | (simp only [List.length_drop, List.length_take]; rfl)) ?_
      with_reducible refine (thermionlaw04_of.calls 10 12 t159 t160 _ A8.out).mono ?_
      rintro e w21 ⟨rfl, hb⟩
      have HS0_ := (hb.cell (World.block_lt_of_cell? _ _ (hHeld))).trans (hHeld)
      refine ⟨_, rfl, ?_⟩
      have n0_ := Aside0.mk (Kd.R_below (by (with_reducible repeat (first | apply Kd.R_alloc | apply Kd.R_drewN | apply Kd.R_drew)); exact HO147.out) hb)
      have n1_ := Aside0.mk (Kd.N_below (by (with_reducible repeat (first | apply Kd.N_alloc | apply Kd.N_drewN | apply Kd.N_drew)); exact HO150.out) hb)
      have n2_ := Aside0.mk (Kd.N_below (by (with_reducible repeat (first | apply Kd.N_alloc | apply Kd.N_drewN | apply Kd.N_drew)); exact HO154.out) hb)
      have n3_ := Aside0.mk (Kd.V_below (by (with_reducible repeat (first | apply Kd.V_alloc | apply Kd.V_drewN | apply Kd.V_drew)); exact HL158_0.out) hb)
      have n4_ := Aside0.mk (Kd.C_below (by repeat (first | (with_reducible exact HR158_0.out) | (with_reducible refine Kd.C_alloc ?_ _) | (with_reducible refine Kd.C_drewN ?_ _) | (with_reducible refine Kd.C_drew ?_) | exact HR158_0.out)) hb)
      have n5_ := Aside0.mk (below_step (by repeat (first | (with_reducible first | exact HB.out | apply below_alloc | apply pw_below_drewN | apply below_drew1) | exact HB.out)) hb)
      clear HO147
      clear HO150
      clear HO154
      clear HL158_0
      clear HR158_0
      clear HB
      have HO147 := n0_
      have HO150 := n1_
      have HO154 := n2_
      have HL158_0 := n3_
      have HR158_0 := n4_
      have HB := n5_
      clear n0_ n1_ n2_ n3_ n4_ n5_
      (try clear hb)
      (try clear hb2)
      (try clear hk)
      (try clear hi)
      refine hK.out _ _ (HS0_) (fun hHeld => ?_)
      clear hK K
      refine norm_ (a' := ?_) ?_ ?_
      rotate_left
      ·show Act.put _ (some 27) _ = _
       simp only [Act.put, List.setIfInBounds_toArray, List.set_cons_zero, List.set_cons_succ, i64_w, i32_w]
       rfl
      refine one_ (i := 13) (N := some 28) #[true, true, true, true, true, true, true, true, true, true, true, true, true, true, false, false, false, false, false, false, false, false, false, false, false, false] rfl rfl (one_of HT_.out (by kernel_rfl)) (by decide) (fun K hK => ?_)
      refine goes_ Try.func52 (by kernel_rfl) rfl #[.int .i64 17, .int .i64 18] (by rfl) rfl rfl (by (try simp only [List.map_toArray, List.map_cons, List.map_nil]); first | done | rfl | (simp only [List.length_drop, List.length_take]; rfl)) ?_
      with_reducible refine (thermionlaw04_of.calls 17 18 t161 t162 _ A9.out).mono ?_
      rintro e w22 ⟨rfl, hb⟩
      have HS0_ := (hb.cell (World.block_lt_of_cell? _ _ (hHeld))).trans (hHeld)
      refine ⟨_, rfl, ?_⟩
      have n0_ := Aside0.mk (Kd.R_below (by (with_reducible repeat (first | apply Kd.R_alloc | apply Kd.R_drewN | apply Kd.R_drew)); exact HO147.out) hb)
      have n1_ := Aside0.mk (Kd.N_below (by (with_reducible repeat (first | apply Kd.N_alloc | apply Kd.N_drewN | apply Kd.N_drew)); exact HO150.out) hb)
      have n2_ := Aside0.mk (Kd.N_below (by (with_reducible repeat (first | apply Kd.N_alloc | apply Kd.N_drewN | apply Kd.N_drew)); exact HO154.out) hb)
      have n3_ := Aside0.mk (Kd.V_below (by (with_reducible repeat (first | apply Kd.V_alloc | apply Kd.V_drewN | apply Kd.V_drew)); exact HL158_0.out) hb)
      have n4_ := Aside0.mk (Kd.C_below (by repeat (first | (with_reducible exact HR158_0.out) | (with_reducible refine Kd.C_alloc ?_ _) | (with_reducible refine Kd.C_drewN ?_ _) | (with_reducible refine Kd.C_drew ?_) | exact HR158_0.out)) hb)
      have n5_ := Aside0.mk (below_step (by repeat (first | (with_reducible first | exact HB.out | apply below_alloc | apply pw_below_drewN | apply below_drew1) | exact HB.out)) hb)
      clear HO147
      clear HO150
      clear HO154
      clear HL158_0
      clear HR158_0
      clear HB
      have HO147 := n0_
      have HO150 := n1_
      have HO154 := n2_
      have HL158_0 := n3_
      have HR158_0 := n4_
      have HB := n5_
      clear n0_ n1_ n2_ n3_ n4_ n5_
      (try clear hb)
      (try clear hb2)
      (try clear hk)
      (try clear hi)
      refine hK.out _ _ (HS0_) (fun hHeld => ?_)
      clear hK K
      refine norm_ (a' := ?_) ?_ ?_
      rotate_left
      ·show Act.put _ (some 28) _ = _
       simp only [Act.put, List.setIfInBounds_toArray, List.set_cons_zero, List.set_cons_succ, i64_w, i32_w]
       rfl
      refine one_ (i := 14) (N := some 29) #[true, true, true, true, true, true, true, true, true, true, true, true, true, true, true, false, false, false, false, false, false, false, false, false, false, false] rfl rfl (one_of HT_.out (by kernel_rfl)) (by decide) (fun K hK => ?_)
      refine Kd.R_lit_step k32 _ 32 ?hg (N := 29) ?hd (xs := ([(⟨0, 0⟩ : S32), (⟨t159, t160⟩ : S32), (⟨t161, t162⟩ : S32)] : List (S32))) (inner := [.int .i64 0, .int .i64 0, .int .i64 t159, .int .i64 t160, .int .i64 t161, .int .i64 t162]) (ok := fun _ => True) (okp := fun _ => True) ?hr ?hp (fun _ hk => hk) trivial (Below.refl _ _) (Nat.le_refl _) (by simp) ?_; (case hd => rfl); (case hg => rfl); (case hr => first | (go_simp; done) | (go_simp; rfl)); (case hp => exact (Reps.c2 (show Kd.M k32 _ _ _ (⟨0, 0⟩ : S32) [.int .i64 0, .int .i64 0] from (k32_mkM _ _ _ (⟨0, 0⟩ : S32) )) (Reps.c2 (show Kd.M k32 _ _ _ (⟨t159, t160⟩ : S32) [.int .i64 t159, .int .i64 t160] from (k32_mkM _ _ _ (⟨t159, t160⟩ : S32) )) (Reps.c2 (show Kd.M k32 _ _ _ (⟨t161, t162⟩ : S32) [.int .i64 t161, .int .i64 t162] from (k32_mkM _ _ _ (⟨t161, t162⟩ : S32) )) (Reps.none _ _)))))
      intro v164 w23 ho24 hb hg_ hnew_
      have HS0_ := (hb.cell (World.block_lt_of_cell? _ _ (hHeld))).trans (hHeld)
      clear hg_ hnew_
      (first | rw [← Ny163.out] at ho24 | (simp only [Int.reduceToNat] at ho24; rw [← Ny163.out] at ho24))
      have n0_ := Aside0.mk (Kd.R_below (by (with_reducible repeat (first | apply Kd.R_alloc | apply Kd.R_drewN | apply Kd.R_drew)); exact HO147.out) hb)
      have n1_ := Aside0.mk (Kd.N_elder' (by (with_reducible repeat (first | apply Kd.N_alloc | apply Kd.N_drewN | apply Kd.N_drew)); exact HO150.out) (Kd.R_base ho24) hb)
      have n2_ := Aside0.mk (Kd.N_elder' (by (with_reducible repeat (first | apply Kd.N_alloc | apply Kd.N_drewN | apply Kd.N_drew)); exact HO154.out) (Kd.R_base ho24) hb)
      have n3_ := Aside0.mk (Kd.V_elder' (by (with_reducible repeat (first | apply Kd.V_alloc | apply Kd.V_drewN | apply Kd.V_drew)); exact HL158_0.out) (Kd.R_base ho24) hb)
      have n4_ := Aside0.mk (Kd.R_lower ho24 (below_size (by repeat (first | (with_reducible first | exact HB.out | apply below_alloc | apply pw_below_drewN | apply below_drew1) | exact HB.out))))
      have n5_ := Aside0.mk (Kd.C_below (by repeat (first | (with_reducible exact HR158_0.out) | (with_reducible refine Kd.C_alloc ?_ _) | (with_reducible refine Kd.C_drewN ?_ _) | (with_reducible refine Kd.C_drew ?_) | exact HR158_0.out)) hb)
      have n6_ := Aside0.mk (below_step (by repeat (first | (with_reducible first | exact HB.out | apply below_alloc | apply pw_below_drewN | apply below_drew1) | exact HB.out)) hb)
      clear HO147
      clear HO150
      clear HO154
      clear HL158_0
      clear HR158_0
      clear HB
      have HO147 := n0_
      have HO150 := n1_
      have HO154 := n2_
      have HL158_0 := n3_
      have HO165 := n4_
      have HR158_0 := n5_
      have HB := n6_
      clear n0_ n1_ n2_ n3_ n4_ n5_ n6_
      clear hb ho24
      obtain ⟨Ao25, co25, eo25⟩ := Kd.R_slice HO165.out
      (first | subst eo25 | (injection eo25 with f1_ f2_ f3_; have f4_ := f1_.symm; have f5_ := f3_.symm; clear f1_ f2_ f3_; subst f4_; subst f5_))
      refine hK.out _ _ (HS0_) (fun hHeld => ?_)
      clear hK K
      refine norm_ (a' := ?_) ?_ ?_
      rotate_left
      ·show Act.put _ (some 29) _ = _
       simp only [Act.put, List.setIfInBounds_toArray, List.set_cons_zero, List.set_cons_succ, i64_w, i32_w]
       rfl
      refine one_ (i := 15) (N := some 30) #[true, true, true, true, true, true, true, true, true, true, true, true, true, true, true, true, false, false, false, false, false, false, false, false, false, false] rfl rfl (one_of HT_.out (by kernel_rfl)) (by decide) (fun K hK => ?_)
      refine goes_ Try.func88 (by kernel_rfl) rfl #[.slice A158_0 (rd_L6 t148 0).length c158_0, .slice Ao25 y163.length co25] (by rfl) rfl rfl (by (try simp only [List.map_toArray, List.map_cons, List.map_nil]); first | done | rfl | (simp only [List.length_drop, List.length_take]; rfl)) ?_
      with_reducible refine (thermionkit_SameRanges.calls k _ _ (rd_L6 t148 0) _ _ y163 true _ ?side1 ?side2 ?side3 ?side4 A10.out).mono ?_
      (case side1 => repeat (first | exact (by repeat (first | (with_reducible exact HR158_0.out) | (with_reducible refine Kd.C_alloc ?_ _) | (with_reducible refine Kd.C_drewN ?_ _) | (with_reducible refine Kd.C_drew ?_) | exact HR158_0.out)) | (with_reducible refine Kd.C_alloc ?_ _) | (with_reducible refine Kd.C_drewN ?_ _) | (with_reducible refine Kd.C_drew ?_)))
      (case side2 => exact HC158_0.out)
      (case side3 => repeat (first | exact (Kd.R_reads' HO165.out).2.2 | (with_reducible refine Kd.C_alloc ?_ _) | (with_reducible refine Kd.C_drewN ?_ _) | (with_reducible refine Kd.C_drew ?_)))
      (case side4 => exact (Kd.R_reads' HO165.out).2.1)
      rintro e w' ⟨rfl, ⟨nd, rfl⟩⟩
      refine ⟨_, rfl, ?_⟩
      refine hK.out _ _ (hHeld) (fun hHeld => ?_)
      clear hK K
      refine norm_ (a' := ?_) ?_ ?_
      rotate_left
      ·show Act.put _ (some 30) _ = _
       simp only [Act.put, List.setIfInBounds_toArray, List.set_cons_zero, List.set_cons_succ, i64_w, i32_w]
       rfl
      refine pure_ (i := 16) (N := some 31) (v := ?_) (a' := ?_) #[true, true, true, true, true, true, true, true, true, true, true, true, true, true, true, true, true, false, false, false, false, false, false, false, false, false] rfl rfl (any_of HT_.out (by kernel_rfl)) (fun _ _ _ h => h) (Or.inl ⟨by rfl, ?_⟩) ?_ ?_
      rotate_left
      ·intro w'
       go_simp
       with_reducible rfl
      rotate_left
      ·simp only [Act.put, List.setIfInBounds_toArray, List.set_cons_zero, List.set_cons_succ, i64_w, i32_w]
       rfl
      refine pure_ (i := 17) (N := some 32) (v := ?_) (a' := ?_) #[true, true, true, true, true, true, true, true, true, true, true, true, true, true, true, true, true, true, false, false, false, false, false, false, false, false] rfl rfl (any_of HT_.out (by kernel_rfl)) (fun _ _ _ h => h) (Or.inl ⟨by rfl, ?_⟩) ?_ ?_
      rotate_left
      ·intro w'
       go_simp
       with_reducible rfl
      rotate_left
      ·simp only [Act.put, List.setIfInBounds_toArray, List.set_cons_zero, List.set_cons_succ, i64_w, i32_w]
       rfl
      refine pure_ (i := 18) (N := some 33) (v := ?_) (a' := ?_) #[true, true, true, true, true, true, true, true, true, true, true, true, true, true, true, true, true, true, true, false, false, false, false, false, false, false] rfl rfl (any_of HT_.out (by kernel_rfl)) (fun _ _ _ h => h) (Or.inl ⟨by rfl, ?_⟩) ?_ ?_
      rotate_left
      ·intro w'
       go_simp
       with_reducible rfl
      rotate_left
      ·simp only [Act.put, List.setIfInBounds_toArray, List.set_cons_zero, List.set_cons_succ, i64_w, i32_w]
       rfl
      refine pure_ (i := 19) (N := some 34) (v := ?_) (a' := ?_) #[true, true, true, true, true, true, true, true, true, true, true, true, true, true, true, true, true, true, true, true, false, false, false, false, false, false] rfl rfl (any_of HT_.out (by kernel_rfl)) (fun _ _ _ h => h) (Or.inl ⟨by rfl, ?_⟩) ?_ ?_
      rotate_left
      ·intro w'
       go_simp
       with_reducible rfl
      rotate_left
      ·simp only [Act.put, List.setIfInBounds_toArray, List.set_cons_zero, List.set_cons_succ, i64_w, i32_w]
       rfl
      refine pure_ (i := 20) (N := some 35) (v := ?_) (a' := ?_) #[true, true, true, true, true, true, true, true, true, true, true, true, true, true, true, true, true, true, true, true, true, false, false, false, false, false] rfl rfl (any_of HT_.out (by kernel_rfl)) (fun _ _ _ h => h) (Or.inl ⟨by rfl, ?_⟩) ?_ ?_
      rotate_left
      ·intro w'
       go_simp
       with_reducible rfl
      rotate_left
      ·simp only [Act.put, List.setIfInBounds_toArray, List.set_cons_zero, List.set_cons_succ, i64_w, i32_w]
       rfl
      refine pure_ (i := 21) (N := some 36) (v := ?_) (a' := ?_) #[true, true, true, true, true, true, true, true, true, true, true, true, true, true, true, true, true, true, true, true, true, true, false, false, false, false] rfl rfl (any_of HT_.out (by kernel_rfl)) (fun _ _ _ h => h) (Or.inl ⟨by rfl, ?_⟩) ?_ ?_
      rotate_left
      ·intro w'
       go_simp
       with_reducible rfl
      rotate_left
      ·simp only [Act.put, List.setIfInBounds_toArray, List.set_cons_zero, List.set_cons_succ, i64_w, i32_w]
       rfl
      refine pure_ (i := 22) (N := some 37) (v := ?_) (a' := ?_) #[true, true, true, true, true, true, true, true, true, true, true, true, true, true, true, true, true, true, true, true, true, true, true, false, false, false] rfl rfl (any_of HT_.out (by kernel_rfl)) (fun _ _ _ h => h) (Or.inl ⟨by rfl, ?_⟩) ?_ ?_
      rotate_left
      ·intro w'
       go_simp
       with_reducible rfl
      rotate_left
      ·simp only [Act.put, List.setIfInBounds_toArray, List.set_cons_zero, List.set_cons_succ, i64_w, i32_w]
       rfl
      refine pure_ (i := 23) (N := some 38) (v := ?_) (a' := ?_) #[true, true, true, true, true, true, true, true, true, true, true, true, true, true, true, true, true, true, true, true, true, true, true, true, false, false] rfl rfl (any_of HT_.out (by kernel_rfl)) (fun _ _ _ h => h) (Or.inl ⟨by rfl, ?_⟩) ?_ ?_
      rotate_left
      ·intro w'
       go_simp
       with_reducible rfl
      rotate_left
      ·simp only [Act.put, List.setIfInBounds_toArray, List.set_cons_zero, List.set_cons_succ, i64_w, i32_w]
       rfl
      refine pure_ (i := 24) (N := some 39) (v := ?_) (a' := ?_) #[true, true, true, true, true, true, true, true, true, true, true, true, true, true, true, true, true, true, true, true, true, true, true, true, true, false] rfl rfl (any_of HT_.out (by kernel_rfl)) (fun _ _ _ h => h) (Or.inl ⟨by rfl, ?_⟩) ?_ ?_
      rotate_left
      ·intro w'
       go_simp
       with_reducible rfl
      rotate_left
      ·simp only [Act.put, List.setIfInBounds_toArray, List.set_cons_zero, List.set_cons_succ, i64_w, i32_w]
       rfl
      refine pure_ (i := 25) (N := some 0) (v := ?_) (a' := ?_) #[true, true, true, true, true, true, true, true, true, true, true, true, true, true, true, true, true, true, true, true, true, true, true, true, true, true] rfl rfl (any_of HT_.out (by kernel_rfl)) (fun _ _ _ h => h) (Or.inl ⟨by rfl, ?_⟩) ?_ ?_
      rotate_left
      ·intro w'
       go_simp
       with_reducible rfl
      rotate_left
      ·simp only [Act.put, List.setIfInBounds_toArray, List.set_cons_zero, List.set_cons_succ, i64_w, i32_w]
       rfl
      refine done_ (done_of HT_.out (by kernel_rfl)) ?_
      try go_wp2
      go_ret
      exact ⟨by first | rfl | (simp [errW_none, errW_some] <;> rfl) | (simp [*, errW_none, errW_some] <;> rfl), by repeat (first | (with_reducible first | exact HB.out | apply below_alloc | apply pw_below_drewN | apply below_drew1) | exact HB.out)⟩
     ·rw [if_neg c12] at H
      have c12b0 : (t156 == 2) = false := beq_eq_false_iff_ne.mpr c12
      have c12b1 : (t156 != 2) = true := bne_iff_ne.mpr c12
      obtain rfl := Option.some.inj H
      go_enter Try.func21, Try.ntmps21
      try go_wp2_with (first | ((with_reducible refine gate_callee (f := 87) rfl ?_); refine goesL_ (some 6) rfl rfl Try.func87 (by kernel_rfl) rfl #[] rfl (by (try simp only [List.map_toArray, List.map_cons, List.map_nil]); first | done | rfl | (simp only [List.length_drop, List.length_take]; rfl)) ?_; (with_reducible refine (thermionlaw04_chain.calls  t144 t145 _ A1.out).mono ?_); rintro e w26 ⟨v146, rfl, ho0, hb⟩; refine ⟨_, rfl, ?_⟩; have n0_ := Aside0.mk (Kd.R_lower ho0 (below_size (by repeat (first | (with_reducible first | exact HB.out | apply below_alloc | apply pw_below_drewN | apply below_drew1) | exact HB.out)))); have n1_ := Aside0.mk (below_step (by repeat (first | (with_reducible first | exact HB.out | apply below_alloc | apply pw_below_drewN | apply below_drew1) | exact HB.out)) hb); clear HB; have HO147 := n0_; have HB := n1_; clear n0_ n1_; (try clear hb); (try clear hb2); (try clear hk); (try clear hi); (try clear ho0); obtain ⟨Ao27, co27, eo27⟩ := Kd.R_slice HO147.out; subst eo27) | ((with_reducible refine gate_callee (f := 24) rfl ?_); refine goesL_ (some 7) rfl rfl Try.func24 (by kernel_rfl) rfl #[.agg #[.int .i64 t144, .slice Ao27 t145.length co27]] rfl (by (try simp only [List.map_toArray, List.map_cons, List.map_nil]); first | done | rfl | (simp only [List.length_drop, List.length_take]; rfl)) ?_; (with_reducible refine (mount_Tight.calls t144 _ _ t145 t148 t151 _ ?side1 ?side2 A2.out).mono ?_); (case side1 => repeat (first | exact (Kd.R_reads' HO147.out).2.2 | (with_reducible refine Kd.C_alloc ?_ _) | (with_reducible refine Kd.C_drewN ?_ _) | (with_reducible refine Kd.C_drew ?_))); (case side2 => exact (Kd.R_reads' HO147.out).2.1); rintro e w28 ⟨v149, rfl, ho0, hb⟩; refine ⟨_, rfl, ?_⟩; have n0_ := Aside0.mk (Kd.R_below (by (with_reducible repeat (first | apply Kd.R_alloc | apply Kd.R_drewN | apply Kd.R_drew)); exact HO147.out) hb); have n1_ := Aside0.mk (Kd.N_lower (Kd.N_mono (ok' := fun k_ => some k_ ≠ (.slice Ao27 t145.length co27 : Value).ownBlock) (Kd.S_N (Kd.S_bound ho0)) (fun k_ hk_ => (Kd.fresh' (Kd.R_lt (by (with_reducible repeat (first | apply Kd.R_alloc | apply Kd.R_drewN | apply Kd.R_drew)); exact HO147.out)) k_ hk_.2.1))) (below_size (by repeat (first | (with_reducible first | exact HB.out | apply below_alloc | apply pw_below_drewN | apply below_drew1) | exact HB.out)))); have n2_ := Aside0.mk (below_step (by repeat (first | (with_reducible first | exact HB.out | apply below_alloc | apply pw_below_drewN | apply below_drew1) | exact HB.out)) hb); clear HO147; clear HB; have HO147 := n0_; have HO150 := n1_; have HB := n2_; clear n0_ n1_ n2_; (try clear hb); (try clear hb2); (try clear hk); (try clear hi); (try clear ho0)) | ((with_reducible refine gate_callee (f := 59) rfl ?_); refine goesL_ (some 11) rfl rfl Try.func59 (by kernel_rfl) rfl #[] rfl (by (try simp only [List.map_toArray, List.map_cons, List.map_nil]); first | done | rfl | (simp only [List.length_drop, List.length_take]; rfl)) ?_; (with_reducible refine (thermionlaw04_kit.calls  t152 t155 _ A3.out).mono ?_); rintro e w29 ⟨v153, rfl, ho0, hb⟩; refine ⟨_, rfl, ?_⟩; have n0_ := Aside0.mk (Kd.R_below (by (with_reducible repeat (first | apply Kd.R_alloc | apply Kd.R_drewN | apply Kd.R_drew)); exact HO147.out) hb); have n1_ := Aside0.mk (Kd.N_elder' (by (with_reducible repeat (first | apply Kd.N_alloc | apply Kd.N_drewN | apply Kd.N_drew)); exact HO150.out) (Kd.N_base ho0) hb); have n2_ := Aside0.mk (Kd.N_lower (Kd.N_mono (ok' := fun k_ => some k_ ≠ (.slice Ao27 t145.length co27 : Value).ownBlock ∧ some k_ ≠ (v149 : Value).ownBlock) ho0 (fun k_ hk_ => ⟨(Kd.fresh' (Kd.R_lt (by (with_reducible repeat (first | apply Kd.R_alloc | apply Kd.R_drewN | apply Kd.R_drew)); exact HO147.out)) k_ hk_), (Kd.fresh' (Kd.N_lt (by (with_reducible repeat (first | apply Kd.N_alloc | apply Kd.N_drewN | apply Kd.N_drew)); exact HO150.out)) k_ hk_)⟩)) (below_size (by repeat (first | (with_reducible first | exact HB.out | apply below_alloc | apply pw_below_drewN | apply below_drew1) | exact HB.out)))); have n3_ := Aside0.mk (below_step (by repeat (first | (with_reducible first | exact HB.out | apply below_alloc | apply pw_below_drewN | apply below_drew1) | exact HB.out)) hb); clear HO147; clear HO150; clear HB; have HO147 := n0_; have HO150 := n1_; have HO154 := n2_; have HB := n3_; clear n0_ n1_ n2_ n3_; (try clear hb); (try clear hb2); (try clear hk); (try clear hi); (try clear ho0); obtain ⟨Ao30, co30, eo30⟩ := Kd.N_slice HO154.out; subst eo30) | ((with_reducible refine gate_callee (f := 30) rfl ?_); refine goesL_ (some 12) rfl rfl Try.func30 (by kernel_rfl) rfl #[.agg #[.slice Ao30 t152.length co30, .int .i64 t155]] rfl (by (try simp only [List.map_toArray, List.map_cons, List.map_nil]); first | done | rfl | (simp only [List.length_drop, List.length_take]; rfl)) ?_; (with_reducible refine (mount_Orders.calls _ _ t152 t155 t156 t157 _ ?side1 ?side2 A4.out).mono ?_); (case side1 => repeat (first | exact (Kd.N_reads' HO154.out).2.2 | (with_reducible refine Kd.C_alloc ?_ _) | (with_reducible refine Kd.C_drewN ?_ _) | (with_reducible refine Kd.C_drew ?_))); (case side2 => exact (Kd.N_reads' HO154.out).2.1); rintro e w31 ⟨rfl, hb⟩; refine ⟨_, rfl, ?_⟩; have n0_ := Aside0.mk (Kd.R_below (by (with_reducible repeat (first | apply Kd.R_alloc | apply Kd.R_drewN | apply Kd.R_drew)); exact HO147.out) hb); have n1_ := Aside0.mk (Kd.N_below (by (with_reducible repeat (first | apply Kd.N_alloc | apply Kd.N_drewN | apply Kd.N_drew)); exact HO150.out) hb); have n2_ := Aside0.mk (Kd.N_below (by (with_reducible repeat (first | apply Kd.N_alloc | apply Kd.N_drewN | apply Kd.N_drew)); exact HO154.out) hb); have n3_ := Aside0.mk (below_step (by repeat (first | (with_reducible first | exact HB.out | apply below_alloc | apply pw_below_drewN | apply below_drew1) | exact HB.out)) hb); clear HO147; clear HO150; clear HO154; clear HB; have HO147 := n0_; have HO150 := n1_; have HO154 := n2_; have HB := n3_; clear n0_ n1_ n2_ n3_; (try clear hb); (try clear hb2); (try clear hk); (try clear hi)))
      have n0_ := Aside0.mk (Kd.R_drew HO147.out)
      have n1_ := Aside0.mk (Kd.N_drew HO150.out)
      have n2_ := Aside0.mk (Kd.N_drew HO154.out)
      have n3_ := Aside0.mk (below_drew1 HB.out)
      clear HO147
      clear HO150
      clear HO154
      clear HB
      have HO147 := n0_
      have HO150 := n1_
      have HO154 := n2_
      have HB := n3_
      clear n0_ n1_ n2_ n3_
      obtain ⟨Ao33, co33, eo33⟩ := Kd.N_slice HO150.out
      (first | subst eo33 | (injection eo33 with f1_ f2_ f3_; have f4_ := f1_.symm; have f5_ := f3_.symm; clear f1_ f2_ f3_; subst f4_; subst f5_))
      have p158 : 0 ≤ (0 : Int) := (by omega)
      have q158 : 0 < (t148.length : Int) := of_decide_eq_true (by first | (with_reducible assumption) | assumption)
      obtain ⟨ad158, A158_0, c158_0, e158, hx158_0, hl158_0, hi158_0⟩ := at_L6 (Kd.N_reads' HO150.out).2.2 0 p158 q158
      cases e158
      obtain ⟨ce158, hce158, hMe158, hcc158⟩ := Kd.N_get HO150.out [] 0 p158 (by first | exact q158 | exact of_decide_eq_true (by first | (with_reducible assumption) | assumption) | (have e_ := (Kd.N_reads' HO150.out).1; omega))
      obtain ⟨ua158_0, uc158_0, rfl, ul158_0, ge158_0⟩ := Kd.FK_slice_open hMe158
      have hv158_0 := hcc158 0 _ rfl
      rw [Nat.add_zero, show ((Kd.slice 32 k32)).sz = 1 from rfl, Nat.mul_one] at hv158_0
      replace hv158_0 := Option.some.inj (hv158_0.symm.trans hx158_0)
      injection hv158_0 with hva_ hvn_ hvc_
      rw [hva_] at ge158_0
      rw [hvc_] at ul158_0
      have HL158_0 := Aside0.mk (show Kd.V k32 32 _ w.heap.size _ _ (rd_L6 t148 0) from Kd.V_mk ul158_0 ge158_0)
      clear hva_ hvn_ hvc_ ge158_0 ul158_0
      clear hcc158 hce158
      have qi158 : (0 < t148.length) = True := eq_true (by omega)
      (try rw [show ((0 : Int)).toNat = 0 from rfl] at hx158_0)
      (try rw [Addr.add_zero'] at hx158_0)
      have HR158_0 := Aside0.mk hi158_0
      have HC158_0 := Aside0.mk hl158_0
      clear hi158_0 hl158_0
      replace p158 := eq_true p158
      replace q158 := eq_true q158
      refine start_ (n := 26) (S := fun w' => w'.cell? ad158 = some (.slice A158_0 (rd_L6 t148 0).length c158_0)) (ds := []) #[false, false, false, false, false, false, false, false, false, false, false, false, false, false, false, false, false, false, false, false, false, false, false, false, false, false] (by kernel_rfl) rfl rfl (hx158_0) (fun hHeld => ?_); refine with_tabW thermionlaw04_awake.tab3 thermionlaw04_awake.bits3 (fun HT_ HW_ => ?_)
      generalize w31.drew = w32 at HO147 HO150 HO154 HB HL158_0 HR158_0 hx158_0 hHeld ⊢
      refine pure_ (i := 0) (N := some 15) (v := ?_) (a' := ?_) #[true, false, false, false, false, false, false, false, false, false, false, false, false, false, false, false, false, false, false, false, false, false, false, false, false, false] rfl rfl (any_of HT_.out (by kernel_rfl)) (fun _ _ _ h => h) (Or.inl ⟨by rfl, ?_⟩) ?_ ?_
      rotate_left
      ·intro w'
       go_simp
       with_reducible rfl
      rotate_left
      ·simp only [Act.put, List.setIfInBounds_toArray, List.set_cons_zero, List.set_cons_succ, i64_w, i32_w]
       rfl
      refine pure_ (i := 1) (N := some 16) (v := ?_) (a' := ?_) #[true, true, false, false, false, false, false, false, false, false, false, false, false, false, false, false, false, false, false, false, false, false, false, false, false, false] rfl rfl (any_of HT_.out (by kernel_rfl)) (fun _ _ _ h => h) (Or.inl ⟨by rfl, ?_⟩) ?_ ?_
      rotate_left
      ·intro w'
       go_simp
       with_reducible rfl
      rotate_left
      ·simp only [Act.put, List.setIfInBounds_toArray, List.set_cons_zero, List.set_cons_succ, i64_w, i32_w]
       rfl
      refine pure_ (i := 2) (N := some 17) (v := ?_) (a' := ?_) #[true, true, true, false, false, false, false, false, false, false, false, false, false, false, false, false, false, false, false, false, false, false, false, false, false, false] rfl rfl (any_of HT_.out (by kernel_rfl)) (fun _ _ _ h => h) (Or.inl ⟨by rfl, ?_⟩) ?_ ?_
      rotate_left
      ·intro w'
       go_simp
       with_reducible rfl
      rotate_left
      ·simp only [Act.put, List.setIfInBounds_toArray, List.set_cons_zero, List.set_cons_succ, i64_w, i32_w]
       rfl
      refine pure_ (i := 3) (N := some 18) (v := ?_) (a' := ?_) #[true, true, true, true, false, false, false, false, false, false, false, false, false, false, false, false, false, false, false, false, false, false, false, false, false, false] rfl rfl (any_of HT_.out (by kernel_rfl)) (fun _ _ _ h => h) (Or.inl ⟨by rfl, ?_⟩) ?_ ?_
      rotate_left
      ·intro w'
       go_simp
       with_reducible rfl
      rotate_left
      ·simp only [Act.put, List.setIfInBounds_toArray, List.set_cons_zero, List.set_cons_succ, i64_w, i32_w]
       rfl
      refine pure_ (i := 4) (N := some 19) (v := ?_) (a' := ?_) #[true, true, true, true, true, false, false, false, false, false, false, false, false, false, false, false, false, false, false, false, false, false, false, false, false, false] rfl rfl (any_of HT_.out (by kernel_rfl)) (fun _ _ _ h => h) (Or.inl ⟨by rfl, ?_⟩) ?_ ?_
      rotate_left
      ·intro w'
       go_simp
       with_reducible rfl
      rotate_left
      ·simp only [Act.put, List.setIfInBounds_toArray, List.set_cons_zero, List.set_cons_succ, i64_w, i32_w]
       rfl
      refine pure_ (i := 5) (N := some 20) (v := ?_) (a' := ?_) #[true, true, true, true, true, true, false, false, false, false, false, false, false, false, false, false, false, false, false, false, false, false, false, false, false, false] rfl rfl (any_of HT_.out (by kernel_rfl)) (fun _ _ _ h => h) (Or.inl ⟨by rfl, ?_⟩) ?_ ?_
      rotate_left
      ·intro w'
       go_simp
       with_reducible rfl
      rotate_left
      ·simp only [Act.put, List.setIfInBounds_toArray, List.set_cons_zero, List.set_cons_succ, i64_w, i32_w]
       rfl
      refine pure_ (i := 6) (N := some 21) (v := ?_) (a' := ?_) #[true, true, true, true, true, true, true, false, false, false, false, false, false, false, false, false, false, false, false, false, false, false, false, false, false, false] rfl rfl (any_of HT_.out (by kernel_rfl)) (fun _ _ _ h => h) (Or.inl ⟨by rfl, ?_⟩) ?_ ?_
      rotate_left
      ·intro w'
       go_simp
       with_reducible rfl
      rotate_left
      ·simp only [Act.put, List.setIfInBounds_toArray, List.set_cons_zero, List.set_cons_succ, i64_w, i32_w]
       rfl
      refine pure_ (i := 7) (N := some 22) (v := ?_) (a' := ?_) #[true, true, true, true, true, true, true, true, false, false, false, false, false, false, false, false, false, false, false, false, false, false, false, false, false, false] rfl rfl (any_of HT_.out (by kernel_rfl)) (fun _ _ _ h => h) (Or.inl ⟨by rfl, ?_⟩) ?_ ?_
      rotate_left
      ·intro w'
       go_simp
       with_reducible rfl
      rotate_left
      ·simp only [Act.put, List.setIfInBounds_toArray, List.set_cons_zero, List.set_cons_succ, i64_w, i32_w]
       rfl
      refine pure_ (i := 8) (N := some 23) (v := ?_) (a' := ?_) #[true, true, true, true, true, true, true, true, true, false, false, false, false, false, false, false, false, false, false, false, false, false, false, false, false, false] rfl rfl (any_of HT_.out (by kernel_rfl)) (fun _ _ _ h => h) (Or.inl ⟨by rfl, ?_⟩) ?_ ?_
      rotate_left
      ·intro w'
       go_simp
       with_reducible rfl
      rotate_left
      ·simp only [Act.put, List.setIfInBounds_toArray, List.set_cons_zero, List.set_cons_succ, i64_w, i32_w]
       rfl
      refine pure_ (i := 9) (N := some 24) (v := ?_) (a' := ?_) #[true, true, true, true, true, true, true, true, true, true, false, false, false, false, false, false, false, false, false, false, false, false, false, false, false, false] rfl rfl (any_of HT_.out (by kernel_rfl)) (fun _ _ _ h => h) (Or.inl ⟨by rfl, ?_⟩) ?_ ?_
      rotate_left
      ·intro w'
       go_simp
       with_reducible rfl
      rotate_left
      ·simp only [Act.put, List.setIfInBounds_toArray, List.set_cons_zero, List.set_cons_succ, i64_w, i32_w]
       rfl
      refine pure_ (i := 11) (N := some 26) (v := ?_) (a' := ?_) #[true, true, true, true, true, true, true, true, true, true, false, true, false, false, false, false, false, false, false, false, false, false, false, false, false, false] rfl rfl (any_of HT_.out (by kernel_rfl)) (fun _ _ _ h => h) (Or.inl ⟨by rfl, ?_⟩) ?_ ?_
      rotate_left
      ·intro w'
       go_simp
       with_reducible rfl
      rotate_left
      ·simp only [Act.put, List.setIfInBounds_toArray, List.set_cons_zero, List.set_cons_succ, i64_w, i32_w]
       rfl
      refine take_ (i := 10) (N := some 25) (v := ?_) (a' := ?_) #[true, true, true, true, true, true, true, true, true, true, true, true, false, false, false, false, false, false, false, false, false, false, false, false, false, false] rfl rfl (take_ofW HT_.out HW_.out (by kernel_rfl)) (fun _ _ _ h => h) (Or.inl ⟨by rfl, ?_⟩) hHeld ?_ ?_
      rotate_left
      ·intro w' s0
       go_simp
       with_reducible rfl
      rotate_left
      ·simp only [Act.put, List.setIfInBounds_toArray, List.set_cons_zero, List.set_cons_succ, i64_w, i32_w]
       rfl
      refine one_ (i := 12) (N := some 27) #[true, true, true, true, true, true, true, true, true, true, true, true, true, false, false, false, false, false, false, false, false, false, false, false, false, false] rfl rfl (one_of HT_.out (by kernel_rfl)) (by decide) (fun K hK => ?_)
      refine goes_ Try.func52 (by kernel_rfl) rfl #[.int .i64 10, .int .i64 12] (by rfl) rfl rfl (by (try simp only [List.map_toArray, List.map_cons, List.map_nil]); first | done | rfl | (simp only [List.length_drop, List.length_take]; rfl)) ?_
      with_reducible refine (thermionlaw04_of.calls 10 12 t159 t160 _ A8.out).mono ?_
      rintro e w34 ⟨rfl, hb⟩
      have HS0_ := (hb.cell (World.block_lt_of_cell? _ _ (hHeld))).trans (hHeld)
      refine ⟨_, rfl, ?_⟩
      have n0_ := Aside0.mk (Kd.R_below (by (with_reducible repeat (first | apply Kd.R_alloc | apply Kd.R_drewN | apply Kd.R_drew)); exact HO147.out) hb)
      have n1_ := Aside0.mk (Kd.N_below (by (with_reducible repeat (first | apply Kd.N_alloc | apply Kd.N_drewN | apply Kd.N_drew)); exact HO150.out) hb)
      have n2_ := Aside0.mk (Kd.N_below (by (with_reducible repeat (first | apply Kd.N_alloc | apply Kd.N_drewN | apply Kd.N_drew)); exact HO154.out) hb)
      have n3_ := Aside0.mk (Kd.V_below (by (with_reducible repeat (first | apply Kd.V_alloc | apply Kd.V_drewN | apply Kd.V_drew)); exact HL158_0.out) hb)
      have n4_ := Aside0.mk (Kd.C_below (by repeat (first | (with_reducible exact HR158_0.out) | (with_reducible refine Kd.C_alloc ?_ _) | (with_reducible refine Kd.C_drewN ?_ _) | (with_reducible refine Kd.C_drew ?_) | exact HR158_0.out)) hb)
      have n5_ := Aside0.mk (below_step (by repeat (first | (with_reducible first | exact HB.out | apply below_alloc | apply pw_below_drewN | apply below_drew1) | exact HB.out)) hb)
      clear HO147
      clear HO150
      clear HO154
      clear HL158_0
      clear HR158_0
      clear HB
      have HO147 := n0_
      have HO150 := n1_
      have HO154 := n2_
      have HL158_0 := n3_
      have HR158_0 := n4_
      have HB := n5_
      clear n0_ n1_ n2_ n3_ n4_ n5_
      (try clear hb)
      (try clear hb2)
      (try clear hk)
      (try clear hi)
      refine hK.out _ _ (HS0_) (fun hHeld => ?_)
      clear hK K
      refine norm_ (a' := ?_) ?_ ?_
      rotate_left
      ·show Act.put _ (some 27) _ = _
       simp only [Act.put, List.setIfInBounds_toArray, List.set_cons_zero, List.set_cons_succ, i64_w, i32_w]
       rfl
      refine one_ (i := 13) (N := some 28) #[true, true, true, true, true, true, true, true, true, true, true, true, true, true, false, false, false, false, false, false, false, false, false, false, false, false] rfl rfl (one_of HT_.out (by kernel_rfl)) (by decide) (fun K hK => ?_)
      refine goes_ Try.func52 (by kernel_rfl) rfl #[.int .i64 17, .int .i64 18] (by rfl) rfl rfl (by (try simp only [List.map_toArray, List.map_cons, List.map_nil]); first | done | rfl | (simp only [List.length_drop, List.length_take]; rfl)) ?_
      with_reducible refine (thermionlaw04_of.calls 17 18 t161 t162 _ A9.out).mono ?_
      rintro e w35 ⟨rfl, hb⟩
      have HS0_ := (hb.cell (World.block_lt_of_cell? _ _ (hHeld))).trans (hHeld)
      refine ⟨_, rfl, ?_⟩
      have n0_ := Aside0.mk (Kd.R_below (by (with_reducible repeat (first | apply Kd.R_alloc | apply Kd.R_drewN | apply Kd.R_drew)); exact HO147.out) hb)
      have n1_ := Aside0.mk (Kd.N_below (by (with_reducible repeat (first | apply Kd.N_alloc | apply Kd.N_drewN | apply Kd.N_drew)); exact HO150.out) hb)
      have n2_ := Aside0.mk (Kd.N_below (by (with_reducible repeat (first | apply Kd.N_alloc | apply Kd.N_drewN | apply Kd.N_drew)); exact HO154.out) hb)
      have n3_ := Aside0.mk (Kd.V_below (by (with_reducible repeat (first | apply Kd.V_alloc | apply Kd.V_drewN | apply Kd.V_drew)); exact HL158_0.out) hb)
      have n4_ := Aside0.mk (Kd.C_below (by repeat (first | (with_reducible exact HR158_0.out) | (with_reducible refine Kd.C_alloc ?_ _) | (with_reducible refine Kd.C_drewN ?_ _) | (with_reducible refine Kd.C_drew ?_) | exact HR158_0.out)) hb)
      have n5_ := Aside0.mk (below_step (by repeat (first | (with_reducible first | exact HB.out | apply below_alloc | apply pw_below_drewN | apply below_drew1) | exact HB.out)) hb)
      clear HO147
      clear HO150
      clear HO154
      clear HL158_0
      clear HR158_0
      clear HB
      have HO147 := n0_
      have HO150 := n1_
      have HO154 := n2_
      have HL158_0 := n3_
      have HR158_0 := n4_
      have HB := n5_
      clear n0_ n1_ n2_ n3_ n4_ n5_
      (try clear hb)
      (try clear hb2)
      (try clear hk)
      (try clear hi)
      refine hK.out _ _ (HS0_) (fun hHeld => ?_)
      clear hK K
      refine norm_ (a' := ?_) ?_ ?_
      rotate_left
      ·show Act.put _ (some 28) _ = _
       simp only [Act.put, List.setIfInBounds_toArray, List.set_cons_zero, List.set_cons_succ, i64_w, i32_w]
       rfl
      refine one_ (i := 14) (N := some 29) #[true, true, true, true, true, true, true, true, true, true, true, true, true, true, true, false, false, false, false, false, false, false, false, false, false, false] rfl rfl (one_of HT_.out (by kernel_rfl)) (by decide) (fun K hK => ?_)
      refine Kd.R_lit_step k32 _ 32 ?hg (N := 29) ?hd (xs := ([(⟨0, 0⟩ : S32), (⟨t159, t160⟩ : S32), (⟨t161, t162⟩ : S32)] : List (S32))) (inner := [.int .i64 0, .int .i64 0, .int .i64 t159, .int .i64 t160, .int .i64 t161, .int .i64 t162]) (ok := fun _ => True) (okp := fun _ => True) ?hr ?hp (fun _ hk => hk) trivial (Below.refl _ _) (Nat.le_refl _) (by simp) ?_; (case hd => rfl); (case hg => rfl); (case hr => first | (go_simp; done) | (go_simp; rfl)); (case hp => exact (Reps.c2 (show Kd.M k32 _ _ _ (⟨0, 0⟩ : S32) [.int .i64 0, .int .i64 0] from (k32_mkM _ _ _ (⟨0, 0⟩ : S32) )) (Reps.c2 (show Kd.M k32 _ _ _ (⟨t159, t160⟩ : S32) [.int .i64 t159, .int .i64 t160] from (k32_mkM _ _ _ (⟨t159, t160⟩ : S32) )) (Reps.c2 (show Kd.M k32 _ _ _ (⟨t161, t162⟩ : S32) [.int .i64 t161, .int .i64 t162] from (k32_mkM _ _ _ (⟨t161, t162⟩ : S32) )) (Reps.none _ _)))))
      intro v164 w36 ho37 hb hg_ hnew_
      have HS0_ := (hb.cell (World.block_lt_of_cell? _ _ (hHeld))).trans (hHeld)
      clear hg_ hnew_
      (first | rw [← Ny163.out] at ho37 | (simp only [Int.reduceToNat] at ho37; rw [← Ny163.out] at ho37))
      have n0_ := Aside0.mk (Kd.R_below (by (with_reducible repeat (first | apply Kd.R_alloc | apply Kd.R_drewN | apply Kd.R_drew)); exact HO147.out) hb)
      have n1_ := Aside0.mk (Kd.N_elder' (by (with_reducible repeat (first | apply Kd.N_alloc | apply Kd.N_drewN | apply Kd.N_drew)); exact HO150.out) (Kd.R_base ho37) hb)
      have n2_ := Aside0.mk (Kd.N_elder' (by (with_reducible repeat (first | apply Kd.N_alloc | apply Kd.N_drewN | apply Kd.N_drew)); exact HO154.out) (Kd.R_base ho37) hb)
      have n3_ := Aside0.mk (Kd.V_elder' (by (with_reducible repeat (first | apply Kd.V_alloc | apply Kd.V_drewN | apply Kd.V_drew)); exact HL158_0.out) (Kd.R_base ho37) hb)
      have n4_ := Aside0.mk (Kd.R_lower ho37 (below_size (by repeat (first | (with_reducible first | exact HB.out | apply below_alloc | apply pw_below_drewN | apply below_drew1) | exact HB.out))))
      have n5_ := Aside0.mk (Kd.C_below (by repeat (first | (with_reducible exact HR158_0.out) | (with_reducible refine Kd.C_alloc ?_ _) | (with_reducible refine Kd.C_drewN ?_ _) | (with_reducible refine Kd.C_drew ?_) | exact HR158_0.out)) hb)
      have n6_ := Aside0.mk (below_step (by repeat (first | (with_reducible first | exact HB.out | apply below_alloc | apply pw_below_drewN | apply below_drew1) | exact HB.out)) hb)
      clear HO147
      clear HO150
      clear HO154
      clear HL158_0
      clear HR158_0
      clear HB
      have HO147 := n0_
      have HO150 := n1_
      have HO154 := n2_
      have HL158_0 := n3_
      have HO165 := n4_
      have HR158_0 := n5_
      have HB := n6_
      clear n0_ n1_ n2_ n3_ n4_ n5_ n6_
      clear hb ho37
      obtain ⟨Ao38, co38, eo38⟩ := Kd.R_slice HO165.out
      (first | subst eo38 | (injection eo38 with f1_ f2_ f3_; have f4_ := f1_.symm; have f5_ := f3_.symm; clear f1_ f2_ f3_; subst f4_; subst f5_))
      refine hK.out _ _ (HS0_) (fun hHeld => ?_)
      clear hK K
      refine norm_ (a' := ?_) ?_ ?_
      rotate_left
      ·show Act.put _ (some 29) _ = _
       simp only [Act.put, List.setIfInBounds_toArray, List.set_cons_zero, List.set_cons_succ, i64_w, i32_w]
       rfl
      refine one_ (i := 15) (N := some 30) #[true, true, true, true, true, true, true, true, true, true, true, true, true, true, true, true, false, false, false, false, false, false, false, false, false, false] rfl rfl (one_of HT_.out (by kernel_rfl)) (by decide) (fun K hK => ?_)
      refine goes_ Try.func88 (by kernel_rfl) rfl #[.slice A158_0 (rd_L6 t148 0).length c158_0, .slice Ao38 y163.length co38] (by rfl) rfl rfl (by (try simp only [List.map_toArray, List.map_cons, List.map_nil]); first | done | rfl | (simp only [List.length_drop, List.length_take]; rfl)) ?_
      with_reducible refine (thermionkit_SameRanges.calls k _ _ (rd_L6 t148 0) _ _ y163 true _ ?side1 ?side2 ?side3 ?side4 A10.out).mono ?_
      (case side1 => repeat (first | exact (by repeat (first | (with_reducible exact HR158_0.out) | (with_reducible refine Kd.C_alloc ?_ _) | (with_reducible refine Kd.C_drewN ?_ _) | (with_reducible refine Kd.C_drew ?_) | exact HR158_0.out)) | (with_reducible refine Kd.C_alloc ?_ _) | (with_reducible refine Kd.C_drewN ?_ _) | (with_reducible refine Kd.C_drew ?_)))
      (case side2 => exact HC158_0.out)
      (case side3 => repeat (first | exact (Kd.R_reads' HO165.out).2.2 | (with_reducible refine Kd.C_alloc ?_ _) | (with_reducible refine Kd.C_drewN ?_ _) | (with_reducible refine Kd.C_drew ?_)))
      (case side4 => exact (Kd.R_reads' HO165.out).2.1)
      rintro e w' ⟨rfl, ⟨nd, rfl⟩⟩
      refine ⟨_, rfl, ?_⟩
      refine hK.out _ _ (hHeld) (fun hHeld => ?_)
      clear hK K
      refine norm_ (a' := ?_) ?_ ?_
      rotate_left
      ·show Act.put _ (some 30) _ = _
       simp only [Act.put, List.setIfInBounds_toArray, List.set_cons_zero, List.set_cons_succ, i64_w, i32_w]
       rfl
      refine pure_ (i := 16) (N := some 31) (v := ?_) (a' := ?_) #[true, true, true, true, true, true, true, true, true, true, true, true, true, true, true, true, true, false, false, false, false, false, false, false, false, false] rfl rfl (any_of HT_.out (by kernel_rfl)) (fun _ _ _ h => h) (Or.inl ⟨by rfl, ?_⟩) ?_ ?_
      rotate_left
      ·intro w'
       go_simp
       with_reducible rfl
      rotate_left
      ·simp only [Act.put, List.setIfInBounds_toArray, List.set_cons_zero, List.set_cons_succ, i64_w, i32_w]
       rfl
      refine pure_ (i := 17) (N := some 32) (v := ?_) (a' := ?_) #[true, true, true, true, true, true, true, true, true, true, true, true, true, true, true, true, true, true, false, false, false, false, false, false, false, false] rfl rfl (any_of HT_.out (by kernel_rfl)) (fun _ _ _ h => h) (Or.inl ⟨by rfl, ?_⟩) ?_ ?_
      rotate_left
      ·intro w'
       go_simp
       with_reducible rfl
      rotate_left
      ·simp only [Act.put, List.setIfInBounds_toArray, List.set_cons_zero, List.set_cons_succ, i64_w, i32_w]
       rfl
      refine pure_ (i := 18) (N := some 33) (v := ?_) (a' := ?_) #[true, true, true, true, true, true, true, true, true, true, true, true, true, true, true, true, true, true, true, false, false, false, false, false, false, false] rfl rfl (any_of HT_.out (by kernel_rfl)) (fun _ _ _ h => h) (Or.inl ⟨by rfl, ?_⟩) ?_ ?_
      rotate_left
      ·intro w'
       go_simp
       with_reducible rfl
      rotate_left
      ·simp only [Act.put, List.setIfInBounds_toArray, List.set_cons_zero, List.set_cons_succ, i64_w, i32_w]
       rfl
      refine pure_ (i := 19) (N := some 34) (v := ?_) (a' := ?_) #[true, true, true, true, true, true, true, true, true, true, true, true, true, true, true, true, true, true, true, true, false, false, false, false, false, false] rfl rfl (any_of HT_.out (by kernel_rfl)) (fun _ _ _ h => h) (Or.inl ⟨by rfl, ?_⟩) ?_ ?_
      rotate_left
      ·intro w'
       go_simp
       with_reducible rfl
      rotate_left
      ·simp only [Act.put, List.setIfInBounds_toArray, List.set_cons_zero, List.set_cons_succ, i64_w, i32_w]
       rfl
      refine pure_ (i := 20) (N := some 35) (v := ?_) (a' := ?_) #[true, true, true, true, true, true, true, true, true, true, true, true, true, true, true, true, true, true, true, true, true, false, false, false, false, false] rfl rfl (any_of HT_.out (by kernel_rfl)) (fun _ _ _ h => h) (Or.inl ⟨by rfl, ?_⟩) ?_ ?_
      rotate_left
      ·intro w'
       go_simp
       with_reducible rfl
      rotate_left
      ·simp only [Act.put, List.setIfInBounds_toArray, List.set_cons_zero, List.set_cons_succ, i64_w, i32_w]
       rfl
      refine pure_ (i := 21) (N := some 36) (v := ?_) (a' := ?_) #[true, true, true, true, true, true, true, true, true, true, true, true, true, true, true, true, true, true, true, true, true, true, false, false, false, false] rfl rfl (any_of HT_.out (by kernel_rfl)) (fun _ _ _ h => h) (Or.inl ⟨by rfl, ?_⟩) ?_ ?_
      rotate_left
      ·intro w'
       go_simp
       with_reducible rfl
      rotate_left
      ·simp only [Act.put, List.setIfInBounds_toArray, List.set_cons_zero, List.set_cons_succ, i64_w, i32_w]
       rfl
      refine pure_ (i := 22) (N := some 37) (v := undef) (a' := ?_) #[true, true, true, true, true, true, true, true, true, true, true, true, true, true, true, true, true, true, true, true, true, true, true, false, false, false] rfl rfl (any_of HT_.out (by kernel_rfl)) (fun _ _ _ h => h) (Or.inr ⟨by rfl, rfl⟩) ?_ ?_
      rotate_left
      ·simp only [Act.put, List.setIfInBounds_toArray, List.set_cons_zero, List.set_cons_succ, i64_w, i32_w]
       rfl
      refine pure_ (i := 23) (N := some 38) (v := undef) (a' := ?_) #[true, true, true, true, true, true, true, true, true, true, true, true, true, true, true, true, true, true, true, true, true, true, true, true, false, false] rfl rfl (any_of HT_.out (by kernel_rfl)) (fun _ _ _ h => h) (Or.inr ⟨by rfl, rfl⟩) ?_ ?_
      rotate_left
      ·simp only [Act.put, List.setIfInBounds_toArray, List.set_cons_zero, List.set_cons_succ, i64_w, i32_w]
       rfl
      refine pure_ (i := 24) (N := some 39) (v := ?_) (a' := ?_) #[true, true, true, true, true, true, true, true, true, true, true, true, true, true, true, true, true, true, true, true, true, true, true, true, true, false] rfl rfl (any_of HT_.out (by kernel_rfl)) (fun _ _ _ h => h) (Or.inl ⟨by rfl, ?_⟩) ?_ ?_
      rotate_left
      ·intro w'
       go_simp
       with_reducible rfl
      rotate_left
      ·simp only [Act.put, List.setIfInBounds_toArray, List.set_cons_zero, List.set_cons_succ, i64_w, i32_w]
       rfl
      refine pure_ (i := 25) (N := some 0) (v := ?_) (a' := ?_) #[true, true, true, true, true, true, true, true, true, true, true, true, true, true, true, true, true, true, true, true, true, true, true, true, true, true] rfl rfl (any_of HT_.out (by kernel_rfl)) (fun _ _ _ h => h) (Or.inl ⟨by rfl, ?_⟩) ?_ ?_
      rotate_left
      ·intro w'
       go_simp
       with_reducible rfl
      rotate_left
      ·simp only [Act.put, List.setIfInBounds_toArray, List.set_cons_zero, List.set_cons_succ, i64_w, i32_w]
       rfl
      refine done_ (done_of HT_.out (by kernel_rfl)) ?_
      try go_wp2
      go_ret
      exact ⟨by first | rfl | (simp [errW_none, errW_some] <;> rfl) | (simp [*, errW_none, errW_some] <;> rfl), by repeat (first | (with_reducible first | exact HB.out | apply below_alloc | apply pw_below_drewN | apply below_drew1) | exact HB.out)⟩
    ·replace c11 := Bool.eq_false_iff.mpr c11
     subst c11
     have H1 : (some false) = some r := by rw [if_neg (show ¬ (false = true) by decide)] at H; exact H
     clear H
     have H := H1
     clear H1
     obtain rfl := Option.some.inj H
     go_enter Try.func21, Try.ntmps21
     try go_wp2_with (first | ((with_reducible refine gate_callee (f := 87) rfl ?_); refine goesL_ (some 6) rfl rfl Try.func87 (by kernel_rfl) rfl #[] rfl (by (try simp only [List.map_toArray, List.map_cons, List.map_nil]); first | done | rfl | (simp only [List.length_drop, List.length_take]; rfl)) ?_; (with_reducible refine (thermionlaw04_chain.calls  t144 t145 _ A1.out).mono ?_); rintro e w39 ⟨v146, rfl, ho0, hb⟩; refine ⟨_, rfl, ?_⟩; have n0_ := Aside0.mk (Kd.R_lower ho0 (below_size (by repeat (first | (with_reducible first | exact HB.out | apply below_alloc | apply pw_below_drewN | apply below_drew1) | exact HB.out)))); have n1_ := Aside0.mk (below_step (by repeat (first | (with_reducible first | exact HB.out | apply below_alloc | apply pw_below_drewN | apply below_drew1) | exact HB.out)) hb); clear HB; have HO147 := n0_; have HB := n1_; clear n0_ n1_; (try clear hb); (try clear hb2); (try clear hk); (try clear hi); (try clear ho0); obtain ⟨Ao40, co40, eo40⟩ := Kd.R_slice HO147.out; subst eo40) | ((with_reducible refine gate_callee (f := 24) rfl ?_); refine goesL_ (some 7) rfl rfl Try.func24 (by kernel_rfl) rfl #[.agg #[.int .i64 t144, .slice Ao40 t145.length co40]] rfl (by (try simp only [List.map_toArray, List.map_cons, List.map_nil]); first | done | rfl | (simp only [List.length_drop, List.length_take]; rfl)) ?_; (with_reducible refine (mount_Tight.calls t144 _ _ t145 t148 t151 _ ?side1 ?side2 A2.out).mono ?_); (case side1 => repeat (first | exact (Kd.R_reads' HO147.out).2.2 | (with_reducible refine Kd.C_alloc ?_ _) | (with_reducible refine Kd.C_drewN ?_ _) | (with_reducible refine Kd.C_drew ?_))); (case side2 => exact (Kd.R_reads' HO147.out).2.1); rintro e w41 ⟨v149, rfl, ho0, hb⟩; refine ⟨_, rfl, ?_⟩; have n0_ := Aside0.mk (Kd.R_below (by (with_reducible repeat (first | apply Kd.R_alloc | apply Kd.R_drewN | apply Kd.R_drew)); exact HO147.out) hb); have n1_ := Aside0.mk (Kd.N_lower (Kd.N_mono (ok' := fun k_ => some k_ ≠ (.slice Ao40 t145.length co40 : Value).ownBlock) (Kd.S_N (Kd.S_bound ho0)) (fun k_ hk_ => (Kd.fresh' (Kd.R_lt (by (with_reducible repeat (first | apply Kd.R_alloc | apply Kd.R_drewN | apply Kd.R_drew)); exact HO147.out)) k_ hk_.2.1))) (below_size (by repeat (first | (with_reducible first | exact HB.out | apply below_alloc | apply pw_below_drewN | apply below_drew1) | exact HB.out)))); have n2_ := Aside0.mk (below_step (by repeat (first | (with_reducible first | exact HB.out | apply below_alloc | apply pw_below_drewN | apply below_drew1) | exact HB.out)) hb); clear HO147; clear HB; have HO147 := n0_; have HO150 := n1_; have HB := n2_; clear n0_ n1_ n2_; (try clear hb); (try clear hb2); (try clear hk); (try clear hi); (try clear ho0)) | ((with_reducible refine gate_callee (f := 59) rfl ?_); refine goesL_ (some 11) rfl rfl Try.func59 (by kernel_rfl) rfl #[] rfl (by (try simp only [List.map_toArray, List.map_cons, List.map_nil]); first | done | rfl | (simp only [List.length_drop, List.length_take]; rfl)) ?_; (with_reducible refine (thermionlaw04_kit.calls  t152 t155 _ A3.out).mono ?_); rintro e w42 ⟨v153, rfl, ho0, hb⟩; refine ⟨_, rfl, ?_⟩; have n0_ := Aside0.mk (Kd.R_below (by (with_reducible repeat (first | apply Kd.R_alloc | apply Kd.R_drewN | apply Kd.R_drew)); exact HO147.out) hb); have n1_ := Aside0.mk (Kd.N_elder' (by (with_reducible repeat (first | apply Kd.N_alloc | apply Kd.N_drewN | apply Kd.N_drew)); exact HO150.out) (Kd.N_base ho0) hb); have n2_ := Aside0.mk (Kd.N_lower (Kd.N_mono (ok' := fun k_ => some k_ ≠ (.slice Ao40 t145.length co40 : Value).ownBlock ∧ some k_ ≠ (v149 : Value).ownBlock) ho0 (fun k_ hk_ => ⟨(Kd.fresh' (Kd.R_lt (by (with_reducible repeat (first | apply Kd.R_alloc | apply Kd.R_drewN | apply Kd.R_drew)); exact HO147.out)) k_ hk_), (Kd.fresh' (Kd.N_lt (by (with_reducible repeat (first | apply Kd.N_alloc | apply Kd.N_drewN | apply Kd.N_drew)); exact HO150.out)) k_ hk_)⟩)) (below_size (by repeat (first | (with_reducible first | exact HB.out | apply below_alloc | apply pw_below_drewN | apply below_drew1) | exact HB.out)))); have n3_ := Aside0.mk (below_step (by repeat (first | (with_reducible first | exact HB.out | apply below_alloc | apply pw_below_drewN | apply below_drew1) | exact HB.out)) hb); clear HO147; clear HO150; clear HB; have HO147 := n0_; have HO150 := n1_; have HO154 := n2_; have HB := n3_; clear n0_ n1_ n2_ n3_; (try clear hb); (try clear hb2); (try clear hk); (try clear hi); (try clear ho0); obtain ⟨Ao43, co43, eo43⟩ := Kd.N_slice HO154.out; subst eo43) | ((with_reducible refine gate_callee (f := 30) rfl ?_); refine goesL_ (some 12) rfl rfl Try.func30 (by kernel_rfl) rfl #[.agg #[.slice Ao43 t152.length co43, .int .i64 t155]] rfl (by (try simp only [List.map_toArray, List.map_cons, List.map_nil]); first | done | rfl | (simp only [List.length_drop, List.length_take]; rfl)) ?_; (with_reducible refine (mount_Orders.calls _ _ t152 t155 t156 t157 _ ?side1 ?side2 A4.out).mono ?_); (case side1 => repeat (first | exact (Kd.N_reads' HO154.out).2.2 | (with_reducible refine Kd.C_alloc ?_ _) | (with_reducible refine Kd.C_drewN ?_ _) | (with_reducible refine Kd.C_drew ?_))); (case side2 => exact (Kd.N_reads' HO154.out).2.1); rintro e w44 ⟨rfl, hb⟩; refine ⟨_, rfl, ?_⟩; have n0_ := Aside0.mk (Kd.R_below (by (with_reducible repeat (first | apply Kd.R_alloc | apply Kd.R_drewN | apply Kd.R_drew)); exact HO147.out) hb); have n1_ := Aside0.mk (Kd.N_below (by (with_reducible repeat (first | apply Kd.N_alloc | apply Kd.N_drewN | apply Kd.N_drew)); exact HO150.out) hb); have n2_ := Aside0.mk (Kd.N_below (by (with_reducible repeat (first | apply Kd.N_alloc | apply Kd.N_drewN | apply Kd.N_drew)); exact HO154.out) hb); have n3_ := Aside0.mk (below_step (by repeat (first | (with_reducible first | exact HB.out | apply below_alloc | apply pw_below_drewN | apply below_drew1) | exact HB.out)) hb); clear HO147; clear HO150; clear HO154; clear HB; have HO147 := n0_; have HO150 := n1_; have HO154 := n2_; have HB := n3_; clear n0_ n1_ n2_ n3_; (try clear hb); (try clear hb2); (try clear hk); (try clear hi)))
     have n0_ := Aside0.mk (Kd.R_drew HO147.out)
     have n1_ := Aside0.mk (Kd.N_drew HO150.out)
     have n2_ := Aside0.mk (Kd.N_drew HO154.out)
     have n3_ := Aside0.mk (below_drew1 HB.out)
     clear HO147
     clear HO150
     clear HO154
     clear HB
     have HO147 := n0_
     have HO150 := n1_
     have HO154 := n2_
     have HB := n3_
     clear n0_ n1_ n2_ n3_
     obtain ⟨Ao46, co46, eo46⟩ := Kd.N_slice HO150.out
     (first | subst eo46 | (injection eo46 with f1_ f2_ f3_; have f4_ := f1_.symm; have f5_ := f3_.symm; clear f1_ f2_ f3_; subst f4_; subst f5_))
     have p158 : 0 ≤ (0 : Int) := (by omega)
     have q158 : 0 < (t148.length : Int) := of_decide_eq_true (by first | (with_reducible assumption) | assumption)
     obtain ⟨ad158, A158_0, c158_0, e158, hx158_0, hl158_0, hi158_0⟩ := at_L6 (Kd.N_reads' HO150.out).2.2 0 p158 q158
     cases e158
     obtain ⟨ce158, hce158, hMe158, hcc158⟩ := Kd.N_get HO150.out [] 0 p158 (by first | exact q158 | exact of_decide_eq_true (by first | (with_reducible assumption) | assumption) | (have e_ := (Kd.N_reads' HO150.out).1; omega))
     obtain ⟨ua158_0, uc158_0, rfl, ul158_0, ge158_0⟩ := Kd.FK_slice_open hMe158
     have hv158_0 := hcc158 0 _ rfl
     rw [Nat.add_zero, show ((Kd.slice 32 k32)).sz = 1 from rfl, Nat.mul_one] at hv158_0
     replace hv158_0 := Option.some.inj (hv158_0.symm.trans hx158_0)
     injection hv158_0 with hva_ hvn_ hvc_
     rw [hva_] at ge158_0
     rw [hvc_] at ul158_0
     have HL158_0 := Aside0.mk (show Kd.V k32 32 _ w.heap.size _ _ (rd_L6 t148 0) from Kd.V_mk ul158_0 ge158_0)
     clear hva_ hvn_ hvc_ ge158_0 ul158_0
     clear hcc158 hce158
     have qi158 : (0 < t148.length) = True := eq_true (by omega)
     (try rw [show ((0 : Int)).toNat = 0 from rfl] at hx158_0)
     (try rw [Addr.add_zero'] at hx158_0)
     have HR158_0 := Aside0.mk hi158_0
     have HC158_0 := Aside0.mk hl158_0
     clear hi158_0 hl158_0
     replace p158 := eq_true p158
     replace q158 := eq_true q158
     refine start_ (n := 26) (S := fun w' => w'.cell? ad158 = some (.slice A158_0 (rd_L6 t148 0).length c158_0)) (ds := []) #[false, false, false, false, false, false, false, false, false, false, false, false, false, false, false, false, false, false, false, false, false, false, false, false, false, false] (by kernel_rfl) rfl rfl (hx158_0) (fun hHeld => ?_); refine with_tabW thermionlaw04_awake.tab3 thermionlaw04_awake.bits3 (fun HT_ HW_ => ?_)
     generalize w44.drew = w45 at HO147 HO150 HO154 HB HL158_0 HR158_0 hx158_0 hHeld ⊢
     refine pure_ (i := 0) (N := some 15) (v := ?_) (a' := ?_) #[true, false, false, false, false, false, false, false, false, false, false, false, false, false, false, false, false, false, false, false, false, false, false, false, false, false] rfl rfl (any_of HT_.out (by kernel_rfl)) (fun _ _ _ h => h) (Or.inl ⟨by rfl, ?_⟩) ?_ ?_
     rotate_left
     ·intro w'
      go_simp
      with_reducible rfl
     rotate_left
     ·simp only [Act.put, List.setIfInBounds_toArray, List.set_cons_zero, List.set_cons_succ, i64_w, i32_w]
      rfl
     refine pure_ (i := 1) (N := some 16) (v := ?_) (a' := ?_) #[true, true, false, false, false, false, false, false, false, false, false, false, false, false, false, false, false, false, false, false, false, false, false, false, false, false] rfl rfl (any_of HT_.out (by kernel_rfl)) (fun _ _ _ h => h) (Or.inl ⟨by rfl, ?_⟩) ?_ ?_
     rotate_left
     ·intro w'
      go_simp
      with_reducible rfl
     rotate_left
     ·simp only [Act.put, List.setIfInBounds_toArray, List.set_cons_zero, List.set_cons_succ, i64_w, i32_w]
      rfl
     refine pure_ (i := 2) (N := some 17) (v := ?_) (a' := ?_) #[true, true, true, false, false, false, false, false, false, false, false, false, false, false, false, false, false, false, false, false, false, false, false, false, false, false] rfl rfl (any_of HT_.out (by kernel_rfl)) (fun _ _ _ h => h) (Or.inl ⟨by rfl, ?_⟩) ?_ ?_
     rotate_left
     ·intro w'
      go_simp
      with_reducible rfl
     rotate_left
     ·simp only [Act.put, List.setIfInBounds_toArray, List.set_cons_zero, List.set_cons_succ, i64_w, i32_w]
      rfl
     refine pure_ (i := 3) (N := some 18) (v := ?_) (a' := ?_) #[true, true, true, true, false, false, false, false, false, false, false, false, false, false, false, false, false, false, false, false, false, false, false, false, false, false] rfl rfl (any_of HT_.out (by kernel_rfl)) (fun _ _ _ h => h) (Or.inl ⟨by rfl, ?_⟩) ?_ ?_
     rotate_left
     ·intro w'
      go_simp
      with_reducible rfl
     rotate_left
     ·simp only [Act.put, List.setIfInBounds_toArray, List.set_cons_zero, List.set_cons_succ, i64_w, i32_w]
      rfl
     refine pure_ (i := 4) (N := some 19) (v := ?_) (a' := ?_) #[true, true, true, true, true, false, false, false, false, false, false, false, false, false, false, false, false, false, false, false, false, false, false, false, false, false] rfl rfl (any_of HT_.out (by kernel_rfl)) (fun _ _ _ h => h) (Or.inl ⟨by rfl, ?_⟩) ?_ ?_
     rotate_left
     ·intro w'
      go_simp
      with_reducible rfl
     rotate_left
     ·simp only [Act.put, List.setIfInBounds_toArray, List.set_cons_zero, List.set_cons_succ, i64_w, i32_w]
      rfl
     refine pure_ (i := 5) (N := some 20) (v := ?_) (a' := ?_) #[true, true, true, true, true, true, false, false, false, false, false, false, false, false, false, false, false, false, false, false, false, false, false, false, false, false] rfl rfl (any_of HT_.out (by kernel_rfl)) (fun _ _ _ h => h) (Or.inl ⟨by rfl, ?_⟩) ?_ ?_
     rotate_left
     ·intro w'
      go_simp
      with_reducible rfl
     rotate_left
     ·simp only [Act.put, List.setIfInBounds_toArray, List.set_cons_zero, List.set_cons_succ, i64_w, i32_w]
      rfl
     refine pure_ (i := 6) (N := some 21) (v := ?_) (a' := ?_) #[true, true, true, true, true, true, true, false, false, false, false, false, false, false, false, false, false, false, false, false, false, false, false, false, false, false] rfl rfl (any_of HT_.out (by kernel_rfl)) (fun _ _ _ h => h) (Or.inl ⟨by rfl, ?_⟩) ?_ ?_
     rotate_left
     ·intro w'
      go_simp
      with_reducible rfl
     rotate_left
     ·simp only [Act.put, List.setIfInBounds_toArray, List.set_cons_zero, List.set_cons_succ, i64_w, i32_w]
      rfl
     refine pure_ (i := 7) (N := some 22) (v := ?_) (a' := ?_) #[true, true, true, true, true, true, true, true, false, false, false, false, false, false, false, false, false, false, false, false, false, false, false, false, false, false] rfl rfl (any_of HT_.out (by kernel_rfl)) (fun _ _ _ h => h) (Or.inl ⟨by rfl, ?_⟩) ?_ ?_
     rotate_left
     ·intro w'
      go_simp
      with_reducible rfl
     rotate_left
     ·simp only [Act.put, List.setIfInBounds_toArray, List.set_cons_zero, List.set_cons_succ, i64_w, i32_w]
      rfl
     refine pure_ (i := 8) (N := some 23) (v := ?_) (a' := ?_) #[true, true, true, true, true, true, true, true, true, false, false, false, false, false, false, false, false, false, false, false, false, false, false, false, false, false] rfl rfl (any_of HT_.out (by kernel_rfl)) (fun _ _ _ h => h) (Or.inl ⟨by rfl, ?_⟩) ?_ ?_
     rotate_left
     ·intro w'
      go_simp
      with_reducible rfl
     rotate_left
     ·simp only [Act.put, List.setIfInBounds_toArray, List.set_cons_zero, List.set_cons_succ, i64_w, i32_w]
      rfl
     refine pure_ (i := 9) (N := some 24) (v := ?_) (a' := ?_) #[true, true, true, true, true, true, true, true, true, true, false, false, false, false, false, false, false, false, false, false, false, false, false, false, false, false] rfl rfl (any_of HT_.out (by kernel_rfl)) (fun _ _ _ h => h) (Or.inl ⟨by rfl, ?_⟩) ?_ ?_
     rotate_left
     ·intro w'
      go_simp
      with_reducible rfl
     rotate_left
     ·simp only [Act.put, List.setIfInBounds_toArray, List.set_cons_zero, List.set_cons_succ, i64_w, i32_w]
      rfl
     refine pure_ (i := 11) (N := some 26) (v := ?_) (a' := ?_) #[true, true, true, true, true, true, true, true, true, true, false, true, false, false, false, false, false, false, false, false, false, false, false, false, false, false] rfl rfl (any_of HT_.out (by kernel_rfl)) (fun _ _ _ h => h) (Or.inl ⟨by rfl, ?_⟩) ?_ ?_
     rotate_left
     ·intro w'
      go_simp
      with_reducible rfl
     rotate_left
     ·simp only [Act.put, List.setIfInBounds_toArray, List.set_cons_zero, List.set_cons_succ, i64_w, i32_w]
      rfl
     refine take_ (i := 10) (N := some 25) (v := ?_) (a' := ?_) #[true, true, true, true, true, true, true, true, true, true, true, true, false, false, false, false, false, false, false, false, false, false, false, false, false, false] rfl rfl (take_ofW HT_.out HW_.out (by kernel_rfl)) (fun _ _ _ h => h) (Or.inl ⟨by rfl, ?_⟩) hHeld ?_ ?_
     rotate_left
     ·intro w' s0
      go_simp
      with_reducible rfl
     rotate_left
     ·simp only [Act.put, List.setIfInBounds_toArray, List.set_cons_zero, List.set_cons_succ, i64_w, i32_w]
      rfl
     refine one_ (i := 12) (N := some 27) #[true, true, true, true, true, true, true, true, true, true, true, true, true, false, false, false, false, false, false, false, false, false, false, false, false, false] rfl rfl (one_of HT_.out (by kernel_rfl)) (by decide) (fun K hK => ?_)
     refine goes_ Try.func52 (by kernel_rfl) rfl #[.int .i64 10, .int .i64 12] (by rfl) rfl rfl (by (try simp only [List.map_toArray, List.map_cons, List.map_nil]); first | done | rfl | (simp only [List.length_drop, List.length_take]; rfl)) ?_
     with_reducible refine (thermionlaw04_of.calls 10 12 t159 t160 _ A8.out).mono ?_
     rintro e w47 ⟨rfl, hb⟩
     have HS0_ := (hb.cell (World.block_lt_of_cell? _ _ (hHeld))).trans (hHeld)
     refine ⟨_, rfl, ?_⟩
     have n0_ := Aside0.mk (Kd.R_below (by (with_reducible repeat (first | apply Kd.R_alloc | apply Kd.R_drewN | apply Kd.R_drew)); exact HO147.out) hb)
     have n1_ := Aside0.mk (Kd.N_below (by (with_reducible repeat (first | apply Kd.N_alloc | apply Kd.N_drewN | apply Kd.N_drew)); exact HO150.out) hb)
     have n2_ := Aside0.mk (Kd.N_below (by (with_reducible repeat (first | apply Kd.N_alloc | apply Kd.N_drewN | apply Kd.N_drew)); exact HO154.out) hb)
     have n3_ := Aside0.mk (Kd.V_below (by (with_reducible repeat (first | apply Kd.V_alloc | apply Kd.V_drewN | apply Kd.V_drew)); exact HL158_0.out) hb)
     have n4_ := Aside0.mk (Kd.C_below (by repeat (first | (with_reducible exact HR158_0.out) | (with_reducible refine Kd.C_alloc ?_ _) | (with_reducible refine Kd.C_drewN ?_ _) | (with_reducible refine Kd.C_drew ?_) | exact HR158_0.out)) hb)
     have n5_ := Aside0.mk (below_step (by repeat (first | (with_reducible first | exact HB.out | apply below_alloc | apply pw_below_drewN | apply below_drew1) | exact HB.out)) hb)
     clear HO147
     clear HO150
     clear HO154
     clear HL158_0
     clear HR158_0
     clear HB
     have HO147 := n0_
     have HO150 := n1_
     have HO154 := n2_
     have HL158_0 := n3_
     have HR158_0 := n4_
     have HB := n5_
     clear n0_ n1_ n2_ n3_ n4_ n5_
     (try clear hb)
     (try clear hb2)
     (try clear hk)
     (try clear hi)
     refine hK.out _ _ (HS0_) (fun hHeld => ?_)
     clear hK K
     refine norm_ (a' := ?_) ?_ ?_
     rotate_left
     ·show Act.put _ (some 27) _ = _
      simp only [Act.put, List.setIfInBounds_toArray, List.set_cons_zero, List.set_cons_succ, i64_w, i32_w]
      rfl
     refine one_ (i := 13) (N := some 28) #[true, true, true, true, true, true, true, true, true, true, true, true, true, true, false, false, false, false, false, false, false, false, false, false, false, false] rfl rfl (one_of HT_.out (by kernel_rfl)) (by decide) (fun K hK => ?_)
     refine goes_ Try.func52 (by kernel_rfl) rfl #[.int .i64 17, .int .i64 18] (by rfl) rfl rfl (by (try simp only [List.map_toArray, List.map_cons, List.map_nil]); first | done | rfl | (simp only [List.length_drop, List.length_take]; rfl)) ?_
     with_reducible refine (thermionlaw04_of.calls 17 18 t161 t162 _ A9.out).mono ?_
     rintro e w48 ⟨rfl, hb⟩
     have HS0_ := (hb.cell (World.block_lt_of_cell? _ _ (hHeld))).trans (hHeld)
     refine ⟨_, rfl, ?_⟩
     have n0_ := Aside0.mk (Kd.R_below (by (with_reducible repeat (first | apply Kd.R_alloc | apply Kd.R_drewN | apply Kd.R_drew)); exact HO147.out) hb)
     have n1_ := Aside0.mk (Kd.N_below (by (with_reducible repeat (first | apply Kd.N_alloc | apply Kd.N_drewN | apply Kd.N_drew)); exact HO150.out) hb)
     have n2_ := Aside0.mk (Kd.N_below (by (with_reducible repeat (first | apply Kd.N_alloc | apply Kd.N_drewN | apply Kd.N_drew)); exact HO154.out) hb)
     have n3_ := Aside0.mk (Kd.V_below (by (with_reducible repeat (first | apply Kd.V_alloc | apply Kd.V_drewN | apply Kd.V_drew)); exact HL158_0.out) hb)
     have n4_ := Aside0.mk (Kd.C_below (by repeat (first | (with_reducible exact HR158_0.out) | (with_reducible refine Kd.C_alloc ?_ _) | (with_reducible refine Kd.C_drewN ?_ _) | (with_reducible refine Kd.C_drew ?_) | exact HR158_0.out)) hb)
     have n5_ := Aside0.mk (below_step (by repeat (first | (with_reducible first | exact HB.out | apply below_alloc | apply pw_below_drewN | apply below_drew1) | exact HB.out)) hb)
     clear HO147
     clear HO150
     clear HO154
     clear HL158_0
     clear HR158_0
     clear HB
     have HO147 := n0_
     have HO150 := n1_
     have HO154 := n2_
     have HL158_0 := n3_
     have HR158_0 := n4_
     have HB := n5_
     clear n0_ n1_ n2_ n3_ n4_ n5_
     (try clear hb)
     (try clear hb2)
     (try clear hk)
     (try clear hi)
     refine hK.out _ _ (HS0_) (fun hHeld => ?_)
     clear hK K
     refine norm_ (a' := ?_) ?_ ?_
     rotate_left
     ·show Act.put _ (some 28) _ = _
      simp only [Act.put, List.setIfInBounds_toArray, List.set_cons_zero, List.set_cons_succ, i64_w, i32_w]
      rfl
     refine one_ (i := 14) (N := some 29) #[true, true, true, true, true, true, true, true, true, true, true, true, true, true, true, false, false, false, false, false, false, false, false, false, false, false] rfl rfl (one_of HT_.out (by kernel_rfl)) (by decide) (fun K hK => ?_)
     refine Kd.R_lit_step k32 _ 32 ?hg (N := 29) ?hd (xs := ([(⟨0, 0⟩ : S32), (⟨t159, t160⟩ : S32), (⟨t161, t162⟩ : S32)] : List (S32))) (inner := [.int .i64 0, .int .i64 0, .int .i64 t159, .int .i64 t160, .int .i64 t161, .int .i64 t162]) (ok := fun _ => True) (okp := fun _ => True) ?hr ?hp (fun _ hk => hk) trivial (Below.refl _ _) (Nat.le_refl _) (by simp) ?_; (case hd => rfl); (case hg => rfl); (case hr => first | (go_simp; done) | (go_simp; rfl)); (case hp => exact (Reps.c2 (show Kd.M k32 _ _ _ (⟨0, 0⟩ : S32) [.int .i64 0, .int .i64 0] from (k32_mkM _ _ _ (⟨0, 0⟩ : S32) )) (Reps.c2 (show Kd.M k32 _ _ _ (⟨t159, t160⟩ : S32) [.int .i64 t159, .int .i64 t160] from (k32_mkM _ _ _ (⟨t159, t160⟩ : S32) )) (Reps.c2 (show Kd.M k32 _ _ _ (⟨t161, t162⟩ : S32) [.int .i64 t161, .int .i64 t162] from (k32_mkM _ _ _ (⟨t161, t162⟩ : S32) )) (Reps.none _ _)))))
     intro v164 w49 ho50 hb hg_ hnew_
     have HS0_ := (hb.cell (World.block_lt_of_cell? _ _ (hHeld))).trans (hHeld)
     clear hg_ hnew_
     (first | rw [← Ny163.out] at ho50 | (simp only [Int.reduceToNat] at ho50; rw [← Ny163.out] at ho50))
     have n0_ := Aside0.mk (Kd.R_below (by (with_reducible repeat (first | apply Kd.R_alloc | apply Kd.R_drewN | apply Kd.R_drew)); exact HO147.out) hb)
     have n1_ := Aside0.mk (Kd.N_elder' (by (with_reducible repeat (first | apply Kd.N_alloc | apply Kd.N_drewN | apply Kd.N_drew)); exact HO150.out) (Kd.R_base ho50) hb)
     have n2_ := Aside0.mk (Kd.N_elder' (by (with_reducible repeat (first | apply Kd.N_alloc | apply Kd.N_drewN | apply Kd.N_drew)); exact HO154.out) (Kd.R_base ho50) hb)
     have n3_ := Aside0.mk (Kd.V_elder' (by (with_reducible repeat (first | apply Kd.V_alloc | apply Kd.V_drewN | apply Kd.V_drew)); exact HL158_0.out) (Kd.R_base ho50) hb)
     have n4_ := Aside0.mk (Kd.R_lower ho50 (below_size (by repeat (first | (with_reducible first | exact HB.out | apply below_alloc | apply pw_below_drewN | apply below_drew1) | exact HB.out))))
     have n5_ := Aside0.mk (Kd.C_below (by repeat (first | (with_reducible exact HR158_0.out) | (with_reducible refine Kd.C_alloc ?_ _) | (with_reducible refine Kd.C_drewN ?_ _) | (with_reducible refine Kd.C_drew ?_) | exact HR158_0.out)) hb)
     have n6_ := Aside0.mk (below_step (by repeat (first | (with_reducible first | exact HB.out | apply below_alloc | apply pw_below_drewN | apply below_drew1) | exact HB.out)) hb)
     clear HO147
     clear HO150
     clear HO154
     clear HL158_0
     clear HR158_0
     clear HB
     have HO147 := n0_
     have HO150 := n1_
     have HO154 := n2_
     have HL158_0 := n3_
     have HO165 := n4_
     have HR158_0 := n5_
     have HB := n6_
     clear n0_ n1_ n2_ n3_ n4_ n5_ n6_
     clear hb ho50
     obtain ⟨Ao51, co51, eo51⟩ := Kd.R_slice HO165.out
     (first | subst eo51 | (injection eo51 with f1_ f2_ f3_; have f4_ := f1_.symm; have f5_ := f3_.symm; clear f1_ f2_ f3_; subst f4_; subst f5_))
     refine hK.out _ _ (HS0_) (fun hHeld => ?_)
     clear hK K
     refine norm_ (a' := ?_) ?_ ?_
     rotate_left
     ·show Act.put _ (some 29) _ = _
      simp only [Act.put, List.setIfInBounds_toArray, List.set_cons_zero, List.set_cons_succ, i64_w, i32_w]
      rfl
     refine one_ (i := 15) (N := some 30) #[true, true, true, true, true, true, true, true, true, true, true, true, true, true, true, true, false, false, false, false, false, false, false, false, false, false] rfl rfl (one_of HT_.out (by kernel_rfl)) (by decide) (fun K hK => ?_)
     refine goes_ Try.func88 (by kernel_rfl) rfl #[.slice A158_0 (rd_L6 t148 0).length c158_0, .slice Ao51 y163.length co51] (by rfl) rfl rfl (by (try simp only [List.map_toArray, List.map_cons, List.map_nil]); first | done | rfl | (simp only [List.length_drop, List.length_take]; rfl)) ?_
     with_reducible refine (thermionkit_SameRanges.calls k _ _ (rd_L6 t148 0) _ _ y163 false _ ?side1 ?side2 ?side3 ?side4 A10.out).mono ?_
     (case side1 => repeat (first | exact (by repeat (first | (with_reducible exact HR158_0.out) | (with_reducible refine Kd.C_alloc ?_ _) | (with_reducible refine Kd.C_drewN ?_ _) | (with_reducible refine Kd.C_drew ?_) | exact HR158_0.out)) | (with_reducible refine Kd.C_alloc ?_ _) | (with_reducible refine Kd.C_drewN ?_ _) | (with_reducible refine Kd.C_drew ?_)))
     (case side2 => exact HC158_0.out)
     (case side3 => repeat (first | exact (Kd.R_reads' HO165.out).2.2 | (with_reducible refine Kd.C_alloc ?_ _) | (with_reducible refine Kd.C_drewN ?_ _) | (with_reducible refine Kd.C_drew ?_)))
     (case side4 => exact (Kd.R_reads' HO165.out).2.1)
     rintro e w' ⟨rfl, ⟨nd, rfl⟩⟩
     refine ⟨_, rfl, ?_⟩
     refine hK.out _ _ (hHeld) (fun hHeld => ?_)
     clear hK K
     refine norm_ (a' := ?_) ?_ ?_
     rotate_left
     ·show Act.put _ (some 30) _ = _
      simp only [Act.put, List.setIfInBounds_toArray, List.set_cons_zero, List.set_cons_succ, i64_w, i32_w]
      rfl
     refine pure_ (i := 16) (N := some 31) (v := ?_) (a' := ?_) #[true, true, true, true, true, true, true, true, true, true, true, true, true, true, true, true, true, false, false, false, false, false, false, false, false, false] rfl rfl (any_of HT_.out (by kernel_rfl)) (fun _ _ _ h => h) (Or.inl ⟨by rfl, ?_⟩) ?_ ?_
     rotate_left
     ·intro w'
      go_simp
      with_reducible rfl
     rotate_left
     ·simp only [Act.put, List.setIfInBounds_toArray, List.set_cons_zero, List.set_cons_succ, i64_w, i32_w]
      rfl
     refine pure_ (i := 17) (N := some 32) (v := ?_) (a' := ?_) #[true, true, true, true, true, true, true, true, true, true, true, true, true, true, true, true, true, true, false, false, false, false, false, false, false, false] rfl rfl (any_of HT_.out (by kernel_rfl)) (fun _ _ _ h => h) (Or.inl ⟨by rfl, ?_⟩) ?_ ?_
     rotate_left
     ·intro w'
      go_simp
      with_reducible rfl
     rotate_left
     ·simp only [Act.put, List.setIfInBounds_toArray, List.set_cons_zero, List.set_cons_succ, i64_w, i32_w]
      rfl
     refine pure_ (i := 18) (N := some 33) (v := undef) (a' := ?_) #[true, true, true, true, true, true, true, true, true, true, true, true, true, true, true, true, true, true, true, false, false, false, false, false, false, false] rfl rfl (any_of HT_.out (by kernel_rfl)) (fun _ _ _ h => h) (Or.inr ⟨by rfl, rfl⟩) ?_ ?_
     rotate_left
     ·simp only [Act.put, List.setIfInBounds_toArray, List.set_cons_zero, List.set_cons_succ, i64_w, i32_w]
      rfl
     refine pure_ (i := 19) (N := some 34) (v := undef) (a' := ?_) #[true, true, true, true, true, true, true, true, true, true, true, true, true, true, true, true, true, true, true, true, false, false, false, false, false, false] rfl rfl (any_of HT_.out (by kernel_rfl)) (fun _ _ _ h => h) (Or.inr ⟨by rfl, rfl⟩) ?_ ?_
     rotate_left
     ·simp only [Act.put, List.setIfInBounds_toArray, List.set_cons_zero, List.set_cons_succ, i64_w, i32_w]
      rfl
     refine pure_ (i := 20) (N := some 35) (v := ?_) (a' := ?_) #[true, true, true, true, true, true, true, true, true, true, true, true, true, true, true, true, true, true, true, true, true, false, false, false, false, false] rfl rfl (any_of HT_.out (by kernel_rfl)) (fun _ _ _ h => h) (Or.inl ⟨by rfl, ?_⟩) ?_ ?_
     rotate_left
     ·intro w'
      go_simp
      with_reducible rfl
     rotate_left
     ·simp only [Act.put, List.setIfInBounds_toArray, List.set_cons_zero, List.set_cons_succ, i64_w, i32_w]
      rfl
     refine pure_ (i := 21) (N := some 36) (v := ?_) (a' := ?_) #[true, true, true, true, true, true, true, true, true, true, true, true, true, true, true, true, true, true, true, true, true, true, false, false, false, false] rfl rfl (any_of HT_.out (by kernel_rfl)) (fun _ _ _ h => h) (Or.inl ⟨by rfl, ?_⟩) ?_ ?_
     rotate_left
     ·intro w'
      go_simp
      with_reducible rfl
     rotate_left
     ·simp only [Act.put, List.setIfInBounds_toArray, List.set_cons_zero, List.set_cons_succ, i64_w, i32_w]
      rfl
     refine pure_ (i := 22) (N := some 37) (v := undef) (a' := ?_) #[true, true, true, true, true, true, true, true, true, true, true, true, true, true, true, true, true, true, true, true, true, true, true, false, false, false] rfl rfl (any_of HT_.out (by kernel_rfl)) (fun _ _ _ h => h) (Or.inr ⟨by rfl, rfl⟩) ?_ ?_
     rotate_left
     ·simp only [Act.put, List.setIfInBounds_toArray, List.set_cons_zero, List.set_cons_succ, i64_w, i32_w]
      rfl
     refine pure_ (i := 23) (N := some 38) (v := undef) (a' := ?_) #[true, true, true, true, true, true, true, true, true, true, true, true, true, true, true, true, true, true, true, true, true, true, true, true, false, false] rfl rfl (any_of HT_.out (by kernel_rfl)) (fun _ _ _ h => h) (Or.inr ⟨by rfl, rfl⟩) ?_ ?_
     rotate_left
     ·simp only [Act.put, List.setIfInBounds_toArray, List.set_cons_zero, List.set_cons_succ, i64_w, i32_w]
      rfl
     refine pure_ (i := 24) (N := some 39) (v := ?_) (a' := ?_) #[true, true, true, true, true, true, true, true, true, true, true, true, true, true, true, true, true, true, true, true, true, true, true, true, true, false] rfl rfl (any_of HT_.out (by kernel_rfl)) (fun _ _ _ h => h) (Or.inl ⟨by rfl, ?_⟩) ?_ ?_
     rotate_left
     ·intro w'
      go_simp
      with_reducible rfl
     rotate_left
     ·simp only [Act.put, List.setIfInBounds_toArray, List.set_cons_zero, List.set_cons_succ, i64_w, i32_w]
      rfl
     refine pure_ (i := 25) (N := some 0) (v := ?_) (a' := ?_) #[true, true, true, true, true, true, true, true, true, true, true, true, true, true, true, true, true, true, true, true, true, true, true, true, true, true] rfl rfl (any_of HT_.out (by kernel_rfl)) (fun _ _ _ h => h) (Or.inl ⟨by rfl, ?_⟩) ?_ ?_
     rotate_left
     ·intro w'
      go_simp
      with_reducible rfl
     rotate_left
     ·simp only [Act.put, List.setIfInBounds_toArray, List.set_cons_zero, List.set_cons_succ, i64_w, i32_w]
      rfl
     refine done_ (done_of HT_.out (by kernel_rfl)) ?_
     try go_wp2
     go_ret
     exact ⟨by first | rfl | (simp [errW_none, errW_some] <;> rfl) | (simp [*, errW_none, errW_some] <;> rfl), by repeat (first | (with_reducible first | exact HB.out | apply below_alloc | apply pw_below_drewN | apply below_drew1) | exact HB.out)⟩
   ·rw [if_neg c7] at H
    exact absurd H (by simp)
  ·rw [if_neg c6] at H
   have c6b0 : ((t148.length : Int) == 3) = false := beq_eq_false_iff_ne.mpr c6
   have c6b1 : ((t148.length : Int) != 3) = true := bne_iff_ne.mpr c6
   obtain rfl := Option.some.inj H
   go_enter Try.func21, Try.ntmps21
   try go_wp2_with (first | ((with_reducible refine gate_callee (f := 87) rfl ?_); refine goesL_ (some 6) rfl rfl Try.func87 (by kernel_rfl) rfl #[] rfl (by (try simp only [List.map_toArray, List.map_cons, List.map_nil]); first | done | rfl | (simp only [List.length_drop, List.length_take]; rfl)) ?_; (with_reducible refine (thermionlaw04_chain.calls  t144 t145 _ A1.out).mono ?_); rintro e w52 ⟨v146, rfl, ho0, hb⟩; refine ⟨_, rfl, ?_⟩; have n0_ := Aside0.mk (Kd.R_lower ho0 (below_size (by repeat (first | (with_reducible first | exact HB.out | apply below_alloc | apply pw_below_drewN | apply below_drew1) | exact HB.out)))); have n1_ := Aside0.mk (below_step (by repeat (first | (with_reducible first | exact HB.out | apply below_alloc | apply pw_below_drewN | apply below_drew1) | exact HB.out)) hb); clear HB; have HO147 := n0_; have HB := n1_; clear n0_ n1_; (try clear hb); (try clear hb2); (try clear hk); (try clear hi); (try clear ho0); obtain ⟨Ao53, co53, eo53⟩ := Kd.R_slice HO147.out; subst eo53) | ((with_reducible refine gate_callee (f := 24) rfl ?_); refine goesL_ (some 7) rfl rfl Try.func24 (by kernel_rfl) rfl #[.agg #[.int .i64 t144, .slice Ao53 t145.length co53]] rfl (by (try simp only [List.map_toArray, List.map_cons, List.map_nil]); first | done | rfl | (simp only [List.length_drop, List.length_take]; rfl)) ?_; (with_reducible refine (mount_Tight.calls t144 _ _ t145 t148 t151 _ ?side1 ?side2 A2.out).mono ?_); (case side1 => repeat (first | exact (Kd.R_reads' HO147.out).2.2 | (with_reducible refine Kd.C_alloc ?_ _) | (with_reducible refine Kd.C_drewN ?_ _) | (with_reducible refine Kd.C_drew ?_))); (case side2 => exact (Kd.R_reads' HO147.out).2.1); rintro e w54 ⟨v149, rfl, ho0, hb⟩; refine ⟨_, rfl, ?_⟩; have n0_ := Aside0.mk (Kd.R_below (by (with_reducible repeat (first | apply Kd.R_alloc | apply Kd.R_drewN | apply Kd.R_drew)); exact HO147.out) hb); have n1_ := Aside0.mk (Kd.N_lower (Kd.N_mono (ok' := fun k_ => some k_ ≠ (.slice Ao53 t145.length co53 : Value).ownBlock) (Kd.S_N (Kd.S_bound ho0)) (fun k_ hk_ => (Kd.fresh' (Kd.R_lt (by (with_reducible repeat (first | apply Kd.R_alloc | apply Kd.R_drewN | apply Kd.R_drew)); exact HO147.out)) k_ hk_.2.1))) (below_size (by repeat (first | (with_reducible first | exact HB.out | apply below_alloc | apply pw_below_drewN | apply below_drew1) | exact HB.out)))); have n2_ := Aside0.mk (below_step (by repeat (first | (with_reducible first | exact HB.out | apply below_alloc | apply pw_below_drewN | apply below_drew1) | exact HB.out)) hb); clear HO147; clear HB; have HO147 := n0_; have HO150 := n1_; have HB := n2_; clear n0_ n1_ n2_; (try clear hb); (try clear hb2); (try clear hk); (try clear hi); (try clear ho0)) | ((with_reducible refine gate_callee (f := 59) rfl ?_); refine goesL_ (some 11) rfl rfl Try.func59 (by kernel_rfl) rfl #[] rfl (by (try simp only [List.map_toArray, List.map_cons, List.map_nil]); first | done | rfl | (simp only [List.length_drop, List.length_take]; rfl)) ?_; (with_reducible refine (thermionlaw04_kit.calls  t152 t155 _ A3.out).mono ?_); rintro e w55 ⟨v153, rfl, ho0, hb⟩; refine ⟨_, rfl, ?_⟩; have n0_ := Aside0.mk (Kd.R_below (by (with_reducible repeat (first | apply Kd.R_alloc | apply Kd.R_drewN | apply Kd.R_drew)); exact HO147.out) hb); have n1_ := Aside0.mk (Kd.N_elder' (by (with_reducible repeat (first | apply Kd.N_alloc | apply Kd.N_drewN | apply Kd.N_drew)); exact HO150.out) (Kd.N_base ho0) hb); have n2_ := Aside0.mk (Kd.N_lower (Kd.N_mono (ok' := fun k_ => some k_ ≠ (.slice Ao53 t145.length co53 : Value).ownBlock ∧ some k_ ≠ (v149 : Value).ownBlock) ho0 (fun k_ hk_ => ⟨(Kd.fresh' (Kd.R_lt (by (with_reducible repeat (first | apply Kd.R_alloc | apply Kd.R_drewN | apply Kd.R_drew)); exact HO147.out)) k_ hk_), (Kd.fresh' (Kd.N_lt (by (with_reducible repeat (first | apply Kd.N_alloc | apply Kd.N_drewN | apply Kd.N_drew)); exact HO150.out)) k_ hk_)⟩)) (below_size (by repeat (first | (with_reducible first | exact HB.out | apply below_alloc | apply pw_below_drewN | apply below_drew1) | exact HB.out)))); have n3_ := Aside0.mk (below_step (by repeat (first | (with_reducible first | exact HB.out | apply below_alloc | apply pw_below_drewN | apply below_drew1) | exact HB.out)) hb); clear HO147; clear HO150; clear HB; have HO147 := n0_; have HO150 := n1_; have HO154 := n2_; have HB := n3_; clear n0_ n1_ n2_ n3_; (try clear hb); (try clear hb2); (try clear hk); (try clear hi); (try clear ho0); obtain ⟨Ao56, co56, eo56⟩ := Kd.N_slice HO154.out; subst eo56) | ((with_reducible refine gate_callee (f := 30) rfl ?_); refine goesL_ (some 12) rfl rfl Try.func30 (by kernel_rfl) rfl #[.agg #[.slice Ao56 t152.length co56, .int .i64 t155]] rfl (by (try simp only [List.map_toArray, List.map_cons, List.map_nil]); first | done | rfl | (simp only [List.length_drop, List.length_take]; rfl)) ?_; (with_reducible refine (mount_Orders.calls _ _ t152 t155 t156 t157 _ ?side1 ?side2 A4.out).mono ?_); (case side1 => repeat (first | exact (Kd.N_reads' HO154.out).2.2 | (with_reducible refine Kd.C_alloc ?_ _) | (with_reducible refine Kd.C_drewN ?_ _) | (with_reducible refine Kd.C_drew ?_))); (case side2 => exact (Kd.N_reads' HO154.out).2.1); rintro e w57 ⟨rfl, hb⟩; refine ⟨_, rfl, ?_⟩; have n0_ := Aside0.mk (Kd.R_below (by (with_reducible repeat (first | apply Kd.R_alloc | apply Kd.R_drewN | apply Kd.R_drew)); exact HO147.out) hb); have n1_ := Aside0.mk (Kd.N_below (by (with_reducible repeat (first | apply Kd.N_alloc | apply Kd.N_drewN | apply Kd.N_drew)); exact HO150.out) hb); have n2_ := Aside0.mk (Kd.N_below (by (with_reducible repeat (first | apply Kd.N_alloc | apply Kd.N_drewN | apply Kd.N_drew)); exact HO154.out) hb); have n3_ := Aside0.mk (below_step (by repeat (first | (with_reducible first | exact HB.out | apply below_alloc | apply pw_below_drewN | apply below_drew1) | exact HB.out)) hb); clear HO147; clear HO150; clear HO154; clear HB; have HO147 := n0_; have HO150 := n1_; have HO154 := n2_; have HB := n3_; clear n0_ n1_ n2_ n3_; (try clear hb); (try clear hb2); (try clear hk); (try clear hi)))
   have n0_ := Aside0.mk (Kd.R_drew HO147.out)
   have n1_ := Aside0.mk (Kd.N_drew HO150.out)
   have n2_ := Aside0.mk (Kd.N_drew HO154.out)
   have n3_ := Aside0.mk (below_drew1 HB.out)
   clear HO147
   clear HO150
   clear HO154
   clear HB
   have HO147 := n0_
   have HO150 := n1_
   have HO154 := n2_
   have HB := n3_
   clear n0_ n1_ n2_ n3_
   obtain ⟨Ao59, co59, eo59⟩ := Kd.N_slice HO150.out
   (first | subst eo59 | (injection eo59 with f1_ f2_ f3_; have f4_ := f1_.symm; have f5_ := f3_.symm; clear f1_ f2_ f3_; subst f4_; subst f5_))
   refine start_ (n := 26) (S := fun w' => True) (ds := []) #[false, false, false, false, false, false, false, false, false, false, false, false, false, false, false, false, false, false, false, false, false, false, false, false, false, false] (by kernel_rfl) rfl rfl trivial (fun hHeld => ?_); refine with_tabW thermionlaw04_awake.tab3 thermionlaw04_awake.bits3 (fun HT_ HW_ => ?_)
   generalize w57.drew = w58 at HO147 HO150 HO154 HB hHeld ⊢
   refine pure_ (i := 0) (N := some 15) (v := ?_) (a' := ?_) #[true, false, false, false, false, false, false, false, false, false, false, false, false, false, false, false, false, false, false, false, false, false, false, false, false, false] rfl rfl (any_of HT_.out (by kernel_rfl)) (fun _ _ _ h => h) (Or.inl ⟨by rfl, ?_⟩) ?_ ?_
   rotate_left
   ·intro w'
    go_simp
    with_reducible rfl
   rotate_left
   ·simp only [Act.put, List.setIfInBounds_toArray, List.set_cons_zero, List.set_cons_succ, i64_w, i32_w]
    rfl
   refine pure_ (i := 1) (N := some 16) (v := ?_) (a' := ?_) #[true, true, false, false, false, false, false, false, false, false, false, false, false, false, false, false, false, false, false, false, false, false, false, false, false, false] rfl rfl (any_of HT_.out (by kernel_rfl)) (fun _ _ _ h => h) (Or.inl ⟨by rfl, ?_⟩) ?_ ?_
   rotate_left
   ·intro w'
    go_simp
    with_reducible rfl
   rotate_left
   ·simp only [Act.put, List.setIfInBounds_toArray, List.set_cons_zero, List.set_cons_succ, i64_w, i32_w]
    rfl
   refine pure_ (i := 2) (N := some 17) (v := ?_) (a' := ?_) #[true, true, true, false, false, false, false, false, false, false, false, false, false, false, false, false, false, false, false, false, false, false, false, false, false, false] rfl rfl (any_of HT_.out (by kernel_rfl)) (fun _ _ _ h => h) (Or.inl ⟨by rfl, ?_⟩) ?_ ?_
   rotate_left
   ·intro w'
    go_simp
    with_reducible rfl
   rotate_left
   ·simp only [Act.put, List.setIfInBounds_toArray, List.set_cons_zero, List.set_cons_succ, i64_w, i32_w]
    rfl
   refine pure_ (i := 3) (N := some 18) (v := ?_) (a' := ?_) #[true, true, true, true, false, false, false, false, false, false, false, false, false, false, false, false, false, false, false, false, false, false, false, false, false, false] rfl rfl (any_of HT_.out (by kernel_rfl)) (fun _ _ _ h => h) (Or.inl ⟨by rfl, ?_⟩) ?_ ?_
   rotate_left
   ·intro w'
    go_simp
    with_reducible rfl
   rotate_left
   ·simp only [Act.put, List.setIfInBounds_toArray, List.set_cons_zero, List.set_cons_succ, i64_w, i32_w]
    rfl
   refine pure_ (i := 4) (N := some 19) (v := ?_) (a' := ?_) #[true, true, true, true, true, false, false, false, false, false, false, false, false, false, false, false, false, false, false, false, false, false, false, false, false, false] rfl rfl (any_of HT_.out (by kernel_rfl)) (fun _ _ _ h => h) (Or.inl ⟨by rfl, ?_⟩) ?_ ?_
   rotate_left
   ·intro w'
    go_simp
    with_reducible rfl
   rotate_left
   ·simp only [Act.put, List.setIfInBounds_toArray, List.set_cons_zero, List.set_cons_succ, i64_w, i32_w]
    rfl
   refine pure_ (i := 5) (N := some 20) (v := ?_) (a' := ?_) #[true, true, true, true, true, true, false, false, false, false, false, false, false, false, false, false, false, false, false, false, false, false, false, false, false, false] rfl rfl (any_of HT_.out (by kernel_rfl)) (fun _ _ _ h => h) (Or.inl ⟨by rfl, ?_⟩) ?_ ?_
   rotate_left
   ·intro w'
    go_simp
    with_reducible rfl
   rotate_left
   ·simp only [Act.put, List.setIfInBounds_toArray, List.set_cons_zero, List.set_cons_succ, i64_w, i32_w]
    rfl
   refine pure_ (i := 6) (N := some 21) (v := ?_) (a' := ?_) #[true, true, true, true, true, true, true, false, false, false, false, false, false, false, false, false, false, false, false, false, false, false, false, false, false, false] rfl rfl (any_of HT_.out (by kernel_rfl)) (fun _ _ _ h => h) (Or.inl ⟨by rfl, ?_⟩) ?_ ?_
   rotate_left
   ·intro w'
    go_simp
    with_reducible rfl
   rotate_left
   ·simp only [Act.put, List.setIfInBounds_toArray, List.set_cons_zero, List.set_cons_succ, i64_w, i32_w]
    rfl
   refine pure_ (i := 7) (N := some 22) (v := ?_) (a' := ?_) #[true, true, true, true, true, true, true, true, false, false, false, false, false, false, false, false, false, false, false, false, false, false, false, false, false, false] rfl rfl (any_of HT_.out (by kernel_rfl)) (fun _ _ _ h => h) (Or.inl ⟨by rfl, ?_⟩) ?_ ?_
   rotate_left
   ·intro w'
    go_simp
    with_reducible rfl
   rotate_left
   ·simp only [Act.put, List.setIfInBounds_toArray, List.set_cons_zero, List.set_cons_succ, i64_w, i32_w]
    rfl
   refine pure_ (i := 8) (N := some 23) (v := undef) (a' := ?_) #[true, true, true, true, true, true, true, true, true, false, false, false, false, false, false, false, false, false, false, false, false, false, false, false, false, false] rfl rfl (any_of HT_.out (by kernel_rfl)) (fun _ _ _ h => h) (Or.inr ⟨by rfl, rfl⟩) ?_ ?_
   rotate_left
   ·simp only [Act.put, List.setIfInBounds_toArray, List.set_cons_zero, List.set_cons_succ, i64_w, i32_w]
    rfl
   refine pure_ (i := 9) (N := some 24) (v := undef) (a' := ?_) #[true, true, true, true, true, true, true, true, true, true, false, false, false, false, false, false, false, false, false, false, false, false, false, false, false, false] rfl rfl (any_of HT_.out (by kernel_rfl)) (fun _ _ _ h => h) (Or.inr ⟨by rfl, rfl⟩) ?_ ?_
   rotate_left
   ·simp only [Act.put, List.setIfInBounds_toArray, List.set_cons_zero, List.set_cons_succ, i64_w, i32_w]
    rfl
   refine pure_ (i := 10) (N := some 25) (v := undef) (a' := ?_) #[true, true, true, true, true, true, true, true, true, true, true, false, false, false, false, false, false, false, false, false, false, false, false, false, false, false] rfl rfl (any_of HT_.out (by kernel_rfl)) (fun _ _ _ h => h) (Or.inr ⟨by rfl, rfl⟩) ?_ ?_
   rotate_left
   ·simp only [Act.put, List.setIfInBounds_toArray, List.set_cons_zero, List.set_cons_succ, i64_w, i32_w]
    rfl
   refine pure_ (i := 11) (N := some 26) (v := undef) (a' := ?_) #[true, true, true, true, true, true, true, true, true, true, true, true, false, false, false, false, false, false, false, false, false, false, false, false, false, false] rfl rfl (any_of HT_.out (by kernel_rfl)) (fun _ _ _ h => h) (Or.inr ⟨by rfl, rfl⟩) ?_ ?_
   rotate_left
   ·simp only [Act.put, List.setIfInBounds_toArray, List.set_cons_zero, List.set_cons_succ, i64_w, i32_w]
    rfl
   refine pure_ (i := 12) (N := some 27) (v := undef) (a' := ?_) #[true, true, true, true, true, true, true, true, true, true, true, true, true, false, false, false, false, false, false, false, false, false, false, false, false, false] rfl rfl (any_of HT_.out (by kernel_rfl)) (fun _ _ _ h => h) (Or.inr ⟨by rfl, rfl⟩) ?_ ?_
   rotate_left
   ·simp only [Act.put, List.setIfInBounds_toArray, List.set_cons_zero, List.set_cons_succ, i64_w, i32_w]
    rfl
   refine pure_ (i := 13) (N := some 28) (v := undef) (a' := ?_) #[true, true, true, true, true, true, true, true, true, true, true, true, true, true, false, false, false, false, false, false, false, false, false, false, false, false] rfl rfl (any_of HT_.out (by kernel_rfl)) (fun _ _ _ h => h) (Or.inr ⟨by rfl, rfl⟩) ?_ ?_
   rotate_left
   ·simp only [Act.put, List.setIfInBounds_toArray, List.set_cons_zero, List.set_cons_succ, i64_w, i32_w]
    rfl
   refine pure_ (i := 14) (N := some 29) (v := undef) (a' := ?_) #[true, true, true, true, true, true, true, true, true, true, true, true, true, true, true, false, false, false, false, false, false, false, false, false, false, false] rfl rfl (any_of HT_.out (by kernel_rfl)) (fun _ _ _ h => h) (Or.inr ⟨by rfl, rfl⟩) ?_ ?_
   rotate_left
   ·simp only [Act.put, List.setIfInBounds_toArray, List.set_cons_zero, List.set_cons_succ, i64_w, i32_w]
    rfl
   refine pure_ (i := 15) (N := some 30) (v := undef) (a' := ?_) #[true, true, true, true, true, true, true, true, true, true, true, true, true, true, true, true, false, false, false, false, false, false, false, false, false, false] rfl rfl (any_of HT_.out (by kernel_rfl)) (fun _ _ _ h => h) (Or.inr ⟨by rfl, rfl⟩) ?_ ?_
   rotate_left
   ·simp only [Act.put, List.setIfInBounds_toArray, List.set_cons_zero, List.set_cons_succ, i64_w, i32_w]
    rfl
   refine pure_ (i := 16) (N := some 31) (v := ?_) (a' := ?_) #[true, true, true, true, true, true, true, true, true, true, true, true, true, true, true, true, true, false, false, false, false, false, false, false, false, false] rfl rfl (any_of HT_.out (by kernel_rfl)) (fun _ _ _ h => h) (Or.inl ⟨by rfl, ?_⟩) ?_ ?_
   rotate_left
   ·intro w'
    go_simp
    with_reducible rfl
   rotate_left
   ·simp only [Act.put, List.setIfInBounds_toArray, List.set_cons_zero, List.set_cons_succ, i64_w, i32_w]
    rfl
   refine pure_ (i := 17) (N := some 32) (v := ?_) (a' := ?_) #[true, true, true, true, true, true, true, true, true, true, true, true, true, true, true, true, true, true, false, false, false, false, false, false, false, false] rfl rfl (any_of HT_.out (by kernel_rfl)) (fun _ _ _ h => h) (Or.inl ⟨by rfl, ?_⟩) ?_ ?_
   rotate_left
   ·intro w'
    go_simp
    with_reducible rfl
   rotate_left
   ·simp only [Act.put, List.setIfInBounds_toArray, List.set_cons_zero, List.set_cons_succ, i64_w, i32_w]
    rfl
   refine pure_ (i := 18) (N := some 33) (v := undef) (a' := ?_) #[true, true, true, true, true, true, true, true, true, true, true, true, true, true, true, true, true, true, true, false, false, false, false, false, false, false] rfl rfl (any_of HT_.out (by kernel_rfl)) (fun _ _ _ h => h) (Or.inr ⟨by rfl, rfl⟩) ?_ ?_
   rotate_left
   ·simp only [Act.put, List.setIfInBounds_toArray, List.set_cons_zero, List.set_cons_succ, i64_w, i32_w]
    rfl
   refine pure_ (i := 19) (N := some 34) (v := undef) (a' := ?_) #[true, true, true, true, true, true, true, true, true, true, true, true, true, true, true, true, true, true, true, true, false, false, false, false, false, false] rfl rfl (any_of HT_.out (by kernel_rfl)) (fun _ _ _ h => h) (Or.inr ⟨by rfl, rfl⟩) ?_ ?_
   rotate_left
   ·simp only [Act.put, List.setIfInBounds_toArray, List.set_cons_zero, List.set_cons_succ, i64_w, i32_w]
    rfl
   refine pure_ (i := 20) (N := some 35) (v := ?_) (a' := ?_) #[true, true, true, true, true, true, true, true, true, true, true, true, true, true, true, true, true, true, true, true, true, false, false, false, false, false] rfl rfl (any_of HT_.out (by kernel_rfl)) (fun _ _ _ h => h) (Or.inl ⟨by rfl, ?_⟩) ?_ ?_
   rotate_left
   ·intro w'
    go_simp
    with_reducible rfl
   rotate_left
   ·simp only [Act.put, List.setIfInBounds_toArray, List.set_cons_zero, List.set_cons_succ, i64_w, i32_w]
    rfl
   refine pure_ (i := 21) (N := some 36) (v := ?_) (a' := ?_) #[true, true, true, true, true, true, true, true, true, true, true, true, true, true, true, true, true, true, true, true, true, true, false, false, false, false] rfl rfl (any_of HT_.out (by kernel_rfl)) (fun _ _ _ h => h) (Or.inl ⟨by rfl, ?_⟩) ?_ ?_
   rotate_left
   ·intro w'
    go_simp
    with_reducible rfl
   rotate_left
   ·simp only [Act.put, List.setIfInBounds_toArray, List.set_cons_zero, List.set_cons_succ, i64_w, i32_w]
    rfl
   refine pure_ (i := 22) (N := some 37) (v := undef) (a' := ?_) #[true, true, true, true, true, true, true, true, true, true, true, true, true, true, true, true, true, true, true, true, true, true, true, false, false, false] rfl rfl (any_of HT_.out (by kernel_rfl)) (fun _ _ _ h => h) (Or.inr ⟨by rfl, rfl⟩) ?_ ?_
   rotate_left
   ·simp only [Act.put, List.setIfInBounds_toArray, List.set_cons_zero, List.set_cons_succ, i64_w, i32_w]
    rfl
   refine pure_ (i := 23) (N := some 38) (v := undef) (a' := ?_) #[true, true, true, true, true, true, true, true, true, true, true, true, true, true, true, true, true, true, true, true, true, true, true, true, false, false] rfl rfl (any_of HT_.out (by kernel_rfl)) (fun _ _ _ h => h) (Or.inr ⟨by rfl, rfl⟩) ?_ ?_
   rotate_left
   ·simp only [Act.put, List.setIfInBounds_toArray, List.set_cons_zero, List.set_cons_succ, i64_w, i32_w]
    rfl
   refine pure_ (i := 24) (N := some 39) (v := ?_) (a' := ?_) #[true, true, true, true, true, true, true, true, true, true, true, true, true, true, true, true, true, true, true, true, true, true, true, true, true, false] rfl rfl (any_of HT_.out (by kernel_rfl)) (fun _ _ _ h => h) (Or.inl ⟨by rfl, ?_⟩) ?_ ?_
   rotate_left
   ·intro w'
    go_simp
    with_reducible rfl
   rotate_left
   ·simp only [Act.put, List.setIfInBounds_toArray, List.set_cons_zero, List.set_cons_succ, i64_w, i32_w]
    rfl
   refine pure_ (i := 25) (N := some 0) (v := ?_) (a' := ?_) #[true, true, true, true, true, true, true, true, true, true, true, true, true, true, true, true, true, true, true, true, true, true, true, true, true, true] rfl rfl (any_of HT_.out (by kernel_rfl)) (fun _ _ _ h => h) (Or.inl ⟨by rfl, ?_⟩) ?_ ?_
   rotate_left
   ·intro w'
    go_simp
    with_reducible rfl
   rotate_left
   ·simp only [Act.put, List.setIfInBounds_toArray, List.set_cons_zero, List.set_cons_succ, i64_w, i32_w]
    rfl
   refine done_ (done_of HT_.out (by kernel_rfl)) ?_
   try go_wp2
   go_ret
   exact ⟨by first | rfl | (simp [errW_none, errW_some] <;> rfl) | (simp [*, errW_none, errW_some] <;> rfl), by repeat (first | (with_reducible first | exact HB.out | apply below_alloc | apply pw_below_drewN | apply below_drew1) | exact HB.out)⟩
 ·rw [if_neg c5] at H
  have c5b0 : (t151 == 0) = false := beq_eq_false_iff_ne.mpr c5
  have c5b1 : (t151 != 0) = true := bne_iff_ne.mpr c5
  obtain rfl := Option.some.inj H
  go_enter Try.func21, Try.ntmps21
  try go_wp2_with (first | ((with_reducible refine gate_callee (f := 87) rfl ?_); refine goesL_ (some 6) rfl rfl Try.func87 (by kernel_rfl) rfl #[] rfl (by (try simp only [List.map_toArray, List.map_cons, List.map_nil]); first | done | rfl | (simp only [List.length_drop, List.length_take]; rfl)) ?_; (with_reducible refine (thermionlaw04_chain.calls  t144 t145 _ A1.out).mono ?_); rintro e w60 ⟨v146, rfl, ho0, hb⟩; refine ⟨_, rfl, ?_⟩; have n0_ := Aside0.mk (Kd.R_lower ho0 (below_size (by repeat (first | (with_reducible first | exact HB.out | apply below_alloc | apply pw_below_drewN | apply below_drew1) | exact HB.out)))); have n1_ := Aside0.mk (below_step (by repeat (first | (with_reducible first | exact HB.out | apply below_alloc | apply pw_below_drewN | apply below_drew1) | exact HB.out)) hb); clear HB; have HO147 := n0_; have HB := n1_; clear n0_ n1_; (try clear hb); (try clear hb2); (try clear hk); (try clear hi); (try clear ho0); obtain ⟨Ao61, co61, eo61⟩ := Kd.R_slice HO147.out; subst eo61) | ((with_reducible refine gate_callee (f := 24) rfl ?_); refine goesL_ (some 7) rfl rfl Try.func24 (by kernel_rfl) rfl #[.agg #[.int .i64 t144, .slice Ao61 t145.length co61]] rfl (by (try simp only [List.map_toArray, List.map_cons, List.map_nil]); first | done | rfl | (simp only [List.length_drop, List.length_take]; rfl)) ?_; (with_reducible refine (mount_Tight.calls t144 _ _ t145 t148 t151 _ ?side1 ?side2 A2.out).mono ?_); (case side1 => repeat (first | exact (Kd.R_reads' HO147.out).2.2 | (with_reducible refine Kd.C_alloc ?_ _) | (with_reducible refine Kd.C_drewN ?_ _) | (with_reducible refine Kd.C_drew ?_))); (case side2 => exact (Kd.R_reads' HO147.out).2.1); rintro e w62 ⟨v149, rfl, ho0, hb⟩; refine ⟨_, rfl, ?_⟩; have n0_ := Aside0.mk (Kd.R_below (by (with_reducible repeat (first | apply Kd.R_alloc | apply Kd.R_drewN | apply Kd.R_drew)); exact HO147.out) hb); have n1_ := Aside0.mk (Kd.N_lower (Kd.N_mono (ok' := fun k_ => some k_ ≠ (.slice Ao61 t145.length co61 : Value).ownBlock) (Kd.S_N (Kd.S_bound ho0)) (fun k_ hk_ => (Kd.fresh' (Kd.R_lt (by (with_reducible repeat (first | apply Kd.R_alloc | apply Kd.R_drewN | apply Kd.R_drew)); exact HO147.out)) k_ hk_.2.1))) (below_size (by repeat (first | (with_reducible first | exact HB.out | apply below_alloc | apply pw_below_drewN | apply below_drew1) | exact HB.out)))); have n2_ := Aside0.mk (below_step (by repeat (first | (with_reducible first | exact HB.out | apply below_alloc | apply pw_below_drewN | apply below_drew1) | exact HB.out)) hb); clear HO147; clear HB; have HO147 := n0_; have HO150 := n1_; have HB := n2_; clear n0_ n1_ n2_; (try clear hb); (try clear hb2); (try clear hk); (try clear hi); (try clear ho0)) | ((with_reducible refine gate_callee (f := 59) rfl ?_); refine goesL_ (some 11) rfl rfl Try.func59 (by kernel_rfl) rfl #[] rfl (by (try simp only [List.map_toArray, List.map_cons, List.map_nil]); first | done | rfl | (simp only [List.length_drop, List.length_take]; rfl)) ?_; (with_reducible refine (thermionlaw04_kit.calls  t152 t155 _ A3.out).mono ?_); rintro e w63 ⟨v153, rfl, ho0, hb⟩; refine ⟨_, rfl, ?_⟩; have n0_ := Aside0.mk (Kd.R_below (by (with_reducible repeat (first | apply Kd.R_alloc | apply Kd.R_drewN | apply Kd.R_drew)); exact HO147.out) hb); have n1_ := Aside0.mk (Kd.N_elder' (by (with_reducible repeat (first | apply Kd.N_alloc | apply Kd.N_drewN | apply Kd.N_drew)); exact HO150.out) (Kd.N_base ho0) hb); have n2_ := Aside0.mk (Kd.N_lower (Kd.N_mono (ok' := fun k_ => some k_ ≠ (.slice Ao61 t145.length co61 : Value).ownBlock ∧ some k_ ≠ (v149 : Value).ownBlock) ho0 (fun k_ hk_ => ⟨(Kd.fresh' (Kd.R_lt (by (with_reducible repeat (first | apply Kd.R_alloc | apply Kd.R_drewN | apply Kd.R_drew)); exact HO147.out)) k_ hk_), (Kd.fresh' (Kd.N_lt (by (with_reducible repeat (first | apply Kd.N_alloc | apply Kd.N_drewN | apply Kd.N_drew)); exact HO150.out)) k_ hk_)⟩)) (below_size (by repeat (first | (with_reducible first | exact HB.out | apply below_alloc | apply pw_below_drewN | apply below_drew1) | exact HB.out)))); have n3_ := Aside0.mk (below_step (by repeat (first | (with_reducible first | exact HB.out | apply below_alloc | apply pw_below_drewN | apply below_drew1) | exact HB.out)) hb); clear HO147; clear HO150; clear HB; have HO147 := n0_; have HO150 := n1_; have HO154 := n2_; have HB := n3_; clear n0_ n1_ n2_ n3_; (try clear hb); (try clear hb2); (try clear hk); (try clear hi); (try clear ho0); obtain ⟨Ao64, co64, eo64⟩ := Kd.N_slice HO154.out; subst eo64) | ((with_reducible refine gate_callee (f := 30) rfl ?_); refine goesL_ (some 12) rfl rfl Try.func30 (by kernel_rfl) rfl #[.agg #[.slice Ao64 t152.length co64, .int .i64 t155]] rfl (by (try simp only [List.map_toArray, List.map_cons, List.map_nil]); first | done | rfl | (simp only [List.length_drop, List.length_take]; rfl)) ?_; (with_reducible refine (mount_Orders.calls _ _ t152 t155 t156 t157 _ ?side1 ?side2 A4.out).mono ?_); (case side1 => repeat (first | exact (Kd.N_reads' HO154.out).2.2 | (with_reducible refine Kd.C_alloc ?_ _) | (with_reducible refine Kd.C_drewN ?_ _) | (with_reducible refine Kd.C_drew ?_))); (case side2 => exact (Kd.N_reads' HO154.out).2.1); rintro e w65 ⟨rfl, hb⟩; refine ⟨_, rfl, ?_⟩; have n0_ := Aside0.mk (Kd.R_below (by (with_reducible repeat (first | apply Kd.R_alloc | apply Kd.R_drewN | apply Kd.R_drew)); exact HO147.out) hb); have n1_ := Aside0.mk (Kd.N_below (by (with_reducible repeat (first | apply Kd.N_alloc | apply Kd.N_drewN | apply Kd.N_drew)); exact HO150.out) hb); have n2_ := Aside0.mk (Kd.N_below (by (with_reducible repeat (first | apply Kd.N_alloc | apply Kd.N_drewN | apply Kd.N_drew)); exact HO154.out) hb); have n3_ := Aside0.mk (below_step (by repeat (first | (with_reducible first | exact HB.out | apply below_alloc | apply pw_below_drewN | apply below_drew1) | exact HB.out)) hb); clear HO147; clear HO150; clear HO154; clear HB; have HO147 := n0_; have HO150 := n1_; have HO154 := n2_; have HB := n3_; clear n0_ n1_ n2_ n3_; (try clear hb); (try clear hb2); (try clear hk); (try clear hi)))
  have n0_ := Aside0.mk (Kd.R_drew HO147.out)
  have n1_ := Aside0.mk (Kd.N_drew HO150.out)
  have n2_ := Aside0.mk (Kd.N_drew HO154.out)
  have n3_ := Aside0.mk (below_drew1 HB.out)
  clear HO147
  clear HO150
  clear HO154
  clear HB
  have HO147 := n0_
  have HO150 := n1_
  have HO154 := n2_
  have HB := n3_
  clear n0_ n1_ n2_ n3_
  refine start_ (n := 26) (S := fun w' => True) (ds := []) #[false, false, false, false, false, false, false, false, false, false, false, false, false, false, false, false, false, false, false, false, false, false, false, false, false, false] (by kernel_rfl) rfl rfl trivial (fun hHeld => ?_); refine with_tabW thermionlaw04_awake.tab3 thermionlaw04_awake.bits3 (fun HT_ HW_ => ?_)
  generalize w65.drew = w66 at HO147 HO150 HO154 HB hHeld ⊢
  refine pure_ (i := 0) (N := some 15) (v := ?_) (a' := ?_) #[true, false, false, false, false, false, false, false, false, false, false, false, false, false, false, false, false, false, false, false, false, false, false, false, false, false] rfl rfl (any_of HT_.out (by kernel_rfl)) (fun _ _ _ h => h) (Or.inl ⟨by rfl, ?_⟩) ?_ ?_
  rotate_left
  ·intro w'
   go_simp
   with_reducible rfl
  rotate_left
  ·simp only [Act.put, List.setIfInBounds_toArray, List.set_cons_zero, List.set_cons_succ, i64_w, i32_w]
   rfl
  refine pure_ (i := 1) (N := some 16) (v := ?_) (a' := ?_) #[true, true, false, false, false, false, false, false, false, false, false, false, false, false, false, false, false, false, false, false, false, false, false, false, false, false] rfl rfl (any_of HT_.out (by kernel_rfl)) (fun _ _ _ h => h) (Or.inl ⟨by rfl, ?_⟩) ?_ ?_
  rotate_left
  ·intro w'
   go_simp
   with_reducible rfl
  rotate_left
  ·simp only [Act.put, List.setIfInBounds_toArray, List.set_cons_zero, List.set_cons_succ, i64_w, i32_w]
   rfl
  refine pure_ (i := 2) (N := some 17) (v := ?_) (a' := ?_) #[true, true, true, false, false, false, false, false, false, false, false, false, false, false, false, false, false, false, false, false, false, false, false, false, false, false] rfl rfl (any_of HT_.out (by kernel_rfl)) (fun _ _ _ h => h) (Or.inl ⟨by rfl, ?_⟩) ?_ ?_
  rotate_left
  ·intro w'
   go_simp
   with_reducible rfl
  rotate_left
  ·simp only [Act.put, List.setIfInBounds_toArray, List.set_cons_zero, List.set_cons_succ, i64_w, i32_w]
   rfl
  refine pure_ (i := 3) (N := some 18) (v := undef) (a' := ?_) #[true, true, true, true, false, false, false, false, false, false, false, false, false, false, false, false, false, false, false, false, false, false, false, false, false, false] rfl rfl (any_of HT_.out (by kernel_rfl)) (fun _ _ _ h => h) (Or.inr ⟨by rfl, rfl⟩) ?_ ?_
  rotate_left
  ·simp only [Act.put, List.setIfInBounds_toArray, List.set_cons_zero, List.set_cons_succ, i64_w, i32_w]
   rfl
  refine pure_ (i := 4) (N := some 19) (v := undef) (a' := ?_) #[true, true, true, true, true, false, false, false, false, false, false, false, false, false, false, false, false, false, false, false, false, false, false, false, false, false] rfl rfl (any_of HT_.out (by kernel_rfl)) (fun _ _ _ h => h) (Or.inr ⟨by rfl, rfl⟩) ?_ ?_
  rotate_left
  ·simp only [Act.put, List.setIfInBounds_toArray, List.set_cons_zero, List.set_cons_succ, i64_w, i32_w]
   rfl
  refine pure_ (i := 5) (N := some 20) (v := undef) (a' := ?_) #[true, true, true, true, true, true, false, false, false, false, false, false, false, false, false, false, false, false, false, false, false, false, false, false, false, false] rfl rfl (any_of HT_.out (by kernel_rfl)) (fun _ _ _ h => h) (Or.inr ⟨by rfl, rfl⟩) ?_ ?_
  rotate_left
  ·simp only [Act.put, List.setIfInBounds_toArray, List.set_cons_zero, List.set_cons_succ, i64_w, i32_w]
   rfl
  refine pure_ (i := 6) (N := some 21) (v := ?_) (a' := ?_) #[true, true, true, true, true, true, true, false, false, false, false, false, false, false, false, false, false, false, false, false, false, false, false, false, false, false] rfl rfl (any_of HT_.out (by kernel_rfl)) (fun _ _ _ h => h) (Or.inl ⟨by rfl, ?_⟩) ?_ ?_
  rotate_left
  ·intro w'
   go_simp
   with_reducible rfl
  rotate_left
  ·simp only [Act.put, List.setIfInBounds_toArray, List.set_cons_zero, List.set_cons_succ, i64_w, i32_w]
   rfl
  refine pure_ (i := 7) (N := some 22) (v := ?_) (a' := ?_) #[true, true, true, true, true, true, true, true, false, false, false, false, false, false, false, false, false, false, false, false, false, false, false, false, false, false] rfl rfl (any_of HT_.out (by kernel_rfl)) (fun _ _ _ h => h) (Or.inl ⟨by rfl, ?_⟩) ?_ ?_
  rotate_left
  ·intro w'
   go_simp
   with_reducible rfl
  rotate_left
  ·simp only [Act.put, List.setIfInBounds_toArray, List.set_cons_zero, List.set_cons_succ, i64_w, i32_w]
   rfl
  refine pure_ (i := 8) (N := some 23) (v := undef) (a' := ?_) #[true, true, true, true, true, true, true, true, true, false, false, false, false, false, false, false, false, false, false, false, false, false, false, false, false, false] rfl rfl (any_of HT_.out (by kernel_rfl)) (fun _ _ _ h => h) (Or.inr ⟨by rfl, rfl⟩) ?_ ?_
  rotate_left
  ·simp only [Act.put, List.setIfInBounds_toArray, List.set_cons_zero, List.set_cons_succ, i64_w, i32_w]
   rfl
  refine pure_ (i := 9) (N := some 24) (v := undef) (a' := ?_) #[true, true, true, true, true, true, true, true, true, true, false, false, false, false, false, false, false, false, false, false, false, false, false, false, false, false] rfl rfl (any_of HT_.out (by kernel_rfl)) (fun _ _ _ h => h) (Or.inr ⟨by rfl, rfl⟩) ?_ ?_
  rotate_left
  ·simp only [Act.put, List.setIfInBounds_toArray, List.set_cons_zero, List.set_cons_succ, i64_w, i32_w]
   rfl
  refine pure_ (i := 10) (N := some 25) (v := undef) (a' := ?_) #[true, true, true, true, true, true, true, true, true, true, true, false, false, false, false, false, false, false, false, false, false, false, false, false, false, false] rfl rfl (any_of HT_.out (by kernel_rfl)) (fun _ _ _ h => h) (Or.inr ⟨by rfl, rfl⟩) ?_ ?_
  rotate_left
  ·simp only [Act.put, List.setIfInBounds_toArray, List.set_cons_zero, List.set_cons_succ, i64_w, i32_w]
   rfl
  refine pure_ (i := 11) (N := some 26) (v := undef) (a' := ?_) #[true, true, true, true, true, true, true, true, true, true, true, true, false, false, false, false, false, false, false, false, false, false, false, false, false, false] rfl rfl (any_of HT_.out (by kernel_rfl)) (fun _ _ _ h => h) (Or.inr ⟨by rfl, rfl⟩) ?_ ?_
  rotate_left
  ·simp only [Act.put, List.setIfInBounds_toArray, List.set_cons_zero, List.set_cons_succ, i64_w, i32_w]
   rfl
  refine pure_ (i := 12) (N := some 27) (v := undef) (a' := ?_) #[true, true, true, true, true, true, true, true, true, true, true, true, true, false, false, false, false, false, false, false, false, false, false, false, false, false] rfl rfl (any_of HT_.out (by kernel_rfl)) (fun _ _ _ h => h) (Or.inr ⟨by rfl, rfl⟩) ?_ ?_
  rotate_left
  ·simp only [Act.put, List.setIfInBounds_toArray, List.set_cons_zero, List.set_cons_succ, i64_w, i32_w]
   rfl
  refine pure_ (i := 13) (N := some 28) (v := undef) (a' := ?_) #[true, true, true, true, true, true, true, true, true, true, true, true, true, true, false, false, false, false, false, false, false, false, false, false, false, false] rfl rfl (any_of HT_.out (by kernel_rfl)) (fun _ _ _ h => h) (Or.inr ⟨by rfl, rfl⟩) ?_ ?_
  rotate_left
  ·simp only [Act.put, List.setIfInBounds_toArray, List.set_cons_zero, List.set_cons_succ, i64_w, i32_w]
   rfl
  refine pure_ (i := 14) (N := some 29) (v := undef) (a' := ?_) #[true, true, true, true, true, true, true, true, true, true, true, true, true, true, true, false, false, false, false, false, false, false, false, false, false, false] rfl rfl (any_of HT_.out (by kernel_rfl)) (fun _ _ _ h => h) (Or.inr ⟨by rfl, rfl⟩) ?_ ?_
  rotate_left
  ·simp only [Act.put, List.setIfInBounds_toArray, List.set_cons_zero, List.set_cons_succ, i64_w, i32_w]
   rfl
  refine pure_ (i := 15) (N := some 30) (v := undef) (a' := ?_) #[true, true, true, true, true, true, true, true, true, true, true, true, true, true, true, true, false, false, false, false, false, false, false, false, false, false] rfl rfl (any_of HT_.out (by kernel_rfl)) (fun _ _ _ h => h) (Or.inr ⟨by rfl, rfl⟩) ?_ ?_
  rotate_left
  ·simp only [Act.put, List.setIfInBounds_toArray, List.set_cons_zero, List.set_cons_succ, i64_w, i32_w]
   rfl
  refine pure_ (i := 16) (N := some 31) (v := ?_) (a' := ?_) #[true, true, true, true, true, true, true, true, true, true, true, true, true, true, true, true, true, false, false, false, false, false, false, false, false, false] rfl rfl (any_of HT_.out (by kernel_rfl)) (fun _ _ _ h => h) (Or.inl ⟨by rfl, ?_⟩) ?_ ?_
  rotate_left
  ·intro w'
   go_simp
   with_reducible rfl
  rotate_left
  ·simp only [Act.put, List.setIfInBounds_toArray, List.set_cons_zero, List.set_cons_succ, i64_w, i32_w]
   rfl
  refine pure_ (i := 17) (N := some 32) (v := ?_) (a' := ?_) #[true, true, true, true, true, true, true, true, true, true, true, true, true, true, true, true, true, true, false, false, false, false, false, false, false, false] rfl rfl (any_of HT_.out (by kernel_rfl)) (fun _ _ _ h => h) (Or.inl ⟨by rfl, ?_⟩) ?_ ?_
  rotate_left
  ·intro w'
   go_simp
   with_reducible rfl
  rotate_left
  ·simp only [Act.put, List.setIfInBounds_toArray, List.set_cons_zero, List.set_cons_succ, i64_w, i32_w]
   rfl
  refine pure_ (i := 18) (N := some 33) (v := undef) (a' := ?_) #[true, true, true, true, true, true, true, true, true, true, true, true, true, true, true, true, true, true, true, false, false, false, false, false, false, false] rfl rfl (any_of HT_.out (by kernel_rfl)) (fun _ _ _ h => h) (Or.inr ⟨by rfl, rfl⟩) ?_ ?_
  rotate_left
  ·simp only [Act.put, List.setIfInBounds_toArray, List.set_cons_zero, List.set_cons_succ, i64_w, i32_w]
   rfl
  refine pure_ (i := 19) (N := some 34) (v := undef) (a' := ?_) #[true, true, true, true, true, true, true, true, true, true, true, true, true, true, true, true, true, true, true, true, false, false, false, false, false, false] rfl rfl (any_of HT_.out (by kernel_rfl)) (fun _ _ _ h => h) (Or.inr ⟨by rfl, rfl⟩) ?_ ?_
  rotate_left
  ·simp only [Act.put, List.setIfInBounds_toArray, List.set_cons_zero, List.set_cons_succ, i64_w, i32_w]
   rfl
  refine pure_ (i := 20) (N := some 35) (v := ?_) (a' := ?_) #[true, true, true, true, true, true, true, true, true, true, true, true, true, true, true, true, true, true, true, true, true, false, false, false, false, false] rfl rfl (any_of HT_.out (by kernel_rfl)) (fun _ _ _ h => h) (Or.inl ⟨by rfl, ?_⟩) ?_ ?_
  rotate_left
  ·intro w'
   go_simp
   with_reducible rfl
  rotate_left
  ·simp only [Act.put, List.setIfInBounds_toArray, List.set_cons_zero, List.set_cons_succ, i64_w, i32_w]
   rfl
  refine pure_ (i := 21) (N := some 36) (v := ?_) (a' := ?_) #[true, true, true, true, true, true, true, true, true, true, true, true, true, true, true, true, true, true, true, true, true, true, false, false, false, false] rfl rfl (any_of HT_.out (by kernel_rfl)) (fun _ _ _ h => h) (Or.inl ⟨by rfl, ?_⟩) ?_ ?_
  rotate_left
  ·intro w'
   go_simp
   with_reducible rfl
  rotate_left
  ·simp only [Act.put, List.setIfInBounds_toArray, List.set_cons_zero, List.set_cons_succ, i64_w, i32_w]
   rfl
  refine pure_ (i := 22) (N := some 37) (v := undef) (a' := ?_) #[true, true, true, true, true, true, true, true, true, true, true, true, true, true, true, true, true, true, true, true, true, true, true, false, false, false] rfl rfl (any_of HT_.out (by kernel_rfl)) (fun _ _ _ h => h) (Or.inr ⟨by rfl, rfl⟩) ?_ ?_
  rotate_left
  ·simp only [Act.put, List.setIfInBounds_toArray, List.set_cons_zero, List.set_cons_succ, i64_w, i32_w]
   rfl
  refine pure_ (i := 23) (N := some 38) (v := undef) (a' := ?_) #[true, true, true, true, true, true, true, true, true, true, true, true, true, true, true, true, true, true, true, true, true, true, true, true, false, false] rfl rfl (any_of HT_.out (by kernel_rfl)) (fun _ _ _ h => h) (Or.inr ⟨by rfl, rfl⟩) ?_ ?_
  rotate_left
  ·simp only [Act.put, List.setIfInBounds_toArray, List.set_cons_zero, List.set_cons_succ, i64_w, i32_w]
   rfl
  refine pure_ (i := 24) (N := some 39) (v := ?_) (a' := ?_) #[true, true, true, true, true, true, true, true, true, true, true, true, true, true, true, true, true, true, true, true, true, true, true, true, true, false] rfl rfl (any_of HT_.out (by kernel_rfl)) (fun _ _ _ h => h) (Or.inl ⟨by rfl, ?_⟩) ?_ ?_
  rotate_left
  ·intro w'
   go_simp
   with_reducible rfl
  rotate_left
  ·simp only [Act.put, List.setIfInBounds_toArray, List.set_cons_zero, List.set_cons_succ, i64_w, i32_w]
   rfl
  refine pure_ (i := 25) (N := some 0) (v := ?_) (a' := ?_) #[true, true, true, true, true, true, true, true, true, true, true, true, true, true, true, true, true, true, true, true, true, true, true, true, true, true] rfl rfl (any_of HT_.out (by kernel_rfl)) (fun _ _ _ h => h) (Or.inl ⟨by rfl, ?_⟩) ?_ ?_
  rotate_left
  ·intro w'
   go_simp
   with_reducible rfl
  rotate_left
  ·simp only [Act.put, List.setIfInBounds_toArray, List.set_cons_zero, List.set_cons_succ, i64_w, i32_w]
   rfl
  refine done_ (done_of HT_.out (by kernel_rfl)) ?_
  try go_wp2
  go_ret
  exact ⟨by first | rfl | (simp [errW_none, errW_some] <;> rfl) | (simp [*, errW_none, errW_some] <;> rfl), by repeat (first | (with_reducible first | exact HB.out | apply below_alloc | apply pw_below_drewN | apply below_drew1) | exact HB.out)⟩

end Go.Proofs.Ytbcfphoheijmdaa.Print
end

section
/- The chapter's examples that every statement of this layer asks: their values. -/
namespace Go.Proofs.Ytbcfphoheijmdaa.Print
open Go.RowKit Go.Proofs.YtbcfphoheijmdaaW.PrintWords
theorem awake_true : thermionlaw04_awake.f 8 = some true := by kernel_rfl
end Go.Proofs.Ytbcfphoheijmdaa.Print
end

section
/- The ways over ever more points, in plain Lean: when no point comes behind itself, the table that is left bounds all positions, and each bound is reached by some. -/
namespace Go.Proofs.Ytbcfphoheijmdaa.Floyd

/-- What bounds nothing. -/
def far : Int := 1099511627776
/-- One step: the ways over m. -/
def ov (T : Nat → Nat → Int) (m : Nat) : Nat → Nat → Int := fun a b => if T a m < far ∧ T m b < far then min (T a b) (T a m + T m b) else T a b
/-- The table behind the ways over the first k points. -/
def st (E : Nat → Nat → Int) : Nat → Nat → Nat → Int
  | 0 => E
  | k + 1 => ov (st E k) k

theorem ov_le (T : Nat → Nat → Int) (m a b : Nat) : ov T m a b ≤ T a b := by unfold ov; split <;> omega
theorem ov_way (T : Nat → Nat → Int) (m a b : Nat) (h1 : T a m < far) (h2 : T m b < far) : ov T m a b ≤ T a m + T m b := by unfold ov; rw [if_pos ⟨h1, h2⟩]; omega
theorem ov_cases (T : Nat → Nat → Int) (m a b : Nat) : ov T m a b = T a b ∨ (T a m < far ∧ T m b < far ∧ ov T m a b = T a m + T m b) := by
  unfold ov
  split
  · rename_i h
    rcases Int.le_total (T a b) (T a m + T m b) with q | q
    · left; omega
    · right; exact ⟨h.1, h.2, by omega⟩
  · left; rfl
theorem st_succ (E : Nat → Nat → Int) (k a b : Nat) : st E (k + 1) a b = ov (st E k) k a b := rfl
theorem st_le (E : Nat → Nat → Int) (k a b : Nat) : st E k a b ≤ E a b := by
  induction k with
  | zero => exact Int.le_refl _
  | succ k ih => exact Int.le_trans (ov_le _ _ _ _) ih
/-- Positions that keep to a table. -/
def PKeeps (n : Nat) (E : Nat → Nat → Int) (x : Nat → Int) : Prop := ∀ a b, a < n → b < n → E a b < far → x b - x a ≤ E a b
theorem PKeeps.ov {n : Nat} {T : Nat → Nat → Int} {x : Nat → Int} (h : PKeeps n T x) (m : Nat) (hm : m < n) : PKeeps n (Floyd.ov T m) x := by
  intro a b ha hb hf
  rcases ov_cases T m a b with q | ⟨q1, q2, q3⟩
  · rw [q] at hf ⊢; exact h a b ha hb hf
  · rw [q3]; have := h a m ha hm q1; have := h m b hm hb q2; omega
theorem PKeeps.st {n : Nat} {E : Nat → Nat → Int} {x : Nat → Int} (h : PKeeps n E x) (k : Nat) (hk : k ≤ n) : PKeeps n (Floyd.st E k) x := by
  induction k with
  | zero => exact h
  | succ k ih => exact (ih (by omega)).ov k (by omega)

/-- Ways along edges; the list has the points between. -/
inductive PWay (E : Nat → Nat → Int) : List Nat → Nat → Nat → Int → Prop
  | edge (a b : Nat) : E a b < far → PWay E [] a b (E a b)
  | cons (a v b : Nat) (l : List Nat) (c : Int) : E a v < far → PWay E l v b c → PWay E (v :: l) a b (E a v + c)
theorem PWay.split {E : Nat → Nat → Int} : ∀ (l1 : List Nat) {l2 : List Nat} {m a b : Nat} {c : Int}, PWay E (l1 ++ m :: l2) a b c → ∃ c1 c2, PWay E l1 a m c1 ∧ PWay E l2 m b c2 ∧ c = c1 + c2
  | [], l2, m, a, b, c, h => by
    cases h with
    | cons _ _ _ _ c' hf hw => exact ⟨_, c', .edge _ _ hf, hw, rfl⟩
  | v :: l1, l2, m, a, b, c, h => by
    cases h with
    | cons _ _ _ _ c' hf hw =>
      obtain ⟨c1, c2, h1, h2, rfl⟩ := PWay.split l1 hw
      exact ⟨_, c2, .cons _ _ _ _ _ hf h1, h2, by omega⟩
theorem PWay.join {E : Nat → Nat → Int} : ∀ {l1 l2 : List Nat} {m a b : Nat} {c1 c2 : Int}, PWay E l1 a m c1 → PWay E l2 m b c2 → ∃ c, PWay E (l1 ++ m :: l2) a b c
  | [], l2, m, a, b, c1, c2, h1, h2 => by
    cases h1 with
    | edge _ _ hf => exact ⟨_, .cons _ _ _ _ _ hf h2⟩
  | v :: l1, l2, m, a, b, c1, c2, h1, h2 => by
    cases h1 with
    | cons _ _ _ _ c' hf hw =>
      obtain ⟨c, h⟩ := PWay.join hw h2
      exact ⟨_, .cons _ _ _ _ _ hf h⟩
theorem PWay.bound {E : Nat → Nat → Int} {n : Nat} {M : Int} (hM : ∀ a b, a < n → b < n → E a b < far → E a b ≤ M) : ∀ {l : List Nat} {a b : Nat} {c : Int}, PWay E l a b c → a < n → b < n → (∀ v, v ∈ l → v < n) → c ≤ ((l.length : Int) + 1) * M
  | [], a, b, c, h, ha, hb, _ => by
    cases h with
    | edge _ _ hf => have := hM a b ha hb hf; simpa using this
  | v :: l, a, b, c, h, ha, hb, hl => by
    cases h with
    | cons _ _ _ _ c' hf hw =>
      have h1 := hM a v ha (hl v (by simp)) hf
      have h2 := PWay.bound hM hw (hl v (by simp)) hb (fun x hx => hl x (by simp [hx]))
      have : ((((v :: l).length : Nat) : Int) + 1) * M = M + ((l.length : Int) + 1) * M := by
        rw [List.length_cons]
        have : (((l.length + 1 : Nat) : Int) + 1) = 1 + ((l.length : Int) + 1) := by omega
        rw [this, Int.add_mul, Int.one_mul]
      omega
theorem PWay.short {E : Nat → Nat → Int} : ∀ {l : List Nat} {a b : Nat} {c : Int}, PWay E l a b c → ∃ l' c', PWay E l' a b c' ∧ l'.Nodup ∧ ∀ v, v ∈ l' → v ∈ l
  | [], a, b, c, h => ⟨[], c, h, by simp, by simp⟩
  | v :: l, a, b, c, h => by
    cases h with
    | cons _ _ _ _ c' hf hw =>
      obtain ⟨l', c2, h1, h2, h3⟩ := PWay.short hw
      by_cases q : v ∈ l'
      · obtain ⟨x, y, rfl⟩ := List.append_of_mem q
        obtain ⟨d1, d2, g1, g2, _⟩ := PWay.split x h1
        rw [List.nodup_append] at h2
        refine ⟨v :: y, _, .cons _ _ _ _ _ hf g2, h2.2.1, ?_⟩
        intro u hu
        rcases List.mem_cons.1 hu with r | r
        · rw [r]; simp
        · exact List.mem_cons_of_mem _ (h3 u (by simp [r]))
      · exact ⟨v :: l', _, .cons _ _ _ _ _ hf h1, List.nodup_cons.2 ⟨q, h2⟩, fun u hu => by
          rcases List.mem_cons.1 hu with r | r
          · rw [r]; simp
          · exact List.mem_cons_of_mem _ (h3 u r)⟩
theorem len_le : ∀ (k : Nat) (l : List Nat), l.Nodup → (∀ v, v ∈ l → v < k) → l.length ≤ k
  | 0, l, _, h => by
    cases l with
    | nil => simp
    | cons v l => exact absurd (h v (by simp)) (by omega)
  | k + 1, l, hn, h => by
    by_cases q : k ∈ l
    · obtain ⟨x, y, rfl⟩ := List.append_of_mem q
      rw [List.nodup_append] at hn
      have hy := List.nodup_cons.1 hn.2.1
      have : (x ++ y).length ≤ k := by
        apply len_le k
        · rw [List.nodup_append]
          exact ⟨hn.1, hy.2, fun a ha b hb => hn.2.2 a ha b (by simp [hb])⟩
        · intro v hv
          have h1 : v < k + 1 := h v (by simp at hv ⊢; rcases hv with r | r <;> simp [r])
          have h2 : v ≠ k := by
            rintro rfl
            rcases List.mem_append.1 hv with r | r
            · exact hn.2.2 v r v (by simp) rfl
            · exact hy.1 r
          omega
      simp at this ⊢
      omega
    · have := len_le k l hn (fun v hv => by
        have h1 := h v hv
        have h2 : v ≠ k := by rintro rfl; exact q hv
        omega)
      omega

/-- What the first table of a chain is like. -/
structure TFine (n : Nat) (E : Nat → Nat → Int) : Prop where
  small : n ≤ 24
  diag : ∀ a, a < n → E a a = 0
  top : ∀ a b, E a b ≤ far
  most : ∀ a b, a < n → b < n → E a b < far → E a b ≤ 1000000

theorem mul_small {k n : Nat} (h : k ≤ n) (hn : n ≤ 24) : ((k : Int) + 1) * 1000000 ≤ 25000000 := by omega
/-- A short way bounds the table. -/
theorem TFine.complete {n : Nat} {E : Nat → Nat → Int} (F : TFine n E) : ∀ (k : Nat), k ≤ n → ∀ {l : List Nat} {a b : Nat} {c : Int}, PWay E l a b c → a < n → b < n → l.Nodup → (∀ v, v ∈ l → v < k) → st E k a b ≤ c
  | 0, _, l, a, b, c, h, _, _, _, hl => by
    cases h with
    | edge _ _ _ => exact Int.le_refl _
    | cons _ v _ _ _ _ _ => exact absurd (hl v (by simp)) (by omega)
  | k + 1, hk, l, a, b, c, h, ha, hb, hn, hl => by
    by_cases q : k ∈ l
    · obtain ⟨x, y, rfl⟩ := List.append_of_mem q
      obtain ⟨c1, c2, g1, g2, rfl⟩ := PWay.split x h
      rw [List.nodup_append] at hn
      have hy := List.nodup_cons.1 hn.2.1
      have hx1 : ∀ v, v ∈ x → v < k := fun v hv => by
        have h1 := hl v (by simp [hv])
        have h2 : v ≠ k := by rintro rfl; exact hn.2.2 v hv v (by simp) rfl
        omega
      have hy1 : ∀ v, v ∈ y → v < k := fun v hv => by
        have h1 := hl v (by simp [hv])
        have h2 : v ≠ k := by rintro rfl; exact hy.1 hv
        omega
      have i1 := F.complete k (by omega) g1 ha (by omega) hn.1 hx1
      have i2 := F.complete k (by omega) g2 (by omega) hb hy.2 hy1
      have b1 := PWay.bound F.most g1 ha (by omega) (fun v hv => by have := hx1 v hv; omega)
      have b2 := PWay.bound F.most g2 (by omega) hb (fun v hv => by have := hy1 v hv; omega)
      have l1 := len_le k x hn.1 hx1
      have l2 := len_le k y hy.2 hy1
      have m1 := mul_small (k := x.length) (n := n) (by omega) F.small
      have m2 := mul_small (k := y.length) (n := n) (by omega) F.small
      have := ov_way (st E k) k a b (by unfold far; omega) (by unfold far; omega)
      rw [st_succ]
      omega
    · have := F.complete k (by omega) h ha hb hn (fun v hv => by
        have h1 := hl v hv
        have h2 : v ≠ k := by rintro rfl; exact q hv
        omega)
      exact Int.le_trans (ov_le _ _ _ _) this
/-- No point has come behind itself in the first k steps. -/
def PCalm (n : Nat) (E : Nat → Nat → Int) (k : Nat) : Prop := ∀ j, j < k → ∀ a, a < n → 0 ≤ st E (j + 1) a a
theorem TFine.self {n : Nat} {E : Nat → Nat → Int} (F : TFine n E) : ∀ {k : Nat}, PCalm n E k → ∀ a, a < n → st E k a a = 0
  | 0, _, a, ha => F.diag a ha
  | k + 1, h, a, ha => by
    have h1 := h k (by omega) a ha
    have h2 := st_le E (k + 1) a a
    rw [F.diag a ha] at h2
    omega
theorem TFine.whole {n : Nat} {E : Nat → Nat → Int} (F : TFine n E) {l : List Nat} {a b : Nat} {c : Int} (h : PWay E l a b c) (ha : a < n) (hb : b < n) (hl : ∀ v, v ∈ l → v < n) : st E n a b < far := by
  obtain ⟨l', c', g1, g2, g3⟩ := h.short
  have h4 : ∀ v, v ∈ l' → v < n := fun v hv => hl v (g3 v hv)
  have i := F.complete n (Nat.le_refl _) g1 ha hb g2 h4
  have b1 := PWay.bound F.most g1 ha hb h4
  have l1 := len_le n l' g2 h4
  have m1 := mul_small (k := l'.length) (n := n) l1 F.small
  unfold far
  omega
end Go.Proofs.Ytbcfphoheijmdaa.Floyd
end

section
/- What a tight table says of positions: each range is that of all positions that keep to the links, and both its ends are reached. -/
namespace Go.Proofs.Ytbcfphoheijmdaa.Print
open Go.RowKit Go.Proofs.YtbcfphoheijmdaaW.PrintWords Go.Proofs.YtbcfphoheijmdaaW.PrintLast Go.Proofs.YtbcfphoheijmdaaW.PrintMore Go.Proofs.Ytbcfphoheijmdaa Go.Proofs.Ytbcfphoheijmdaa.H
set_option linter.unusedVariables false
set_option linter.unusedSimpArgs false

open Floyd

def tf (T : List Int) : Nat → Nat → Int := fun a b => T.getD (a * 24 + b) 0
/-- Positions (of points by number) that keep to links. -/
def FitsL (L : List S35) (x : Nat → Int) : Prop := ∀ l, l ∈ L → l.f2.f0 ≤ x l.f1.toNat - x l.f0.toNat ∧ x l.f1.toNat - x l.f0.toNat ≤ l.f2.f1

/-- There is a way by links. -/
def Lk (n : Nat) (E : Nat → Nat → Int) (a b : Nat) : Prop := ∃ l c, PWay E l a b c ∧ ∀ v, v ∈ l → v < n
theorem Lk.trans {n : Nat} {E : Nat → Nat → Int} {a m b : Nat} (hm : m < n) (h1 : Lk n E a m) (h2 : Lk n E m b) : Lk n E a b := by
  obtain ⟨l1, c1, p1, p2⟩ := h1
  obtain ⟨l2, c2, q1, q2⟩ := h2
  obtain ⟨c, hc⟩ := PWay.join p1 q1
  refine ⟨_, c, hc, fun v hv => ?_⟩
  rcases List.mem_append.1 hv with r | r
  · exact p2 v r
  · rcases List.mem_cons.1 r with r | r
    · omega
    · exact q2 v r
/-- What a tight table says. -/
structure TightIs (n : Nat) (L : List S35) (T : List Int) : Prop where
  bound : ∀ x, FitsL L x → ∀ a b, a < n → b < n → x b - x a ≤ tf T a b
  reach : ∀ a, a < n → FitsL L (tf T a)
  self : ∀ a, a < n → tf T a a = 0
theorem TightIs.edge {n : Nat} {L : List S35} {T : List Int} (h : TightIs n L T) {l : S35} (hl : l ∈ L) (h1 : l.f0.toNat < n) (h2 : l.f1.toNat < n) : tf T l.f0.toNat l.f1.toNat ≤ l.f2.f1 ∧ tf T l.f1.toNat l.f0.toNat ≤ -l.f2.f0 := by
  have a1 := h.reach _ h1 l hl
  have a2 := h.reach _ h2 l hl
  have s1 := h.self _ h1
  have s2 := h.self _ h2
  omega
theorem TightIs.mono {n : Nat} {L M : List S35} {T U : List Int} (h : TightIs n L T) (g : TightIs n M U) (hs : ∀ x, FitsL M x → FitsL L x) {a b : Nat} (ha : a < n) (hb : b < n) : tf U a b ≤ tf T a b := by
  have := h.bound _ (hs _ (g.reach a ha)) a b ha hb
  have := g.self a ha
  omega
theorem FitsL.snoc {L : List S35} {l : S35} {x : Nat → Int} : FitsL (L ++ [l]) x ↔ FitsL L x ∧ (l.f2.f0 ≤ x l.f1.toNat - x l.f0.toNat ∧ x l.f1.toNat - x l.f0.toNat ≤ l.f2.f1) := by
  unfold FitsL
  constructor
  · intro h
    exact ⟨fun l' hl' => h l' (by simp [hl']), h l (by simp)⟩
  · rintro ⟨h1, h2⟩ l' hl'
    rcases List.mem_append.1 hl' with q | q
    · exact h1 l' q
    · have : l' = l := by simpa using q
      rw [this]; exact h2
end Go.Proofs.Ytbcfphoheijmdaa.Print
end

section
/- ChainOf as a Lean function; it makes valid chains. -/
namespace Go.Proofs.Ytbcfphoheijmdaa.Print
open Go.RowKit Go.Proofs.YtbcfphoheijmdaaW.PrintWords Go.Proofs.YtbcfphoheijmdaaW.PrintLast Go.Proofs.YtbcfphoheijmdaaW.PrintMore Go.Proofs.Ytbcfphoheijmdaa.H
set_option linter.unusedVariables false
set_option linter.unusedSimpArgs false

@[irreducible] def upV (s n : Int) : Int := ((thermionkit_Dice_Upto.f s n).getD (0, 0)).1
@[irreducible] def betV (s a b : Int) : Int := ((thermionkit_Dice_Between.f s a b).getD (0, 0)).1
@[irreducible] def oneV (s n : Int) : Bool := ((thermionkit_Dice_One.f s n).getD (false, 0)).1
/-- Where the first points stand, and the dice's word behind them. -/
def atsTo (s : Int) : Nat → List Int × Int
  | 0 => ([0], s)
  | i + 1 => ((atsTo s i).1 ++ [betV (atsTo s i).2 (-30) 30], nextWord (atsTo s i).2)
def next3 (s : Int) : Int := nextWord (nextWord (nextWord s))
def addRange (gap wide s : Int) : S32 :=
  if oneV (nextWord (nextWord s)) 40 = true then ⟨gap + 1, gap + 2⟩ else ⟨gap - upV s (wide + 1), max (gap - upV s (wide + 1) + wide - upV (nextWord s) (wide + 1)) gap⟩
def addLink (A : List Int) (wide s a b : Int) : S35 := ⟨a, b, addRange (A.getD b.toNat 0 - A.getD a.toNat 0) wide s⟩
/-- The links of the first points, each to one before it. -/
def treeTo (A : List Int) (wide s : Int) : Nat → List S35 × Int
  | 0 => ([], s)
  | i + 1 => ((treeTo A wide s i).1 ++ [if oneV (nextWord (treeTo A wide s i).2) 2 = true then addLink A wide (nextWord (nextWord (treeTo A wide s i).2)) (upV (treeTo A wide s i).2 (i + 1 : Nat)) (i + 1 : Nat) else addLink A wide (nextWord (nextWord (treeTo A wide s i).2)) (i + 1 : Nat) (upV (treeTo A wide s i).2 (i + 1 : Nat))], next3 (nextWord (nextWord (treeTo A wide s i).2)))
/-- Further links. -/
def moreTo (A : List Int) (wide P s : Int) : Nat → List S35 × Int
  | 0 => ([], s)
  | j + 1 => ((moreTo A wide P s j).1 ++ [addLink A wide (nextWord (nextWord (moreTo A wide P s j).2)) (upV (moreTo A wide P s j).2 P) (Int.tmod (upV (moreTo A wide P s j).2 P + betV (nextWord (moreTo A wide P s j).2) 1 (P - 1)) P)], next3 (nextWord (nextWord (moreTo A wide P s j).2)))
def chPoints (s points : Int) : Int := betV s 1 points
def chAts (s points : Int) : List Int × Int := atsTo (nextWord s) ((chPoints s points).toNat - 1)
def chTree (s points wide : Int) : List S35 × Int := treeTo (chAts s points).1 wide (chAts s points).2 ((chPoints s points).toNat - 1)
def chMany (s points wide : Int) : Nat := if 1 < chPoints s points then (upV (chTree s points wide).2 4).toNat else 0
def chMore (s points wide : Int) : List S35 × Int := moreTo (chAts s points).1 wide (chPoints s points) (nextWord (chTree s points wide).2) (chMany s points wide)
def thermionkit_ChainOf.f (s0_0 : Int) (a1 : Int) (a2 : Int) : Option (Int × (List (S35)) × Int) :=
  if 1 ≤ a1 ∧ a1 ≤ 24 ∧ 0 ≤ a2 ∧ a2 ≤ 1000 then some (chPoints s0_0 a1, (chTree s0_0 a1 a2).1 ++ (chMore s0_0 a1 a2).1, (chMore s0_0 a1 a2).2) else none

end Go.Proofs.Ytbcfphoheijmdaa.Print
end

section
/- ChainOf's inner function: the link that it adds. -/
namespace Go.Proofs.Ytbcfphoheijmdaa.Print
open Go.RowKit Go.Proofs.YtbcfphoheijmdaaW.PrintWords Go.Proofs.YtbcfphoheijmdaaW.PrintLast Go.Proofs.YtbcfphoheijmdaaW.PrintMore Go.Proofs.Ytbcfphoheijmdaa.H
attribute [local go_sem] max2_int min2_int max_two min_two max_three min_three max_four min_four
attribute [local go_sem ↓] Go.wp_at_zero Go.wp_at_succ
set_option linter.unusedVariables false
set_option linter.unusedSimpArgs false

/-- ChainOf's variables: the chain, the positions, how wide, the dice; what else it holds. -/
structure CO (w0 w W : World) (g ga gd gw gc : Nat) (s : Int) (A : List Int) (wide P : Int) (va vl : Value) (L : List S35) (l : List (Nat × Array Value × TypeId)) : Prop where
  mem : Mem w0 W ((gc, #[.int .i64 P, vl], 27) :: (ga, #[va], 22) :: (gw, #[.int .i64 wide], 3) :: (gd, #[.pointer (some ⟨g, 0, none⟩)], 23) :: (g, #[.int .u64 s], 118) :: l)
  keep : KeepBut w W g none
  base : w0.heap.size ≤ w.heap.size
  glt : g < w.heap.size
  big : w.heap.size ≤ gc ∧ w.heap.size ≤ ga ∧ w.heap.size ≤ gw ∧ w.heap.size ≤ gd
  ra : (Kd.int .i64).R 3 W w.heap.size (fun k => k ≠ gw) va A
  rl : k35.R 35 W w.heap.size (fun _ => True) vl L
  types : ∀ p, p ∈ l → p.2.2 ≠ 35 ∧ p.2.2 ≠ 3 ∧ w.heap.size ≤ p.1
namespace CO
variable {w0 w W W1 : World} {g ga gd gw gc : Nat} {s s1 : Int} {A : List Int} {wide P x : Int} {va vl v1 : Value} {L : List S35} {y : S35} {l : List (Nat × Array Value × TypeId)}
theorem later (h : CO w0 w W g ga gd gw gc s A wide P va vl L l) (hb : Below W.heap.size W W1) : CO w0 w W1 g ga gd gw gc s A wide P va vl L l :=
  ⟨h.mem.step hb, h.keep.trans (KeepBut.of_below hb g none) (.inl rfl), h.base, h.glt, h.big, Kd.R_below h.ra hb, Kd.R_below h.rl hb, h.types⟩
theorem drewN (h : CO w0 w W g ga gd gw gc s A wide P va vl L l) (n : Nat) : CO w0 w (W.drewN n) g ga gd gw gc s A wide P va vl L l := h.later (pw_below_drewN (Below.refl _ _) n)
theorem drew (h : CO w0 w W g ga gd gw gc s A wide P va vl L l) : CO w0 w W.drew g ga gd gw gc s A wide P va vl L l := h.later (below_drew1 (Below.refl _ _))
theorem below (h : CO w0 w W g ga gd gw gc s A wide P va vl L l) : Below w0.heap.size w0 W := h.mem.below
theorem dice (h : CO w0 w W g ga gd gw gc s A wide P va vl L l) (hI : IsS118 w0 W1 g s1) (hB : Below w0.heap.size w0 W1) (hK : KeepBut W W1 g none) : CO w0 w W1 g ga gd gw gc s1 A wide P va vl L l := by
  have ha := h.mem.apart
  have hother : ∀ p, p ∈ ((gc, #[.int .i64 P, vl], 27) :: (ga, #[va], 22) :: (gw, #[.int .i64 wide], 3) :: (gd, #[.pointer (some ⟨g, 0, none⟩)], 23) :: (g, #[.int .u64 s], 118) :: l : List (Nat × Array Value × TypeId)) → p.1 ≠ g → W1.heap[p.1]? = some (.cells p.2.1 p.2.2 (0, 0)) := fun p hp hne => by
    have hb := h.mem.blk p hp
    exact (hK.2 p.1 (blk_lt hb) hne (by simp)).trans hb
  simp only [List.pairwise_cons, List.mem_cons, forall_eq_or_imp] at ha
  obtain ⟨⟨n1, n2, n3, n4, n5⟩, ⟨m1, m2, m3, m4⟩, ⟨k1, k2, k3⟩, ⟨j1, j2⟩, i1, i2⟩ := ha
  refine ⟨⟨hB, fun p hp => ?_, fun p hp => ?_, ?_⟩, h.keep.trans hK (.inl rfl), h.base, h.glt, h.big, ?_, ?_, h.types⟩
  · simp only [List.mem_cons] at hp
    rcases hp with rfl | rfl | rfl | rfl | rfl | hp
    · exact hother (gc, #[.int .i64 P, vl], 27) (by simp) n4
    · exact hother (ga, #[va], 22) (by simp) m3
    · exact hother (gw, #[.int .i64 wide], 3) (by simp) k2
    · exact hother (gd, #[.pointer (some ⟨g, 0, none⟩)], 23) (by simp) j1
    · exact hI.1
    · exact hother p (by simp [hp]) (fun e => i1 p hp e.symm)
  · simp only [List.mem_cons] at hp
    rcases hp with rfl | rfl | rfl | rfl | rfl | hp
    · exact h.mem.ge (gc, #[.int .i64 P, vl], 27) (by simp)
    · exact h.mem.ge (ga, #[va], 22) (by simp)
    · exact h.mem.ge (gw, #[.int .i64 wide], 3) (by simp)
    · exact h.mem.ge (gd, #[.pointer (some ⟨g, 0, none⟩)], 23) (by simp)
    · exact hI.2
    · exact h.mem.ge p (by simp [hp])
  · simp only [List.pairwise_cons, List.mem_cons, forall_eq_or_imp]
    exact ⟨⟨n1, n2, n3, n4, n5⟩, ⟨m1, m2, m3, m4⟩, ⟨k1, k2, k3⟩, ⟨j1, j2⟩, i1, i2⟩
  · exact Kd.R_mono (Kd.R_keep (Kd.R_bound h.ra) hK (fun k hk => by have := h.glt; have := hk.2.1; omega)) (fun _ hk => hk.1)
  · exact Kd.R_mono (Kd.R_keep (Kd.R_bound h.rl) hK (fun k hk => by have := h.glt; have := hk.2.1; omega)) (fun _ hk => hk.1)
end CO
section
variable {P : Program} {ops : Array Oper} {rest : List Oper} {o : Oper} {a : Act} {Q : Exit → Act → World → Prop} {w W : World} {l : List (Nat × Array Value × TypeId)}
/-- A whole struct is stored; the world behind it is named. -/
theorem ev_storeW {g : Nat} {old cs : Array Value} {t : TypeId} (hm : Mem w W ((g, old, t) :: l)) (hgd : o.guard = none) (ty : TypeId) (x y : Operand) (ho : o.op = .store ty x y)
    (hx : a.eval x = .pointer (some ⟨g, 0, none⟩)) (hy : a.eval y = .agg cs) {n : Nat} (hi : (P.info? ty).map (·.size) = some n) (hold : old.size = n) (hs : cs.size = n) (h1 : cs.all (·.oneCell') = true)
    (h : Mem w (W.setRow g cs) ((g, cs, t) :: l) → wpList P ops Q rest (a.put o.dst undef) (W.setRow g cs)) : wpList P ops Q (o :: rest) a W :=
  wpList_plain hgd fun _ hK => wp_store_row ty x y ho g cs hx hy t old hm.head (by rw [hi, hs]) (by rw [hold, hs]) h1 (hK _ _ (h (hm.row cs)))
end
end Go.Proofs.Ytbcfphoheijmdaa.Print
end

section
/- What the Go function thermionlaw04_square does, as a Lean function, and that its call does so. Printed by a program of this work out of the translation. -/
namespace Go.Proofs.Ytbcfphoheijmdaa.Print
open Go.RowKit Go.Proofs.YtbcfphoheijmdaaW.PrintWords Go.Proofs.YtbcfphoheijmdaaW.PrintLast Go.Proofs.YtbcfphoheijmdaaW.PrintMore
attribute [local go_sem] max2_int min2_int max_two min_two max_three min_three max_four min_four
set_option linter.unusedVariables false
set_option linter.unusedSimpArgs false

/-! ### thermionlaw04_square: function 26 -/
def thermionlaw04_square.l0 : Nat → List (List (S32)) → Int → Int → Option (Bool)
 | 0, _, _, _ => none
 | k + 1, x0, x1, x5 => if x5 < (x0.length : Int) then (if 0 ≤ x5 then (if ((rd_L6 x0 x5).length : Int) = x1 then (thermionlaw04_square.l0 k x0 x1 (wrap64 (x5 + 1))) else (some false)) else (none)) else (some ((x0.length : Int) == x1))
def thermionlaw04_square.f (k : Nat) (l0 : List (List (S32))) (a1 : Int) : Option (Bool) := thermionlaw04_square.l0 k l0 a1 0
theorem thermionlaw04_square.mono_l : ∀ k, (∀ y0 y1 y2, LeO (thermionlaw04_square.l0 k y0 y1 y2) (thermionlaw04_square.l0 (k + 1) y0 y1 y2))
 | 0 => fun _ _ _ r h => by simp [thermionlaw04_square.l0] at h
 | k + 1 => by
  have ih0 := thermionlaw04_square.mono_l k
  ·intro y0 y1 y2
   unfold thermionlaw04_square.l0
   repeat' first
   | (with_reducible exact ih0 _ _ _)
   | (with_reducible exact LeO.refl _)
   | (with_reducible exact LeO.none _)
   | (with_reducible refine LeO.ite ?_ ?_)
   | (with_reducible refine LeO.bind ?_ (fun _ => ?_))
   | exact ih0 _ _ _
   | exact LeO.none _
   | refine LeO.ite ?_ ?_
   | refine LeO.bind ?_ (fun _ => ?_)
theorem thermionlaw04_square.mono : ∀ a0 a1 k, LeO (thermionlaw04_square.f k a0 a1) (thermionlaw04_square.f (k + 1) a0 a1) := by
 intro a0 a1 k
 have ih0 := thermionlaw04_square.mono_l k
 unfold thermionlaw04_square.f
 repeat' first
   | (with_reducible exact ih0 _ _ _)
   | (with_reducible exact LeO.refl _)
   | (with_reducible exact LeO.none _)
   | (with_reducible refine LeO.ite ?_ ?_)
   | (with_reducible refine LeO.bind ?_ (fun _ => ?_))
   | exact ih0 _ _ _
   | exact LeO.none _
   | refine LeO.ite ?_ ?_
   | refine LeO.bind ?_ (fun _ => ?_)
set_option maxHeartbeats 8000000 in
set_option maxRecDepth 100000 in
theorem thermionlaw04_square.calls (k : Nat) (A0 : Option Addr) (c0 : Nat) (l0 : List (List (S32))) (a1 : Int) (r : Bool) (w : World) (hr0 : Kd.C (Kd.slice 32 k32) w A0 l0.length l0) (hc0 : l0.length ≤ c0) (h : thermionlaw04_square.f k l0 a1 = some r) :
  Calls Try.prog 26 #[.slice A0 l0.length c0, .int .i64 a1] w fun e w' => e = .returned (.bool r) ∧ Drawn0 w w' := by
 have HR0 := Aside0.mk hr0
 have HC0 := Aside0.mk hc0
 clear hr0 hc0
 have H : (thermionlaw04_square.l0 k l0 a1 0) = some r := h
 clear h
 have H' := Aside0.mk H
 clear H
 go_enter Try.func26, Try.ntmps26
 go_wp2
 go_loopg [5] k (fun kq v5 w' => ∃ (x5_1 : Int), v5 = .int .i64 x5_1 ∧ Aside0 (thermionlaw04_square.l0 kq l0 a1 x5_1 = some r) ∧ Aside0 (kq ≤ k) ∧ Drawn0 w w')
 case atStart => exact ⟨(0), (by first | rfl | (simp; done) | (simp [*]; done)), H', ⟨Nat.le_refl _⟩, by repeat (first | exact Drawn0.refl _ | apply Drawn0.step)⟩
 case round =>
  clear H'
  try clear c2
  try clear p2
  obtain ⟨x5_1, rfl, HA, HK1, ⟨m1, rfl⟩⟩ := hrel
  cases gk with
  | zero => exact absurd HA.out (by simp [thermionlaw04_square.l0])
  | succ k1 =>
   have H := HA.out
   clear HA
   simp only [thermionlaw04_square.l0] at H
   by_cases c3 : x5_1 < (l0.length : Int)
   ·rw [if_pos c3] at H
    have c3b0 : decide (x5_1 < (l0.length : Int)) = true := decide_eq_true c3
    clear c3
    by_cases c4 : 0 ≤ x5_1
    ·rw [if_pos c4] at H
     have c4b0 : decide (0 ≤ x5_1) = true := decide_eq_true c4
     clear c4
     by_cases c5 : ((rd_L6 l0 x5_1).length : Int) = a1
     ·rw [if_pos c5] at H
      have c5b0 : (((rd_L6 l0 x5_1).length : Int) == a1) = true := beq_iff_eq.mpr c5
      have c5b1 : (((rd_L6 l0 x5_1).length : Int) != a1) = false := bne_eq_false_iff_eq.mpr c5
      clear c5
      have H' := Aside0.mk H
      clear H
      have p172 : 0 ≤ (x5_1 : Int) := of_decide_eq_true (by first | (with_reducible assumption) | assumption)
      have q172 : x5_1 < (l0.length : Int) := of_decide_eq_true (by first | (with_reducible assumption) | assumption)
      obtain ⟨ad172, A172_0, c172_0, e172, hx172_0, hl172_0, hi172_0⟩ := at_L6 HR0.out x5_1 p172 q172
      cases e172
      have HR172_0 := Aside0.mk hi172_0
      have HC172_0 := Aside0.mk hl172_0
      clear hi172_0 hl172_0
      replace p172 := eq_true p172
      replace q172 := eq_true q172
      go_wp2
      go_roundg k1
      case measure => have := HK1.out; omega
      case rel => exact ⟨(wrap64 (x5_1 + 1)), (by first | rfl | (simp; done) | (simp [*]; done)), H', ⟨by have := HK1.out; omega⟩, by repeat (first | exact Drawn0.refl _ | apply Drawn0.step)⟩
     ·rw [if_neg c5] at H
      have c5b0 : (((rd_L6 l0 x5_1).length : Int) == a1) = false := beq_eq_false_iff_ne.mpr c5
      have c5b1 : (((rd_L6 l0 x5_1).length : Int) != a1) = true := bne_iff_ne.mpr c5
      obtain rfl := Option.some.inj H
      have p172 : 0 ≤ (x5_1 : Int) := of_decide_eq_true (by first | (with_reducible assumption) | assumption)
      have q172 : x5_1 < (l0.length : Int) := of_decide_eq_true (by first | (with_reducible assumption) | assumption)
      obtain ⟨ad172, A172_0, c172_0, e172, hx172_0, hl172_0, hi172_0⟩ := at_L6 HR0.out x5_1 p172 q172
      cases e172
      have HR172_0 := Aside0.mk hi172_0
      have HC172_0 := Aside0.mk hl172_0
      clear hi172_0 hl172_0
      replace p172 := eq_true p172
      replace q172 := eq_true q172
      go_wp2
      go_ret
      exact ⟨by first | rfl | (simp; done) | (simp [*]; done), by repeat (first | exact Drawn0.refl _ | apply Drawn0.step)⟩
    ·rw [if_neg c4] at H
     exact absurd H (by simp)
   ·rw [if_neg c3] at H
    have c3b0 : decide (x5_1 < (l0.length : Int)) = false := decide_eq_false c3
    clear c3
    obtain rfl := Option.some.inj H
    go_wp2
    go_ret
    exact ⟨by first | rfl | (simp; done) | (simp [*]; done), by repeat (first | exact Drawn0.refl _ | apply Drawn0.step)⟩

end Go.Proofs.Ytbcfphoheijmdaa.Print
end

section
/- What the Go function thermionlaw04_sameTight does, as a Lean function, and that its call does so. Printed by a program of this work out of the translation. -/
namespace Go.Proofs.Ytbcfphoheijmdaa.Print
open Go.RowKit Go.Proofs.YtbcfphoheijmdaaW.PrintWords Go.Proofs.YtbcfphoheijmdaaW.PrintLast Go.Proofs.YtbcfphoheijmdaaW.PrintMore
attribute [local go_sem] max2_int min2_int max_two min_two max_three min_three max_four min_four
set_option linter.unusedVariables false
set_option linter.unusedSimpArgs false

/-! ### thermionlaw04_sameTight: function 27 -/
def thermionlaw04_sameTight.l0 : Nat → List (List (S32)) → List (List (S32)) → Int → Option (Bool)
 | 0, _, _, _ => none
 | k + 1, x0, x1, x5 => if x5 < (x0.length : Int) then (if 0 ≤ x5 then (if x5 < (x1.length : Int) then ((thermionkit_SameRanges.f k (rd_L6 x0 x5) (rd_L6 x1 x5)).bind fun t175 => (if t175 = true then (thermionlaw04_sameTight.l0 k x0 x1 (wrap64 (x5 + 1))) else (some false))) else (none)) else (none)) else (some true)
def thermionlaw04_sameTight.f (k : Nat) (l0 : List (List (S32))) (l1 : List (List (S32))) : Option (Bool) := if (l0.length : Int) = (l1.length : Int) then (thermionlaw04_sameTight.l0 k l0 l1 0) else (some false)
theorem thermionlaw04_sameTight.mono_l : ∀ k, (∀ y0 y1 y2, LeO (thermionlaw04_sameTight.l0 k y0 y1 y2) (thermionlaw04_sameTight.l0 (k + 1) y0 y1 y2))
 | 0 => fun _ _ _ r h => by simp [thermionlaw04_sameTight.l0] at h
 | k + 1 => by
  have ih0 := thermionlaw04_sameTight.mono_l k
  ·intro y0 y1 y2
   unfold thermionlaw04_sameTight.l0
   repeat' first
   | (with_reducible exact ih0 _ _ _)
   | (with_reducible exact thermionkit_SameRanges.mono _ _ _)
   | (with_reducible exact LeO.refl _)
   | (with_reducible exact LeO.none _)
   | (with_reducible refine LeO.ite ?_ ?_)
   | (with_reducible refine LeO.bind ?_ (fun _ => ?_))
   | exact ih0 _ _ _
   | exact thermionkit_SameRanges.mono _ _ _
   | exact LeO.none _
   | refine LeO.ite ?_ ?_
   | refine LeO.bind ?_ (fun _ => ?_)
theorem thermionlaw04_sameTight.mono : ∀ a0 a1 k, LeO (thermionlaw04_sameTight.f k a0 a1) (thermionlaw04_sameTight.f (k + 1) a0 a1) := by
 intro a0 a1 k
 have ih0 := thermionlaw04_sameTight.mono_l k
 unfold thermionlaw04_sameTight.f
 repeat' first
   | (with_reducible exact ih0 _ _ _)
   | (with_reducible exact thermionkit_SameRanges.mono _ _ _)
   | (with_reducible exact LeO.refl _)
   | (with_reducible exact LeO.none _)
   | (with_reducible refine LeO.ite ?_ ?_)
   | (with_reducible refine LeO.bind ?_ (fun _ => ?_))
   | exact ih0 _ _ _
   | exact thermionkit_SameRanges.mono _ _ _
   | exact LeO.none _
   | refine LeO.ite ?_ ?_
   | refine LeO.bind ?_ (fun _ => ?_)
set_option maxHeartbeats 8000000 in
set_option maxRecDepth 100000 in
theorem thermionlaw04_sameTight.calls (k : Nat) (A0 : Option Addr) (c0 : Nat) (l0 : List (List (S32))) (A1 : Option Addr) (c1 : Nat) (l1 : List (List (S32))) (r : Bool) (w : World) (hr0 : Kd.C (Kd.slice 32 k32) w A0 l0.length l0) (hc0 : l0.length ≤ c0) (hr1 : Kd.C (Kd.slice 32 k32) w A1 l1.length l1) (hc1 : l1.length ≤ c1) (h : thermionlaw04_sameTight.f k l0 l1 = some r) :
  Calls Try.prog 27 #[.slice A0 l0.length c0, .slice A1 l1.length c1] w fun e w' => e = .returned (.bool r) ∧ Drawn0 w w' := by
 have HR0 := Aside0.mk hr0
 have HC0 := Aside0.mk hc0
 clear hr0 hc0
 have HR1 := Aside0.mk hr1
 have HC1 := Aside0.mk hc1
 clear hr1 hc1
 have H : (if (l0.length : Int) = (l1.length : Int) then (thermionlaw04_sameTight.l0 k l0 l1 0) else (some false)) = some r := h
 clear h
 by_cases c3 : (l0.length : Int) = (l1.length : Int)
 ·rw [if_pos c3] at H
  have c3b0 : ((l0.length : Int) == (l1.length : Int)) = true := beq_iff_eq.mpr c3
  have c3b1 : ((l0.length : Int) != (l1.length : Int)) = false := bne_eq_false_iff_eq.mpr c3
  have c3b2 : (l0.length == l1.length) = true := by first | simpa using c3 | (simp at c3 ⊢; omega)
  clear c3
  have H' := Aside0.mk H
  clear H
  go_enter Try.func27, Try.ntmps27
  go_wp2
  repeat (go_quiet (fail); try go_wp2)
  go_loopg [5] k (fun kq v5 w' => ∃ (x5_1 : Int), v5 = .int .i64 x5_1 ∧ Aside0 (thermionlaw04_sameTight.l0 kq l0 l1 x5_1 = some r) ∧ Aside0 (kq ≤ k) ∧ Drawn0 w w')
  case atStart => exact ⟨(0), (by first | rfl | (simp; done) | (simp [*]; done)), H', ⟨Nat.le_refl _⟩, by repeat (first | exact Drawn0.refl _ | apply Drawn0.step)⟩
  case round =>
   clear H'
   try clear c1
   try clear c2
   try clear p2
   try clear c3
   try clear c3b0
   try clear c3b1
   try clear c3b2
   obtain ⟨x5_1, rfl, HA, HK1, ⟨m1, rfl⟩⟩ := hrel
   cases gk with
   | zero => exact absurd HA.out (by simp [thermionlaw04_sameTight.l0])
   | succ k1 =>
    have H := HA.out
    clear HA
    simp only [thermionlaw04_sameTight.l0] at H
    by_cases c4 : x5_1 < (l0.length : Int)
    ·rw [if_pos c4] at H
     have c4b0 : decide (x5_1 < (l0.length : Int)) = true := decide_eq_true c4
     clear c4
     by_cases c5 : 0 ≤ x5_1
     ·rw [if_pos c5] at H
      have c5b0 : decide (0 ≤ x5_1) = true := decide_eq_true c5
      clear c5
      by_cases c6 : x5_1 < (l1.length : Int)
      ·rw [if_pos c6] at H
       have c6b0 : decide (x5_1 < (l1.length : Int)) = true := decide_eq_true c6
       clear c6
       replace H := Option.bind_eq_some_iff.mp H
       obtain ⟨t175, A70, H⟩ := H
       replace H : (if t175 = true then (thermionlaw04_sameTight.l0 k1 l0 l1 (wrap64 (x5_1 + 1))) else (some false)) = some r := H
       have A7 := Aside0.mk A70
       clear A70
       by_cases c8 : t175 = true
       ·subst c8
        have H1 : (thermionlaw04_sameTight.l0 k1 l0 l1 (wrap64 (x5_1 + 1))) = some r := by rw [if_pos rfl] at H; exact H
        clear H
        have H := H1
        clear H1
        have H' := Aside0.mk H
        clear H
        have p173 : 0 ≤ (x5_1 : Int) := of_decide_eq_true (by first | (with_reducible assumption) | assumption)
        have q173 : x5_1 < (l0.length : Int) := of_decide_eq_true (by first | (with_reducible assumption) | assumption)
        obtain ⟨ad173, A173_0, c173_0, e173, hx173_0, hl173_0, hi173_0⟩ := at_L6 HR0.out x5_1 p173 q173
        cases e173
        have HR173_0 := Aside0.mk hi173_0
        have HC173_0 := Aside0.mk hl173_0
        clear hi173_0 hl173_0
        replace p173 := eq_true p173
        replace q173 := eq_true q173
        have p174 : 0 ≤ (x5_1 : Int) := of_decide_eq_true (by first | (with_reducible assumption) | assumption)
        have q174 : x5_1 < (l1.length : Int) := of_decide_eq_true (by first | (with_reducible assumption) | assumption)
        obtain ⟨ad174, A174_0, c174_0, e174, hx174_0, hl174_0, hi174_0⟩ := at_L6 HR1.out x5_1 p174 q174
        cases e174
        have HR174_0 := Aside0.mk hi174_0
        have HC174_0 := Aside0.mk hl174_0
        clear hi174_0 hl174_0
        replace p174 := eq_true p174
        replace q174 := eq_true q174
        go_wp2_with (first | (go_at_call 88; (with_reducible refine (thermionkit_SameRanges.calls k1 _ _ (rd_L6 l0 x5_1) _ _ (rd_L6 l1 x5_1) true _ ?side1 ?side2 ?side3 ?side4 A7.out).mono ?_); (case side1 => repeat (first | exact HR173_0.out | (with_reducible refine Kd.C_alloc ?_ _) | (with_reducible refine Kd.C_drewN ?_ _) | (with_reducible refine Kd.C_drew ?_))); (case side2 => exact HC173_0.out); (case side3 => repeat (first | exact HR174_0.out | (with_reducible refine Kd.C_alloc ?_ _) | (with_reducible refine Kd.C_drewN ?_ _) | (with_reducible refine Kd.C_drew ?_))); (case side4 => exact HC174_0.out); rintro e w' ⟨rfl, ⟨nd, rfl⟩⟩; (try first | exact ⟨rfl, _, World.drewN_drewN _ _ _⟩ | exact ⟨rfl, _, Eq.trans (World.drewN_drewN _ _ _) (congrArg (World.drewN _) (Nat.add_assoc _ _ _))⟩)))
        repeat (go_quiet (first | (go_at_call 88; (with_reducible refine (thermionkit_SameRanges.calls k1 _ _ (rd_L6 l0 x5_1) _ _ (rd_L6 l1 x5_1) true _ ?side1 ?side2 ?side3 ?side4 A7.out).mono ?_); (case side1 => repeat (first | exact HR173_0.out | (with_reducible refine Kd.C_alloc ?_ _) | (with_reducible refine Kd.C_drewN ?_ _) | (with_reducible refine Kd.C_drew ?_))); (case side2 => exact HC173_0.out); (case side3 => repeat (first | exact HR174_0.out | (with_reducible refine Kd.C_alloc ?_ _) | (with_reducible refine Kd.C_drewN ?_ _) | (with_reducible refine Kd.C_drew ?_))); (case side4 => exact HC174_0.out); rintro e w' ⟨rfl, ⟨nd, rfl⟩⟩; (try first | exact ⟨rfl, _, World.drewN_drewN _ _ _⟩ | exact ⟨rfl, _, Eq.trans (World.drewN_drewN _ _ _) (congrArg (World.drewN _) (Nat.add_assoc _ _ _))⟩))); try go_wp2_with (first | (go_at_call 88; (with_reducible refine (thermionkit_SameRanges.calls k1 _ _ (rd_L6 l0 x5_1) _ _ (rd_L6 l1 x5_1) true _ ?side1 ?side2 ?side3 ?side4 A7.out).mono ?_); (case side1 => repeat (first | exact HR173_0.out | (with_reducible refine Kd.C_alloc ?_ _) | (with_reducible refine Kd.C_drewN ?_ _) | (with_reducible refine Kd.C_drew ?_))); (case side2 => exact HC173_0.out); (case side3 => repeat (first | exact HR174_0.out | (with_reducible refine Kd.C_alloc ?_ _) | (with_reducible refine Kd.C_drewN ?_ _) | (with_reducible refine Kd.C_drew ?_))); (case side4 => exact HC174_0.out); rintro e w' ⟨rfl, ⟨nd, rfl⟩⟩; (try first | exact ⟨rfl, _, World.drewN_drewN _ _ _⟩ | exact ⟨rfl, _, Eq.trans (World.drewN_drewN _ _ _) (congrArg (World.drewN _) (Nat.add_assoc _ _ _))⟩))))
        go_roundg k1
        case measure => have := HK1.out; omega
        case rel => exact ⟨(wrap64 (x5_1 + 1)), (by first | rfl | (simp; done) | (simp [*]; done)), H', ⟨by have := HK1.out; omega⟩, by repeat (first | exact Drawn0.refl _ | apply Drawn0.step)⟩
       ·replace c8 := Bool.eq_false_iff.mpr c8
        subst c8
        have H1 : (some false) = some r := by rw [if_neg (show ¬ (false = true) by decide)] at H; exact H
        clear H
        have H := H1
        clear H1
        obtain rfl := Option.some.inj H
        have p173 : 0 ≤ (x5_1 : Int) := of_decide_eq_true (by first | (with_reducible assumption) | assumption)
        have q173 : x5_1 < (l0.length : Int) := of_decide_eq_true (by first | (with_reducible assumption) | assumption)
        obtain ⟨ad173, A173_0, c173_0, e173, hx173_0, hl173_0, hi173_0⟩ := at_L6 HR0.out x5_1 p173 q173
        cases e173
        have HR173_0 := Aside0.mk hi173_0
        have HC173_0 := Aside0.mk hl173_0
        clear hi173_0 hl173_0
        replace p173 := eq_true p173
        replace q173 := eq_true q173
        have p174 : 0 ≤ (x5_1 : Int) := of_decide_eq_true (by first | (with_reducible assumption) | assumption)
        have q174 : x5_1 < (l1.length : Int) := of_decide_eq_true (by first | (with_reducible assumption) | assumption)
        obtain ⟨ad174, A174_0, c174_0, e174, hx174_0, hl174_0, hi174_0⟩ := at_L6 HR1.out x5_1 p174 q174
        cases e174
        have HR174_0 := Aside0.mk hi174_0
        have HC174_0 := Aside0.mk hl174_0
        clear hi174_0 hl174_0
        replace p174 := eq_true p174
        replace q174 := eq_true q174
        go_wp2_with (first | (go_at_call 88; (with_reducible refine (thermionkit_SameRanges.calls k1 _ _ (rd_L6 l0 x5_1) _ _ (rd_L6 l1 x5_1) false _ ?side1 ?side2 ?side3 ?side4 A7.out).mono ?_); (case side1 => repeat (first | exact HR173_0.out | (with_reducible refine Kd.C_alloc ?_ _) | (with_reducible refine Kd.C_drewN ?_ _) | (with_reducible refine Kd.C_drew ?_))); (case side2 => exact HC173_0.out); (case side3 => repeat (first | exact HR174_0.out | (with_reducible refine Kd.C_alloc ?_ _) | (with_reducible refine Kd.C_drewN ?_ _) | (with_reducible refine Kd.C_drew ?_))); (case side4 => exact HC174_0.out); rintro e w' ⟨rfl, ⟨nd, rfl⟩⟩; (try first | exact ⟨rfl, _, World.drewN_drewN _ _ _⟩ | exact ⟨rfl, _, Eq.trans (World.drewN_drewN _ _ _) (congrArg (World.drewN _) (Nat.add_assoc _ _ _))⟩)))
        repeat (go_quiet (first | (go_at_call 88; (with_reducible refine (thermionkit_SameRanges.calls k1 _ _ (rd_L6 l0 x5_1) _ _ (rd_L6 l1 x5_1) false _ ?side1 ?side2 ?side3 ?side4 A7.out).mono ?_); (case side1 => repeat (first | exact HR173_0.out | (with_reducible refine Kd.C_alloc ?_ _) | (with_reducible refine Kd.C_drewN ?_ _) | (with_reducible refine Kd.C_drew ?_))); (case side2 => exact HC173_0.out); (case side3 => repeat (first | exact HR174_0.out | (with_reducible refine Kd.C_alloc ?_ _) | (with_reducible refine Kd.C_drewN ?_ _) | (with_reducible refine Kd.C_drew ?_))); (case side4 => exact HC174_0.out); rintro e w' ⟨rfl, ⟨nd, rfl⟩⟩; (try first | exact ⟨rfl, _, World.drewN_drewN _ _ _⟩ | exact ⟨rfl, _, Eq.trans (World.drewN_drewN _ _ _) (congrArg (World.drewN _) (Nat.add_assoc _ _ _))⟩))); try go_wp2_with (first | (go_at_call 88; (with_reducible refine (thermionkit_SameRanges.calls k1 _ _ (rd_L6 l0 x5_1) _ _ (rd_L6 l1 x5_1) false _ ?side1 ?side2 ?side3 ?side4 A7.out).mono ?_); (case side1 => repeat (first | exact HR173_0.out | (with_reducible refine Kd.C_alloc ?_ _) | (with_reducible refine Kd.C_drewN ?_ _) | (with_reducible refine Kd.C_drew ?_))); (case side2 => exact HC173_0.out); (case side3 => repeat (first | exact HR174_0.out | (with_reducible refine Kd.C_alloc ?_ _) | (with_reducible refine Kd.C_drewN ?_ _) | (with_reducible refine Kd.C_drew ?_))); (case side4 => exact HC174_0.out); rintro e w' ⟨rfl, ⟨nd, rfl⟩⟩; (try first | exact ⟨rfl, _, World.drewN_drewN _ _ _⟩ | exact ⟨rfl, _, Eq.trans (World.drewN_drewN _ _ _) (congrArg (World.drewN _) (Nat.add_assoc _ _ _))⟩))))
        go_ret
        exact ⟨by first | rfl | (simp; done) | (simp [*]; done), by repeat (first | exact Drawn0.refl _ | apply Drawn0.step)⟩
      ·rw [if_neg c6] at H
       exact absurd H (by simp)
     ·rw [if_neg c5] at H
      exact absurd H (by simp)
    ·rw [if_neg c4] at H
     have c4b0 : decide (x5_1 < (l0.length : Int)) = false := decide_eq_false c4
     clear c4
     obtain rfl := Option.some.inj H
     go_wp2
     repeat (go_quiet (fail); try go_wp2)
     go_ret
     exact ⟨by first | rfl | (simp; done) | (simp [*]; done), by repeat (first | exact Drawn0.refl _ | apply Drawn0.step)⟩
 ·rw [if_neg c3] at H
  have c3b0 : ((l0.length : Int) == (l1.length : Int)) = false := beq_eq_false_iff_ne.mpr c3
  have c3b1 : ((l0.length : Int) != (l1.length : Int)) = true := bne_iff_ne.mpr c3
  have c3b2 : (l0.length == l1.length) = false := by first | simpa using c3 | (simp at c3 ⊢; omega)
  obtain rfl := Option.some.inj H
  go_enter Try.func27, Try.ntmps27
  go_wp2
  repeat (go_quiet (fail); try go_wp2)
  go_ret
  exact ⟨by first | rfl | (simp; done) | (simp [*]; done), by repeat (first | exact Drawn0.refl _ | apply Drawn0.step)⟩

end Go.Proofs.Ytbcfphoheijmdaa.Print
end

section
/- What the Go function thermionkit_Within does, as a Lean function, and that its call does so. Printed by a program of this work out of the translation. -/
namespace Go.Proofs.Ytbcfphoheijmdaa.Print
open Go.RowKit Go.Proofs.YtbcfphoheijmdaaW.PrintWords Go.Proofs.YtbcfphoheijmdaaW.PrintLast Go.Proofs.YtbcfphoheijmdaaW.PrintMore
attribute [local go_sem] max2_int min2_int max_two min_two max_three min_three max_four min_four
set_option linter.unusedVariables false
set_option linter.unusedSimpArgs false

/-! ### thermionkit_Within: function 28 -/
def thermionkit_Within.f (a0_0 : Int) (a0_1 : Int) (a1_0 : Int) (a1_1 : Int) : Option (Bool) := if a0_0 ≥ a1_0 then (some (decide (a0_1 ≤ a1_1))) else (some false)
set_option maxHeartbeats 8000000 in
set_option maxRecDepth 100000 in
theorem thermionkit_Within.calls (a0_0 : Int) (a0_1 : Int) (a1_0 : Int) (a1_1 : Int) (r : Bool) (w : World) (h : thermionkit_Within.f a0_0 a0_1 a1_0 a1_1 = some r) :
  Calls Try.prog 28 #[.agg #[.int .i64 a0_0, .int .i64 a0_1], .agg #[.int .i64 a1_0, .int .i64 a1_1]] w fun e w' => e = .returned (.bool r) ∧ Below w.heap.size w w' := by
 have hu32 := Try.underlying32
 have HB := Aside0.mk (Below.refl w.heap.size w)
 have H : (if a0_0 ≥ a1_0 then (some (decide (a0_1 ≤ a1_1))) else (some false)) = some r := h
 clear h
 by_cases c3 : a0_0 ≥ a1_0
 ·rw [if_pos c3] at H
  have c3b0 : decide (a1_0 ≤ a0_0) = true := decide_eq_true c3
  clear c3
  obtain rfl := Option.some.inj H
  go_enter Try.func28, Try.ntmps28
  go_wp2_with (first | ((with_reducible refine gate_dst (N := 2) rfl ?_); refine box_event ?hg (N := 2) ?hd (cs := #[.int .i64 a0_0, .int .i64 a0_1]) (t := 32) ?hr ?_; (case hd => rfl); (case hg => rfl); (case hr => first | (go_simp; done) | (go_simp; rfl)); intro gb176 hg w4 hbox hb; have n0_ := Aside0.mk (below_step (by repeat (first | (with_reducible first | exact HB.out | apply below_alloc | apply pw_below_drewN | apply below_drew1) | exact HB.out)) hb); have n1_ := Aside0.mk (hbox); have n2_ := Aside0.mk ((by rw [hg]; exact (below_size (by repeat (first | (with_reducible first | exact HB.out | apply below_alloc | apply pw_below_drewN | apply below_drew1) | exact HB.out))) : w.heap.size ≤ gb176)); have n3_ := Aside0.mk ((by rw [hg]; exact (below_size (by repeat (first | (with_reducible first | exact HB.out | apply below_alloc | apply pw_below_drewN | apply below_drew1) | exact HB.out))) : w.heap.size ≤ gb176)); clear HB; have HB := n0_; have BK176 := n1_; have GW176 := n2_; have GE176 := n3_; clear n0_ n1_ n2_ n3_; clear hb hbox hg) | ((with_reducible refine gate_dst (N := 3) rfl ?_); refine box_event ?hg (N := 3) ?hd (cs := #[.int .i64 a1_0, .int .i64 a1_1]) (t := 32) ?hr ?_; (case hd => rfl); (case hg => rfl); (case hr => first | (go_simp; done) | (go_simp; rfl)); intro gb177 hg w5 hbox hb; have n0_ := Aside0.mk (blk_below (g := gb176) (o := .cells #[.int .i64 a0_0, .int .i64 a0_1] 32 (0, 0)) (by (with_reducible repeat (first | refine blk_drewN ?_ _ | refine blk_drew ?_ | refine blk_alloc ?_ _)); exact BK176.out) hb); have n1_ := Aside0.mk (below_step (by repeat (first | (with_reducible first | exact HB.out | apply below_alloc | apply pw_below_drewN | apply below_drew1 | refine below_set ?_ GE176.out) | exact HB.out)) hb); have n2_ := Aside0.mk (hbox); have n3_ := Aside0.mk ((by rw [hg]; exact (below_size (by repeat (first | (with_reducible first | exact HB.out | apply below_alloc | apply pw_below_drewN | apply below_drew1 | refine below_set ?_ GE176.out) | exact HB.out))) : w.heap.size ≤ gb177)); have n4_ := Aside0.mk ((by rw [hg]; exact (below_size (by repeat (first | (with_reducible first | exact HB.out | apply below_alloc | apply pw_below_drewN | apply below_drew1 | refine below_set ?_ GE176.out) | exact HB.out))) : w.heap.size ≤ gb177)); have n5_ := Aside0.mk ((by rw [hg]; exact Nat.ne_of_lt (blk_lt (g := gb176) (o := .cells #[.int .i64 a0_0, .int .i64 a0_1] 32 (0, 0)) (by (with_reducible repeat (first | refine blk_drewN ?_ _ | refine blk_drew ?_ | refine blk_alloc ?_ _)); exact BK176.out)) : gb176 ≠ gb177)); have n6_ := Aside0.mk ((by rw [hg]; exact Nat.ne_of_gt (blk_lt (g := gb176) (o := .cells #[.int .i64 a0_0, .int .i64 a0_1] 32 (0, 0)) (by (with_reducible repeat (first | refine blk_drewN ?_ _ | refine blk_drew ?_ | refine blk_alloc ?_ _)); exact BK176.out)) : gb177 ≠ gb176)); clear BK176; clear HB; have BK176 := n0_; have HB := n1_; have BK177 := n2_; have GW177 := n3_; have GE177 := n4_; have NB176_177 := n5_; have NB177_176 := n6_; clear n0_ n1_ n2_ n3_ n4_ n5_ n6_; clear hb hbox hg; have hnb6 := NB176_177.out; have hnc6 := NB177_176.out; have hcz7_0 : w5.cell? ⟨gb176, 0, none⟩ = some (.int .i64 a0_0) := (blk_cell BK176.out 0).trans rfl; have hcz7_1 : w5.cell? ⟨gb176, 1, none⟩ = some (.int .i64 a0_1) := (blk_cell BK176.out 1).trans rfl; have hfz7_0 := blk_frozen BK176.out 0; have hfz7_1 := blk_frozen BK176.out 1; have hcz8_0 : w5.cell? ⟨gb177, 0, none⟩ = some (.int .i64 a1_0) := (blk_cell BK177.out 0).trans rfl; have hcz8_1 : w5.cell? ⟨gb177, 1, none⟩ = some (.int .i64 a1_1) := (blk_cell BK177.out 1).trans rfl; have hfz8_0 := blk_frozen BK177.out 0; have hfz8_1 := blk_frozen BK177.out 1))
  go_ret
  exact ⟨by first | rfl | (simp [errW_none, errW_some] <;> rfl) | (simp [*, errW_none, errW_some] <;> rfl), by repeat (first | (with_reducible first | exact HB.out | apply below_alloc | apply pw_below_drewN | apply below_drew1 | refine below_set ?_ GE176.out | refine below_set ?_ GE177.out) | exact HB.out)⟩
 ·rw [if_neg c3] at H
  have c3b0 : decide (a1_0 ≤ a0_0) = false := decide_eq_false c3
  clear c3
  obtain rfl := Option.some.inj H
  go_enter Try.func28, Try.ntmps28
  go_wp2_with (first | ((with_reducible refine gate_dst (N := 2) rfl ?_); refine box_event ?hg (N := 2) ?hd (cs := #[.int .i64 a0_0, .int .i64 a0_1]) (t := 32) ?hr ?_; (case hd => rfl); (case hg => rfl); (case hr => first | (go_simp; done) | (go_simp; rfl)); intro gb176 hg w9 hbox hb; have n0_ := Aside0.mk (below_step (by repeat (first | (with_reducible first | exact HB.out | apply below_alloc | apply pw_below_drewN | apply below_drew1) | exact HB.out)) hb); have n1_ := Aside0.mk (hbox); have n2_ := Aside0.mk ((by rw [hg]; exact (below_size (by repeat (first | (with_reducible first | exact HB.out | apply below_alloc | apply pw_below_drewN | apply below_drew1) | exact HB.out))) : w.heap.size ≤ gb176)); have n3_ := Aside0.mk ((by rw [hg]; exact (below_size (by repeat (first | (with_reducible first | exact HB.out | apply below_alloc | apply pw_below_drewN | apply below_drew1) | exact HB.out))) : w.heap.size ≤ gb176)); clear HB; have HB := n0_; have BK176 := n1_; have GW176 := n2_; have GE176 := n3_; clear n0_ n1_ n2_ n3_; clear hb hbox hg) | ((with_reducible refine gate_dst (N := 3) rfl ?_); refine box_event ?hg (N := 3) ?hd (cs := #[.int .i64 a1_0, .int .i64 a1_1]) (t := 32) ?hr ?_; (case hd => rfl); (case hg => rfl); (case hr => first | (go_simp; done) | (go_simp; rfl)); intro gb177 hg w10 hbox hb; have n0_ := Aside0.mk (blk_below (g := gb176) (o := .cells #[.int .i64 a0_0, .int .i64 a0_1] 32 (0, 0)) (by (with_reducible repeat (first | refine blk_drewN ?_ _ | refine blk_drew ?_ | refine blk_alloc ?_ _)); exact BK176.out) hb); have n1_ := Aside0.mk (below_step (by repeat (first | (with_reducible first | exact HB.out | apply below_alloc | apply pw_below_drewN | apply below_drew1 | refine below_set ?_ GE176.out) | exact HB.out)) hb); have n2_ := Aside0.mk (hbox); have n3_ := Aside0.mk ((by rw [hg]; exact (below_size (by repeat (first | (with_reducible first | exact HB.out | apply below_alloc | apply pw_below_drewN | apply below_drew1 | refine below_set ?_ GE176.out) | exact HB.out))) : w.heap.size ≤ gb177)); have n4_ := Aside0.mk ((by rw [hg]; exact (below_size (by repeat (first | (with_reducible first | exact HB.out | apply below_alloc | apply pw_below_drewN | apply below_drew1 | refine below_set ?_ GE176.out) | exact HB.out))) : w.heap.size ≤ gb177)); have n5_ := Aside0.mk ((by rw [hg]; exact Nat.ne_of_lt (blk_lt (g := gb176) (o := .cells #[.int .i64 a0_0, .int .i64 a0_1] 32 (0, 0)) (by (with_reducible repeat (first | refine blk_drewN ?_ _ | refine blk_drew ?_ | refine blk_alloc ?_ _)); exact BK176.out)) : gb176 ≠ gb177)); have n6_ := Aside0.mk ((by rw [hg]; exact Nat.ne_of_gt (blk_lt (g := gb176) (o := .cells #[.int .i64 a0_0, .int .i64 a0_1] 32 (0, 0)) (by (with_reducible repeat (first | refine blk_drewN ?_ _ | refine blk_drew ?_ | refine blk_alloc ?_ _)); exact BK176.out)) : gb177 ≠ gb176)); clear BK176; clear HB; have BK176 := n0_; have HB := n1_; have BK177 := n2_; have GW177 := n3_; have GE177 := n4_; have NB176_177 := n5_; have NB177_176 := n6_; clear n0_ n1_ n2_ n3_ n4_ n5_ n6_; clear hb hbox hg; have hnb11 := NB176_177.out; have hnc11 := NB177_176.out; have hcz12_0 : w10.cell? ⟨gb176, 0, none⟩ = some (.int .i64 a0_0) := (blk_cell BK176.out 0).trans rfl; have hcz12_1 : w10.cell? ⟨gb176, 1, none⟩ = some (.int .i64 a0_1) := (blk_cell BK176.out 1).trans rfl; have hfz12_0 := blk_frozen BK176.out 0; have hfz12_1 := blk_frozen BK176.out 1; have hcz13_0 : w10.cell? ⟨gb177, 0, none⟩ = some (.int .i64 a1_0) := (blk_cell BK177.out 0).trans rfl; have hcz13_1 : w10.cell? ⟨gb177, 1, none⟩ = some (.int .i64 a1_1) := (blk_cell BK177.out 1).trans rfl; have hfz13_0 := blk_frozen BK177.out 0; have hfz13_1 := blk_frozen BK177.out 1))
  go_ret
  exact ⟨by first | rfl | (simp [errW_none, errW_some] <;> rfl) | (simp [*, errW_none, errW_some] <;> rfl), by repeat (first | (with_reducible first | exact HB.out | apply below_alloc | apply pw_below_drewN | apply below_drew1 | refine below_set ?_ GE176.out | refine below_set ?_ GE177.out) | exact HB.out)⟩

end Go.Proofs.Ytbcfphoheijmdaa.Print
end

section
/- What the Go function thermionkit_Mod does, as a Lean function, and that its call does so. Printed by a program of this work out of the translation. -/
namespace Go.Proofs.Ytbcfphoheijmdaa.Print
open Go.RowKit Go.Proofs.YtbcfphoheijmdaaW.PrintWords Go.Proofs.YtbcfphoheijmdaaW.PrintLast Go.Proofs.YtbcfphoheijmdaaW.PrintMore
attribute [local go_sem] max2_int min2_int max_two min_two max_three min_three max_four min_four
set_option linter.unusedVariables false
set_option linter.unusedSimpArgs false

/-! ### thermionkit_Mod: function 22 -/
def thermionkit_Mod.f (a0 : Int) (a1 : Int) : Option (Int) := if a1 < 1 then (some 0) else (if a1 = 0 then (none) else (if (Int.tmod a0 a1) < 0 then (some (wrap64 ((Int.tmod a0 a1) + a1))) else (some (Int.tmod a0 a1))))
set_option maxHeartbeats 8000000 in
set_option maxRecDepth 100000 in
theorem thermionkit_Mod.calls (a0 : Int) (a1 : Int) (r : Int) (w : World) (h : thermionkit_Mod.f a0 a1 = some r) :
  Calls Try.prog 22 #[.int .i64 a0, .int .i64 a1] w fun e w' => e = .returned (.int .i64 r) ∧ Drawn0 w w' := by
 have H : (if a1 < 1 then (some 0) else (if a1 = 0 then (none) else (if (Int.tmod a0 a1) < 0 then (some (wrap64 ((Int.tmod a0 a1) + a1))) else (some (Int.tmod a0 a1))))) = some r := h
 clear h
 by_cases c3 : a1 < 1
 ·rw [if_pos c3] at H
  have c3b0 : decide (a1 < 1) = true := decide_eq_true c3
  clear c3
  obtain rfl := Option.some.inj H
  go_enter Try.func22, Try.ntmps22
  go_wp2
  go_ret
  exact ⟨by first | rfl | (simp; done) | (simp [*]; done), by repeat (first | exact Drawn0.refl _ | apply Drawn0.step)⟩
 ·rw [if_neg c3] at H
  have c3b0 : decide (a1 < 1) = false := decide_eq_false c3
  clear c3
  by_cases c4 : a1 = 0
  ·rw [if_pos c4] at H
   exact absurd H (by simp)
  ·rw [if_neg c4] at H
   have c4b0 : (a1 == 0) = false := beq_eq_false_iff_ne.mpr c4
   have c4b1 : (a1 != 0) = true := bne_iff_ne.mpr c4
   by_cases c5 : (Int.tmod a0 a1) < 0
   ·rw [if_pos c5] at H
    have c5b0 : decide ((Int.tmod a0 a1) < 0) = true := decide_eq_true c5
    clear c5
    obtain rfl := Option.some.inj H
    go_enter Try.func22, Try.ntmps22
    go_wp2
    go_ret
    exact ⟨by first | rfl | (simp; done) | (simp [*]; done), by repeat (first | exact Drawn0.refl _ | apply Drawn0.step)⟩
   ·rw [if_neg c5] at H
    have c5b0 : decide ((Int.tmod a0 a1) < 0) = false := decide_eq_false c5
    clear c5
    obtain rfl := Option.some.inj H
    go_enter Try.func22, Try.ntmps22
    go_wp2
    go_ret
    exact ⟨by first | rfl | (simp; done) | (simp [*]; done), by repeat (first | exact Drawn0.refl _ | apply Drawn0.step)⟩

end Go.Proofs.Ytbcfphoheijmdaa.Print
end

section
/- What the Go function thermionkit_Dice_Range does, as a Lean function, and that its call does so. Printed by a program of this work out of the translation. -/
namespace Go.Proofs.Ytbcfphoheijmdaa.Print
open Go.RowKit Go.Proofs.YtbcfphoheijmdaaW.PrintWords Go.Proofs.YtbcfphoheijmdaaW.PrintLast Go.Proofs.YtbcfphoheijmdaaW.PrintMore
attribute [local go_sem] max2_int min2_int max_two min_two max_three min_three max_four min_four
set_option linter.unusedVariables false
set_option linter.unusedSimpArgs false

/-! ### thermionkit_Dice_Range: function 23 -/
def thermionkit_Dice_Range.f (s0_0 : Int) (a1 : Int) (a2 : Int) : Option (Int × Int × Int) := (thermionkit_Dice_Between.f s0_0 a1 a2).bind fun bt168 => ((thermionkit_Dice_Between.f bt168.2 a1 a2).bind fun bt170 => (some (mn bt168.1 bt170.1, mx bt168.1 bt170.1, bt170.2)))
set_option maxHeartbeats 8000000 in
set_option maxRecDepth 100000 in
theorem thermionkit_Dice_Range.calls (g : Nat) (s0_0 : Int) (a1 : Int) (a2 : Int) (r1 : Int) (r2 : Int) (r3 : Int) (w0 w : World) (hI : IsS118 w0 w g s0_0) (hB : Below w0.heap.size w0 w) (h : thermionkit_Dice_Range.f s0_0 a1 a2 = some (r1, r2, r3)) :
  Calls Try.prog 23 #[.pointer (some ⟨g, 0, none⟩), .int .i64 a1, .int .i64 a2] w fun e w' => e = .returned (.agg #[.int .i64 r1, .int .i64 r2]) ∧ IsS118 w0 w' g r3 ∧ Below w0.heap.size w0 w' ∧ KeepBut w w' g none := by
 have hu32 := Try.underlying32
 have HI0 := Aside0.mk hI
 have HK := Aside0.mk (KeepBut.refl w g none)
 have HL := Aside0.mk hB.size
 clear hI
 have HW0 := Aside0.mk hB.size
 have HB := Aside0.mk hB
 clear hB
 have H : ((thermionkit_Dice_Between.f s0_0 a1 a2).bind fun bt168 => ((thermionkit_Dice_Between.f bt168.2 a1 a2).bind fun bt170 => (some (mn bt168.1 bt170.1, mx bt168.1 bt170.1, bt170.2)))) = some (r1, r2, r3) := h
 clear h
 replace H := Option.bind_eq_some_iff.mp H
 obtain ⟨⟨t168, t169⟩, A40, H⟩ := H
 replace H : ((thermionkit_Dice_Between.f t169 a1 a2).bind fun bt170 => (some (mn t168 bt170.1, mx t168 bt170.1, bt170.2))) = some (r1, r2, r3) := H
 have A4 := Aside0.mk A40
 clear A40
 replace H := Option.bind_eq_some_iff.mp H
 obtain ⟨⟨t170, t171⟩, A50, H⟩ := H
 replace H : (some (mn t168 t170, mx t168 t170, t171)) = some (r1, r2, r3) := H
 have A5 := Aside0.mk A50
 clear A50
 obtain ⟨ji6, hji6⟩ : ∃ j_ : Int, (mn t168 t170) = j_ := ⟨_, rfl⟩
 replace H : (some (ji6, mx t168 t170, t171)) = some (r1, r2, r3) := by first | (rw [hji6] at H; exact H) | (simp only [hji6] at H ⊢; exact H)
 (try rw [hji6] at A4)
 (try rw [hji6] at A5)
 have hji6_ : (if t170 < t168 then t170 else t168) = ji6 := hji6
 obtain ⟨ji7, hji7⟩ : ∃ j_ : Int, (mx t168 t170) = j_ := ⟨_, rfl⟩
 replace H : (some (ji6, ji7, t171)) = some (r1, r2, r3) := by first | (rw [hji7] at H; exact H) | (simp only [hji7] at H ⊢; exact H)
 (try rw [hji7] at A4)
 (try rw [hji7] at A5)
 have hji7_ : (if t168 < t170 then t170 else t168) = ji7 := hji7
 simp only [Option.some.injEq, Prod.mk.injEq] at H
 obtain ⟨rfl, rfl, rfl⟩ := H
 go_enter Try.func23, Try.ntmps23
 go_wp2_with (first | ((with_reducible refine gate_dst (N := 6) rfl ?_); refine box_event ?hg (N := 6) ?hd (cs := #[.int .i64 0, .int .i64 0]) (t := 32) ?hr ?_; (case hd => rfl); (case hg => rfl); (case hr => first | (go_simp; done) | (go_simp; rfl)); intro gb167 hg w8 hbox hb; have n0_ := Aside0.mk (IsS118.below (by repeat (first | (with_reducible first | exact HI0.out | apply IsS118.alloc | apply IsS118.drewN | apply IsS118.drew | apply IsS118.set_0) | exact HI0.out)) hb); have n1_ := Aside0.mk (KeepBut.trans (by repeat (first | (with_reducible first | exact HK.out | apply KeepBut.set_ | apply keep_drewN | apply keep_drew | apply keep_alloc) | exact HK.out)) (KeepBut.of_below hb g none) (.inl rfl)); have n2_ := Aside0.mk (below_step (by repeat (first | (with_reducible first | exact HB.out | apply below_alloc | apply pw_below_drewN | apply below_drew1 | refine below_set ?_ (IsS118.ge HI0.out)) | exact HB.out)) hb); have n3_ := Aside0.mk (hbox); have n4_ := Aside0.mk ((by rw [hg]; exact (keep_size (w := w) (g := g) (row := none) (by repeat (first | (with_reducible first | exact HK.out | apply KeepBut.set_ | apply keep_drewN | apply keep_drew | apply keep_alloc) | exact HK.out))) : w.heap.size ≤ gb167)); have n5_ := Aside0.mk ((Nat.le_trans HW0.out (by rw [hg]; exact (keep_size (w := w) (g := g) (row := none) (by repeat (first | (with_reducible first | exact HK.out | apply KeepBut.set_ | apply keep_drewN | apply keep_drew | apply keep_alloc) | exact HK.out))) : w.heap.size ≤ gb167) : w0.heap.size ≤ gb167)); have n6_ := Aside0.mk ((by rw [hg]; exact Nat.ne_of_lt (IsS118.lt (show IsS118 w0 _ g s0_0 from by repeat (first | (with_reducible first | exact HI0.out | apply IsS118.alloc | apply IsS118.drewN | apply IsS118.drew | apply IsS118.set_0) | exact HI0.out))) : g ≠ gb167)); have n7_ := Aside0.mk ((by rw [hg]; exact Nat.ne_of_gt (IsS118.lt (show IsS118 w0 _ g s0_0 from by repeat (first | (with_reducible first | exact HI0.out | apply IsS118.alloc | apply IsS118.drewN | apply IsS118.drew | apply IsS118.set_0) | exact HI0.out))) : gb167 ≠ g)); clear HI0; clear HK; clear HB; have HI0 := n0_; have HK := n1_; have HB := n2_; have BK167 := n3_; have GW167 := n4_; have GE167 := n5_; have NB0_167 := n6_; have NB167_0 := n7_; clear n0_ n1_ n2_ n3_ n4_ n5_ n6_ n7_; clear hb hbox hg) | ((with_reducible refine gate_callee (f := 84) rfl ?_); refine goesL_ (some 12) rfl rfl Try.func84 (by kernel_rfl) rfl #[.pointer (some ⟨g, 0, none⟩), .int .i64 a1, .int .i64 a2] rfl (by (try simp only [List.map_toArray, List.map_cons, List.map_nil]); first | done | rfl | (simp only [List.length_drop, List.length_take]; rfl)) ?_; (with_reducible refine (thermionkit_Dice_Between.calls g s0_0 a1 a2 t168 t169 w0 _ ?side1 ?side2 A4.out).mono ?_); (case side1 => repeat (first | (with_reducible first | exact HI0.out | apply IsS118.alloc | apply IsS118.drewN | apply IsS118.drew | apply IsS118.set_0 | refine IsS118.far ?_ NB0_167.out _) | exact HI0.out)); (case side2 => repeat (first | (with_reducible first | exact HB.out | apply below_alloc | apply pw_below_drewN | apply below_drew1 | refine below_set ?_ (IsS118.ge HI0.out) | refine below_set ?_ GE167.out) | exact HB.out)); rintro e w9 ⟨rfl, hi, hb, hk⟩; refine ⟨_, rfl, ?_⟩; have n0_ := Aside0.mk (KeepBut.blk hk (g' := gb167) (o := .cells #[.int .i64 0, .int .i64 0] 32 (0, 0)) (by (with_reducible repeat (first | refine blk_drewN ?_ _ | refine blk_drew ?_ | refine blk_alloc ?_ _)); exact BK167.out) NB167_0.out (by simp)); have n1_ := Aside0.mk (KeepBut.trans (by repeat (first | (with_reducible first | exact HK.out | apply KeepBut.set_ | apply keep_drewN | apply keep_drew | apply keep_alloc | refine keep_far ?_ GW167.out _) | exact HK.out)) hk (.inl rfl)); have n2_ := Aside0.mk (hb); have n3_ := Aside0.mk (hi); clear BK167; clear HK; clear HB; clear HI0; have BK167 := n0_; have HK := n1_; have HB := n2_; have HI0 := n3_; clear n0_ n1_ n2_ n3_; (try clear hb); (try clear hb2); (try clear hk); (try clear hi)) | ((with_reducible refine gate_callee (f := 84) rfl ?_); refine goesL_ (some 16) rfl rfl Try.func84 (by kernel_rfl) rfl #[.pointer (some ⟨g, 0, none⟩), .int .i64 a1, .int .i64 a2] rfl (by (try simp only [List.map_toArray, List.map_cons, List.map_nil]); first | done | rfl | (simp only [List.length_drop, List.length_take]; rfl)) ?_; (with_reducible refine (thermionkit_Dice_Between.calls g t169 a1 a2 t170 t171 w0 _ ?side1 ?side2 A5.out).mono ?_); (case side1 => repeat (first | (with_reducible first | exact HI0.out | apply IsS118.alloc | apply IsS118.drewN | apply IsS118.drew | apply IsS118.set_0 | refine IsS118.far ?_ NB0_167.out _) | exact HI0.out)); (case side2 => repeat (first | (with_reducible first | exact HB.out | apply below_alloc | apply pw_below_drewN | apply below_drew1 | refine below_set ?_ (IsS118.ge HI0.out) | refine below_set ?_ GE167.out) | exact HB.out)); rintro e w10 ⟨rfl, hi, hb, hk⟩; refine ⟨_, rfl, ?_⟩; have n0_ := Aside0.mk (KeepBut.blk hk (g' := gb167) (o := .cells #[.int .i64 0, .int .i64 0] 32 (0, 0)) (by (with_reducible repeat (first | refine blk_drewN ?_ _ | refine blk_drew ?_ | refine blk_alloc ?_ _)); exact BK167.out) NB167_0.out (by simp)); have n1_ := Aside0.mk (KeepBut.trans (by repeat (first | (with_reducible first | exact HK.out | apply KeepBut.set_ | apply keep_drewN | apply keep_drew | apply keep_alloc | refine keep_far ?_ GW167.out _) | exact HK.out)) hk (.inl rfl)); have n2_ := Aside0.mk (hb); have n3_ := Aside0.mk (hi); clear BK167; clear HK; clear HB; clear HI0; have BK167 := n0_; have HK := n1_; have HB := n2_; have HI0 := n3_; clear n0_ n1_ n2_ n3_; (try clear hb); (try clear hb2); (try clear hk); (try clear hi); have hnb11 := NB167_0.out; have hnc11 := NB0_167.out; have hcz12_0 : w10.cell? ⟨gb167, 0, none⟩ = some (.int .i64 0) := (blk_cell BK167.out 0).trans rfl; have hcz12_1 : w10.cell? ⟨gb167, 1, none⟩ = some (.int .i64 0) := (blk_cell BK167.out 1).trans rfl; have hfz12_0 := blk_frozen BK167.out 0; have hfz12_1 := blk_frozen BK167.out 1))
 refine bodyPost_ret (results_cell_row rfl _ _ gb167 32 #[.int .i64 ji6, .int .i64 ji7] (0, 0) _ rfl (by (with_reducible repeat (first | refine blk_drewN ?_ _ | refine blk_drew ?_ | refine blk_alloc ?_ _)); refine blk_put (cs := #[.int .i64 ji6, .int .i64 0]) ?_ 1 _ rfl; (with_reducible repeat (first | refine blk_drewN ?_ _ | refine blk_drew ?_ | refine blk_alloc ?_ _)); refine blk_put (cs := #[.int .i64 0, .int .i64 0]) ?_ 0 _ rfl; (with_reducible repeat (first | refine blk_drewN ?_ _ | refine blk_drew ?_ | refine blk_alloc ?_ _)); exact BK167.out) Try.underlying32 rfl (by kernel_rfl)) rfl ?_
 exact ⟨by first | rfl | (simp [errW_none, errW_some] <;> rfl) | (simp only [← hji6, ← hji7]; first | rfl | (simp [errW_none, errW_some] <;> rfl)) | (simp [*, errW_none, errW_some] <;> rfl), by repeat (first | (with_reducible first | exact HI0.out | apply IsS118.alloc | apply IsS118.drewN | apply IsS118.drew | apply IsS118.set_0 | refine IsS118.far ?_ NB0_167.out _) | exact HI0.out), by repeat (first | (with_reducible first | exact HB.out | apply below_alloc | apply pw_below_drewN | apply below_drew1 | refine below_set ?_ (IsS118.ge HI0.out) | refine below_set ?_ GE167.out) | exact HB.out), by repeat (first | (with_reducible first | exact HK.out | apply KeepBut.set_ | apply keep_drewN | apply keep_drew | apply keep_alloc | refine keep_far ?_ GW167.out _) | exact HK.out)⟩

end Go.Proofs.Ytbcfphoheijmdaa.Print
end

section
/- Plain laws: tables of tight ranges, compared; the chapter's examples; remainders and ranges that the dice deal. -/
namespace Go.Proofs.Ytbcfphoheijmdaa.Print
open Go.RowKit Go.Proofs.YtbcfphoheijmdaaW.PrintWords Go.Proofs.YtbcfphoheijmdaaW.PrintLast Go.Proofs.YtbcfphoheijmdaaW.PrintMore Go.Proofs.Ytbcfphoheijmdaa.H
set_option linter.unusedVariables false
set_option linter.unusedSimpArgs false

end Go.Proofs.Ytbcfphoheijmdaa.Print
end

section
/- MountKits: the plain laws (what is huge; that the program's and the reference's answers are the same) and what is known of the memory while the kits are asked. -/
namespace Go.Proofs.Ytbcfphoheijmdaa.Print
open Go.RowKit Go.Proofs.YtbcfphoheijmdaaW.PrintWords Go.Proofs.YtbcfphoheijmdaaW.PrintLast Go.Proofs.YtbcfphoheijmdaaW.PrintMore Go.Proofs.Ytbcfphoheijmdaa.H
set_option linter.unusedVariables false
set_option linter.unusedSimpArgs false

theorem info49 : (Try.prog.info? 49).map (fun i => (i.zero, i.size, i.bytes)) = some (some (.agg #[.slice none 0 0, .int .i64 0]), 2, 32) := by kernel_rfl
theorem size49 : (Try.prog.info? 49).map (·.size) = some 2 := by kernel_rfl
theorem q57 {q : Nat} (hq : q ∈ 57 :: k57.E) : q = 57 ∨ q = 3 := by
  have h0 : q ∈ [57, 3, 3] := hq
  simpa using h0
theorem mem_base {w w2 W : World} {l : List (Nat × Array Value × TypeId)} (h : Mem w2 W l) (hB : Below w.heap.size w w2) : Mem w W l := ⟨below_step hB h.below, h.blk, fun p hp => Nat.le_trans hB.size (h.ge p hp), h.apart⟩
theorem huge_loop {L : List S57} (c : Int) (hL : L.length ≤ 20) : ∀ d i, i + d = L.length → ∃ b, thermionlaw04_huge.l0 (d + 1) (i : Int) L c = some b ∧ (b = false → ∀ j, i ≤ j → j < L.length → (L.getD j z57).f0.length ≤ 30 ∧ (L.getD j z57).f1.length ≤ 30)
  | 0, i, hi => ⟨false, by rw [thermionlaw04_huge.l0, if_neg (by omega)], fun _ j h1 h2 => by omega⟩
  | d + 1, i, hi => by
    rw [thermionlaw04_huge.l0, if_pos (by omega), if_pos (by omega), rd57, wrap_up i (by omega)]
    by_cases q1 : 30 < ((L.getD i z57).f0.length : Int)
    · exact ⟨true, by rw [if_pos (by omega)], fun h => by cases h⟩
    · rw [if_neg (by omega)]
      by_cases q2 : 30 < ((L.getD i z57).f1.length : Int)
      · exact ⟨true, by rw [if_pos (by omega)], fun h => by cases h⟩
      · rw [if_neg (by omega)]
        obtain ⟨b, e, hb⟩ := huge_loop c hL d (i + 1) (by omega)
        refine ⟨b, e, fun h j h1 h2 => ?_⟩
        by_cases r : j = i
        · subst r; omega
        · exact hb h j (by omega) h2
theorem huge_eq (L : List S57) (c : Int) : ∃ K b, thermionlaw04_huge.f K L c = some b ∧ (b = false → L.length ≤ 20 ∧ Short L) := by
  by_cases q : 20 < L.length
  · exact ⟨0, true, by unfold thermionlaw04_huge.f; rw [if_pos (by omega)], fun h => by cases h⟩
  · obtain ⟨b, e, hb⟩ := huge_loop c (L := L) (by omega) L.length 0 (by omega)
    refine ⟨L.length + 1, b, ?_, fun h => ⟨by omega, fun i => ?_⟩⟩
    · unfold thermionlaw04_huge.f
      rw [if_neg (by omega)]
      exact e
    · by_cases r : i < L.length
      · have := hb h i (by omega) r
        omega
      · rw [List.getD_eq_getElem?_getD, List.getElem?_eq_none (by omega)]
        exact ⟨by simp [z57], by simp [z57]⟩
theorem Short.holds {L : List S57} (h : Short L) : Holds L := fun p hp => by
  obtain ⟨i, hi, rfl⟩ := List.mem_iff_getElem.1 hp
  have := h i
  have e : L.getD i z57 = L[i] := by simp [List.getD_eq_getElem?_getD, hi]
  rw [e] at this
  omega
theorem KitFine.short {L : List S57} {c : Int} {most : Nat} (h : KitFine most L c) (hm : most ≤ 14) : Short L := fun i => by
  have := h.length
  by_cases r : i < L.length
  · have hp := h.part i r
    have h1 := hp.needs.length (by omega)
    have h2 := hp.bars.length (by omega)
    omega
  · rw [List.getD_eq_getElem?_getD, List.getElem?_eq_none (by omega)]
    exact ⟨by simp [z57], by simp [z57]⟩
theorem same_self {l : List Int} (hl : l.length ≤ 1000000) : ∀ d i, i + d = l.length → thermionkit_Same.l0 (d + 1) l l (i : Int) = some true
  | 0, i, hi => by rw [thermionkit_Same.l0, if_neg (by omega)]
  | d + 1, i, hi => by
    rw [thermionkit_Same.l0, if_pos (by omega), if_pos (by omega), if_pos (by omega), if_pos rfl, wrap_up i (by omega)]
    exact same_self hl d (i + 1) (by omega)
theorem same_refl {l : List Int} (hl : l.length ≤ 1000000) : thermionkit_Same.f (l.length + 1) l l = some true := by
  unfold thermionkit_Same.f
  rw [if_pos rfl]
  exact same_self hl l.length 0 (by omega)
theorem partsOf_length (L : List S57) (s : Nat) (is : Nat → Bool) : (ints (partsOf L s is)).length ≤ L.length := by
  have := partsTo_length L s is L.length
  simpa [ints, partsOf] using this
/-- What is asked of one kit and one list. -/
theorem kit_asked {L : List S57} (hs : Short L) (hL : L.length ≤ 1000) (c : Int) {l : List Int} (hl : l.length ≤ 1000) : ∃ (a x : List Int) (e g : Int),
    mount_May.f L c l = some (a, e) ∧ thermionref04_May.f 2000 L c l = some (a, e) ∧ mount_Guard.f L c l = some (x, g) ∧ thermionref04_Guard.f 400000 L c l = some (x, g) ∧
    mount_CheckKit.f L c = some (kitErr L c) ∧ thermionref04_CheckKit.f 300 L c = some (kitErr L c) ∧ thermionkit_Same.f (a.length + 1) a a = some true ∧ thermionkit_Same.f (x.length + 1) x x = some true := by
  have hh := hs.holds
  refine ⟨if stErr L c l = 0 then ints (partsOf L (setN l) (fun _ => true)) else [], if stErr L c l = 0 then ints (partsOf L (setN l) (leads L (setN l))) else [], stErr L c l, stErr L c l, ?_, ?_, ?_, ?_, ?_, ?_, ?_, ?_⟩
  · unfold mount_May.f
    rw [if_pos ⟨hh, by omega⟩]
    by_cases q : stErr L c l = 0
    · rw [if_pos q, if_pos q, q]
    · rw [if_neg q, if_neg q]
  · rw [May_ref hs c l hl (Nat.le_refl _)]
    by_cases q : stErr L c l = 0
    · rw [if_pos q, if_pos q, q]
    · rw [if_neg q, if_neg q]
  · unfold mount_Guard.f
    rw [if_pos ⟨hh, by omega⟩]
    by_cases q : stErr L c l = 0
    · rw [if_pos q, if_pos q, q]
    · rw [if_neg q, if_neg q]
  · rw [Guard_ref hs c l hl (Nat.le_refl _)]
    by_cases q : stErr L c l = 0
    · rw [if_pos q, if_pos q, q]
    · rw [if_neg q, if_neg q]
  · unfold mount_CheckKit.f
    rw [if_pos hh]
  · exact kit_ref hs c (Nat.le_refl _)
  · refine same_refl ?_
    split
    · have := partsOf_length L (setN l) (fun _ => true); omega
    · simp
  · refine same_refl ?_
    split
    · have := partsOf_length L (setN l) (leads L (setN l)); omega
    · simp
/-- What is known while the list of the own kit is written. -/
structure KW (w W : World) (g g8 g9 g10 N : Nat) (s : Int) (cs9 : Array Value) (vA vL : Value) (L : List S57) (c : Int) (vc vr : Value) (X : List Int) : Prop where
  mem : Mem w W [(g10, #[vA, vc, vA], 22), (g9, cs9, 49), (g8, #[vL, .int .i64 c], 49)]
  dice : IsS118 w W g s
  own : k57.R 57 W w.heap.size (fun k => k < N ∧ k ≠ g) vL L
  row : (Kd.int .i64).R 3 W N (fun _ => True) vr X
  nlo : w.heap.size ≤ N
  nhi : N ≤ g10
namespace KW
variable {w W W1 : World} {g g8 g9 g10 N : Nat} {s s' : Int} {cs9 : Array Value} {vA vL : Value} {L : List S57} {c : Int} {vc vr : Value} {X : List Int}
theorem later (h : KW w W g g8 g9 g10 N s cs9 vA vL L c vc vr X) (hb : Below W.heap.size W W1) : KW w W1 g g8 g9 g10 N s cs9 vA vL L c vc vr X :=
  ⟨h.mem.step hb, ⟨blk_below h.dice.1 hb, h.dice.2⟩, Kd.R_below h.own hb, Kd.R_below h.row hb, h.nlo, h.nhi⟩
theorem rolled (h : KW w W g g8 g9 g10 N s cs9 vA vL L c vc vr X) (hI : IsS118 w W1 g s') (hB : Below w.heap.size w W1) (hK : KeepBut W W1 g none) : KW w W1 g g8 g9 g10 N s' cs9 vA vL L c vc vr X := by
  refine ⟨⟨hB, fun p hp => ?_, h.mem.ge, h.mem.apart⟩, hI, ?_, ?_, h.nlo, h.nhi⟩
  · refine (hK.2 p.1 (blk_lt (h.mem.blk p hp)) (fun e => ?_) (by simp)).trans (h.mem.blk p hp)
    have h1 := h.mem.blk p hp
    rw [e, h.dice.1] at h1
    simp only [List.mem_cons, List.not_mem_nil, or_false] at hp
    rcases hp with rfl | rfl | rfl <;> simp at h1
  · exact Kd.R_step h.own (fun k hk hlt => hK.2 k hlt hk.2 (by simp))
  · exact Kd.R_mono (Kd.R_step (Kd.R_types h.row h.dice.1 (fun q hq => by
      have : q = 3 := by
        have h0 : q ∈ [3] := hq
        simpa using h0
      subst this
      decide)) (fun k hk hlt => hK.2 k hlt hk.2 (by simp))) (fun _ _ => trivial)
theorem grown {v2 : Value} {X2 : List Int} (h : KW w W g g8 g9 g10 N s cs9 vA vL L c vc vr X) (hg : W.grownBy W1 vr.ownBlock) (hR : (Kd.int .i64).R 3 W1 N (fun _ => True) v2 X2) : KW w W1 g g8 g9 g10 N s cs9 vA vL L c vc v2 X2 := by
  have hlow : (Kd.int .i64).R 3 W w.heap.size (fun _ => True) vr X := Kd.R_lower h.row h.nlo
  refine ⟨h.mem.grownR hlow hg (by simp), ⟨blk_grown h.dice.1 hg (Kd.R_ne h.row h.dice.1 (by decide)), h.dice.2⟩, ?_, hR, h.nlo, h.nhi⟩
  exact Kd.R_step h.own (fun k hk hlt => hg.block k hlt (fun e => by
    have := Kd.R_base h.row k e.symm
    omega))
theorem put (h : KW w W g g8 g9 g10 N s cs9 vA vL L c vc vr X) : KW w (W.setCell ⟨g10, 1, none⟩ vr) g g8 g9 g10 N s cs9 vA vL L c vr vr X := by
  refine ⟨h.mem.put 1 vr (cs' := #[vA, vr, vA]) rfl, ⟨blk_far h.dice.1 (fun e => ?_) _, h.dice.2⟩, ?_, ?_, h.nlo, h.nhi⟩
  · have h1 := h.mem.head
    rw [show g10 = g from e.symm, h.dice.1] at h1
    simp at h1
  · exact Kd.R_step h.own (fun k hk hlt => Below.heap_setCell W _ _ k (by have := h.nhi; show k ≠ g10; omega))
  · exact Kd.R_mono (Kd.R_step (Kd.R_types h.row h.mem.head (fun q hq => by
      have : q = 3 := by
        have h0 : q ∈ [3] := hq
        simpa using h0
      subst this
      decide)) (fun k hk hlt => Below.heap_setCell W _ _ k hk.2)) (fun _ _ => trivial)
end KW
end Go.Proofs.Ytbcfphoheijmdaa.Print
end
