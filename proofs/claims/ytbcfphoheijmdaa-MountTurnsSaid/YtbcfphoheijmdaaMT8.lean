/- Part 8 of the texts of a claim about Ytbcfphoheijmdaa, put together by a program of this work: what the Go functions do, and that their calls do so. -/
import Derived.Test.YtbcfphoheijmdaaMT4
import Derived.Test.YtbcfphoheijmdaaMT7
section
/- Fits: do positions fit a chain? As a Lean function, and that the Go function's call gives it. -/
namespace Go.Proofs.Ytbcfphoheijmdaa.Print
open Go.RowKit Go.Proofs.YtbcfphoheijmdaaW.PrintWords Go.Proofs.YtbcfphoheijmdaaW.PrintLast Go.Proofs.YtbcfphoheijmdaaW.PrintMore Go.Proofs.Ytbcfphoheijmdaa.H
attribute [local go_sem] max2_int min2_int max_two min_two max_three min_three max_four min_four
attribute [local go_sem ↓] Go.wp_at_zero Go.wp_at_succ
set_option linter.unusedVariables false
set_option linter.unusedSimpArgs false

/-- Do positions do what a link demands? -/
def liesOn (at_ : List Int) (l : S35) : Bool := decide (l.f2.f0 ≤ at_.getD l.f1.toNat 0 - at_.getD l.f0.toNat 0 ∧ at_.getD l.f1.toNat 0 - at_.getD l.f0.toNat 0 ≤ l.f2.f1)
def InWord (x : Int) : Prop := -9223372036854775808 ≤ x ∧ x ≤ 9223372036854775807
theorem wrap_cases (d : Int) (h : -18446744073709551615 ≤ d ∧ d ≤ 18446744073709551615) : (IntKind.i64.wrap d = d ∧ InWord d) ∨ (IntKind.i64.wrap d = d - 18446744073709551616 ∧ 9223372036854775807 < d) ∨ (IntKind.i64.wrap d = d + 18446744073709551616 ∧ d < -9223372036854775808) := by
  unfold InWord
  simp only [IntKind.wrap, IntKind.signed, IntKind.bits]
  simp
  omega
set_option maxHeartbeats 3200000 in
set_option maxRecDepth 100000 in
theorem lies_calls (at_ : List Int) (A : Option Addr) (c ga : Nat) (l : S35) (w : World) (hb : w.cell? ⟨ga, 0, none⟩ = some (.slice A at_.length c)) (hr : (Kd.int .i64).C w A at_.length at_) (hw : ∀ x, x ∈ at_ → InWord x) (P : Int) (hl : linkErr P l = 0) (hP : P = at_.length) :
    Calls Try.prog 138 #[.agg #[.int .i64 l.f0, .int .i64 l.f1, .int .i64 l.f2.f0, .int .i64 l.f2.f1], .pointer (some ⟨ga, 0, none⟩)] w fun e w' => e = .returned (.bool (!liesOn at_ l)) ∧ Below w.heap.size w w' := by
  obtain ⟨h1, h2, h3, h4, h5, h6, h7, h8⟩ := linkErr_ok hl
  obtain ⟨F, T, ⟨lo, hi⟩⟩ := l
  simp only [] at h1 h2 h3 h4 h5 h6 h7 h8
  obtain ⟨f, rfl⟩ : ∃ f : Nat, F = f := ⟨F.toNat, by omega⟩
  obtain ⟨t, rfl⟩ : ∃ t : Nat, T = t := ⟨T.toNat, by omega⟩
  have hf : f < at_.length := by omega
  have ht : t < at_.length := by omega
  obtain ⟨ad, e0, x0⟩ := cell_int hr f hf
  obtain ⟨_, e1, x1⟩ := cell_int hr t ht
  cases e0
  cases e1
  have w0 : InWord (at_.getD f 0) := hw _ (by rw [List.getD_eq_getElem?_getD, List.getElem?_eq_getElem hf]; exact List.getElem_mem _)
  have w1 : InWord (at_.getD t 0) := hw _ (by rw [List.getD_eq_getElem?_getD, List.getElem?_eq_getElem ht]; exact List.getElem_mem _)
  have HL : Aside0 (liesOn at_ ⟨(f : Int), (t : Int), ⟨lo, hi⟩⟩ = decide (lo ≤ at_.getD t 0 - at_.getD f 0 ∧ at_.getD t 0 - at_.getD f 0 ≤ hi)) := ⟨by unfold liesOn; simp only [Int.toNat_natCast]⟩
  generalize at_.getD f 0 = X at x0 w0 HL
  generalize at_.getD t 0 = Y at x1 w1 HL
  unfold InWord at w0 w1
  have HM := Aside0.mk (Mem.start w)
  have HX0 := Aside0.mk x0
  have HX1 := Aside0.mk x1
  have HHB := Aside0.mk hb
  clear hr hw x0 x1 hb
  have i1 : (0 : Int) ≤ (f : Int) := by omega
  have i2 : (f : Int) < (at_.length : Int) := by omega
  have i3 : (0 : Int) ≤ (t : Int) := by omega
  have i4 : (t : Int) < (at_.length : Int) := by omega
  have hu35 := Try.underlying35
  have hcase := wrap_cases (Y - X) (by omega)
  go_enter Try.func138, Try.ntmps138
  go_wp2_with (first
    | ((with_reducible refine gate_dst (N := 2) rfl ?_); refine ev_box HM.out rfl 35 (.tmp 0) rfl (cs := #[.int .i64 (f : Int), .int .i64 (t : Int), .int .i64 lo, .int .i64 hi]) rfl ?_; intro g1 w1 hm1 hq1; clear hq1; have HM1 := Aside0.mk hm1; clear hm1 HM; have c0 : w1.cell? ⟨g1, 0, none⟩ = some (.int .i64 (f : Int)) := (HM1.out.cell 0).trans rfl; have c1 : w1.cell? ⟨g1, 1, none⟩ = some (.int .i64 (t : Int)) := (HM1.out.cell 1).trans rfl; have c2 : w1.cell? ⟨g1, 2, none⟩ = some (.int .i64 lo) := (HM1.out.cell 2).trans rfl; have c3 : w1.cell? ⟨g1, 3, none⟩ = some (.int .i64 hi) := (HM1.out.cell 3).trans rfl; have x0 := cell_later HM1.out.below HX0.out; have x1 := cell_later HM1.out.below HX1.out; have hb := cell_later HM1.out.below HHB.out))
  go_quiet (fail)
  have d2 : (w1.drewN nq).cell? ⟨g1, 2, none⟩ = some (.int .i64 lo) := c2
  have d3 : (w1.drewN nq).cell? ⟨g1, 3, none⟩ = some (.int .i64 hi) := c3
  have HB2 : Aside0 (Below w.heap.size w (w1.drewN nq)) := ⟨(HM1.out.drewN nq).below⟩
  clear x0 x1 hb c0 c1 c2 c3
  rcases hcase with ⟨hd, hin⟩ | ⟨hd, hbig⟩ | ⟨hd, hsm⟩
  · have HIN := Aside0.mk (in_eq (Y - X) lo hi)
    generalize hbb : decide (lo ≤ Y - X ∧ Y - X ≤ hi) = b at HIN HL
    clear hbb
    have hss : (Y - X < 0 ∧ Y < X) ∨ (¬ Y - X < 0 ∧ ¬ Y < X) := by omega
    rcases hss with ⟨s1, s2⟩ | ⟨s1, s2⟩
    all_goals cases b
    all_goals (
      go_wp2_with (first
        | (go_at_call 102; refine (mount_in.calls _ _ _ _ _ HIN.out).mono ?_; rintro e w5 ⟨rfl, hd5⟩; have HB5 := Aside0.mk (below_step HB2.out hd5.below); clear hd5))
      go_ret
      exact ⟨by rw [HL.out]; rfl, HB5.out⟩)
  · have HL2 : Aside0 (liesOn at_ ⟨(f : Int), (t : Int), ⟨lo, hi⟩⟩ = false) := ⟨by rw [HL.out]; exact decide_eq_false (by omega)⟩
    have s1 : Y - X - 18446744073709551616 < 0 := by omega
    have s2 : ¬ Y < X := by omega
    go_wp2_with fail
    go_ret
    exact ⟨by rw [HL2.out]; rfl, HB2.out⟩
  · have HL2 : Aside0 (liesOn at_ ⟨(f : Int), (t : Int), ⟨lo, hi⟩⟩ = false) := ⟨by rw [HL.out]; exact decide_eq_false (by omega)⟩
    have s1 : ¬ Y - X + 18446744073709551616 < 0 := by omega
    have s2 : Y < X := by omega
    go_wp2_with fail
    go_ret
    exact ⟨by rw [HL2.out]; rfl, HB2.out⟩
set_option maxHeartbeats 3200000 in
set_option maxRecDepth 100000 in
theorem index_calls (L : List S35) (A : Option Addr) (c id : Nat) (cap : Array Value) (p : S35 → Bool) (hent : ∀ args W, Sem.run Try.prog (callFunc id args) W = .ok (.enter id args) W) (w : World) (hr : Kd.C k35 w A L.length L)
    (hcall : ∀ l, l ∈ L → ∀ W, Below w.heap.size w W → Calls Try.prog id (#[.agg #[.int .i64 l.f0, .int .i64 l.f1, .int .i64 l.f2.f0, .int .i64 l.f2.f1]] ++ cap) W fun e w' => e = .returned (.bool (p l)) ∧ Below W.heap.size W w') :
    Calls Try.prog 148 #[.slice A L.length c, .func (.func id) #[] cap] w fun e w' => ∃ r : Int, e = .returned (.int .i64 r) ∧ (0 ≤ r ↔ L.any p = true) ∧ Below w.heap.size w w' := by
  have HR := Aside0.mk hr
  have HC := Aside0.mk hcall
  clear hr hcall
  have hu35 := Try.underlying35
  go_enter Try.func148, Try.ntmps148
  go_wp2_with fail
  go_loopg [8] L.length (fun k v8 w' => ∃ (i : Nat), v8 = .int .i64 i ∧ Aside0 (i + k = L.length) ∧ Aside0 ((L.take i).any p = false) ∧ Aside0 (Below w.heap.size w w'))
  case atStart => exact ⟨0, rfl, ⟨by omega⟩, ⟨by simp⟩, ⟨Below.refl _ _⟩⟩
  case round =>
    obtain ⟨i, rfl, HK, HA, HB⟩ := hrel
    by_cases hi : i < L.length
    · obtain ⟨ad, e0, x0, x1, x2, x3⟩ := at35 (Kd.C_below HR.out HB.out) i hi
      cases e0
      have HCI := Aside0.mk (fun W hW => HC.out L[i] (List.getElem_mem hi) W hW)
      have HNX : Aside0 ((L.take (i + 1)).any p = p L[i]) := ⟨by rw [take_at _ _ hi, List.any_append, HA.out]; simp⟩
      have HAL : Aside0 (p L[i] = true → L.any p = true) := ⟨fun h => List.any_eq_true.2 ⟨L[i], List.getElem_mem hi, h⟩⟩
      generalize L[i] = X at x0 x1 x2 x3 HCI HNX HAL
      generalize p X = b at HCI HNX HAL
      have i1 : (0 : Int) ≤ (i : Int) := by omega
      have i2 : (i : Int) < (L.length : Int) := by omega
      have hmx := Kd.C_max HR.out
      have n1 : IntKind.i64.wrap ((i : Int) + 1) = (i : Int) + 1 := IntWalk.i64_in _ (by omega)
      have n2 : wrap64 ((i : Int) + 1) = (i : Int) + 1 := IntWalk.wrap64_in _ (by omega)
      clear hmx
      go_wp2_with fail
      refine (HCI.out _ HB.out).mono ?_
      rintro e w5 ⟨rfl, hd⟩
      have HB5 := Aside0.mk (below_step HB.out hd)
      clear hd
      cases b with
      | true =>
        go_wp2_with fail
        go_ret
        exact ⟨(i : Int), rfl, ⟨fun _ => by simpa using HAL.out, fun _ => i1⟩, HB5.out⟩
      | false =>
        go_wp2_with fail
        go_roundg (L.length - (i + 1))
        case measure => have := HK.out; omega
        case rel => exact ⟨i + 1, by go_num, ⟨by omega⟩, HNX, HB5⟩
    · have HE : Aside0 (L.any p = false) := ⟨by have := HA.out; rwa [List.take_of_length_le (by omega)] at this⟩
      go_wp2_with fail
      go_ret
      exact ⟨-1, rfl, ⟨fun h => by omega, fun h => by rw [HE.out] at h; simp at h⟩, HB.out⟩
set_option maxHeartbeats 1600000 in
set_option maxRecDepth 100000 in
theorem contains_calls (L : List S35) (A : Option Addr) (c id : Nat) (cap : Array Value) (p : S35 → Bool) (hent : ∀ args W, Sem.run Try.prog (callFunc id args) W = .ok (.enter id args) W) (w : World) (hr : Kd.C k35 w A L.length L)
    (hcall : ∀ l, l ∈ L → ∀ W, Below w.heap.size w W → Calls Try.prog id (#[.agg #[.int .i64 l.f0, .int .i64 l.f1, .int .i64 l.f2.f0, .int .i64 l.f2.f1]] ++ cap) W fun e w' => e = .returned (.bool (p l)) ∧ Below W.heap.size W w') :
    Calls Try.prog 137 #[.slice A L.length c, .func (.func id) #[] cap] w fun e w' => e = .returned (.bool (L.any p)) ∧ Below w.heap.size w w' := by
  have HIX := Aside0.mk (index_calls L A c id cap p hent w hr hcall)
  clear hr hcall
  go_enter Try.func137, Try.ntmps137
  go_wp2_with (first
    | (go_at_call 148; refine HIX.out.mono ?_; rintro e w' ⟨r, rfl, hiff, hd⟩; have HI := Aside0.mk hiff; have HB := Aside0.mk hd; clear hiff hd HIX))
  go_ret
  refine ⟨?_, HB.out⟩
  have : decide (r ≥ 0) = L.any p := by
    cases hq : L.any p with
    | true => exact decide_eq_true (HI.out.2 hq)
    | false => exact decide_eq_false (fun h => by have := HI.out.1 h; rw [hq] at this; simp at this)
  rw [← this]
  rfl
theorem lies_enters (args : Array Value) (W : World) : Sem.run Try.prog (callFunc 138 args) W = .ok (.enter 138 args) W := by
  have h1 : ¬ Try.f138.name = "runtime.NumGoroutine" := by decide
  have h2 : ¬ Try.f138.body = none := fun h => by
    have : Try.f138.body.isSome = false := by rw [h]; rfl
    exact absurd this (by show ¬ (true = false); decide)
  simp [callFunc, go_sem, Try.func138, h1, h2]
def fitsOn (P : Int) (L : List S35) (at_ : List Int) : Bool := decide ((at_.length : Int) = P) && L.all (liesOn at_)
instance (x : Int) : Decidable (InWord x) := by unfold InWord; infer_instance
def mount_fits.f (a0_0 : Int) (l0_1 : List (S35)) (l1 : List Int) : Option (Bool) := if (∀ x, x ∈ l1 → InWord x) ∧ (∀ l, l ∈ l0_1 → linkErr a0_0 l = 0) then some (fitsOn a0_0 l0_1 l1) else none
set_option maxHeartbeats 1600000 in
set_option maxRecDepth 100000 in
theorem mount_fits.calls (a0_0 : Int) (A0_1 : Option Addr) (c0_1 : Nat) (l0_1 : List (S35)) (A1 : Option Addr) (c1 : Nat) (l1 : List Int) (r : Bool) (w : World) (hr0_1 : Kd.C k35 w A0_1 l0_1.length l0_1) (hc0_1 : l0_1.length ≤ c0_1) (hr1 : Kd.C (Kd.int .i64) w A1 l1.length l1) (hc1 : l1.length ≤ c1) (h : mount_fits.f a0_0 l0_1 l1 = some r) :
    Calls Try.prog 110 #[.agg #[.int .i64 a0_0, .slice A0_1 l0_1.length c0_1], .slice A1 l1.length c1] w fun e w' => e = .returned (.bool r) ∧ Below w.heap.size w w' := by
  unfold mount_fits.f at h
  have hg : (∀ x, x ∈ l1 → InWord x) ∧ (∀ l, l ∈ l0_1 → linkErr a0_0 l = 0) := by
    by_cases q : (∀ x, x ∈ l1 → InWord x) ∧ (∀ l, l ∈ l0_1 → linkErr a0_0 l = 0)
    · exact q
    · rw [if_neg q] at h; simp at h
  rw [if_pos hg] at h
  have HF := Aside0.mk (Option.some.inj h)
  have HR := Aside0.mk hr0_1
  have HR1 := Aside0.mk hr1
  have HG := Aside0.mk hg
  have HM := Aside0.mk (Mem.start w)
  clear h hr0_1 hr1 hg
  have hu27 := Try.underlying27
  by_cases hn : (l1.length : Int) = a0_0
  · have HF2 : Aside0 (r = !(l0_1.any (fun l => !liesOn l1 l))) := ⟨by rw [← HF.out]; unfold fitsOn; rw [decide_eq_true hn]; simp [List.all_eq_not_any_not]⟩
    have t1 : ((l1.length : Int) != a0_0) = false := by simp [hn]
    generalize hb : l0_1.any (fun l => !liesOn l1 l) = b at HF2
    have HBB := Aside0.mk hb
    clear hb
    go_enter Try.func110, Try.ntmps110
    go_wp2_with (first
      | ((with_reducible refine gate_dst (N := 2) rfl ?_); refine ev_box HM.out rfl 27 (.tmp 0) rfl (cs := #[.int .i64 a0_0, .slice A0_1 l0_1.length c0_1]) rfl ?_; intro g1 w1 hm1 hq1; clear hq1; have HM1 := Aside0.mk hm1; clear hm1 HM)
      | ((with_reducible refine gate_dst (N := 3) rfl ?_); refine box_event ?hg (N := 3) ?hd (cs := #[.slice A1 l1.length c1]) (t := 22) ?hr ?_; (case hd => rfl); (case hg => rfl); (case hr => first | (go_simp; done) | (go_simp; rfl)); intro g2 hg2 w2 hbox hb; have HM2 := Aside0.mk (HM1.out.new hg2 hbox hb); clear hg2 hbox hb HM1; have c0 : w2.cell? ⟨g2, 0, none⟩ = some (.slice A1 l1.length c1) := (HM2.out.cell 0).trans rfl; have c1_ : w2.cell? ⟨g1, 0, none⟩ = some (.int .i64 a0_0) := (blk_cell HM2.out.second 0).trans rfl; have c2 : w2.cell? ⟨g1, 1, none⟩ = some (.slice A0_1 l0_1.length c0_1) := (blk_cell HM2.out.second 1).trans rfl)
      | (go_at_call 137; refine (contains_calls l0_1 A0_1 c0_1 138 #[.pointer (some ⟨g2, 0, none⟩)] (fun l => !liesOn l1 l) lies_enters _ (Kd.C_below HR.out HM2.out.below) (fun l hl W hW => lies_calls l1 A1 c1 g2 l W (cell_later hW c0) (Kd.C_below (Kd.C_below HR1.out HM2.out.below) hW) HG.out.1 a0_0 (HG.out.2 l hl) hn.symm)).mono ?_; rintro e w3 ⟨rfl, hd⟩; rw [HBB.out]; have HB3 := Aside0.mk (below_step HM2.out.below hd); clear hd))
    go_ret
    exact ⟨by rw [HF2.out]; rfl, HB3.out⟩
  · have HF2 : Aside0 (r = false) := ⟨by rw [← HF.out]; unfold fitsOn; rw [decide_eq_false hn]; rfl⟩
    have t1 : ((l1.length : Int) != a0_0) = true := by simp [hn]
    go_enter Try.func110, Try.ntmps110
    go_wp2_with (first
      | ((with_reducible refine gate_dst (N := 2) rfl ?_); refine ev_box HM.out rfl 27 (.tmp 0) rfl (cs := #[.int .i64 a0_0, .slice A0_1 l0_1.length c0_1]) rfl ?_; intro g1 w1 hm1 hq1; clear hq1; have HM1 := Aside0.mk hm1; clear hm1 HM)
      | ((with_reducible refine gate_dst (N := 3) rfl ?_); refine box_event ?hg (N := 3) ?hd (cs := #[.slice A1 l1.length c1]) (t := 22) ?hr ?_; (case hd => rfl); (case hg => rfl); (case hr => first | (go_simp; done) | (go_simp; rfl)); intro g2 hg2 w2 hbox hb; have HM2 := Aside0.mk (HM1.out.new hg2 hbox hb); clear hg2 hbox hb HM1; have c0 : w2.cell? ⟨g2, 0, none⟩ = some (.slice A1 l1.length c1) := (HM2.out.cell 0).trans rfl; have c1_ : w2.cell? ⟨g1, 0, none⟩ = some (.int .i64 a0_0) := (blk_cell HM2.out.second 0).trans rfl))
    go_ret
    exact ⟨by rw [HF2.out]; rfl, HM2.out.below⟩
def mount_Fits.f (a0_0 : Int) (l0_1 : List (S35)) (l1 : List Int) : Option (Bool) := if ∀ x, x ∈ l1 → InWord x then some (decide (chainErr a0_0 l0_1 = 0) && fitsOn a0_0 l0_1 l1) else none
theorem chainErr_links {P : Int} {L : List S35} (h : chainErr P L = 0) : ∀ l, l ∈ L → linkErr P l = 0 := by
  unfold chainErr at h
  split at h
  · omega
  · split at h
    · omega
    · split at h
      · rename_i l hl
        have := List.find?_some hl
        simp [h] at this
      · rename_i hl
        intro l hm
        have := List.find?_eq_none.1 hl l hm
        simpa using this
set_option maxHeartbeats 1600000 in
set_option maxRecDepth 100000 in
theorem mount_Fits.calls (a0_0 : Int) (A0_1 : Option Addr) (c0_1 : Nat) (l0_1 : List (S35)) (A1 : Option Addr) (c1 : Nat) (l1 : List Int) (r : Bool) (w : World) (hr0_1 : Kd.C k35 w A0_1 l0_1.length l0_1) (hc0_1 : l0_1.length ≤ c0_1) (hr1 : Kd.C (Kd.int .i64) w A1 l1.length l1) (hc1 : l1.length ≤ c1) (h : mount_Fits.f a0_0 l0_1 l1 = some r) :
    Calls Try.prog 51 #[.agg #[.int .i64 a0_0, .slice A0_1 l0_1.length c0_1], .slice A1 l1.length c1] w fun e w' => e = .returned (.bool r) ∧ Below w.heap.size w w' := by
  unfold mount_Fits.f at h
  have hg : ∀ x, x ∈ l1 → InWord x := by
    by_cases q : ∀ x, x ∈ l1 → InWord x
    · exact q
    · rw [if_neg q] at h; simp at h
  rw [if_pos hg] at h
  have HF := Aside0.mk (Option.some.inj h)
  have HR := Aside0.mk hr0_1
  have HR1 := Aside0.mk hr1
  have HG := Aside0.mk hg
  have HM := Aside0.mk (Mem.start w)
  have HCC := Aside0.mk (fun W hW => mount_CheckChain.calls a0_0 A0_1 c0_1 l0_1 (chainErr a0_0 l0_1) W hW hc0_1 rfl)
  clear h hr0_1 hr1 hg
  have hu27 := Try.underlying27
  by_cases he : chainErr a0_0 l0_1 = 0
  · have HF2 : Aside0 (mount_fits.f a0_0 l0_1 l1 = some r) := ⟨by unfold mount_fits.f; rw [if_pos ⟨HG.out, chainErr_links he⟩, ← HF.out, decide_eq_true he]; rfl⟩
    rw [he] at HCC
    clear he HF
    go_enter Try.func51, Try.ntmps51
    go_wp2_with (first
      | ((with_reducible refine gate_dst (N := 2) rfl ?_); refine ev_box HM.out rfl 27 (.tmp 0) rfl (cs := #[.int .i64 a0_0, .slice A0_1 l0_1.length c0_1]) rfl ?_; intro g1 w1 hm1 hq1; clear hq1; have HM1 := Aside0.mk hm1; clear hm1 HM)
      | ((with_reducible refine gate_dst (N := 5) rfl ?_); refine ev_load HM1.out.head rfl 27 (.tmp 2) rfl rfl _ Try.underlying27 rfl (n := 2) (by kernel_rfl) rfl ?_)
      | (go_at_call 53; refine (HCC.out _ (Kd.C_below HR.out HM1.out.below)).mono ?_; rintro e w2 ⟨rfl, hd⟩; have HM2 := Aside0.mk (HM1.out.step hd); have c0 : w2.cell? ⟨g1, 0, none⟩ = some (.int .i64 a0_0) := (HM2.out.cell 0).trans rfl; have c1_ : w2.cell? ⟨g1, 1, none⟩ = some (.slice A0_1 l0_1.length c0_1) := (HM2.out.cell 1).trans rfl; clear hd HM1)
      | (go_at_call 110; refine (mount_fits.calls a0_0 A0_1 c0_1 l0_1 A1 c1 l1 r _ (Kd.C_below HR.out HM2.out.below) hc0_1 (Kd.C_below HR1.out HM2.out.below) hc1 HF2.out).mono ?_; rintro e w3 ⟨rfl, hd⟩; have HB3 := Aside0.mk (below_step HM2.out.below hd); clear hd))
    go_ret
    exact ⟨rfl, HB3.out⟩
  · have HF2 : Aside0 (r = false) := ⟨by rw [← HF.out, decide_eq_false he]; rfl⟩
    generalize chainErr a0_0 l0_1 = E at he HCC
    have t1 : (E == 0) = false := by simpa using he
    clear he HF
    go_enter Try.func51, Try.ntmps51
    go_wp2_with (first
      | ((with_reducible refine gate_dst (N := 2) rfl ?_); refine ev_box HM.out rfl 27 (.tmp 0) rfl (cs := #[.int .i64 a0_0, .slice A0_1 l0_1.length c0_1]) rfl ?_; intro g1 w1 hm1 hq1; clear hq1; have HM1 := Aside0.mk hm1; clear hm1 HM)
      | ((with_reducible refine gate_dst (N := 5) rfl ?_); refine ev_load HM1.out.head rfl 27 (.tmp 2) rfl rfl _ Try.underlying27 rfl (n := 2) (by kernel_rfl) rfl ?_)
      | (go_at_call 53; refine (HCC.out _ (Kd.C_below HR.out HM1.out.below)).mono ?_; rintro e w2 ⟨rfl, hd⟩; have HM2 := Aside0.mk (HM1.out.step hd); clear hd HM1))
    go_ret
    exact ⟨by rw [HF2.out]; rfl, HM2.out.below⟩
end Go.Proofs.Ytbcfphoheijmdaa.Print
end

section
/- Plain law of MountReached: far and near positions fit, reach the ends of tight ranges and keep to all of them. -/
namespace Go.Proofs.Ytbcfphoheijmdaa.Print
open Go.RowKit Go.Proofs.YtbcfphoheijmdaaW.PrintWords Go.Proofs.YtbcfphoheijmdaaW.PrintLast Go.Proofs.YtbcfphoheijmdaaW.PrintMore Go.Proofs.Ytbcfphoheijmdaa.H
set_option linter.unusedVariables false
set_option linter.unusedSimpArgs false

/-- The far (or near) positions. -/
def endsL (high : Bool) (n : Nat) (T : List Int) (a : Nat) : List Int := (List.range n).map (fun b => endOf high (spanOf T a b))
theorem endsL_len (high : Bool) (n : Nat) (T : List Int) (a : Nat) : (endsL high n T a).length = n := by simp [endsL]
theorem endsL_get (high : Bool) (n : Nat) (T : List Int) (a i : Nat) (h : i < n) : (endsL high n T a).getD i 0 = endOf high (spanOf T a i) := by
  simp [endsL, List.getD_eq_getElem?_getD, h]
theorem endOf_hi (T : List Int) (a b : Nat) : endOf true (spanOf T a b) = tf T a b := rfl
theorem endOf_lo (T : List Int) (a b : Nat) : endOf false (spanOf T a b) = -(tf T b a) := rfl
theorem ends_ok {n : Nat} {L : List S35} {a : Nat} (high : Bool) (h : (tightOf n L).2 = 0) (ha : a < n) : endsRes high n L a = (endsL high n (tightOf n L).1 a, 0) := by
  unfold endsRes endsL
  rw [if_pos h, if_pos (by omega), Int.toNat_natCast, Int.toNat_natCast]
theorem Tog.zero {n : Nat} {L : List S35} {T : List Int} (h : Tog n L T) (high : Bool) {a : Nat} (ha : a < n) : endOf high (spanOf T a a) = 0 := by
  have s := h.is.self a ha
  cases high with
  | true => rw [endOf_hi, s]
  | false => rw [endOf_lo, s]; rfl
end Go.Proofs.Ytbcfphoheijmdaa.Print
end

section
/- Plain law of MountTurns: where turns stand. -/
namespace Go.Proofs.Ytbcfphoheijmdaa.Print
open Go.RowKit Go.Proofs.YtbcfphoheijmdaaW.PrintWords Go.Proofs.YtbcfphoheijmdaaW.PrintLast Go.Proofs.YtbcfphoheijmdaaW.PrintMore Go.Proofs.Ytbcfphoheijmdaa.H
set_option linter.unusedVariables false
set_option linter.unusedSimpArgs false

theorem chain_ok {n : Nat} {L : List S35} (h1 : 1 ≤ n ∧ n ≤ 24) (h2 : L.length ≤ 80) (h3 : ∀ l, l ∈ L → linkErr n l = 0) (h4 : ∀ j, j < n → (rootsOf L).getD j 0 = 0) : chainErr n L = 0 := by
  unfold chainErr
  rw [if_neg (by omega), if_neg (by omega)]
  have hn : L.find? (fun l => linkErr n l != 0) = none := by
    rw [List.find?_eq_none]
    intro l' hl'
    simp [h3 l' hl']
  rw [hn]
  simp only []
  rw [if_pos (roots_all h4 (by rw [rootsOf_length]; omega))]
def bare (l : S35) : S35 := ⟨l.f0, l.f1, ⟨0, 0⟩⟩
theorem roots_bare (L : List S35) : rootsOf (L.map bare) = rootsOf L := by
  unfold rootsOf
  generalize (List.range 24).map (fun (i : Nat) => (i : Int)) = R
  induction L generalizing R with
  | nil => rfl
  | cons l L ih => exact ih _
theorem windTo_bare (f w p : S32) : ∀ j, (windTo f w p j).map bare = windTo ⟨0, 0⟩ ⟨0, 0⟩ ⟨0, 0⟩ j
  | 0 => rfl
  | j + 1 => by
    rw [windTo, windTo, List.map_append, List.map_append, windTo_bare f w p j]
    congr 1
    by_cases h : 0 < j
    · rw [if_pos h, if_pos h]; rfl
    · rw [if_neg h, if_neg h]; rfl
theorem wind_roots0 : ∀ t, t ≤ 11 → ∀ j, j < 2 * t + 1 → (rootsOf (windTo ⟨0, 0⟩ ⟨0, 0⟩ ⟨0, 0⟩ t)).getD j 0 = 0 := by decide +kernel
theorem wind_roots (f w p : S32) (t : Nat) (ht : t ≤ 11) (j : Nat) (hj : j < 2 * t + 1) : (rootsOf (windTo f w p t)).getD j 0 = 0 := by
  rw [← roots_bare, windTo_bare]
  exact wind_roots0 t ht j hj
/-- What is true of all links of the turns. -/
theorem windTo_all {Q : S35 → Prop} {f w p : S32} (h0 : Q ⟨0, 1, f⟩) : ∀ t : Nat, (∀ j, j < t → Q ⟨2 * (j : Int) + 1, 2 * (j : Int) + 2, w⟩) → (∀ j, 0 < j → j < t → Q ⟨2 * (j : Int) - 1, 2 * (j : Int) + 1, p⟩) → ∀ l, l ∈ windTo f w p t → Q l
  | 0, _, _, l, hl => by
    rw [windTo] at hl
    rw [List.mem_singleton.1 hl]
    exact h0
  | t + 1, h1, h2, l, hl => by
    rw [windTo] at hl
    rcases List.mem_append.1 hl with hl | hl
    · rcases List.mem_append.1 hl with hl | hl
      · exact windTo_all h0 t (fun j hj => h1 j (by omega)) (fun j hj hjt => h2 j hj (by omega)) l hl
      · rw [List.mem_singleton.1 hl]
        exact h1 t (by omega)
    · by_cases q : 0 < t
      · rw [if_pos q] at hl
        rw [List.mem_singleton.1 hl]
        exact h2 t q (by omega)
      · rw [if_neg q] at hl
        cases hl
theorem windTo_first (f w p : S32) : ∀ t, (⟨0, 1, f⟩ : S35) ∈ windTo f w p t
  | 0 => by simp [windTo]
  | t + 1 => by rw [windTo]; exact List.mem_append_left _ (List.mem_append_left _ (windTo_first f w p t))
theorem windTo_wire (f w p : S32) : ∀ t j, j < t → (⟨2 * (j : Int) + 1, 2 * (j : Int) + 2, w⟩ : S35) ∈ windTo f w p t
  | 0, j, h => by omega
  | t + 1, j, h => by
    rw [windTo]
    by_cases q : j = t
    · subst q
      exact List.mem_append_left _ (List.mem_append_right _ (by simp))
    · exact List.mem_append_left _ (List.mem_append_left _ (windTo_wire f w p t j (by omega)))
theorem windTo_pitch (f w p : S32) : ∀ t j, 0 < j → j < t → (⟨2 * (j : Int) - 1, 2 * (j : Int) + 1, p⟩ : S35) ∈ windTo f w p t
  | 0, j, _, h => by omega
  | t + 1, j, h0, h => by
    rw [windTo]
    by_cases q : j = t
    · subst q
      rw [if_pos h0]
      exact List.mem_append_right _ (by simp)
    · exact List.mem_append_left _ (List.mem_append_left _ (windTo_pitch f w p t j h0 (by omega)))
/-- A valid winding's chain is valid. -/
theorem wind_valid {w : S72} (h : windErr w = 0) : chainErr (2 * w.f0 + 1) (windLinks w) = 0 := by
  obtain ⟨t, ⟨w0, w1⟩, ⟨p0, p1⟩, ⟨s0, s1⟩, ⟨f0, f1⟩, ⟨l0, l1⟩⟩ := w
  have ht : 1 ≤ t ∧ t ≤ 11 := by
    by_cases q : 1 ≤ t ∧ t ≤ 11
    · exact q
    · unfold windErr at h; rw [if_neg q] at h; omega
  unfold windErr at h
  rw [if_pos ht] at h
  simp only [] at h
  have out : ∀ r : S32, ∀ low high : Int, rngErr r low high = 0 → r.f0 ≤ r.f1 ∧ low ≤ r.f0 ∧ r.f1 ≤ high := fun r low high hr => by
    unfold rngErr at hr
    split at hr
    · omega
    · split at hr
      · omega
      · omega
  have h1 : rngErr ⟨w0, w1⟩ 1 10000 = 0 := by
    by_cases q : rngErr ⟨w0, w1⟩ 1 10000 = 0
    · exact q
    · rw [if_pos q] at h; exact h
  rw [if_neg (by simpa using h1)] at h
  have h2 : rngErr ⟨p0, p1⟩ 1 10000 = 0 := by
    by_cases q : rngErr ⟨p0, p1⟩ 1 10000 = 0
    · exact q
    · rw [if_pos q] at h; exact h
  rw [if_neg (by simpa using h2)] at h
  have h3 : rngErr ⟨s0, s1⟩ 0 1000000 = 0 := by
    by_cases q : rngErr ⟨s0, s1⟩ 0 1000000 = 0
    · exact q
    · rw [if_pos q] at h; exact h
  rw [if_neg (by simpa using h3)] at h
  have h4 : rngErr ⟨f0, f1⟩ 0 1000000 = 0 := by
    by_cases q : rngErr ⟨f0, f1⟩ 0 1000000 = 0
    · exact q
    · rw [if_pos q] at h; exact h
  rw [if_neg (by simpa using h4)] at h
  have b1 := out _ _ _ h1
  have b2 := out _ _ _ h2
  have b3 := out _ _ _ h3
  have b4 := out _ _ _ h4
  have b5 := out _ _ _ h
  simp only [] at b1 b2 b3 b4 b5
  obtain ⟨m, rfl⟩ : ∃ m : Nat, t = m := ⟨t.toNat, by omega⟩
  have m0 : 0 ≤ p0 * s0 ∧ p0 * s0 ≤ p1 * s1 ∧ p1 * s1 ≤ 10000000000 := by
    have a1 : p0 * s0 ≤ p1 * s0 := Int.mul_le_mul_of_nonneg_right (by omega) (by omega)
    have a2 : p1 * s0 ≤ p1 * s1 := Int.mul_le_mul_of_nonneg_left (by omega) (by omega)
    have a3 : p1 * s1 ≤ 10000 * s1 := Int.mul_le_mul_of_nonneg_right (by omega) (by omega)
    exact ⟨Int.mul_nonneg (by omega) (by omega), by omega, by omega⟩
  have q0 : Int.tdiv (p0 * s0) 1000000 = p0 * s0 / 1000000 := Int.tdiv_eq_ediv_of_nonneg (by omega)
  have q1 : Int.tdiv (p1 * s1 + 1000000 - 1) 1000000 = (p1 * s1 + 1000000 - 1) / 1000000 := Int.tdiv_eq_ediv_of_nonneg (by omega)
  show chainErr (2 * (m : Int) + 1) (windTo ⟨f0, f1⟩ ⟨w0, w1⟩ ⟨p0 + Int.tdiv (p0 * s0) 1000000, p1 + Int.tdiv (p1 * s1 + 1000000 - 1) 1000000⟩ ((m : Int).toNat) ++ (if 1 < (m : Int) then [⟨1, 2 * (m : Int), ⟨l0, l1⟩⟩] else [])) = 0
  rw [q0, q1, Int.toNat_natCast]
  generalize p0 * s0 = x0 at m0 ⊢
  generalize p1 * s1 = x1 at m0 ⊢
  have hlen := windTo_length ⟨f0, f1⟩ ⟨w0, w1⟩ ⟨p0 + x0 / 1000000, p1 + (x1 + 1000000 - 1) / 1000000⟩ m
  have hn : ((2 * m + 1 : Nat) : Int) = 2 * (m : Int) + 1 := by omega
  have hbase : chainErr ((2 * m + 1 : Nat) : Int) (windTo ⟨f0, f1⟩ ⟨w0, w1⟩ ⟨p0 + x0 / 1000000, p1 + (x1 + 1000000 - 1) / 1000000⟩ m) = 0 := by
    refine chain_ok (by omega) (by omega) ?_ (fun j hj => wind_roots _ _ _ m (by omega) j (by omega))
    have hle : ∀ (a b lo hi : Int), 0 ≤ a → a < 2 * (m : Int) + 1 → 0 ≤ b → b < 2 * (m : Int) + 1 → a ≠ b → lo ≤ hi → -1000000 ≤ lo → hi ≤ 1000000 → linkErr ((2 * m + 1 : Nat) : Int) ⟨a, b, ⟨lo, hi⟩⟩ = 0 := fun a b lo hi y1 y2 y3 y4 y5 y6 y7 y8 => by
      unfold linkErr
      simp only []
      rw [if_neg (by omega), if_neg (by omega), if_neg (by omega), if_neg (by omega)]
    refine windTo_all (Q := fun l => linkErr ((2 * m + 1 : Nat) : Int) l = 0) (hle _ _ _ _ (by omega) (by omega) (by omega) (by omega) (by omega) (by omega) (by omega) (by omega)) m (fun j hj => hle _ _ _ _ (by omega) (by omega) (by omega) (by omega) (by omega) (by omega) (by omega) (by omega)) (fun j hj hjm => hle _ _ _ _ (by omega) (by omega) (by omega) (by omega) (by omega) (by omega) (by omega) (by omega))
  by_cases h1 : 1 < (m : Int)
  · rw [if_pos h1, ← hn]
    refine chainErr_snoc hbase (by omega) ?_
    unfold linkErr
    simp only []
    rw [if_neg (by omega), if_neg (by omega), if_neg (by omega), if_neg (by omega)]
  · rw [if_neg h1, ← hn, List.append_nil]
    exact hbase
end Go.Proofs.Ytbcfphoheijmdaa.Print
end
