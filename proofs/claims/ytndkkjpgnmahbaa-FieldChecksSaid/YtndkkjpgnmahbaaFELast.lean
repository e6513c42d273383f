/- Proved: which plans and voltages are valid, electrodes, weights, which plans are equal, and copies are those of the reference, and nothing is changed. Conditions: none beyond those of the statement FieldChecksSaid. -/
import Derived.Test.YtndkkjpgnmahbaaRows
import Derived.Test.YtndkkjpgnmahbaaFE6
import Derived.WalkKit
import Derived.ProofKit
import Derived.OpenShut
import Derived.ShutString
import Derived.ChangeOld
import Derived.Below
import Derived.SizedLaws
section
namespace Go.Proofs.Ytndkkjpgnmahbaa.Print
open Go.RowKit Go.Proofs.YtndkkjpgnmahbaaW.PrintWords Go.Proofs.YtndkkjpgnmahbaaW.PrintLast Go.Proofs.YtndkkjpgnmahbaaW.PrintMore
theorem fieldChecks_walk (W0 H0 : Int) (R0 : Bool) (A0 : Option Addr) (c0 : Nat) (L0 : List Int) (W1 H1 : Int) (R1 : Bool) (A1 : Option Addr) (c1 : Nat) (L1 : List Int) (a2 : Option Addr) (len2 cap2 : Nat) (z2 : List Int) (a3 : Option Addr) (len3 cap3 : Nat) (z3 : List Int) (a4 : Int) (a5 : Int) (w : World) (w0 : Word64 W0 ∧ Word64 H0 ∧ Kd.C (Kd.int .i64) w A0 L0.length L0 ∧ L0.length ≤ c0 ∧ ∀ y, y ∈ L0 → Word64 y) (w1 : Word64 W1 ∧ Word64 H1 ∧ Kd.C (Kd.int .i64) w A1 L1.length L1 ∧ L1.length ≤ c1 ∧ ∀ y, y ∈ L1 → Word64 y) (w2 : (a2 = none ∧ len2 = 0 ∧ cap2 = 0 ∧ z2 = []) ∨ ∃ x, a2 = some x ∧ len2 ≤ cap2 ∧ cap2 ≤ maxLen ∧ z2.length = cap2 ∧ (∀ i, i < z2.length → w.cell? (x.add i) = some (.int .i64 (z2.getD i 0))) ∧ ∀ n ∈ z2, (Lit.int .i64 n).wf = true) (w3 : (a3 = none ∧ len3 = 0 ∧ cap3 = 0 ∧ z3 = []) ∨ ∃ x, a3 = some x ∧ len3 ≤ cap3 ∧ cap3 ≤ maxLen ∧ z3.length = cap3 ∧ (∀ i, i < z3.length → w.cell? (x.add i) = some (.int .i64 (z3.getD i 0))) ∧ ∀ n ∈ z3, (Lit.int .i64 n).wf = true) :
    Calls Try.prog 11 #[.agg #[.int .i64 W0, .int .i64 H0, .bool R0, .slice A0 L0.length c0], .agg #[.int .i64 W1, .int .i64 H1, .bool R1, .slice A1 L1.length c1], .slice a2 len2 cap2, .slice a3 len3 cap3, .int .i64 a4, .int .i64 a5] w fun e w' => e = .returned (.bool true) ∧ Below w.heap.size w w' := by
  obtain ⟨l2, rfl, hr2, hm2, hw2, hc2⟩ := ReadsInt.ofRowC w2
  replace hr2 := Kd.C_of_reads (d := (0 : Int)) (h1 := fun _ => rfl) hr2
  obtain ⟨l3, rfl, hr3, hm3, hw3, hc3⟩ := ReadsInt.ofRowC w3
  replace hr3 := Kd.C_of_reads (d := (0 : Int)) (h1 := fun _ => rfl) hr3
  exact checks_calls W0 H0 R0 A0 c0 L0 W1 H1 R1 A1 c1 L1 a2 cap2 l2 a3 cap3 l3 a4 a5 w w0.2.2.1 w0.2.2.2.1 w1.2.2.1 w1.2.2.2.1 hr2 hc2 hr3 hc3
end Go.Proofs.Ytndkkjpgnmahbaa.Print
namespace Go.Proofs.Ytndkkjpgnmahbaa.fieldChecks
open Print (fieldChecks_walk)
open Go.ChangeShapes Go.WideShapes Go.ChangeAt Go.RowKit
open Go.ChangeMaps (open_string shut_string)
set_option linter.unusedVariables false
theorem struct_agg {P : Program} {w : World} {r : Reach} {base : Nat} {t : TypeId} {fs : Array Field} {v : Value} (ht : P.underlying t = some (.struct fs)) (h : Value.okWide P w r base t v) : ∃ cs, v = .agg cs := by
  simp only [Value.okWide, ht] at h
  obtain ⟨cs, rfl, _⟩ := h
  exact ⟨cs, rfl⟩
theorem own : ownKnob Try.prog.godebug = none := by kernel_rfl
theorem laidOut : laidOutB Try.prog = true := by kernel_rfl
def IsRow (k : IntKind) (w : World) (a : Option Addr) (len cap : Nat) (zs : List Int) : Prop :=
 (a = none ∧ len = 0 ∧ cap = 0 ∧ zs = []) ∨
 ∃ x, a = some x ∧ len ≤ cap ∧ cap ≤ maxLen ∧ zs.length = cap ∧ (∀ i, i < zs.length → w.cell? (x.add i) = some (.int k (zs.getD i 0))) ∧ ∀ n ∈ zs, (Lit.int k n).wf = true
set_option maxRecDepth 100000 in
theorem lifted (os : Os) (started : os.Started) (H : Type) (enc : TypeId × Value → H) :
  ReturnsInHanded {} Try.checked os 11 .any (Rows.fieldChecksSpec.pre6 enc Try.prog Try.f11 Rows.fieldChecksRow.domain false) (Rows.fieldChecksSpec.post enc Try.prog Try.f11 false true false false) := by
 refine returnsInHanded_of_change_sized (C := Try.checked) own started (by kernel_rfl) Try.func11
  (ChangeSpec.witness6 (enc := enc) (C := Try.checked) false ⟨#[], #[.agg #[.int .i64 0, .int .i64 0, .bool false, .slice none 0 0], .agg #[.int .i64 0, .int .i64 0, .bool false, .slice none 0 0], .slice none 0 0, .slice none 0 0, .int .i64 0, .int .i64 0], []⟩ 8 (by kernel_rfl) (by kernel_rfl) (by kernel_rfl) (by kernel_rfl)) ?_
 intro W base args ds gs before hval0 hW hcnd hsz0 _
 have hval : ∀ (j : Nat) t v, Try.f11.params[j]? = some t → args[j]? = some v → Value.okWide Try.prog W .any base t v := hval0
 have hW' := hW
 obtain ⟨p, q, hA0, hV, rfl, hfz, hnd⟩ := hW
 have hA : DataW.TrodAll enc Try.prog W 0 (fun _ => true) true Try.f11.params.toList args.toList ds p := hA0
 rw [Try.params11] at hA hval
 obtain ⟨v0, vs0, d0, ds0, p0, q0_, hargs, rfl, rfl, h0, r0⟩ := trodAll_cons hA
 obtain ⟨v1, vs1, d1, ds1, p1, q1_, rfl, rfl, rfl, h1, r1⟩ := trodAll_cons r0
 obtain ⟨v2, vs2, d2, ds2, p2, q2_, rfl, rfl, rfl, h2, r2⟩ := trodAll_cons r1
 obtain ⟨v3, vs3, d3, ds3, p3, q3_, rfl, rfl, rfl, h3, r3⟩ := trodAll_cons r2
 obtain ⟨v4, vs4, d4, ds4, p4, q4_, rfl, rfl, rfl, h4, r4⟩ := trodAll_cons r3
 obtain ⟨v5, vs5, d5, ds5, p5, q5_, rfl, rfl, rfl, h5, r5⟩ := trodAll_cons r4
 obtain ⟨rfl, rfl, rfl⟩ := trodAll_nil r5
 obtain rfl : args = #[v0, v1, v2, v3, v4, v5] := by cases args; simp_all
 obtain ⟨rfl, rfl⟩ := trodVars_none hV
 have k0 := h0
 have lt0 : ∀ x ∈ p0, x.block < W.heap.size := by obtain ⟨m, hm⟩ := k0; exact DataW.trod_lt m _ _ _ hm
 obtain ⟨W0, H0, R0, A0, L0, c0, hv0, w0⟩ : ∃ (Wd Hd : Int) (R : Bool) (A : Option Addr) (L : List Int) (c : Nat), v0 = .agg #[.int .i64 Wd, .int .i64 Hd, .bool R, .slice A L.length c] ∧ (Print.Word64 Wd ∧ Print.Word64 Hd ∧ (Go.Proofs.YtndkkjpgnmahbaaW.PrintWords.Kd.int .i64).C W A L.length L ∧ L.length ≤ c ∧ ∀ y, y ∈ L → Print.Word64 y) := by
  obtain ⟨fuel, hf⟩ := h0
  obtain ⟨Wd, Hd, R, A, L, c, hcs, hW, hH, hc, _, hC, hw⟩ := Print.trod_plan hf
  obtain ⟨cs, rfl⟩ := struct_agg Try.underlying24 (hval 0 24 v0 rfl rfl)
  exact ⟨Wd, Hd, R, A, L, c, by rw [show cs = #[.int .i64 Wd, .int .i64 Hd, .bool R, .slice A L.length c] from Array.ext' hcs], hW, hH, hC, hc, hw⟩
 subst hv0
 have k1 := h1
 have lt1 : ∀ x ∈ p1, x.block < W.heap.size := by obtain ⟨m, hm⟩ := k1; exact DataW.trod_lt m _ _ _ hm
 obtain ⟨W1, H1, R1, A1, L1, c1, hv1, w1⟩ : ∃ (Wd Hd : Int) (R : Bool) (A : Option Addr) (L : List Int) (c : Nat), v1 = .agg #[.int .i64 Wd, .int .i64 Hd, .bool R, .slice A L.length c] ∧ (Print.Word64 Wd ∧ Print.Word64 Hd ∧ (Go.Proofs.YtndkkjpgnmahbaaW.PrintWords.Kd.int .i64).C W A L.length L ∧ L.length ≤ c ∧ ∀ y, y ∈ L → Print.Word64 y) := by
  obtain ⟨fuel, hf⟩ := h1
  obtain ⟨Wd, Hd, R, A, L, c, hcs, hW, hH, hc, _, hC, hw⟩ := Print.trod_plan hf
  obtain ⟨cs, rfl⟩ := struct_agg Try.underlying24 (hval 1 24 v1 rfl rfl)
  exact ⟨Wd, Hd, R, A, L, c, by rw [show cs = #[.int .i64 Wd, .int .i64 Hd, .bool R, .slice A L.length c] from Array.ext' hcs], hW, hH, hC, hc, hw⟩
 subst hv1
 obtain ⟨a2, len2, cap2, rfl⟩ := okWide_slice Try.underlying22 (hval 2 22 v2 rfl rfl)
 have k2 := h2
 have lt2 : ∀ x ∈ p2, x.block < W.heap.size := by obtain ⟨m, hm⟩ := k2; exact DataW.trod_lt m _ _ _ hm
 obtain ⟨z2, w2⟩ : ∃ zs, IsRow .i64 W a2 len2 cap2 zs := by
  obtain ⟨fuel, hf⟩ := h2
  rcases open_ints Try.underlying22 Try.underlying3 (by kernel_rfl) hf with ⟨hcs, _⟩ | ⟨x, l, c, zs, hcs, _, hl, hm, hz, _, hcell, hwz⟩
  ·simp [Value.cells] at hcs
   obtain ⟨rfl, rfl, rfl⟩ := hcs
   exact ⟨[], .inl ⟨rfl, rfl, rfl, rfl⟩⟩
  ·simp [Value.cells] at hcs
   obtain ⟨rfl, rfl, rfl⟩ := hcs
   exact ⟨zs, .inr ⟨_, rfl, hl, hm, by simpa using hz, hcell, hwz⟩⟩
 obtain ⟨a3, len3, cap3, rfl⟩ := okWide_slice Try.underlying22 (hval 3 22 v3 rfl rfl)
 have k3 := h3
 have lt3 : ∀ x ∈ p3, x.block < W.heap.size := by obtain ⟨m, hm⟩ := k3; exact DataW.trod_lt m _ _ _ hm
 obtain ⟨z3, w3⟩ : ∃ zs, IsRow .i64 W a3 len3 cap3 zs := by
  obtain ⟨fuel, hf⟩ := h3
  rcases open_ints Try.underlying22 Try.underlying3 (by kernel_rfl) hf with ⟨hcs, _⟩ | ⟨x, l, c, zs, hcs, _, hl, hm, hz, _, hcell, hwz⟩
  ·simp [Value.cells] at hcs
   obtain ⟨rfl, rfl, rfl⟩ := hcs
   exact ⟨[], .inl ⟨rfl, rfl, rfl, rfl⟩⟩
  ·simp [Value.cells] at hcs
   obtain ⟨rfl, rfl, rfl⟩ := hcs
   exact ⟨zs, .inr ⟨_, rfl, hl, hm, by simpa using hz, hcell, hwz⟩⟩
 obtain ⟨a4, rfl, rfl, rfl, w4⟩ := open_int Try.underlying3 (hval 4 3 v4 rfl rfl) h4
 obtain ⟨a5, rfl, rfl, rfl, w5⟩ := open_int Try.underlying3 (hval 5 3 v5 rfl rfl) h5
 clear hA0 hval0 hsz0
 refine (fieldChecks_walk W0 H0 R0 A0 c0 L0 W1 H1 R1 A1 c1 L1 a2 len2 cap2 z2 a3 len3 cap3 z3 a4 a5 W w0 w1 w2 w3).mono fun e W' ⟨he, bel⟩ => ?_
 subst he
 exact ⟨_, rfl, _, _, _, [], _, [], hW', trodAll_mk1 (shut_bool Try.underlying4 _), (trodAll_cons_mk (Below.trod laidOut (by kernel_rfl) (of_decide_eq_true (by kernel_rfl)) k0 bel lt0) (trodAll_cons_mk (Below.trod laidOut (by kernel_rfl) (of_decide_eq_true (by kernel_rfl)) k1 bel lt1) (trodAll_cons_mk (Below.trod laidOut (by kernel_rfl) (of_decide_eq_true (by kernel_rfl)) k2 bel lt2) (trodAll_cons_mk (Below.trod laidOut (by kernel_rfl) (of_decide_eq_true (by kernel_rfl)) k3 bel lt3) (trodAll_cons_mk (shut_int Try.underlying3 w4) (trodAll_cons_mk (shut_int Try.underlying3 w5) trodAll_mk0)))))), rfl, bel.frame _, fun h => by cases h⟩
theorem over : Rows.fieldChecksRow.holds Try.pinned (OpenSpec.ofChange Rows.fieldChecksSpec) :=
 OpenClaim.holds_of_wide 11 Try.f11 rfl rfl rfl rfl rfl rfl rfl ⟨rfl, rfl, rfl, rfl, rfl⟩ rfl rfl rfl rfl rfl (by kernel_rfl) Try.func11 (by kernel_rfl)
  (of_decide_eq_true (by kernel_rfl)) (by unfold Func.isWrapper; first | (rw [if_pos (by decide +kernel)]; kernel_rfl) | (rw [if_neg (by decide +kernel)]; exact ⟨rfl, rfl⟩))
  (fun os started H enc _ => lifted os started H enc)
theorem proved : Rows.FieldChecksSaid := over
end Go.Proofs.Ytndkkjpgnmahbaa.fieldChecks
namespace Go.Proofs.Ytndkkjpgnmahbaa
theorem fieldChecks_holds : Rows.FieldChecksSaid := fieldChecks.proved
end Go.Proofs.Ytndkkjpgnmahbaa
end
