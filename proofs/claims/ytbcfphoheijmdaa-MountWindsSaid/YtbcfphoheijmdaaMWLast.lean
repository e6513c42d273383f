/- Proved: for every winding, and for the winding that is made of any list of numbers, the chain of the winding, or the error, is the reference's. Conditions: none beyond those of the statement MountWindsSaid. -/
import Derived.Test.YtbcfphoheijmdaaRows
import Derived.Test.YtbcfphoheijmdaaMW8
import Derived.WalkKit
import Derived.ProofKit
import Derived.OpenShut
import Derived.ShutString
import Derived.ChangeOld
import Derived.Below
import Derived.SizedLaws
import Derived.Test.YtbcfphoheijmdaaMW9
section
/- Proved: for every winding, and for the winding that is made of any list of numbers, the chain of the winding, or the error, is the reference's. Conditions: none beyond those of the statement MountWindsSaid. -/
namespace Go.Proofs.Ytbcfphoheijmdaa.Print
open Go.RowKit Go.Proofs.YtbcfphoheijmdaaW.PrintWords Go.Proofs.YtbcfphoheijmdaaW.PrintLast Go.Proofs.YtbcfphoheijmdaaW.PrintMore
theorem mountWinds_walk (x0_0 x0_1 x0_2 x0_3 x0_4 x0_5 x0_6 x0_7 x0_8 x0_9 x0_10 : Int) (a1 : Option Addr) (len1 cap1 : Nat) (z1 : List Int) (w : World) (w1 : (a1 = none ∧ len1 = 0 ∧ cap1 = 0 ∧ z1 = []) ∨ ∃ x, a1 = some x ∧ len1 ≤ cap1 ∧ cap1 ≤ maxLen ∧ z1.length = cap1 ∧ (∀ i, i < z1.length → w.cell? (x.add i) = some (.int .i64 (z1.getD i 0))) ∧ ∀ n ∈ z1, (Lit.int .i64 n).wf = true) :
    Calls Try.prog 7 #[.agg #[.int .i64 x0_0, .int .i64 x0_1, .int .i64 x0_2, .int .i64 x0_3, .int .i64 x0_4, .int .i64 x0_5, .int .i64 x0_6, .int .i64 x0_7, .int .i64 x0_8, .int .i64 x0_9, .int .i64 x0_10], .slice a1 len1 cap1] w fun e w' => e = .returned (.bool true) ∧ Below w.heap.size w w' := by
  obtain ⟨l1, rfl, hr1, hm1, hw1, hc1⟩ := ReadsInt.ofRowC w1
  replace hr1 := Kd.C_of_reads (d := (0 : Int)) (h1 := fun _ => rfl) hr1
  exact thermionlaw04_MountWinds.calls 1010 x0_0 x0_1 x0_2 x0_3 x0_4 x0_5 x0_6 x0_7 x0_8 x0_9 x0_10 _ _ l1 true w hr1 hc1 (winds_true _ _ _ _ _ _ _ _ _ _ _ _)
end Go.Proofs.Ytbcfphoheijmdaa.Print
namespace Go.Proofs.Ytbcfphoheijmdaa.mountWinds
open Print (mountWinds_walk)
open Go.ChangeShapes Go.WideShapes Go.ChangeAt Go.RowKit
open Go.ChangeMaps (open_string shut_string)
set_option linter.unusedVariables false
theorem list_cons {l : List Int} {n : Nat} (h : l.length = n + 1) : ∃ a t, l = a :: t ∧ t.length = n := by
  cases l with
  | nil => simp at h
  | cons a t => exact ⟨a, t, rfl, by simpa using h⟩
/-- A struct of whole numbers, opened. -/
theorem struct_ints {P : Program} {w : World} {r : Reach} {base : Nat} {t : TypeId} {fs : Array Field} {n : Nat} {v : Value} (ht : P.underlying t = some (.struct fs)) (hts : P.cellTypes P.depth t = some (List.replicate n 3)) (hn : P.cellsOf t = n) (h3 : P.underlying 3 = some (.int .i64))
    (h : Value.okWide P w r base t v) : ∃ l : List Int, l.length = n ∧ v = .agg (l.map (Value.int .i64)).toArray := by
  simp only [Value.okWide, ht] at h
  obtain ⟨cs, rfl, hsz, ts, hts2, _, hc⟩ := h
  rw [hts] at hts2
  obtain rfl := Option.some.inj hts2
  rw [hn] at hsz
  have hall : ∀ i v, cs[i]? = some v → ∃ x, v = Value.int .i64 x := fun i v hv => by
    obtain ⟨u, hu, hk⟩ := hc i v hv
    rw [List.getElem?_replicate] at hu
    have hu3 : u = 3 := by
      split at hu
      · exact (Option.some.inj hu).symm
      · cases hu
    subst hu3
    refine okWide_int (w := w) (r := r) (base := base) h3 ?_
    simp only [Value.okWide, h3]
    exact hk
  refine ⟨cs.toList.map (fun v => match v with | .int _ x => x | _ => 0), by simp [hsz], ?_⟩
  congr 1
  apply Array.ext'
  apply List.ext_getElem?
  intro i
  simp only [List.getElem?_map, Array.getElem?_toList]
  cases hq : cs[i]? with
  | none => rfl
  | some v =>
    obtain ⟨x, rfl⟩ := hall i v hq
    rfl
theorem own : ownKnob Try.prog.godebug = none := by kernel_rfl
theorem laidOut : laidOutB Try.prog = true := by kernel_rfl
def IsRow (k : IntKind) (w : World) (a : Option Addr) (len cap : Nat) (zs : List Int) : Prop :=
 (a = none ∧ len = 0 ∧ cap = 0 ∧ zs = []) ∨
 ∃ x, a = some x ∧ len ≤ cap ∧ cap ≤ maxLen ∧ zs.length = cap ∧ (∀ i, i < zs.length → w.cell? (x.add i) = some (.int k (zs.getD i 0))) ∧ ∀ n ∈ zs, (Lit.int k n).wf = true
set_option maxRecDepth 100000 in
theorem lifted (os : Os) (started : os.Started) (H : Type) (enc : TypeId × Value → H) :
  ReturnsInHanded {} Try.checked os 7 .any (Rows.mountWindsSpec.pre6 enc Try.prog Try.f7 Rows.mountWindsRow.domain false) (Rows.mountWindsSpec.post enc Try.prog Try.f7 false true false false) := by
 refine returnsInHanded_of_change_sized (C := Try.checked) own started (by kernel_rfl) Try.func7
  (ChangeSpec.witness6 (enc := enc) (C := Try.checked) false ⟨#[], #[.agg #[.int .i64 0, .int .i64 0, .int .i64 0, .int .i64 0, .int .i64 0, .int .i64 0, .int .i64 0, .int .i64 0, .int .i64 0, .int .i64 0, .int .i64 0], .slice none 0 0], []⟩ 8 (by kernel_rfl) (by kernel_rfl) (by kernel_rfl) (by kernel_rfl)) ?_
 intro W base args ds gs before hval0 hW hcnd hsz0 _
 have hval : ∀ (j : Nat) t v, Try.f7.params[j]? = some t → args[j]? = some v → Value.okWide Try.prog W .any base t v := hval0
 have hW' := hW
 obtain ⟨p, q, hA0, hV, rfl, hfz, hnd⟩ := hW
 have hA : DataW.TrodAll enc Try.prog W 0 (fun _ => true) true Try.f7.params.toList args.toList ds p := hA0
 rw [Try.params7] at hA hval
 obtain ⟨v0, vs0, d0, ds0, p0, q0_, hargs, rfl, rfl, h0, r0⟩ := trodAll_cons hA
 obtain ⟨v1, vs1, d1, ds1, p1, q1_, rfl, rfl, rfl, h1, r1⟩ := trodAll_cons r0
 obtain ⟨rfl, rfl, rfl⟩ := trodAll_nil r1
 obtain rfl : args = #[v0, v1] := by cases args; simp_all
 obtain ⟨rfl, rfl⟩ := trodVars_none hV
 obtain ⟨q0, hq0, hv0⟩ := struct_ints Try.underlying72 (by kernel_rfl) (n := 11) (by kernel_rfl) Try.underlying3 (hval 0 72 v0 rfl rfl)
 obtain ⟨x0_0, qq0_0, rfl, hqq0_0⟩ := list_cons hq0
 obtain ⟨x0_1, qq0_1, rfl, hqq0_1⟩ := list_cons hqq0_0
 obtain ⟨x0_2, qq0_2, rfl, hqq0_2⟩ := list_cons hqq0_1
 obtain ⟨x0_3, qq0_3, rfl, hqq0_3⟩ := list_cons hqq0_2
 obtain ⟨x0_4, qq0_4, rfl, hqq0_4⟩ := list_cons hqq0_3
 obtain ⟨x0_5, qq0_5, rfl, hqq0_5⟩ := list_cons hqq0_4
 obtain ⟨x0_6, qq0_6, rfl, hqq0_6⟩ := list_cons hqq0_5
 obtain ⟨x0_7, qq0_7, rfl, hqq0_7⟩ := list_cons hqq0_6
 obtain ⟨x0_8, qq0_8, rfl, hqq0_8⟩ := list_cons hqq0_7
 obtain ⟨x0_9, qq0_9, rfl, hqq0_9⟩ := list_cons hqq0_8
 obtain ⟨x0_10, qq0_10, rfl, hqq0_10⟩ := list_cons hqq0_9
 obtain rfl := List.eq_nil_of_length_eq_zero hqq0_10
 obtain rfl : v0 = .agg #[.int .i64 x0_0, .int .i64 x0_1, .int .i64 x0_2, .int .i64 x0_3, .int .i64 x0_4, .int .i64 x0_5, .int .i64 x0_6, .int .i64 x0_7, .int .i64 x0_8, .int .i64 x0_9, .int .i64 x0_10] := hv0
 have k0 := h0
 have lt0 : ∀ x ∈ p0, x.block < W.heap.size := by obtain ⟨m, hm⟩ := k0; exact DataW.trod_lt m _ _ _ hm
 obtain ⟨a1, len1, cap1, rfl⟩ := okWide_slice Try.underlying22 (hval 1 22 v1 rfl rfl)
 have k1 := h1
 have lt1 : ∀ x ∈ p1, x.block < W.heap.size := by obtain ⟨m, hm⟩ := k1; exact DataW.trod_lt m _ _ _ hm
 obtain ⟨z1, w1⟩ : ∃ zs, IsRow .i64 W a1 len1 cap1 zs := by
  obtain ⟨fuel, hf⟩ := h1
  rcases open_ints Try.underlying22 Try.underlying3 (by kernel_rfl) hf with ⟨hcs, _⟩ | ⟨x, l, c, zs, hcs, _, hl, hm, hz, _, hcell, hwz⟩
  ·simp [Value.cells] at hcs
   obtain ⟨rfl, rfl, rfl⟩ := hcs
   exact ⟨[], .inl ⟨rfl, rfl, rfl, rfl⟩⟩
  ·simp [Value.cells] at hcs
   obtain ⟨rfl, rfl, rfl⟩ := hcs
   exact ⟨zs, .inr ⟨_, rfl, hl, hm, by simpa using hz, hcell, hwz⟩⟩
 clear hA0 hval0 hsz0
 refine (mountWinds_walk x0_0 x0_1 x0_2 x0_3 x0_4 x0_5 x0_6 x0_7 x0_8 x0_9 x0_10 a1 len1 cap1 z1 W w1).mono fun e W' ⟨he, bel⟩ => ?_
 subst he
 exact ⟨_, rfl, _, _, _, [], _, [], hW', trodAll_mk1 (shut_bool Try.underlying4 _), (trodAll_cons_mk (Below.trod laidOut (by kernel_rfl) (of_decide_eq_true (by kernel_rfl)) k0 bel lt0) (trodAll_cons_mk (Below.trod laidOut (by kernel_rfl) (of_decide_eq_true (by kernel_rfl)) k1 bel lt1) trodAll_mk0)), rfl, bel.frame _, fun h => by cases h⟩
theorem over : Rows.mountWindsRow.holds Try.pinned (OpenSpec.ofChange Rows.mountWindsSpec) :=
 OpenClaim.holds_of_wide 7 Try.f7 rfl rfl rfl rfl rfl rfl rfl ⟨rfl, rfl, rfl, rfl, rfl⟩ rfl rfl rfl rfl rfl (by kernel_rfl) Try.func7 (by kernel_rfl)
  (of_decide_eq_true (by kernel_rfl)) (by unfold Func.isWrapper; first | (rw [if_pos (by decide +kernel)]; kernel_rfl) | (rw [if_neg (by decide +kernel)]; exact ⟨rfl, rfl⟩))
  (fun os started H enc _ => lifted os started H enc)
theorem proved : Rows.MountWindsSaid := over
end Go.Proofs.Ytbcfphoheijmdaa.mountWinds
namespace Go.Proofs.Ytbcfphoheijmdaa
/-- The row, under a short name, for the claim. -/
theorem mountWinds_holds : Rows.MountWindsSaid := mountWinds.proved
end Go.Proofs.Ytbcfphoheijmdaa
end
