/- Part 4 of the texts of a claim about Ytbcfphoheijmdaa, put together by a program of this work: what the Go functions do, and that their calls do so. -/
import Derived.Test.YtbcfphoheijmdaaMR3
import Derived.Maps.Own
import Derived.Maps.OwnOps
import Derived.Maps.OwnSet
import Derived.Maps.Ext
import Derived.Maps.RangeWalk
import Derived.Deep.RegionHeld
section
/- The work of a kit in memory, and the parts that may go in: what they are, and that the Go function's call gives them. -/
namespace Go.Proofs.Ytbcfphoheijmdaa.Print
open Go.RowKit Go.Proofs.YtbcfphoheijmdaaW.PrintWords Go.Proofs.YtbcfphoheijmdaaW.PrintLast Go.Proofs.YtbcfphoheijmdaaW.PrintMore Go.Proofs.Ytbcfphoheijmdaa.H
attribute [local go_sem] max2_int min2_int max_two min_two max_three min_three max_four min_four
attribute [local go_sem ↓] Go.wp_at_zero Go.wp_at_succ
set_option linter.unusedVariables false
set_option linter.unusedSimpArgs false

def needsN (L : List S57) (p : Nat) : Nat := setN (L.getD p z57).f0
def barsN (L : List S57) (p : Nat) : Nat := setN (L.getD p z57).f1
/-- May part p go into state s? -/
def canGo (L : List S57) (s p : Nat) : Bool := !(s.testBit p) && (s &&& needsN L p == needsN L p) && (s &&& barsN L p == 0)
def partsTo (L : List S57) (s : Nat) (is : Nat → Bool) (i : Nat) : List Nat := (List.range i).filter (fun p => canGo L s p && is p)
def partsOf (L : List S57) (s : Nat) (is : Nat → Bool) : List Nat := partsTo L s is L.length
def ints (l : List Nat) : List Int := l.map (fun (p : Nat) => (p : Int))
theorem partsTo_next (L : List S57) (s : Nat) (is : Nat → Bool) (i : Nat) : partsTo L s is (i + 1) = partsTo L s is i ++ (if canGo L s i && is i then [i] else []) := by
  unfold partsTo
  rw [List.range_succ, List.filter_append]
  congr 1
  rw [List.filter_cons, List.filter_nil]
theorem partsTo_length (L : List S57) (s : Nat) (is : Nat → Bool) (i : Nat) : (partsTo L s is i).length ≤ i := by
  unfold partsTo
  exact Nat.le_trans (List.length_filter_le _ _) (by simp)
/-- The sets of the first i parts. -/
def setsTo (L : List S57) (f : S57 → List Int) (i : Nat) : List Int := (List.range i).map (fun p => ((setN (f (L.getD p z57)) : Nat) : Int))
/-- A kit that is valid enough for its work. -/
structure Fine (L : List S57) : Prop where
  short : L.length ≤ 14
  needs : ∀ p, p < L.length → ∀ x, x ∈ (L.getD p z57).f0 → 0 ≤ x ∧ x < L.length
  bars : ∀ p, p < L.length → ∀ x, x ∈ (L.getD p z57).f1 → 0 ≤ x ∧ x < L.length
theorem Fine.needs_lt {L : List S57} (h : Fine L) {p : Nat} (hp : p < L.length) : needsN L p < 2 ^ L.length := setN_lt _ (fun x hx => h.needs p hp x hx)
theorem Fine.bars_lt {L : List S57} (h : Fine L) {p : Nat} (hp : p < L.length) : barsN L p < 2 ^ L.length := setN_lt _ (fun x hx => h.bars p hp x hx)
theorem Fine.small {L : List S57} (h : Fine L) : 2 ^ L.length ≤ 2 ^ 14 := Nat.pow_le_pow_right (by omega) h.short
/-- The work of a kit, at block wb; its map is at block mb. -/
structure Work (w0 W : World) (wb mb : Nat) (L : List S57) (c : Int) (A0 : Option Addr) (c0 : Nat) (vn vb : Value) : Prop where
  blk : W.heap[wb]? = some (.cells #[.slice A0 L.length c0, .int .i64 c, vn, vb, .int .u32 ((2 ^ L.length - 1 : Nat) : Int), .map (some mb)] 158 (0, 0))
  needs : (Kd.int .u32).R 133 W w0.heap.size (fun k => k ≠ wb ∧ k ≠ mb) vn (setsTo L S57.f0 L.length)
  bars : (Kd.int .u32).R 133 W w0.heap.size (fun k => k ≠ wb ∧ k ≠ mb) vb (setsTo L S57.f1 L.length)
  ne : wb ≠ mb
  gew : w0.heap.size ≤ wb
  gem : w0.heap.size ≤ mb
  below : Below w0.heap.size w0 W
namespace Work
variable {w0 W W1 : World} {wb mb : Nat} {L : List S57} {c : Int} {A0 : Option Addr} {c0 : Nat} {vn vb : Value}
theorem grown (h : Work w0 W wb mb L c A0 c0 vn vb) (hg : W.grownBy W1 (some mb)) : Work w0 W1 wb mb L c A0 c0 vn vb :=
  ⟨blk_grown h.blk hg (by intro e; exact h.ne (Option.some.inj e)), Kd.R_grown h.needs hg (fun k hk e => hk.2 (Option.some.inj e)), Kd.R_grown h.bars hg (fun k hk e => hk.2 (Option.some.inj e)), h.ne, h.gew, h.gem, h.below.grown hg h.below.size (fun k hk => by rw [← Option.some.inj hk]; exact h.gem)⟩
theorem later (h : Work w0 W wb mb L c A0 c0 vn vb) (hb : Below W.heap.size W W1) : Work w0 W1 wb mb L c A0 c0 vn vb :=
  ⟨blk_below h.blk hb, Kd.R_below h.needs hb, Kd.R_below h.bars hb, h.ne, h.gew, h.gem, below_step h.below hb⟩
theorem lt (h : Work w0 W wb mb L c A0 c0 vn vb) : wb < W.heap.size := blk_lt h.blk
/-- The cells that the work of a part reads. -/
theorem at_ (h : Work w0 W wb mb L c A0 c0 vn vb) {p : Nat} (hp : p < L.length) : ∃ an cn ab cb, vn = .slice (some an) L.length cn ∧ vb = .slice (some ab) L.length cb ∧ W.cell? (an.add p) = some (.int .u32 ((needsN L p : Nat) : Int)) ∧ W.cell? (ab.add p) = some (.int .u32 ((barsN L p : Nat) : Int)) := by
  have key : ∀ (v : Value) (f : S57 → List Int), (Kd.int .u32).R 133 W w0.heap.size (fun k => k ≠ wb ∧ k ≠ mb) v (setsTo L f L.length) → ∃ a cc, v = .slice (some a) L.length cc ∧ W.cell? (a.add p) = some (.int .u32 ((setN (f (L.getD p z57)) : Nat) : Int)) := by
    intro v f hR
    obtain ⟨A, cc, he, hl, hC⟩ := Kd.R_reads hR
    have e1 : (setsTo L f L.length).length = L.length := by simp [setsTo]
    have := Kd.at_int hC (p : Int) (by omega) (by rw [e1]; omega)
    obtain ⟨ad, ea, hc⟩ := this
    refine ⟨ad, cc, by rw [he, ea, e1], ?_⟩
    rw [Int.toNat_natCast] at hc
    rw [hc]
    simp [rd, setsTo, hp]
  obtain ⟨an, cn, e1, h1⟩ := key vn S57.f0 h.needs
  obtain ⟨ab, cb, e2, h2⟩ := key vb S57.f1 h.bars
  exact ⟨an, cn, ab, cb, e1, e2, h1, h2⟩
theorem cell_n (h : Work w0 W wb mb L c A0 c0 vn vb) {p : Nat} (hp : p < L.length) {N cn : Nat} {an : Addr} (hN : needsN L p = N) (e : vn = .slice (some an) L.length cn) : W.cell? (an.add p) = some (.int .u32 (N : Int)) := by
  obtain ⟨an', cn', ab, cb, e1, _, h1, _⟩ := h.at_ hp
  rw [e] at e1
  injection e1 with q1 _ _
  injection q1 with q1
  rw [q1, h1, hN]
theorem cell_b (h : Work w0 W wb mb L c A0 c0 vn vb) {p : Nat} (hp : p < L.length) {B cb : Nat} {ab : Addr} (hB : barsN L p = B) (e : vb = .slice (some ab) L.length cb) : W.cell? (ab.add p) = some (.int .u32 (B : Int)) := by
  obtain ⟨an', cn', ab', cb', _, e1, _, h1⟩ := h.at_ hp
  rw [e] at e1
  injection e1 with q1 _ _
  injection q1 with q1
  rw [q1, h1, hB]
end Work
theorem grown_below {W W1 : World} (h : Below W.heap.size W W1) : W.grownBy W1 none := ⟨h.os, h.tape, h.output, h.size, fun k hk _ => h.block k hk⟩
theorem u32_and_eq {a b : Nat} (ha : a < 2 ^ 32) (hb : b < 2 ^ 32) : IntKind.u32.wrap ((BitVec.ofInt 32 (a : Int)).toNat) = (a : Int) := by
  have := ofInt_u32 a
  rw [show IntKind.u32.bits = 32 from rfl] at this
  rw [this, Nat.mod_eq_of_lt ha]
  exact wrap_u32 ha
theorem drawn_some {W W1 : World} (h : Drawn0 W W1) : ∃ m, W1 = W.drewN m := by
  obtain ⟨m, rfl⟩ := h
  exact ⟨m, rfl⟩
theorem has_quiet {s p : Int} {r : Bool} (h : mount_set_has.f s p = some r) {W : World} {n : Nat} : Calls Try.prog 135 #[.int .u32 s, .int .i64 p] (W.drewN n) fun e w'' => e = .returned (.bool r) ∧ ∃ m, w'' = W.drewN m :=
  Calls.quiet_of ((mount_set_has.calls s p r _ h).mono fun e w7 hh => ⟨hh.1, drawn_some hh.2⟩)
set_option maxHeartbeats 3200000 in
set_option maxRecDepth 100000 in
theorem parts_calls {w0 w : World} {wb mb : Nat} {L : List S57} {c : Int} {A0 : Option Addr} {c0 : Nat} {vn vb : Value} (hF : Fine L) (s : Nat) (hs : s < 2 ^ L.length) (id : Nat) (cap : Array Value) (is : Nat → Bool) (I : World → Prop)
    (hent : ∀ args W, Sem.run Try.prog (callFunc id args) W = .ok (.enter id args) W)
    (hW : Work w0 w wb mb L c A0 c0 vn vb) (hmw : mb < w.heap.size) (hI : I w) (hgrow : ∀ W W1 row, I W → W.grownBy W1 row → (∀ j, row = some j → w.heap.size ≤ j) → I W1)
    (hcall : ∀ p W, p < L.length → canGo L s p = true → I W → Work w0 W wb mb L c A0 c0 vn vb → Calls Try.prog id (#[.int .i64 (p : Int)] ++ cap) W fun e w' => e = .returned (.bool (is p)) ∧ I w' ∧ W.grownBy w' (some mb)) :
    Calls Try.prog 95 #[.pointer (some ⟨wb, 0, none⟩), .int .u32 (s : Int), .func (.func id) #[] cap] w fun e w' => ∃ v, e = .returned v ∧ (Kd.int .i64).R 3 w' w0.heap.size (fun k => w.heap.size ≤ k) v (ints (partsOf L s is)) ∧ I w' ∧ w.grownBy w' (some mb) ∧ Work w0 w' wb mb L c A0 c0 vn vb := by
  have HW := Aside0.mk hW
  have HI := Aside0.mk hI
  have HMW := Aside0.mk hmw
  have HG := Aside0.mk hgrow
  have HC := Aside0.mk hcall
  clear hW hI hgrow hcall hmw
  have h14 := hF.short
  have hs32 : s < 2 ^ 32 := by have := hF.small; omega
  have c0_ : w.cell? ⟨wb, 0, none⟩ = some (.slice A0 L.length c0) := (blk_cell HW.out.blk 0).trans rfl
  have hu158 := Try.underlying158
  go_enter Try.func95, Try.ntmps95
  go_wp2_with fail
  clear c0_
  go_loopg [7, 15] L.length (fun k v7 v15 w' => ∃ (i : Nat), v15 = .int .i64 i ∧ Aside0 (i + k = L.length) ∧ Aside0 ((Kd.int .i64).R 3 w' w0.heap.size (fun k => w.heap.size ≤ k) v7 (ints (partsTo L s is i))) ∧ Aside0 (I w' ∧ w.grownBy w' (some mb) ∧ Work w0 w' wb mb L c A0 c0 vn vb))
  case atStart => exact ⟨0, rfl, ⟨by omega⟩, ⟨Kd.R_nil _ _ _ _ _⟩, ⟨HI.out, World.grownBy.refl _ _, HW.out⟩⟩
  case round =>
    obtain ⟨i, rfl, HK, HR, HJ⟩ := hrel
    by_cases hi : i < L.length
    · obtain ⟨an, cn, ab, cb, rfl, rfl, n1, n2⟩ := HJ.out.2.2.at_ hi
      have i1 : (0 : Int) ≤ (i : Int) := by omega
      have i2 : (i : Int) < (L.length : Int) := by omega
      have d1 : wr.cell? ⟨wb, 1 + 1, none⟩ = some (.slice (some an) L.length cn) := (blk_cell HJ.out.2.2.blk 2).trans rfl
      have d2 : wr.cell? ⟨wb, 1 + 1 + 1, none⟩ = some (.slice (some ab) L.length cb) := (blk_cell HJ.out.2.2.blk 3).trans rfl
      have eh := has_u32 (s := s) (p := i) hs32 (by omega)
      have b1 : needsN L i < 2 ^ 32 := by have := hF.needs_lt hi; have := hF.small; omega
      have b2 : barsN L i < 2 ^ 32 := by have := hF.bars_lt hi; have := hF.small; omega
      have a1 := and_u32 hs32 b1
      have a2 := and_u32 hs32 b2
      generalize hN : needsN L i = N at n1 a1
      generalize hB : barsN L i = B at n2 a2
      have HCG : Aside0 (canGo L s i = (!(s.testBit i) && (s &&& N == N) && (s &&& B == 0))) := ⟨by rw [← hN, ← hB]; rfl⟩
      clear b1 b2
      have HN := Aside0.mk hN
      have HBB := Aside0.mk hB
      clear hN hB
      by_cases th : s.testBit i = true
      · have HNX : Aside0 (partsTo L s is (i + 1) = partsTo L s is i) := ⟨by rw [partsTo_next, HCG.out]; simp [th]⟩
        have HIW := Aside0.mk HJ.out.1
        rw [th] at eh
        clear th
        go_wp2_with fail
        go_quiet (exact has_quiet eh)
        have HB7 : Aside0 (Below wr.heap.size wr (wr.drewN nq)) := ⟨pw_below_drewN (Below.refl _ _) _⟩
        have HJ8 : Aside0 (w.grownBy (wr.drewN nq) (some mb)) := ⟨HJ.out.2.1.andThen (row' := none) (grown_below HB7.out) (by simp)⟩
        go_wp2_with fail
        go_roundg (L.length - (i + 1))
        case measure => have := HK.out; omega
        case rel => exact ⟨i + 1, by go_num, ⟨by omega⟩, ⟨by rw [HNX.out]; exact Kd.R_below HR.out HB7.out⟩, ⟨HG.out _ _ none HIW.out (grown_below HB7.out) (by simp), HJ8.out, HW.out.grown HJ8.out⟩⟩
      · by_cases tn : s &&& N = N
        · by_cases tb : s &&& B = 0
          · have tn1 : (((s &&& N : Nat) : Int) == (N : Int)) = true := by rw [tn]; simp
            have tb1 : (((s &&& B : Nat) : Int) == 0) = true := by rw [tb]; rfl
            have HCT : Aside0 (canGo L s i = true) := ⟨by rw [HCG.out]; simp [th, tn, tb]⟩
            rw [show s.testBit i = false by simpa using th] at eh
            clear th tn tb
            generalize hb : is i = b
            have HB := Aside0.mk hb
            clear hb
            have hfun : ∀ W, I W → Work w0 W wb mb L c A0 c0 (.slice (some an) L.length cn) (.slice (some ab) L.length cb) → Calls Try.prog id (#[.int .i64 (i : Int)] ++ cap) W fun e w' => e = .returned (.bool b) ∧ I w' ∧ W.grownBy w' (some mb) := fun W hI hW => by rw [← HB.out]; exact HC.out i W hi HCT.out hI hW
            have HFUN := Aside0.mk hfun
            clear hfun
            have HX := Aside0.mk HJ.out.2.2
            have HIW := Aside0.mk HJ.out.1
            go_wp2_with fail
            go_region_held3 (fun w' => w'.cell? ⟨wb, 2, none⟩ = some (.slice (some an) L.length cn) ∧ w'.cell? ⟨wb, 3, none⟩ = some (.slice (some ab) L.length cb) ∧ w'.cell? (an.add i) = some (.int .u32 (N : Int)) ∧ w'.cell? (ab.add i) = some (.int .u32 (B : Int))) (first | exact ⟨d1, d2, n1, n2⟩ | exact ⟨k1, k2, k3, k4⟩ | exact ⟨m1, m2, m3, m4⟩) (first
              | (go_at_call 135; refine (mount_set_has.calls _ _ _ _ eh).mono ?_; rintro e w7 ⟨rfl, hd7⟩; have HB7 : Aside0 (Below wr.heap.size wr w7) := ⟨below_step (below_drew1 (Below.refl _ _)) hd7.below⟩; have k1 := cell_later hd7.below (W := w7) d1; have k2 := cell_later hd7.below (W := w7) d2; have k3 := cell_later hd7.below (W := w7) n1; have k4 := cell_later hd7.below (W := w7) n2; clear eh hd7)
              | (refine (HFUN.out _ (HG.out _ _ none HIW.out (grown_below HB7.out) (by simp)) (HX.out.later HB7.out)).mono ?_; rintro e w8 ⟨rfl, hI8, hg8⟩; have HI8 := Aside0.mk hI8; have HG8 := Aside0.mk hg8; have HX8 := Aside0.mk ((HX.out.later HB7.out).grown hg8); have m1 : w8.cell? ⟨wb, 2, none⟩ = some (.slice (some an) L.length cn) := (blk_cell HX8.out.blk 2).trans rfl; have m2 : w8.cell? ⟨wb, 3, none⟩ = some (.slice (some ab) L.length cb) := (blk_cell HX8.out.blk 3).trans rfl; have m3 := HX8.out.cell_n hi HN.out rfl; have m4 := HX8.out.cell_b hi HBB.out rfl; clear hI8 hg8))
            have HJ8 : Aside0 (w.grownBy w8 (some mb)) := ⟨(HJ.out.2.1.andThen (row' := none) (grown_below HB7.out) (by simp)).andThen HG8.out (fun j hj => .inr hj)⟩
            have HR8 : Aside0 ((Kd.int .i64).R 3 w8 w0.heap.size (fun k => w.heap.size ≤ k) u7 (ints (partsTo L s is i))) := ⟨by
              have h1 := Kd.R_below HR.out HB7.out
              have h2 : (Kd.int .i64).R 3 w7 w0.heap.size (fun k => w.heap.size ≤ k ∧ k ≠ mb) u7 (ints (partsTo L s is i)) := Kd.R_mono (Kd.R_bound h1) (fun k hk => ⟨hk.1, by have := HMW.out; omega⟩)
              exact Kd.R_mono (Kd.R_grown h2 HG8.out (fun k hk e => hk.2 (Option.some.inj e))) (fun k hk => hk.1)⟩
            cases b
            · have HNX : Aside0 (partsTo L s is (i + 1) = partsTo L s is i) := ⟨by rw [partsTo_next, HB.out, Bool.and_false, if_neg (by simp), List.append_nil]⟩
              go_wp2_with fail
              go_roundg (L.length - (i + 1))
              case measure => have := HK.out; omega
              case rel => exact ⟨i + 1, by go_num, ⟨by omega⟩, ⟨by rw [HNX.out]; exact HR8.out⟩, ⟨HI8.out, HJ8.out, HX8.out⟩⟩
            · have HNX : Aside0 (partsTo L s is (i + 1) = partsTo L s is i ++ [i]) := ⟨by rw [partsTo_next, HB.out, HCT.out]; rfl⟩
              have HLE := Aside0.mk (partsTo_length L s is i)
              go_wp2_with (first
                | (refine Kd.R_append (Kd.int .i64) (w0 := w0) w0.heap.size rfl (.tmp 58) (.tmp 60) 22 3 (.int .i64 0) 8 rfl Try.underlying22 info3 rfl (by decide) (by omega) u7 (ints (partsTo L s is i)) (i : Int) [.int .i64 (i : Int)] (fun k => w.heap.size ≤ k) (fun _ => False) rfl rfl rfl (fun _ hk => hk.elim) (fun k hk => Nat.le_trans HJ8.out.size hk) HR8.out HX8.out.below HX8.out.below.size (by have := HLE.out; simp only [ints, List.length_map]; omega) ?_; intro v1 w9 hR9 hB9 hg9 hat9; have HR9 := Aside0.mk hR9; have HG9 := Aside0.mk hg9; clear hR9 hB9 hg9 hat9))
              have HOB : Aside0 (∀ j, u7.ownBlock = some j → w.heap.size ≤ j) := ⟨fun j hj => HR8.out.1 j hj⟩
              go_roundg (L.length - (i + 1))
              case measure => have := HK.out; omega
              case rel => exact ⟨i + 1, by go_num, ⟨by omega⟩, ⟨by rw [HNX.out]; simpa [ints] using HR9.out⟩, ⟨HG.out _ _ _ HI8.out HG9.out HOB.out, HJ8.out.andThen HG9.out (fun j hj => .inl (HOB.out j hj)), HW.out.grown (HJ8.out.andThen HG9.out (fun j hj => .inl (HOB.out j hj)))⟩⟩
          · have tn1 : (((s &&& N : Nat) : Int) == (N : Int)) = true := by rw [tn]; simp
            have tb1 : (((s &&& B : Nat) : Int) == 0) = false := by simp; omega
            have HNX : Aside0 (partsTo L s is (i + 1) = partsTo L s is i) := ⟨by rw [partsTo_next, HCG.out]; simp [th, tn, tb]⟩
            have HIW := Aside0.mk HJ.out.1
            rw [show s.testBit i = false by simpa using th] at eh
            clear th tn tb
            go_wp2_with fail
            go_quiet (exact has_quiet eh)
            have HB7 : Aside0 (Below wr.heap.size wr (wr.drewN nq)) := ⟨pw_below_drewN (Below.refl _ _) _⟩
            have HJ8 : Aside0 (w.grownBy (wr.drewN nq) (some mb)) := ⟨HJ.out.2.1.andThen (row' := none) (grown_below HB7.out) (by simp)⟩
            go_wp2_with fail
            go_roundg (L.length - (i + 1))
            case measure => have := HK.out; omega
            case rel => exact ⟨i + 1, by go_num, ⟨by omega⟩, ⟨by rw [HNX.out]; exact Kd.R_below HR.out HB7.out⟩, ⟨HG.out _ _ none HIW.out (grown_below HB7.out) (by simp), HJ8.out, HW.out.grown HJ8.out⟩⟩
        · have tn1 : (((s &&& N : Nat) : Int) == (N : Int)) = false := by simp; omega
          have HNX : Aside0 (partsTo L s is (i + 1) = partsTo L s is i) := ⟨by rw [partsTo_next, HCG.out]; simp [th, tn]⟩
          have HIW := Aside0.mk HJ.out.1
          rw [show s.testBit i = false by simpa using th] at eh
          clear th tn
          go_wp2_with fail
          go_quiet (exact has_quiet eh)
          have HB7 : Aside0 (Below wr.heap.size wr (wr.drewN nq)) := ⟨pw_below_drewN (Below.refl _ _) _⟩
          have HJ8 : Aside0 (w.grownBy (wr.drewN nq) (some mb)) := ⟨HJ.out.2.1.andThen (row' := none) (grown_below HB7.out) (by simp)⟩
          go_wp2_with fail
          go_roundg (L.length - (i + 1))
          case measure => have := HK.out; omega
          case rel => exact ⟨i + 1, by go_num, ⟨by omega⟩, ⟨by rw [HNX.out]; exact Kd.R_below HR.out HB7.out⟩, ⟨HG.out _ _ none HIW.out (grown_below HB7.out) (by simp), HJ8.out, HW.out.grown HJ8.out⟩⟩
    · have HPE : Aside0 (partsTo L s is i = partsOf L s is) := ⟨by have := HK.out; rw [show i = L.length by omega]; rfl⟩
      go_wp2_with fail
      go_ret
      exact ⟨_, rfl, by rw [← HPE.out]; exact HR.out, HJ.out.1, HJ.out.2.1, HJ.out.2.2⟩
end Go.Proofs.Ytbcfphoheijmdaa.Print
end

section
/- What the work of a kit remembers: a map from states to numbers. -/
namespace Go.Proofs.Ytbcfphoheijmdaa.Print
open Go.RowKit Go.Proofs.YtbcfphoheijmdaaW.PrintWords Go.Proofs.YtbcfphoheijmdaaW.PrintLast Go.Proofs.YtbcfphoheijmdaaW.PrintMore Go.Proofs.Ytbcfphoheijmdaa.H
open Go.Maps (Keyed)
set_option linter.unusedVariables false
set_option linter.unusedSimpArgs false

/-- Numbers that differ and are all less than N are at most N. -/
theorem few (N : Nat) : ∀ (l : List Nat), l.Pairwise (· ≠ ·) → (∀ x, x ∈ l → x < N) → l.length ≤ N := by
  induction N with
  | zero =>
    intro l _ h
    cases l with
    | nil => simp
    | cons a l => have := h a (by simp); omega
  | succ N ih =>
    intro l hp h
    by_cases hm : N ∈ l
    · obtain ⟨s, t, rfl⟩ := List.append_of_mem hm
      rw [List.pairwise_append, List.pairwise_cons] at hp
      have := ih (s ++ t) (by rw [List.pairwise_append]; exact ⟨hp.1, hp.2.1.2, fun a ha b hb => hp.2.2 a ha b (by simp [hb])⟩) (fun x hx => by
        have h1 : x < N + 1 := h x (by rcases List.mem_append.1 hx with q | q <;> simp [q])
        have h2 : x ≠ N := by
          rcases List.mem_append.1 hx with q | q
          · exact hp.2.2 x q N (by simp)
          · exact (hp.2.1.1 x q).symm
        omega)
      simp only [List.length_append, List.length_cons] at this ⊢
      omega
    · have := ih l hp (fun x hx => by
        have h1 := h x hx
        have h2 : x ≠ N := fun e => hm (e ▸ hx)
        omega)
      omega
theorem mem_insert_iff {H : Type} (x y : Lit × DataW H) : ∀ l : List (Lit × DataW H), y ∈ DataW.insert x l ↔ y = x ∨ y ∈ l := by
  intro l
  induction l with
  | nil => simp [DataW.insert]
  | cons a l ih =>
    unfold DataW.insert
    split
    · simp
    · simp only [List.mem_cons, ih]
      constructor
      · rintro (h | h | h) <;> simp [h]
      · rintro (h | h | h) <;> simp [h]
/-- What is remembered of each state is its number. -/
def MemoD (D : DataW Unit) (val : Nat → Int) : Prop := ∃ l, D = .map l ∧ l.Pairwise (fun p q => p.1 ≠ q.1) ∧ ∀ p, p ∈ l → ∃ s : Nat, s < 2 ^ 32 ∧ p = (.int .u32 (s : Int), .lit (.int .i64 (val s)))
def Memo (W : World) (mb : Nat) (val : Nat → Int) : Prop := ∃ n D, n < 2 ^ 33 ∧ W.ownsMap Try.prog 133 (plainElem (H := Unit) Try.prog 3) mb n D ∧ MemoD D val
theorem keyed133 : Keyed Try.prog 133 := Go.Maps.int_keyed Try.underlying133
theorem wf_u32 {s : Nat} (h : s < 2 ^ 32) : (Lit.int .u32 (s : Int)).wf = true := by
  have := wrap_u32 h
  simp [Lit.wf, IntKind.min, IntKind.max, IntKind.signed, IntKind.bits]
  omega
theorem key_u32 {s : Nat} (h : s < 2 ^ 32) : keyOf Try.prog 133 (.int .u32 (s : Int)) = some (.int .u32 (s : Int)) := Go.Maps.keyOf_int_mk Try.underlying133 (wf_u32 h)
theorem wf_i64 {v : Int} (h1 : -9223372036854775808 ≤ v) (h2 : v ≤ 9223372036854775807) : (Lit.int .i64 v).wf = true := by
  simp [Lit.wf, IntKind.min, IntKind.max, IntKind.signed, IntKind.bits]
  omega
theorem MemoD.few {D : DataW Unit} {val : Nat → Int} (h : MemoD D val) : Maps.size D ≤ 2 ^ 32 := by
  obtain ⟨l, rfl, hp, hk⟩ := h
  show l.length ≤ 2 ^ 32
  have := Print.few (2 ^ 32) (l.map (fun p => match p.1 with | .int _ a => a.toNat | _ => 0)) (by
    rw [List.pairwise_map]
    refine List.Pairwise.imp_of_mem ?_ hp
    intro a b ha hb hne e
    obtain ⟨s, _, rfl⟩ := hk a ha
    obtain ⟨t, _, rfl⟩ := hk b hb
    simp only [Int.toNat_natCast] at e
    exact hne (by rw [e])) (fun x hx => by
    obtain ⟨p, hp, rfl⟩ := List.mem_map.1 hx
    obtain ⟨s, hs, rfl⟩ := hk p hp
    simpa using hs)
  simpa using this
theorem own_tight {W : World} {mb n : Nat} {D : DataW Unit} (h : W.ownsMap Try.prog 133 (plainElem (H := Unit) Try.prog 3) mb n D) : W.ownsMap Try.prog 133 (plainElem (H := Unit) Try.prog 3) mb (Maps.size D) D := by
  obtain ⟨es, clock, hb, F, _, rfl⟩ := h
  exact ⟨es, clock, hb, F, by rw [Maps.size_eq, length_read]; exact Nat.le_refl _, rfl⟩
theorem Memo.made (W : World) (val : Nat → Int) : Memo (W.alloc (.map #[] 0)) W.heap.size val :=
  ⟨0, _, by omega, World.ownsMap_made _ _ _ _, [], rfl, .nil, by simp⟩
theorem Memo.kept {W W1 : World} {mb : Nat} {val : Nat → Int} {row : Option Nat} (h : Memo W mb val) (hg : W.grownBy W1 row) (hne : some mb ≠ row) : Memo W1 mb val := by
  obtain ⟨n, D, hn, ho, hD⟩ := h
  exact ⟨n, D, hn, ho.kept hg hne, hD⟩
theorem Memo.later {W W1 : World} {mb : Nat} {val : Nat → Int} (h : Memo W mb val) (hb : Below W.heap.size W W1) : Memo W1 mb val := h.kept (grown_below hb) (by simp)
theorem MemoD.look {D : DataW Unit} {val : Nat → Int} (h : MemoD D val) {s : Nat} (hh : Maps.has D (.int .u32 (s : Int)) = true) : D.atKey (.int .u32 (s : Int)) (.lit (.int .i64 0)) = .lit (.int .i64 (val s)) := by
  obtain ⟨l, rfl, hp, hk⟩ := h
  rw [Maps.has_eq, List.any_eq_true] at hh
  obtain ⟨p, hp1, hp2⟩ := hh
  obtain ⟨t, ht, rfl⟩ := hk p hp1
  have e := WideAt.sameKey_eq hp2
  have e2 : t = s := by injection e with _ q; omega
  subst e2
  exact WideAt.atKey_mem _ trivial hp hp1
theorem MemoD.put {D : DataW Unit} {val : Nat → Int} (h : MemoD D val) {s : Nat} (hs : s < 2 ^ 32) : MemoD (D.put (.int .u32 (s : Int)) (.lit (.int .i64 (val s)))) val := by
  obtain ⟨l, rfl, hp, hk⟩ := h
  obtain ⟨es, e1, e2⟩ := Maps.Tidy.put (D := DataW.map l) ⟨l, rfl, hp⟩ (k := .int .u32 (s : Int)) trivial (.lit (.int .i64 (val s)))
  refine ⟨es, e1, e2, fun p hpm => ?_⟩
  have e3 : es = DataW.insert (.int .u32 (s : Int), .lit (.int .i64 (val s))) (l.filter fun p => !p.1.sameKey (.int .u32 (s : Int))) := by
    have : DataW.map _ = DataW.map es := e1
    injection this with q
    exact q.symm
  rw [e3, mem_insert_iff] at hpm
  rcases hpm with rfl | hpm
  · exact ⟨s, hs, rfl⟩
  · exact hk p (List.mem_filter.1 hpm).1
/-- What the walk takes at a look-up, and at a store. -/
theorem Memo.open_ {W : World} {mb : Nat} {val : Nat → Int} (h : Memo W mb val) : ∃ n D, n < maxLen ∧ W.ownsMap Try.prog 133 (plainElem (H := Unit) Try.prog 3) mb n D ∧ MemoD D val := by
  obtain ⟨n, D, hn, ho, hD⟩ := h
  exact ⟨n, D, by unfold maxLen; omega, ho, hD⟩
theorem Memo.close {W : World} {mb n : Nat} {val : Nat → Int} {D : DataW Unit} (ho : W.ownsMap Try.prog 133 (plainElem (H := Unit) Try.prog 3) mb n D) (hD : MemoD D val) : Memo W mb val :=
  ⟨Maps.size D, D, Nat.lt_of_le_of_lt hD.few (by omega), own_tight ho, hD⟩
theorem zero3 (w : World) : (zeroValue 3).run Try.prog w = .ok (.int .i64 0) w := by
  obtain ⟨i, hi1, hi2, _, _⟩ := info_parts info3
  simp [zeroValue, typeInfo, hi1, hi2]
end Go.Proofs.Ytbcfphoheijmdaa.Print
end

section
/- In how many orders all parts of a kit go in. -/
namespace Go.Proofs.Ytbcfphoheijmdaa.Print
open Go.RowKit Go.Proofs.YtbcfphoheijmdaaW.PrintWords Go.Proofs.YtbcfphoheijmdaaW.PrintLast Go.Proofs.YtbcfphoheijmdaaW.PrintMore Go.Proofs.Ytbcfphoheijmdaa.H
attribute [local go_sem] max2_int min2_int max_two min_two max_three min_three max_four min_four
attribute [local go_sem ↓] Go.wp_at_zero Go.wp_at_succ
set_option linter.unusedVariables false
set_option linter.unusedSimpArgs false

/-- How many parts are missing? -/
def missing (n s : Nat) : Nat := ((List.range n).filter (fun p => !s.testBit p)).length
def ways (L : List S57) : Nat → Nat → Int
  | 0, s => if s = 2 ^ L.length - 1 then 1 else 0
  | k + 1, s => if s = 2 ^ L.length - 1 then 1 else (partsOf L s (fun _ => true)).foldl (fun a p => wrap64 (a + ways L k (s ||| 2 ^ p))) 0
/-- In how many orders all other parts can go into state s. -/
def waysOf (L : List S57) (s : Nat) : Int := ways L (missing L.length s) s
theorem missing_with {n s p : Nat} (hp : p < n) (hs : s.testBit p = false) : missing n (s ||| 2 ^ p) + 1 = missing n s := by
  unfold missing
  have key : ∀ l : List Nat, l.Pairwise (· ≠ ·) → p ∈ l → (l.filter (fun q => !(s ||| 2 ^ p).testBit q)).length + 1 = (l.filter (fun q => !s.testBit q)).length := by
    intro l
    induction l with
    | nil => intro _ h; simp at h
    | cons a l ih =>
      intro hl hm
      rw [List.pairwise_cons] at hl
      rw [List.filter_cons, List.filter_cons, testBit_with]
      by_cases e : p = a
      · subst e
        rw [hs]
        have same : ∀ m : List Nat, (∀ q, q ∈ m → p ≠ q) → m.filter (fun q => !(s ||| 2 ^ p).testBit q) = m.filter (fun q => !s.testBit q) := by
          intro m hm
          apply List.filter_congr
          intro q hq
          rw [testBit_with, decide_eq_false (hm q hq), Bool.or_false]
        rw [same l hl.1]
        simp
      · have hm2 : p ∈ l := by simpa [e] using hm
        have := ih hl.2 hm2
        rw [decide_eq_false e, Bool.or_false]
        split
        · simp only [List.length_cons]; omega
        · exact this
  refine key (List.range n) ?_ (List.mem_range.2 hp)
  exact List.Pairwise.imp (fun h => Nat.ne_of_lt h) List.pairwise_lt_range
theorem partsOf_mem {L : List S57} {s : Nat} {is : Nat → Bool} {p : Nat} (h : p ∈ partsOf L s is) : p < L.length ∧ s.testBit p = false ∧ canGo L s p = true ∧ is p = true := by
  unfold partsOf partsTo at h
  rw [List.mem_filter, List.mem_range] at h
  obtain ⟨h1, h2⟩ := h
  rw [Bool.and_eq_true] at h2
  have h3 := h2.1
  unfold canGo at h3
  rw [Bool.and_eq_true, Bool.and_eq_true] at h3
  exact ⟨h1, by simpa using h3.1.1, h2.1, h2.2⟩
theorem waysOf_all (L : List S57) : waysOf L (2 ^ L.length - 1) = 1 := by
  unfold waysOf
  cases missing L.length (2 ^ L.length - 1) <;> simp [ways]
/-- The sum over some parts. -/
def sumW (L : List S57) (s : Nat) (l : List Nat) : Int := l.foldl (fun a p => wrap64 (a + waysOf L (s ||| 2 ^ p))) 0
theorem sumW_snoc (L : List S57) (s : Nat) (l : List Nat) (p : Nat) : sumW L s (l ++ [p]) = wrap64 (sumW L s l + waysOf L (s ||| 2 ^ p)) := by simp [sumW]
theorem waysOf_step {L : List S57} {s : Nat} (h : s ≠ 2 ^ L.length - 1) : waysOf L s = sumW L s (partsOf L s (fun _ => true)) := by
  unfold waysOf
  cases hm : missing L.length s with
  | zero =>
    rw [ways, if_neg h]
    have : partsOf L s (fun _ => true) = [] := by
      cases hq : partsOf L s (fun _ => true) with
      | nil => rfl
      | cons p l =>
        have := partsOf_mem (L := L) (s := s) (is := fun _ => true) (p := p) (by rw [hq]; simp)
        have := missing_with this.1 this.2.1
        omega
    rw [this]
    rfl
  | succ k =>
    rw [ways, if_neg h]
    unfold sumW
    have key : ∀ (l : List Nat) (a : Int), (∀ p, p ∈ l → missing L.length (s ||| 2 ^ p) = k) → l.foldl (fun a p => wrap64 (a + ways L k (s ||| 2 ^ p))) a = l.foldl (fun a p => wrap64 (a + waysOf L (s ||| 2 ^ p))) a := by
      intro l
      induction l with
      | nil => intro a _; rfl
      | cons p l ih =>
        intro a h
        rw [List.foldl_cons, List.foldl_cons, ih _ (fun q hq => h q (by simp [hq]))]
        unfold waysOf
        rw [h p (by simp)]
    refine key _ _ (fun p hp => ?_)
    have h1 := partsOf_mem hp
    have := missing_with h1.1 h1.2.1
    omega
theorem wrap64_in (x : Int) : -9223372036854775808 ≤ wrap64 x ∧ wrap64 x ≤ 9223372036854775807 := by unfold wrap64; omega
theorem sumW_in (L : List S57) (s : Nat) (l : List Nat) : -9223372036854775808 ≤ sumW L s l ∧ sumW L s l ≤ 9223372036854775807 := by
  rcases List.eq_nil_or_concat l with rfl | ⟨m, p, rfl⟩
  · unfold sumW; simp
  · rw [List.concat_eq_append, sumW_snoc]; exact wrap64_in _
theorem with_lt {L : List S57} {s p : Nat} (hs : s < 2 ^ L.length) (hp : p < L.length) : s ||| 2 ^ p < 2 ^ L.length := Nat.or_lt_two_pow hs (Nat.pow_lt_pow_right (by omega) hp)
end Go.Proofs.Ytbcfphoheijmdaa.Print
end

section
/- orders: that the Go function's call counts the orders. -/
namespace Go.Proofs.Ytbcfphoheijmdaa.Print
open Go.RowKit Go.Proofs.YtbcfphoheijmdaaW.PrintWords Go.Proofs.YtbcfphoheijmdaaW.PrintLast Go.Proofs.YtbcfphoheijmdaaW.PrintMore Go.Proofs.Ytbcfphoheijmdaa.H
attribute [local go_sem] max2_int min2_int max_two min_two max_three min_three max_four min_four
attribute [local go_sem ↓] Go.wp_at_zero Go.wp_at_succ
set_option linter.unusedVariables false
set_option linter.unusedSimpArgs false

theorem every_calls (p : Int) (w : World) : Calls Try.prog 96 #[.int .i64 p] w fun e w' => e = .returned (.bool true) ∧ Drawn0 w w' := by
  go_enter Try.func96, Try.ntmps96
  go_wp2
  go_ret
  exact ⟨rfl, Drawn0.refl _⟩
theorem every_enters (args : Array Value) (W : World) : Sem.run Try.prog (callFunc 96 args) W = .ok (.enter 96 args) W := by
  have h1 : ¬ Try.f96.name = "runtime.NumGoroutine" := by decide
  have h2 : ¬ Try.f96.body = none := fun h => by
    have : Try.f96.body.isSome = false := by rw [h]; rfl
    exact absurd this (by show ¬ (true = false); decide)
  simp [callFunc, go_sem, Try.func96, h1, h2]
set_option maxHeartbeats 3200000 in
set_option maxRecDepth 100000 in
theorem orders_walk {w0 w : World} {wb mb : Nat} {L : List S57} {c : Int} {A0 : Option Addr} {c0 : Nat} {vn vb : Value} (hF : Fine L) (s : Nat) (hs : s < 2 ^ L.length)
    (hIH : ∀ p, p ∈ partsOf L s (fun _ => true) → ∀ W, Work w0 W wb mb L c A0 c0 vn vb → Memo W mb (waysOf L) → Calls Try.prog 93 #[.pointer (some ⟨wb, 0, none⟩), .int .u32 ((s ||| 2 ^ p : Nat) : Int)] W fun e w' => e = .returned (.int .i64 (waysOf L (s ||| 2 ^ p))) ∧ Memo w' mb (waysOf L) ∧ W.grownBy w' (some mb))
    (hW : Work w0 w wb mb L c A0 c0 vn vb) (hM : Memo w mb (waysOf L)) :
    Calls Try.prog 93 #[.pointer (some ⟨wb, 0, none⟩), .int .u32 (s : Int)] w fun e w' => e = .returned (.int .i64 (waysOf L s)) ∧ Memo w' mb (waysOf L) ∧ w.grownBy w' (some mb) := by
  have hs32 : s < 2 ^ 32 := by have := hF.small; omega
  obtain ⟨n, D, hn, hown, hD⟩ := hM.open_
  have HMW := Aside0.mk hown.lt
  have HW := Aside0.mk hW
  have HIH := Aside0.mk hIH
  have HM := Aside0.mk hM
  have HO := Aside0.mk hown
  have HD := Aside0.mk hD
  have HN := Aside0.mk hn
  clear hIH hM hown hD hn
  have c3 : w.cell? ⟨wb, 4, none⟩ = some (.int .u32 ((2 ^ L.length - 1 : Nat) : Int)) := (blk_cell HW.out.blk 4).trans rfl
  have c4 : w.cell? ⟨wb, 5, none⟩ = some (.map (some mb)) := (blk_cell HW.out.blk 5).trans rfl
  have hu158 := Try.underlying158
  have HPC := Aside0.mk (parts_calls hF s hs 96 #[] (fun _ => true) (fun W => Memo W mb (waysOf L)) every_enters hW HMW.out HM.out (fun W W1 row h hg hr => h.kept hg (fun e => by have := hr mb e.symm; have := HMW.out; omega)) (fun p W _ _ hI hWW => (every_calls (p : Int) W).mono fun e w' h => ⟨h.1, hI.later h.2.below, (grown_below h.2.below).but _⟩))
  clear hW
  by_cases te : s = 2 ^ L.length - 1
  · have te1 : ((s : Int) == ((2 ^ L.length - 1 : Nat) : Int)) = true := by rw [← te]; simp
    have HV : Aside0 (waysOf L s = 1) := ⟨by rw [te]; exact waysOf_all L⟩
    clear te
    generalize 2 ^ L.length - 1 = ALL at te1 c3
    go_enter Try.func93, Try.ntmps93
    go_wp2_with fail
    go_ret
    exact ⟨by rw [HV.out]; rfl, HM.out, World.grownBy.refl _ _⟩
  have te1 : ((s : Int) == ((2 ^ L.length - 1 : Nat) : Int)) = false := by simp; omega
  have HV := Aside0.mk (waysOf_step te)
  clear te
  generalize 2 ^ L.length - 1 = ALL at te1 c3
  generalize hb : Maps.has D (.int .u32 (s : Int)) = b
  have HB := Aside0.mk hb
  cases b with
  | true =>
    have HL := Aside0.mk (HD.out.look hb)
    clear hb
    go_enter Try.func93, Try.ntmps93
    go_wp2_with (first
      | (at_lookup; refine wpList_lookup_own_ok_int (H := Unit) _ rfl _ _ 156 rfl 133 3 .i64 keyed133 Try.underlying156 Try.underlying3 (zero3 _) mb n D rfl HO.out (.int .u32 (s : Int)) (.int .u32 (s : Int)) rfl (key_u32 hs32) ?_; intro cc hat hwc; rw [HB.out]; have HA := Aside0.mk hat; clear hat hwc))
    go_ret
    have e : cc = waysOf L s := by
      have := HA.out.symm.trans HL.out
      injection this with q
      injection q
    exact ⟨by rw [← e]; rfl, HM.out, World.grownBy.refl _ _⟩
  | false =>
    clear hb
    go_enter Try.func93, Try.ntmps93
    go_wp2_with (first
      | (at_lookup; refine wpList_lookup_own_ok_int (H := Unit) _ rfl _ _ 156 rfl 133 3 .i64 keyed133 Try.underlying156 Try.underlying3 (zero3 _) mb n D rfl HO.out (.int .u32 (s : Int)) (.int .u32 (s : Int)) rfl (key_u32 hs32) ?_; intro cc hat hwc; rw [HB.out]; clear hat hwc)
      | (go_at_call 95; refine (HPC.out).mono ?_; rintro e w1 ⟨v, rfl, hR, hM1, hg1, hW1⟩; obtain ⟨A1, n1, rfl⟩ := Kd.R_slice hR; have HR := Aside0.mk hR; have HM1 := Aside0.mk hM1; have HG1 := Aside0.mk hg1; have HW1 := Aside0.mk hW1; clear hR hM1 hg1 hW1))
    have HPL := Aside0.mk (partsTo_length L s (fun _ => true) L.length)
    have hlen : (ints (partsOf L s (fun _ => true))).length = (partsOf L s (fun _ => true)).length := by simp [ints]
    rw [hlen] at HR
    rw [hlen]
    clear hlen HPC
    have HPM : Aside0 (∀ p, p ∈ partsOf L s (fun _ => true) → p < L.length) := ⟨fun p hp => (partsOf_mem hp).1⟩
    generalize hPS : partsOf L s (fun _ => true) = PS at HR HV HIH HPM
    have HPL2 : Aside0 (PS.length ≤ L.length) := ⟨by rw [← hPS]; exact HPL.out⟩
    clear hPS HPL c3 c4
    have hpl : PS.length ≤ 14 := Nat.le_trans HPL2.out hF.short
    go_loopg [7, 31] PS.length (fun k v7 v31 w' => ∃ (i : Nat), v31 = .int .i64 i ∧ v7 = .int .i64 (sumW L s (PS.take i)) ∧ Aside0 (i + k = PS.length) ∧ Aside0 (Memo w' mb (waysOf L) ∧ w.grownBy w' (some mb) ∧ (Kd.int .i64).R 3 w' w0.heap.size (fun k => w.heap.size ≤ k) (.slice A1 PS.length n1) (ints PS)))
    case atStart => exact ⟨0, rfl, rfl, ⟨by omega⟩, ⟨HM1.out, HG1.out, HR.out⟩⟩
    case round =>
      clear HM1 HG1 HR HW1
      obtain ⟨i, rfl, rfl, HK, HJ⟩ := hrel
      by_cases hi : i < PS.length
      · have HSN := Aside0.mk (show sumW L s (PS.take (i + 1)) = wrap64 (sumW L s (PS.take i) + waysOf L (s ||| 2 ^ PS[i])) by rw [take_at _ _ hi, sumW_snoc])
        have hp : PS[i] < L.length := HPM.out _ (List.getElem_mem _)
        have HC := Aside0.mk (HIH.out PS[i] (List.getElem_mem _))
        obtain ⟨ad, e0, x0⟩ : ∃ ad, A1 = some ad ∧ wr.cell? (ad.add i) = some (.int .i64 ((PS[i] : Nat) : Int)) := by
          obtain ⟨_, _, hC⟩ := Kd.R_reads' HJ.out.2.2
          obtain ⟨ad, e, hc⟩ := cell_int hC i (by simpa [ints] using hi)
          refine ⟨ad, e, ?_⟩
          rw [hc]
          simp [ints, hi]
        cases e0
        generalize PS[i] = p at hp HC HSN x0
        generalize sumW L s (PS.take i) = X at HSN
        have hw1 := with_u32 (s := s) (p := p) hs32 (by have := hF.short; omega)
        have HW2 := Aside0.mk (HW.out.grown HJ.out.2.1)
        have i1 : (0 : Int) ≤ (i : Int) := by omega
        have i2 : (i : Int) < (PS.length : Int) := by omega
        generalize hY : waysOf L (s ||| 2 ^ p) = Y at HSN HC
        clear hY
        generalize s ||| 2 ^ p = S2 at hw1 HC
        go_wp2_with (first
          | (go_at_call 100; refine (mount_set_with.calls _ _ _ _ hw1).mono ?_; rintro e w2 ⟨rfl, hd⟩; have HB2 := Aside0.mk hd.below; clear hd hw1)
          | (go_at_call 93; refine (HC.out _ (HW2.out.later HB2.out) (HJ.out.1.later HB2.out)).mono ?_; rintro e w3 ⟨rfl, hM3, hg3⟩; have HM3 := Aside0.mk hM3; have HG3 := Aside0.mk hg3; clear hM3 hg3))
        have HJ3 : Aside0 (w.grownBy w3 (some mb)) := ⟨(HJ.out.2.1.andThen (row' := none) (grown_below HB2.out) (by simp)).andThen HG3.out (fun j hj => .inr hj)⟩
        have HR3 : Aside0 ((Kd.int .i64).R 3 w3 w0.heap.size (fun k => w.heap.size ≤ k) (.slice (some ad) PS.length n1) (ints PS)) := ⟨by
          have h1 := Kd.R_below HJ.out.2.2 HB2.out
          have h2 : (Kd.int .i64).R 3 w2 w0.heap.size (fun k => w.heap.size ≤ k ∧ k ≠ mb) (.slice (some ad) PS.length n1) (ints PS) := Kd.R_mono (Kd.R_bound h1) (fun k hk => ⟨hk.1, by have := HMW.out; omega⟩)
          exact Kd.R_mono (Kd.R_grown h2 HG3.out (fun k hk e => hk.2 (Option.some.inj e))) (fun k hk => hk.1)⟩
        go_roundg (PS.length - (i + 1))
        case measure => have := HK.out; omega
        case rel => exact ⟨i + 1, by go_num, by rw [HSN.out, ← IntWalk.i64_left], ⟨by omega⟩, ⟨HM3.out, HJ3.out, HR3.out⟩⟩
      · have HV2 : Aside0 (sumW L s (PS.take i) = waysOf L s) := ⟨by rw [HV.out, List.take_of_length_le (by omega)]⟩
        obtain ⟨n2, D2, hn2, hown2, hD2⟩ := HJ.out.1.open_
        have HO2 := Aside0.mk hown2
        have HD2 := Aside0.mk hD2
        have HN2 := Aside0.mk hn2
        have HIN : Aside0 ((Lit.int .i64 (waysOf L s)).wf = true) := ⟨by rw [← HV2.out]; have := sumW_in L s (PS.take i); exact wf_i64 this.1 this.2⟩
        clear hown2 hD2 hn2
        have d4 : wr.cell? ⟨wb, 5, none⟩ = some (.map (some mb)) := (blk_cell (HW.out.grown HJ.out.2.1).blk 5).trans rfl
        rw [HV2.out]
        go_wp2_with (first
          | (at_mapUpdate; refine wpList_mapUpdate_own (H := Unit) _ rfl _ _ _ 156 rfl 133 3 keyed133 Try.underlying156 (plainElem Try.prog 3) mb n2 D2 rfl HO2.out HN2.out (.int .u32 (s : Int)) (.int .i64 (waysOf L s)) (.int .u32 (s : Int)) rfl rfl (key_u32 hs32) (.lit (.int .i64 (waysOf L s))) [] (plainElem_int Try.underlying3 HIN.out) ?_; intro w5 hown5 hg5; have HO5 := Aside0.mk hown5; have HG5 := Aside0.mk hg5; clear hown5 hg5))
        go_ret
        exact ⟨rfl, Memo.close HO5.out (HD2.out.put hs32), HJ.out.2.1.andThen HG5.out (fun j hj => .inr hj)⟩
theorem orders_calls {w0 : World} {wb mb : Nat} {L : List S57} {c : Int} {A0 : Option Addr} {c0 : Nat} {vn vb : Value} (hF : Fine L) : ∀ (k s : Nat), missing L.length s ≤ k → s < 2 ^ L.length → ∀ w, Work w0 w wb mb L c A0 c0 vn vb → Memo w mb (waysOf L) →
    Calls Try.prog 93 #[.pointer (some ⟨wb, 0, none⟩), .int .u32 (s : Int)] w fun e w' => e = .returned (.int .i64 (waysOf L s)) ∧ Memo w' mb (waysOf L) ∧ w.grownBy w' (some mb) := by
  intro k
  induction k with
  | zero =>
    intro s hk hs w hW hM
    refine orders_walk hF s hs (fun p hp => ?_) hW hM
    have h1 := partsOf_mem hp
    have := missing_with h1.1 h1.2.1
    omega
  | succ k ih =>
    intro s hk hs w hW hM
    refine orders_walk hF s hs (fun p hp W hW1 hM1 => ?_) hW hM
    have h1 := partsOf_mem hp
    have := missing_with h1.1 h1.2.1
    exact ih _ (by omega) (with_lt hs h1.1) W hW1 hM1
end Go.Proofs.Ytbcfphoheijmdaa.Print
end

section
/- A region that draws its order and ends in stores: a load may be taken first although a store at the end writes its cell, since every such store waits for the load. By the pattern of the kit's laws on held regions. -/
namespace Go.Proofs.Ytbcfphoheijmdaa.H
open Go
set_option linter.unusedVariables false
section
variable {P : Program} {ops : Array Oper} {Q : Exit → Act → World → Prop} {md : Region.Mode} {S : World → Prop} {T : Nat → Bool}

/-- Whatever order is picked: S holds behind every operation that is carried out before the first one of T. -/
def wpAnyT (P : Program) (md : Region.Mode) (ops : Array Oper) (Q : Exit → Act → World → Prop) (S : World → Prop) (T : Nat → Bool) : Nat → Array Bool → Act → World → Prop
  | 0, listed, a, w => Region.ready md ops listed = [] ∧ Q .normal a w
  | fuel + 1, listed, a, w =>
    (Region.ready md ops listed = [] → Q .normal a w) ∧
    ∀ i ∈ Region.ready md ops listed,
      (T i = true → wpOp P ops Q i (fun a' w' => wpAny P md ops Q fuel (listed.setIfInBounds i true) a' w') a w) ∧
      (T i = false → wpOp P ops Q i (fun a' w' => S w' ∧ wpAnyT P md ops Q S T fuel (listed.setIfInBounds i true) a' w') a w)
theorem wpAny_of_T : ∀ (fuel : Nat) (listed : Array Bool) (a : Act) (w : World), wpAnyT P md ops Q S T fuel listed a w → wpAny P md ops Q fuel listed a w
  | 0, _, _, _, h => h
  | fuel + 1, listed, a, w, h => ⟨h.1, fun i hi => by
    cases ht : T i with
    | true => exact (h.2 i hi).1 ht
    | false => exact wpOp_mono (fun a' w' h' => wpAny_of_T fuel _ a' w' h'.2) ((h.2 i hi).2 ht)⟩
theorem wpAnyT_first {i : Nat} {oi : Oper} {v : Value} (hi : ops[i]? = some oi) (hTi : T i = false) (hsel : ∀ (j : Nat) (o : Oper) cs b, ops[j]? = some o → o.op ≠ .select cs b)
    (hQ : ∀ c a w, Q (.panic c) (a.put oi.dst v) w → Q (.panic c) a w) :
    ∀ (fuel : Nat) (listed : Array Bool) (a : Act) (w : World),
      (∀ j oj, ops[j]? = some oj → j ≠ i → listed.getD j true = false → (∀ e ∈ oj.after, Region.binds md e = true → e.on ≠ i) → oi.apart ops oj = true) →
      (∀ j oj, T j = true → ops[j]? = some oj → ∃ e, e ∈ oj.after ∧ Region.binds md e = true ∧ (e.on = i ∨ (listed.getD e.on true = false ∧ ∃ ou, ops[e.on]? = some ou ∧ ∃ e2, e2 ∈ ou.after ∧ Region.binds md e2 = true ∧ e2.on = i))) →
      i ∈ Region.ready md ops listed → YieldsIf P ops S oi v a → S w →
      wpAnyT P md ops Q S T fuel (listed.setIfInBounds i true) (a.put oi.dst v) w → wpAnyT P md ops Q S T (fuel + 1) listed a w := by
  intro fuel
  induction fuel with
  | zero =>
    intro listed a w _ _ hr hy hS H
    refine ⟨fun h => (by rw [h] at hr; cases hr), fun j hj => ?_⟩
    by_cases hji : j = i
    · subst hji; exact ⟨fun q => absurd (hTi.symm.trans q) (by decide), fun _ => hy.wpOp hi hS ⟨hS, H⟩⟩
    · have := ready_mono hj hji
      rw [H.1] at this
      cases this
  | succ fuel ih =>
    intro listed a w hfree hT hr hy hS H
    refine ⟨fun h => (by rw [h] at hr; cases hr), fun j hj => ?_⟩
    by_cases hji : j = i
    · subst hji; exact ⟨fun q => absurd (hTi.symm.trans q) (by decide), fun _ => hy.wpOp hi hS ⟨hS, H⟩⟩
    · obtain ⟨hjun, oj, hoj, hall⟩ := mem_ready.1 hj
      have hnot : ∀ e ∈ oj.after, Region.binds md e = true → e.on ≠ i := fun e he hb heq => by
        have h1 := hall e he hb
        have h0 := (mem_ready.1 hr).1
        rw [heq] at h1
        rcases Nat.lt_or_ge i listed.size with h' | h'
        · simp [h'] at h0 h1; rw [h0] at h1; cases h1
        · simp [Array.getElem?_eq_none h'] at h1
      have hTj : T j = false := by
        cases q : T j with
        | false => rfl
        | true =>
          obtain ⟨e, he, hb, hon | ⟨hu, _⟩⟩ := hT j oj q hoj
          · exact absurd hon (hnot e he hb)
          · have h1 := hall e he hb
            rcases Nat.lt_or_ge e.on listed.size with h' | h'
            · simp [h'] at hu h1; rw [hu] at h1; cases h1
            · simp [Array.getElem?_eq_none h'] at hu
      refine ⟨fun q => absurd (hTj.symm.trans q) (by decide), fun _ => ?_⟩
      have h1 := (H.2 j (ready_mono hj hji)).2 hTj
      have h2 := wpOp_putIf hoj (hfree j oj hoj hji hjun hnot) (fun cs b => hsel i oi cs b hi) (fun cs b => hsel j oj cs b hoj) hQ hy h1
      have hfree' : ∀ k ok, ops[k]? = some ok → k ≠ i → (listed.setIfInBounds j true).getD k true = false →
          (∀ e ∈ ok.after, Region.binds md e = true → e.on ≠ i) → oi.apart ops ok = true := fun k ok hk hki hun hno => by
        refine hfree k ok hk hki ?_ hno
        by_cases hjk : j = k
        · subst hjk; exact hjun
        · rw [Go.getD_set_ne true hjk] at hun; exact hun
      have hT' : ∀ k ok, T k = true → ops[k]? = some ok → ∃ e, e ∈ ok.after ∧ Region.binds md e = true ∧ (e.on = i ∨ ((listed.setIfInBounds j true).getD e.on true = false ∧ ∃ ou, ops[e.on]? = some ou ∧ ∃ e2, e2 ∈ ou.after ∧ Region.binds md e2 = true ∧ e2.on = i)) := fun k ok hk ho => by
        obtain ⟨e, he, hb, hon | ⟨hu, ou, hou, e2, he2, hb2, hon2⟩⟩ := hT k ok hk ho
        · exact ⟨e, he, hb, .inl hon⟩
        · refine ⟨e, he, hb, .inr ⟨?_, ou, hou, e2, he2, hb2, hon2⟩⟩
          by_cases hje : j = e.on
          · subst hje
            rw [hou] at hoj
            cases hoj
            exact absurd hon2 (hnot e2 he2 hb2)
          · rw [Go.getD_set_ne true hje]; exact hu
      refine wpOp_mono (fun a' w' h3 => ⟨h3.2.1, ih (listed.setIfInBounds j true) a' w' hfree' hT' (ready_mono hr (Ne.symm hji)) h3.1 h3.2.1 ?_⟩) h2
      rw [Array.setIfInBounds_comm _ _ hji]
      exact h3.2.2
theorem yields_of {o : Oper} {v : Value} {a : Act} (h : YieldsIf P ops (fun _ => True) o v a) : Yields P ops o v a :=
  h.imp (fun ⟨hw, hv⟩ => ⟨hw, fun w => hv w trivial⟩) id
/-- What yields in whatever world may be taken first, whoever waits for it. -/
theorem wpAnyT_firstY {i : Nat} {oi : Oper} {v : Value} (hi : ops[i]? = some oi) (hTi : T i = false) (hsel : ∀ (j : Nat) (o : Oper) cs b, ops[j]? = some o → o.op ≠ .select cs b)
    (hQ : ∀ c a w, Q (.panic c) (a.put oi.dst v) w → Q (.panic c) a w) :
    ∀ (fuel : Nat) (listed : Array Bool) (a : Act) (w : World),
      (∀ j oj, ops[j]? = some oj → j ≠ i → listed.getD j true = false → (∀ e ∈ oj.after, Region.binds md e = true → e.on ≠ i) → oi.apart ops oj = true) →
      i ∈ Region.ready md ops listed → YieldsIf P ops (fun _ => True) oi v a → S w →
      wpAnyT P md ops Q S T fuel (listed.setIfInBounds i true) (a.put oi.dst v) w → wpAnyT P md ops Q S T (fuel + 1) listed a w := by
  intro fuel
  induction fuel with
  | zero =>
    intro listed a w _ hr hy hS H
    refine ⟨fun h => (by rw [h] at hr; cases hr), fun j hj => ?_⟩
    by_cases hji : j = i
    · subst hji; exact ⟨fun q => absurd (hTi.symm.trans q) (by decide), fun _ => hy.wpOp hi trivial ⟨hS, H⟩⟩
    · have := ready_mono hj hji
      rw [H.1] at this
      cases this
  | succ fuel ih =>
    intro listed a w hfree hr hy hS H
    refine ⟨fun h => (by rw [h] at hr; cases hr), fun j hj => ?_⟩
    by_cases hji : j = i
    · subst hji; exact ⟨fun q => absurd (hTi.symm.trans q) (by decide), fun _ => hy.wpOp hi trivial ⟨hS, H⟩⟩
    · obtain ⟨hjun, oj, hoj, hall⟩ := mem_ready.1 hj
      have hnot : ∀ e ∈ oj.after, Region.binds md e = true → e.on ≠ i := fun e he hb heq => by
        have h1 := hall e he hb
        have h0 := (mem_ready.1 hr).1
        rw [heq] at h1
        rcases Nat.lt_or_ge i listed.size with h' | h'
        · simp [h'] at h0 h1; rw [h0] at h1; cases h1
        · simp [Array.getElem?_eq_none h'] at h1
      have hfree' : ∀ k ok, ops[k]? = some ok → k ≠ i → (listed.setIfInBounds j true).getD k true = false →
          (∀ e ∈ ok.after, Region.binds md e = true → e.on ≠ i) → oi.apart ops ok = true := fun k ok hk hki hun hno => by
        refine hfree k ok hk hki ?_ hno
        by_cases hjk : j = k
        · subst hjk; exact hjun
        · rw [Go.getD_set_ne true hjk] at hun; exact hun
      refine ⟨fun hTj => ?_, fun hTj => ?_⟩
      · have h1 := (H.2 j (ready_mono hj hji)).1 hTj
        have h2 := wpOp_putIf hoj (hfree j oj hoj hji hjun hnot) (fun cs b => hsel i oi cs b hi) (fun cs b => hsel j oj cs b hoj) hQ hy h1
        refine wpOp_mono (fun a' w' h3 => wpAny_first hi hsel hQ fuel (listed.setIfInBounds j true) a' w' hfree' (ready_mono hr (Ne.symm hji)) (yields_of h3.1) ?_) h2
        rw [Array.setIfInBounds_comm _ _ hji]
        exact h3.2
      · have h1 := (H.2 j (ready_mono hj hji)).2 hTj
        have h2 := wpOp_putIf hoj (hfree j oj hoj hji hjun hnot) (fun cs b => hsel i oi cs b hi) (fun cs b => hsel j oj cs b hoj) hQ hy h1
        refine wpOp_mono (fun a' w' h3 => ⟨h3.2.1, ih (listed.setIfInBounds j true) a' w' hfree' (ready_mono hr (Ne.symm hji)) h3.1 h3.2.1 ?_⟩) h2
        rw [Array.setIfInBounds_comm _ _ hji]
        exact h3.2.2
/-- Do all of T wait for number i, or for one that has not come up and waits for it? -/
def waitsFor (md : Region.Mode) (ops : Array Oper) (ts : List Nat) (listed : Array Bool) (i : Nat) : Bool :=
  ts.all fun j => match ops[j]? with
    | some oj => oj.after.any fun e => Region.binds md e && (e.on == i || (!(listed.getD e.on true) && match ops[e.on]? with | some ou => ou.after.any fun e2 => Region.binds md e2 && e2.on == i | none => false))
    | none => true
theorem waitsFor_spec {ts : List Nat} {listed : Array Bool} {i : Nat} (h : waitsFor md ops ts listed i = true) : ∀ j oj, ts.contains j = true → ops[j]? = some oj → ∃ e, e ∈ oj.after ∧ Region.binds md e = true ∧ (e.on = i ∨ (listed.getD e.on true = false ∧ ∃ ou, ops[e.on]? = some ou ∧ ∃ e2, e2 ∈ ou.after ∧ Region.binds md e2 = true ∧ e2.on = i)) := by
  intro j oj hj ho
  unfold waitsFor at h
  rw [List.all_eq_true] at h
  have := h j (by simpa using hj)
  rw [ho] at this
  simp only [Array.any_eq_true] at this
  obtain ⟨k, hk, hb⟩ := this
  rw [Bool.and_eq_true, Bool.or_eq_true] at hb
  refine ⟨_, Array.getElem_mem hk, hb.1, ?_⟩
  rcases hb.2 with q | q
  · exact .inl (by simpa using q)
  · rw [Bool.and_eq_true] at q
    refine .inr ⟨by simpa using q.1, ?_⟩
    have q2 := q.2
    cases hu : ops[(oj.after[k]).on]? with
    | none => rw [hu] at q2; cases q2
    | some ou =>
      rw [hu] at q2
      simp only [Array.any_eq_true] at q2
      obtain ⟨m, hm, hc⟩ := q2
      rw [Bool.and_eq_true] at hc
      exact ⟨ou, rfl, _, Array.getElem_mem hm, hc.1, by simpa using hc.2⟩
theorem wpAnyT_take {i : Nat} {oi : Oper} {v : Value} {fuel : Nat} {ts : List Nat} {listed : Array Bool} {a : Act} {w : World} (hi : ops[i]? = some oi) (hTi : ts.contains i = false)
    (hs : Region.noSelect ops = true) (hf : Region.free md ops listed i = true) (hr : (Region.ready md ops listed).contains i = true) (hT : waitsFor md ops ts listed i = true)
    (hQ : ∀ c a w, Q (.panic c) (a.put oi.dst v) w → Q (.panic c) a w) (hy : YieldsIf P ops S oi v a) (hS : S w)
    (h : wpAnyT P md ops Q S ts.contains fuel (listed.setIfInBounds i true) (a.put oi.dst v) w) : wpAnyT P md ops Q S ts.contains (fuel + 1) listed a w :=
  wpAnyT_first hi hTi (Region.noSelect_spec hs) hQ fuel listed a w (Region.free_spec hi hf) (waitsFor_spec hT) (by simpa using hr) hy hS h
theorem wpAnyT_takeY {i : Nat} {oi : Oper} {v : Value} {fuel : Nat} {ts : List Nat} {listed : Array Bool} {a : Act} {w : World} (hi : ops[i]? = some oi) (hTi : ts.contains i = false)
    (hs : Region.noSelect ops = true) (hf : Region.free md ops listed i = true) (hr : (Region.ready md ops listed).contains i = true)
    (hQ : ∀ c a w, Q (.panic c) (a.put oi.dst v) w → Q (.panic c) a w) (hy : YieldsIf P ops (fun _ => True) oi v a) (hS : S w)
    (h : wpAnyT P md ops Q S ts.contains fuel (listed.setIfInBounds i true) (a.put oi.dst v) w) : wpAnyT P md ops Q S ts.contains (fuel + 1) listed a w :=
  wpAnyT_firstY hi hTi (Region.noSelect_spec hs) hQ fuel listed a w (Region.free_spec hi hf) (by simpa using hr) hy hS h
/-- Each of the operations that may come up comes up. -/
def AllT (P : Program) (md : Region.Mode) (ops : Array Oper) (Q : Exit → Act → World → Prop) (S : World → Prop) (T : Nat → Bool) (fuel : Nat) (listed : Array Bool) (a : Act) (w : World) (rs : List Nat) : Prop :=
  ∀ i ∈ rs, (T i = true → wpOp P ops Q i (fun a' w' => wpAny P md ops Q fuel (listed.setIfInBounds i true) a' w') a w) ∧
      (T i = false → wpOp P ops Q i (fun a' w' => S w' ∧ wpAnyT P md ops Q S T fuel (listed.setIfInBounds i true) a' w') a w)
theorem AllT.nil {fuel : Nat} {listed : Array Bool} {a : Act} {w : World} : AllT P md ops Q S T fuel listed a w [] := fun _ h => by cases h
theorem wpAnyT_ready {rs : List Nat} {fuel : Nat} {listed : Array Bool} {a : Act} {w : World} (hr : Region.ready md ops listed = rs) (hne : rs ≠ [])
    (h : AllT P md ops Q S T fuel listed a w rs) : wpAnyT P md ops Q S T (fuel + 1) listed a w := ⟨fun h0 => absurd (hr ▸ h0) hne, hr ▸ h⟩
theorem AllT.cons {fuel : Nat} {listed : Array Bool} {a : Act} {w : World} {i : Nat} {o : Oper} {rs : List Nat} (ho : ops[i]? = some o) (hTi : T i = false)
    (h : ∀ K' : Act → World → Prop, Shut (∀ a w, S w → (S w → wpAnyT P md ops Q S T fuel (listed.setIfInBounds i true) a w) → K' a w) → if Region.wanted o (yielded ops a.tmps) = true then Oper.wp P o a w K' Q else K' (a.put o.dst undef) w)
    (hs : AllT P md ops Q S T fuel listed a w rs) : AllT P md ops Q S T fuel listed a w (i :: rs) := fun j hj => by
  rcases List.mem_cons.1 hj with rfl | hj
  · exact ⟨fun q => absurd (hTi.symm.trans q) (by decide), fun _ => wpOp_step ho (fun K' hK => h K' (fun a w hS hW => hK a w ⟨hS, hW hS⟩))⟩
  · exact hs j hj
theorem AllT.last {fuel : Nat} {listed : Array Bool} {a : Act} {w : World} {i : Nat} {o : Oper} {rs : List Nat} (ho : ops[i]? = some o) (hTi : T i = true)
    (h : ∀ K' : Act → World → Prop, Shut (∀ a w, wpAny P md ops Q fuel (listed.setIfInBounds i true) a w → K' a w) → if Region.wanted o (yielded ops a.tmps) = true then Oper.wp P o a w K' Q else K' (a.put o.dst undef) w)
    (hs : AllT P md ops Q S T fuel listed a w rs) : AllT P md ops Q S T fuel listed a w (i :: rs) := fun j hj => by
  rcases List.mem_cons.1 hj with rfl | hj
  · exact ⟨fun _ => wpOp_step ho (fun K' hK => h K' (fun a w hW => hK a w hW)), fun q => absurd (hTi.symm.trans q) (by decide)⟩
  · exact hs j hj
theorem wp_region_T (ts : List Nat) {id : Nat} {a : Act} {w : World} (hm : P.follows .mixedOrders = true) (hS : S w.drew)
    (h : S w.drew → wpAnyT P .any ops Q S ts.contains ops.size (Array.replicate ops.size false) a w.drew) : (Code.region id ops true).wp P Q a w :=
  wp_region_any hm (wpAny_of_T _ _ _ _ (h hS))
end
end Go.Proofs.Ytbcfphoheijmdaa.H
end

section
/- The work of a kit while it is made: two rows that grow side by side. -/
namespace Go.Proofs.Ytbcfphoheijmdaa.Print
open Go.RowKit Go.Proofs.YtbcfphoheijmdaaW.PrintWords Go.Proofs.YtbcfphoheijmdaaW.PrintLast Go.Proofs.YtbcfphoheijmdaaW.PrintMore Go.Proofs.Ytbcfphoheijmdaa.H
set_option linter.unusedVariables false
set_option linter.unusedSimpArgs false

theorem info133 : (Try.prog.info? 133).map (fun i => (i.zero, i.size, i.bytes)) = some (some (.int .u32 0), 1, 4) := by kernel_rfl
/-- Two rows of sets, side by side; the blocks l; an empty map; single sets q that are to be appended. -/
structure Bg (w0 W : World) (l : List (Nat × Array Value × TypeId)) (mb : Nat) (vn : Value) (xs : List Int) (vb : Value) (ys : List Int) (q : List (Nat × Int)) : Prop where
  mem : Mem w0 W l
  types : ∀ p, p ∈ l → 133 ≠ p.2.2
  map : W.heap[mb]? = some (.map #[] 0)
  gem : w0.heap.size ≤ mb
  rn : (Kd.int .u32).R 133 W w0.heap.size (fun _ => True) vn xs
  rb : (Kd.int .u32).R 133 W w0.heap.size (fun _ => True) vb ys
  sep : ∀ k, vn.ownBlock = some k → some k ≠ vb.ownBlock
  src : ∀ p, p ∈ q → W.heap[p.1]? = some (.cells #[.int .u32 p.2] 133 (0, 0)) ∧ some p.1 ≠ vn.ownBlock ∧ some p.1 ≠ vb.ownBlock
namespace Bg
variable {w0 W W1 : World} {l : List (Nat × Array Value × TypeId)} {mb : Nat} {vn vb v1 : Value} {xs ys : List Int} {q : List (Nat × Int)}
theorem later (h : Bg w0 W l mb vn xs vb ys q) (hb : Below W.heap.size W W1) : Bg w0 W1 l mb vn xs vb ys q :=
  ⟨h.mem.step hb, h.types, blk_below h.map hb, h.gem, Kd.R_below h.rn hb, Kd.R_below h.rb hb, h.sep, fun p hp => ⟨blk_below (h.src p hp).1 hb, (h.src p hp).2⟩⟩
theorem swap (h : Bg w0 W l mb vn xs vb ys q) : Bg w0 W l mb vb ys vn xs q :=
  ⟨h.mem, h.types, h.map, h.gem, h.rb, h.rn, fun k hk e => h.sep k e.symm hk.symm, fun p hp => ⟨(h.src p hp).1, (h.src p hp).2.2, (h.src p hp).2.1⟩⟩
theorem mapNe (h : (Kd.int .u32).R 133 W w0.heap.size (fun _ => True) vn xs) (hm : W.heap[mb]? = some (.map #[] 0)) : some mb ≠ vn.ownBlock := fun e => by
  obtain ⟨cells, hc⟩ := Kd.R_typed h mb e.symm
  rw [hm] at hc
  exact absurd hc (by simp)
theorem built (h : Bg w0 W l mb vn xs vb ys q) (x : Int) : Bg w0 (W.alloc (.cells #[.int .u32 x] 133)) l mb vn xs vb ys ((W.heap.size, x) :: q) := by
  have h1 := h.later (below_alloc (Below.refl _ _) (.cells #[.int .u32 x] 133))
  refine ⟨h1.mem, h1.types, h1.map, h1.gem, h1.rn, h1.rb, h1.sep, fun p hp => ?_⟩
  rcases List.mem_cons.1 hp with rfl | hp
  · exact ⟨blk_new W _, fun e => by have := Kd.R_lt h.rn _ e.symm; simp at this, fun e => by have := Kd.R_lt h.rb _ e.symm; simp at this⟩
  · exact h1.src p hp
theorem app (h : Bg w0 W l mb vn xs vb ys q) {x : Int} (hg : W.grownBy W1 vn.ownBlock) (hR : (Kd.int .u32).R 133 W1 w0.heap.size (fun _ => True) v1 (xs ++ [x])) (hat : v1.ownBlock = vn.ownBlock ∨ ∃ b, v1.ownBlock = some b ∧ W.heap.size ≤ b) : Bg w0 W1 l mb v1 (xs ++ [x]) vb ys q :=
  ⟨h.mem.grownR h.rn hg h.types, h.types, (hg.block mb (blk_lt h.map) (mapNe h.rn h.map)).trans h.map, h.gem, hR, Kd.R_grown2 h.rb rfl hg (fun k hk => h.sep k hk), fun k hk e => by
    rcases hat with q | ⟨b, q, hb⟩
    · exact h.sep k (q ▸ hk) e
    · have e1 : k = b := Option.some.inj (hk.symm.trans q)
      have := Kd.R_lt h.rb k e.symm
      omega, fun p hp => ⟨(hg.block _ (blk_lt (h.src p hp).1) (h.src p hp).2.1).trans (h.src p hp).1, fun e => by
    rcases hat with q | ⟨b, q, hb⟩
    · exact (h.src p hp).2.1 (e.trans q)
    · have e1 : p.1 = b := Option.some.inj (e.trans q)
      have := blk_lt (h.src p hp).1
      omega, (h.src p hp).2.2⟩⟩
theorem row {b : Nat} {x : Int} (h : Bg w0 W l mb vn xs vb ys q) (hm : (b, x) ∈ q) : ReadsRow (fun (x : Int) (cs : List Value) => cs = [.int .u32 x]) 1 W (some ⟨b, 0, none⟩) 1 [x] := by
  refine ⟨rfl, by omega, fun _ => ⟨_, rfl, fun j p hj => ?_⟩⟩
  cases j with
  | zero =>
    simp only [List.getElem?_cons_zero, Option.some.injEq] at hj
    subst hj
    refine ⟨_, rfl, rfl, fun i u hu => ?_⟩
    cases i with
    | zero =>
      simp only [List.getElem?_cons_zero, Option.some.injEq] at hu
      subst hu
      exact (blk_cell (h.src _ hm).1 0).trans rfl
    | succ i => simp at hu
  | succ j => simp at hj
end Bg
end Go.Proofs.Ytbcfphoheijmdaa.Print
end

section
/- begun: that the Go function's call makes the work of a kit. -/
namespace Go.Proofs.Ytbcfphoheijmdaa.Print
open Go.RowKit Go.Proofs.YtbcfphoheijmdaaW.PrintWords Go.Proofs.YtbcfphoheijmdaaW.PrintLast Go.Proofs.YtbcfphoheijmdaaW.PrintMore Go.Proofs.Ytbcfphoheijmdaa.H
attribute [local go_sem] max2_int min2_int max_two min_two max_three min_three max_four min_four
attribute [local go_sem ↓] Go.wp_at_zero Go.wp_at_succ
set_option linter.unusedVariables false
set_option linter.unusedSimpArgs false

theorem setsTo_next (L : List S57) (f : S57 → List Int) (i : Nat) : setsTo L f (i + 1) = setsTo L f i ++ [((setN (f (L.getD i z57)) : Nat) : Int)] := by
  unfold setsTo
  rw [List.range_succ, List.map_append]
  rfl
theorem Mem.add {w W W1 : World} {l : List (Nat × Array Value × TypeId)} {g : Nat} {cs : Array Value} {t : TypeId} (h : Mem w W l) (h2 : Mem W W1 [(g, cs, t)]) : Mem w W1 ((g, cs, t) :: l) := by
  refine ⟨below_step h.below h2.below, fun p hp => ?_, fun p hp => ?_, .cons (fun p hp => ?_) h.apart⟩
  · rcases List.mem_cons.1 hp with rfl | hp
    · exact h2.head
    · exact blk_below (h.blk p hp) h2.below
  · rcases List.mem_cons.1 hp with rfl | hp
    · exact Nat.le_trans h.below.size h2.geh
    · exact h.ge p hp
  · have := blk_lt (h.blk p hp)
    have := h2.geh
    show g ≠ p.1
    omega
theorem Bg.add {w0 W W1 : World} {l : List (Nat × Array Value × TypeId)} {mb : Nat} {vn vb : Value} {xs ys : List Int} {q : List (Nat × Int)} {g : Nat} {cs : Array Value} {t : TypeId} (h : Bg w0 W l mb vn xs vb ys q) (h2 : Mem W W1 [(g, cs, t)]) (ht : 133 ≠ t) : Bg w0 W1 ((g, cs, t) :: l) mb vn xs vb ys q := by
  have h3 := h.later h2.below
  refine ⟨Mem.add h.mem h2, fun p hp => ?_, h3.map, h3.gem, h3.rn, h3.rb, h3.sep, h3.src⟩
  rcases List.mem_cons.1 hp with rfl | hp
  · exact ht
  · exact h.types p hp
theorem Bg.drop {w0 W : World} {l : List (Nat × Array Value × TypeId)} {p : Nat × Array Value × TypeId} {mb : Nat} {vn vb : Value} {xs ys : List Int} {q : List (Nat × Int)} (h : Bg w0 W (p :: l) mb vn xs vb ys q) : Bg w0 W l mb vn xs vb ys q :=
  ⟨h.mem.drop, fun p hp => h.types p (List.mem_cons_of_mem _ hp), h.map, h.gem, h.rn, h.rb, h.sep, h.src⟩
theorem Memo.of_map {W : World} {mb : Nat} {val : Nat → Int} (h : W.heap[mb]? = some (.map #[] 0)) : Memo W mb val := by
  obtain ⟨n, D, hn, ⟨es, clock, hb, F, hs, hD⟩, hM⟩ := Memo.made W val
  have hb2 : (W.alloc (.map #[] 0)).heap[W.heap.size]? = some (.map #[] 0) := blk_new W _
  rw [hb2] at hb
  injection hb with hb
  injection hb with e1 e2
  subst e1
  subst e2
  exact ⟨n, D, hn, ⟨#[], 0, h, F, hs, hD⟩, hM⟩
theorem cellsOf {w0 W : World} {l : List (Nat × Array Value × TypeId)} {mb g wb : Nat} {vn vb vn0 vb0 a b c d e f m n : Value} {xs ys : List Int} {q : List (Nat × Int)} (h : Bg w0 W ((g, #[a, b, c, d], 57) :: (wb, #[e, f, vn0, vb0, m, n], 158) :: l) mb vn xs vb ys q) :
    W.cell? ⟨wb, 2, none⟩ = some vn0 ∧ W.cell? ⟨wb, 3, none⟩ = some vb0 ∧ W.cell? ⟨g, 0, none⟩ = some a ∧ W.cell? ⟨g, 1, none⟩ = some b :=
  ⟨(blk_cell h.mem.second 2).trans rfl, (blk_cell h.mem.second 3).trans rfl, (h.mem.cell 0).trans rfl, (h.mem.cell 1).trans rfl⟩
theorem Bg.put2 {w0 W : World} {l : List (Nat × Array Value × TypeId)} {mb g wb : Nat} {vn vb vn0 vb0 e f m n v : Value} {cs : Array Value} {xs ys : List Int} {q : List (Nat × Int)} (h : Bg w0 W ((g, cs, 57) :: (wb, #[e, f, vn0, vb0, m, n], 158) :: l) mb vn xs vb ys q) (hv : v = vn) :
    Bg w0 (W.setCell ⟨wb, 2, none⟩ v) ((g, cs, 57) :: (wb, #[e, f, v, vb0, m, n], 158) :: l) mb vn xs vb ys q := by
  have hm := (h.mem.swap.put 2 v (cs' := #[e, f, v, vb0, m, n]) rfl).swap
  have hw : ∀ k, k ≠ wb → (W.setCell ⟨wb, 2, none⟩ v).heap[k]? = W.heap[k]? := fun k hk => Below.heap_setCell W ⟨wb, 2, none⟩ v k hk
  have hty : ∀ k cells, W.heap[k]? = some (.cells cells 133 (0, 0)) → k ≠ wb := fun k cells hc e => by
    subst e
    rw [h.mem.second] at hc
    simp at hc
  have hmb : mb ≠ wb := fun e => by
    have := h.map
    rw [e, h.mem.second] at this
    simp at this
  refine ⟨hm, fun p hp => ?_, (hw mb hmb).trans h.map, h.gem, Kd.R_mono (Kd.R_step (Kd.R_bound h.rn) (fun k hk _ => hw k ?_)) (fun _ _ => trivial), Kd.R_mono (Kd.R_step (Kd.R_bound h.rb) (fun k hk _ => hw k ?_)) (fun _ _ => trivial), h.sep, fun p hp => ⟨(hw _ (hty _ _ (h.src p hp).1)).trans (h.src p hp).1, (h.src p hp).2⟩⟩
  · have := h.types
    simp only [List.mem_cons] at hp this
    rcases hp with rfl | rfl | hp
    · exact this _ (.inl rfl)
    · show (133 : Nat) ≠ 158; decide
    · exact this _ (.inr (.inr hp))
  · obtain ⟨_, _, _, t, ht, cells, hc⟩ := hk
    have : t = 133 := by simpa [Kd.int, Kd.scalar] using ht
    subst this
    exact hty _ _ hc
  · obtain ⟨_, _, _, t, ht, cells, hc⟩ := hk
    have : t = 133 := by simpa [Kd.int, Kd.scalar] using ht
    subst this
    exact hty _ _ hc
theorem Bg.put3 {w0 W : World} {l : List (Nat × Array Value × TypeId)} {mb g wb : Nat} {vn vb vn0 vb0 e f m n v : Value} {cs : Array Value} {xs ys : List Int} {q : List (Nat × Int)} (h : Bg w0 W ((g, cs, 57) :: (wb, #[e, f, vn0, vb0, m, n], 158) :: l) mb vn xs vb ys q) (hv : v = vb) :
    Bg w0 (W.setCell ⟨wb, 3, none⟩ v) ((g, cs, 57) :: (wb, #[e, f, vn0, v, m, n], 158) :: l) mb vn xs vb ys q := by
  have hm := (h.mem.swap.put 3 v (cs' := #[e, f, vn0, v, m, n]) rfl).swap
  have hw : ∀ k, k ≠ wb → (W.setCell ⟨wb, 3, none⟩ v).heap[k]? = W.heap[k]? := fun k hk => Below.heap_setCell W ⟨wb, 3, none⟩ v k hk
  have hty : ∀ k cells, W.heap[k]? = some (.cells cells 133 (0, 0)) → k ≠ wb := fun k cells hc e => by
    subst e
    rw [h.mem.second] at hc
    simp at hc
  have hmb : mb ≠ wb := fun e => by
    have := h.map
    rw [e, h.mem.second] at this
    simp at this
  refine ⟨hm, fun p hp => ?_, (hw mb hmb).trans h.map, h.gem, Kd.R_mono (Kd.R_step (Kd.R_bound h.rn) (fun k hk _ => hw k ?_)) (fun _ _ => trivial), Kd.R_mono (Kd.R_step (Kd.R_bound h.rb) (fun k hk _ => hw k ?_)) (fun _ _ => trivial), h.sep, fun p hp => ⟨(hw _ (hty _ _ (h.src p hp).1)).trans (h.src p hp).1, (h.src p hp).2⟩⟩
  · have := h.types
    simp only [List.mem_cons] at hp this
    rcases hp with rfl | rfl | hp
    · exact this _ (.inl rfl)
    · show (133 : Nat) ≠ 158; decide
    · exact this _ (.inr (.inr hp))
  · obtain ⟨_, _, _, t, ht, cells, hc⟩ := hk
    have : t = 133 := by simpa [Kd.int, Kd.scalar] using ht
    subst this
    exact hty _ _ hc
  · obtain ⟨_, _, _, t, ht, cells, hc⟩ := hk
    have : t = 133 := by simpa [Kd.int, Kd.scalar] using ht
    subst this
    exact hty _ _ hc
set_option maxHeartbeats 3200000 in
set_option maxRecDepth 100000 in
theorem begun_calls {w : World} {L : List S57} {c : Int} {A0 : Option Addr} {c0 : Nat} (hF : Fine L) (hH : Holds L) (hR : Kd.C k57 w A0 L.length L) (hc : L.length ≤ c0) :
    Calls Try.prog 92 #[.agg #[.slice A0 L.length c0, .int .i64 c]] w fun e w' => ∃ wb mb vn vb, e = .returned (.pointer (some ⟨wb, 0, none⟩)) ∧ Work w w' wb mb L c A0 c0 vn vb ∧ Memo w' mb (waysOf L) ∧ Below w.heap.size w w' := by
  have HR := Aside0.mk hR
  have HM := Aside0.mk (Mem.start w)
  have HH := Aside0.mk hH
  clear hR hH
  have hu49 := Try.underlying49
  have hu57 := Try.underlying57
  have hu158 := Try.underlying158
  have h14 := hF.short
  go_enter Try.func92, Try.ntmps92
  go_wp2_with (first
    | ((with_reducible refine gate_dst (N := 1) rfl ?_); refine ev_box HM.out rfl 49 (.tmp 0) rfl (cs := #[.slice A0 L.length c0, .int .i64 c]) rfl ?_; intro g1 w1 hm1 hq1; clear hq1; have HM1 := Aside0.mk hm1; clear hm1 HM; have c1 : w1.cell? ⟨g1, 0, none⟩ = some (.slice A0 L.length c0) := (HM1.out.cell 0).trans rfl; have c2 : w1.cell? ⟨g1, 1, none⟩ = some (.int .i64 c) := (HM1.out.cell 1).trans rfl))
  have i0 : (0 : Int) ≤ (L.length : Int) := by omega
  have i1 : (L.length : Int) ≤ 32 := by omega
  have hmk := fun W => run_makeMap (P := Try.prog) 156 W
  have hp2 : (2 : Nat) ^ L.length ≤ 2 ^ 14 := hF.small
  have hp1 : 0 < (2 : Nat) ^ L.length := Nat.two_pow_pos _
  have u1 : IntKind.u32.wrap (2 ^ L.length) = ((2 ^ L.length : Nat) : Int) := by
    have := wrap_u32 (a := 2 ^ L.length) (by omega)
    rw [Int.natCast_pow] at this ⊢
    exact this
  have u2 : IntKind.u32.wrap (((2 ^ L.length : Nat) : Int) - 1) = ((2 ^ L.length - 1 : Nat) : Int) := by
    have := wrap_u32 (a := 2 ^ L.length - 1) (by omega)
    rw [show (((2 ^ L.length : Nat) : Int) - 1) = ((2 ^ L.length - 1 : Nat) : Int) by omega]
    exact this
  generalize hALL : 2 ^ L.length - 1 = ALL at u2
  have HALL := Aside0.mk hALL
  clear hALL
  generalize hALL0 : ((2 ^ L.length : Nat) : Int) = ALL0 at u1 u2
  clear hALL0 hp1 hp2
  go_region_held3 (fun w' => w'.cell? ⟨g1, 0, none⟩ = some (.slice A0 L.length c0) ∧ w'.cell? ⟨g1, 1, none⟩ = some (.int .i64 c)) (first | exact ⟨c1, c2⟩ | exact ⟨(HM1.out.drew.alloc _).cell 0, (HM1.out.drew.alloc _).cell 1⟩ | exact ⟨((HM1.out.drew.alloc _).alloc _).cell 0, ((HM1.out.drew.alloc _).alloc _).cell 1⟩) (fail)
  clear hmk
  go_wp2_with fail
  have HB0 : Aside0 (Bg w (((w1.alloc (Obj.map #[] 0)).alloc (Obj.cells #[Value.slice A0 L.length c0, Value.int IntKind.i64 c, Value.slice none 0 0, Value.slice none 0 0, Value.int IntKind.u32 ↑ALL, Value.map (some w1.heap.size)] 158)).drew) [(w1.heap.size + 1, #[Value.slice A0 L.length c0, Value.int IntKind.i64 c, Value.slice none 0 0, Value.slice none 0 0, Value.int IntKind.u32 ↑ALL, Value.map (some w1.heap.size)], 158), (g1, #[.slice A0 L.length c0, .int .i64 c], 49)] w1.heap.size (.slice none 0 0) (setsTo L S57.f0 0) (.slice none 0 0) (setsTo L S57.f1 0) []) := ⟨by
    have h1 := HM1.out.alloc (Obj.map #[] 0)
    have h2 := (h1.new (g := w1.heap.size + 1) (by simp) (by have := blk_new (w1.alloc (Obj.map #[] 0)) (Obj.cells #[Value.slice A0 L.length c0, Value.int IntKind.i64 c, Value.slice none 0 0, Value.slice none 0 0, Value.int IntKind.u32 ↑ALL, Value.map (some w1.heap.size)] 158); simpa using this) (below_alloc (Below.refl _ _) _)).drew
    exact ⟨h2, by simp, by have := blk_new w1 (Obj.map #[] 0); exact (blk_below (blk_below this (below_alloc (Below.refl _ _) _)) (below_drew1 (Below.refl _ _))), HM1.out.below.size, Kd.R_nil _ _ _ _ _, Kd.R_nil _ _ _ _ _, by simp [Value.ownBlock], by simp⟩⟩
  have HMZ := Aside0.mk (show w1.heap.size ≠ w1.heap.size + 1 by omega)
  generalize w1.heap.size + 1 = wb at HB0 HMZ
  generalize w1.heap.size = mb at HB0 HMZ
  go_loopg [18] L.length (fun k v18 w' => ∃ (i : Nat) (vn vb : Value) (q : List (Nat × Int)), v18 = .int .i64 i ∧ Aside0 (i + k = L.length) ∧ Aside0 (Bg w w' [(wb, #[Value.slice A0 L.length c0, Value.int IntKind.i64 c, vn, vb, Value.int IntKind.u32 ↑ALL, Value.map (some mb)], 158), (g1, #[.slice A0 L.length c0, .int .i64 c], 49)] mb vn (setsTo L S57.f0 i) vb (setsTo L S57.f1 i) q))
  case atStart => exact ⟨0, _, _, [], rfl, ⟨by omega⟩, HB0⟩
  case round =>
    clear HB0 HM1 c1 c2
    obtain ⟨i, vn, vb, q, rfl, HK, HBG⟩ := hrel
    by_cases hi : i < L.length
    · obtain ⟨ad, A3, c3, A4, c4, e0, x0, x1, x2, x3, b0, h0, b1, h1⟩ := at57 HR.out i hi
      cases e0
      have HXN := Aside0.mk (setsTo_next L S57.f0 i)
      have HXB := Aside0.mk (setsTo_next L S57.f1 i)
      have HEN := Aside0.mk (setOf_eq (L.getD i z57).f0 (fun p hp => by have := hF.needs i hi p hp; omega) (by have := HH.out (L.getD i z57) (by rw [List.getD_eq_getElem?_getD, List.getElem?_eq_getElem hi]; exact List.getElem_mem _); omega))
      have HEB := Aside0.mk (setOf_eq (L.getD i z57).f1 (fun p hp => by have := hF.bars i hi p hp; omega) (by have := HH.out (L.getD i z57) (by rw [List.getD_eq_getElem?_getD, List.getElem?_eq_getElem hi]; exact List.getElem_mem _); omega))
      generalize L.getD i z57 = X at x0 x1 x2 x3 b0 h0 b1 h1 HXN HXB HEN HEB
      generalize ((setN X.f0 : Nat) : Int) = xn at HXN HEN
      generalize ((setN X.f1 : Nat) : Int) = xb at HXB HEB
      have HCN := Aside0.mk (fun W (hB : Below w.heap.size w W) => mount_setOf.calls _ A3 c3 X.f0 xn W (Kd.C_below h0 hB) b0 HEN.out)
      have HCB := Aside0.mk (fun W (hB : Below w.heap.size w W) => mount_setOf.calls _ A4 c4 X.f1 xb W (Kd.C_below h1 hB) b1 HEB.out)
      clear h0 h1 b0 b1
      replace x0 := cell_later HBG.out.mem.below x0
      replace x1 := cell_later HBG.out.mem.below x1
      replace x2 := cell_later HBG.out.mem.below x2
      replace x3 := cell_later HBG.out.mem.below x3
      have hk1 : (0 : Int) ≤ (i : Int) := by omega
      have hk2 : (i : Int) < (L.length : Int) := by omega
      have HMR := Aside0.mk (Mem.start wr)
      go_wp2_with (first
        | ((with_reducible refine gate_dst (N := 5) rfl ?_); refine ev_new HMR.out rfl 57 rfl info57 ?_; intro g3 w3 hm3 hq1; have HM6 := Aside0.mk hm3; clear hm3 hq1 HMR)
        | (refine ev_store HM6.out rfl 57 (.tmp 5) (.tmp 21) rfl rfl (cs := #[.slice A3 X.f0.length c3, .slice A4 X.f1.length c4, .int .i64 X.f2, .int .i64 X.f3]) rfl size57 rfl rfl (by simp [Value.oneCell']) ?_; intro w4 hm4 hq2; have HBG := Aside0.mk (HBG.out.add hm4 (by decide)); clear hm4 hq2 HM6))
      clear x0 x1 x2 x3
      have HBG := Aside0.mk (HBG.out.later (below_drew1 (Below.refl _ _)))
      refine wp_region_noPanic ?_
      refine H.wp_region_T [22, 25] (S := fun w' => w'.cell? ⟨wb, 2, none⟩ = some vn ∧ w'.cell? ⟨wb, 3, none⟩ = some vb ∧ w'.cell? ⟨g3, 0, none⟩ = some (.slice A3 X.f0.length c3) ∧ w'.cell? ⟨g3, 1, none⟩ = some (.slice A4 X.f1.length c4)) (by kernel_rfl) (cellsOf HBG.out) (fun hHeld => ?_)
      clear hi
      refine H.wpAnyT_takeY (i := 0) (v := .pointer (some ⟨wb, 0, none⟩)) rfl (by decide) (by kernel_rfl) (by kernel_rfl) (by kernel_rfl) (fun _ _ _ h => h) (Or.inl ⟨by rfl, ?_⟩) hHeld ?_
      · (intro w_ hSw; go_simp; try rfl)
      try simp only [Act.put, List.setIfInBounds_toArray, List.set_cons_zero, List.set_cons_succ]
      refine H.wpAnyT_takeY (i := 1) (v := .pointer (some ⟨wb, 0, none⟩)) rfl (by decide) (by kernel_rfl) (by kernel_rfl) (by kernel_rfl) (fun _ _ _ h => h) (Or.inl ⟨by rfl, ?_⟩) hHeld ?_
      · (intro w_ hSw; go_simp; try rfl)
      try simp only [Act.put, List.setIfInBounds_toArray, List.set_cons_zero, List.set_cons_succ]
      refine H.wpAnyT_takeY (i := 2) (v := .pointer (some ⟨wb, 0, none⟩)) rfl (by decide) (by kernel_rfl) (by kernel_rfl) (by kernel_rfl) (fun _ _ _ h => h) (Or.inl ⟨by rfl, ?_⟩) hHeld ?_
      · (intro w_ hSw; go_simp; try rfl)
      try simp only [Act.put, List.setIfInBounds_toArray, List.set_cons_zero, List.set_cons_succ]
      refine H.wpAnyT_takeY (i := 3) (v := .pointer (some ⟨wb, 0, none⟩)) rfl (by decide) (by kernel_rfl) (by kernel_rfl) (by kernel_rfl) (fun _ _ _ h => h) (Or.inl ⟨by rfl, ?_⟩) hHeld ?_
      · (intro w_ hSw; go_simp; try rfl)
      try simp only [Act.put, List.setIfInBounds_toArray, List.set_cons_zero, List.set_cons_succ]
      refine H.wpAnyT_takeY (i := 4) (v := .pointer (some ⟨wb, 2, none⟩)) rfl (by decide) (by kernel_rfl) (by kernel_rfl) (by kernel_rfl) (fun _ _ _ h => h) (Or.inl ⟨by rfl, ?_⟩) hHeld ?_
      · (intro w_ hSw; go_simp; try rfl)
      try simp only [Act.put, List.setIfInBounds_toArray, List.set_cons_zero, List.set_cons_succ]
      refine H.wpAnyT_take (i := 5) (v := vn) rfl (by decide) (by kernel_rfl) (by kernel_rfl) (by kernel_rfl) (by kernel_rfl) (fun _ _ _ h => h) (Or.inl ⟨by rfl, ?_⟩) hHeld ?_
      · (intro w_ hSw; (try dsimp only at hSw); obtain ⟨q1, q2, q3, q4⟩ := hSw; go_simp; try rfl)
      try simp only [Act.put, List.setIfInBounds_toArray, List.set_cons_zero, List.set_cons_succ]
      refine H.wpAnyT_takeY (i := 6) (v := .pointer (some ⟨g3, 0, none⟩)) rfl (by decide) (by kernel_rfl) (by kernel_rfl) (by kernel_rfl) (fun _ _ _ h => h) (Or.inl ⟨by rfl, ?_⟩) hHeld ?_
      · (intro w_ hSw; go_simp; try rfl)
      try simp only [Act.put, List.setIfInBounds_toArray, List.set_cons_zero, List.set_cons_succ]
      refine H.wpAnyT_take (i := 7) (v := .slice A3 X.f0.length c3) rfl (by decide) (by kernel_rfl) (by kernel_rfl) (by kernel_rfl) (by kernel_rfl) (fun _ _ _ h => h) (Or.inl ⟨by rfl, ?_⟩) hHeld ?_
      · (intro w_ hSw; (try dsimp only at hSw); obtain ⟨q1, q2, q3, q4⟩ := hSw; go_simp; try rfl)
      try simp only [Act.put, List.setIfInBounds_toArray, List.set_cons_zero, List.set_cons_succ]
      refine H.wpAnyT_takeY (i := 11) (v := .pointer (some ⟨wb, 0, none⟩)) rfl (by decide) (by kernel_rfl) (by kernel_rfl) (by kernel_rfl) (fun _ _ _ h => h) (Or.inl ⟨by rfl, ?_⟩) hHeld ?_
      · (intro w_ hSw; go_simp; try rfl)
      try simp only [Act.put, List.setIfInBounds_toArray, List.set_cons_zero, List.set_cons_succ]
      refine H.wpAnyT_takeY (i := 12) (v := .pointer (some ⟨wb, 0, none⟩)) rfl (by decide) (by kernel_rfl) (by kernel_rfl) (by kernel_rfl) (fun _ _ _ h => h) (Or.inl ⟨by rfl, ?_⟩) hHeld ?_
      · (intro w_ hSw; go_simp; try rfl)
      try simp only [Act.put, List.setIfInBounds_toArray, List.set_cons_zero, List.set_cons_succ]
      refine H.wpAnyT_takeY (i := 13) (v := .pointer (some ⟨wb, 3, none⟩)) rfl (by decide) (by kernel_rfl) (by kernel_rfl) (by kernel_rfl) (fun _ _ _ h => h) (Or.inl ⟨by rfl, ?_⟩) hHeld ?_
      · (intro w_ hSw; go_simp; try rfl)
      try simp only [Act.put, List.setIfInBounds_toArray, List.set_cons_zero, List.set_cons_succ]
      refine H.wpAnyT_take (i := 14) (v := vb) rfl (by decide) (by kernel_rfl) (by kernel_rfl) (by kernel_rfl) (by kernel_rfl) (fun _ _ _ h => h) (Or.inl ⟨by rfl, ?_⟩) hHeld ?_
      · (intro w_ hSw; (try dsimp only at hSw); obtain ⟨q1, q2, q3, q4⟩ := hSw; go_simp; try rfl)
      try simp only [Act.put, List.setIfInBounds_toArray, List.set_cons_zero, List.set_cons_succ]
      refine H.wpAnyT_takeY (i := 15) (v := .pointer (some ⟨g3, 1, none⟩)) rfl (by decide) (by kernel_rfl) (by kernel_rfl) (by kernel_rfl) (fun _ _ _ h => h) (Or.inl ⟨by rfl, ?_⟩) hHeld ?_
      · (intro w_ hSw; go_simp; try rfl)
      try simp only [Act.put, List.setIfInBounds_toArray, List.set_cons_zero, List.set_cons_succ]
      refine H.wpAnyT_take (i := 16) (v := .slice A4 X.f1.length c4) rfl (by decide) (by kernel_rfl) (by kernel_rfl) (by kernel_rfl) (by kernel_rfl) (fun _ _ _ h => h) (Or.inl ⟨by rfl, ?_⟩) hHeld ?_
      · (intro w_ hSw; (try dsimp only at hSw); obtain ⟨q1, q2, q3, q4⟩ := hSw; go_simp; try rfl)
      try simp only [Act.put, List.setIfInBounds_toArray, List.set_cons_zero, List.set_cons_succ]
      refine H.wpAnyT_ready (rs := [8]) (by kernel_rfl) (by simp) ?_
      refine H.AllT.cons (i := 8) rfl (by decide) (fun K hK => ?_) H.AllT.nil
      go_simp
      go_at_call 134
      refine (HCN.out _ HBG.out.mem.below).mono ?_
      rintro e W5n ⟨rfl, hd⟩
      have HBG := Aside0.mk (HBG.out.later hd.below)
      refine hK.out _ _ (cellsOf HBG.out) (fun hHeld => ?_)
      clear hK K
      try simp only [Act.put, List.setIfInBounds_toArray, List.set_cons_zero, List.set_cons_succ]
      refine H.wpAnyT_ready (rs := [9]) (by kernel_rfl) (by simp) ?_
      refine H.AllT.cons (i := 9) rfl (by decide) (fun K hK => ?_) H.AllT.nil
      go_simp
      have HBG := Aside0.mk (HBG.out.built xn)
      refine hK.out _ _ (cellsOf HBG.out) (fun hHeld => ?_)
      clear hK K
      try simp only [Act.put, List.setIfInBounds_toArray, List.set_cons_zero, List.set_cons_succ]
      refine H.wpAnyT_ready (rs := [10]) (by kernel_rfl) (by simp) ?_
      refine H.AllT.cons (i := 10) rfl (by decide) (fun K hK => ?_) H.AllT.nil
      refine Kd.R_append_rows_step (Kd.int .u32) (Rr := fun (x : Int) (cs : List Value) => cs = [.int .u32 x]) (w0 := w) w.heap.size (by rfl) (.tmp 27) (.tmp 31) 155 133 (.int .u32 0) 4 rfl Try.underlying155 info133 rfl (by decide) (by omega) vn _ [xn] _ 1 1 (fun _ => True) (fun _ => False) (by rfl) (by rfl) HBG.out.rn (HBG.out.row (x := xn) (by simp)) (fun x cs h => h) (fun _ hk => hk.elim) (fun _ _ => trivial) HBG.out.mem.below HBG.out.mem.below.size (by simp only [setsTo, List.length_map, List.length_range]; omega) ?_
      intro vn1 W6n hR6 hB6 hg6 hat6
      have HBG := Aside0.mk (HBG.out.app hg6 hR6 hat6)
      clear hR6 hB6 hg6 hat6
      refine hK.out _ _ (cellsOf HBG.out) (fun hHeld => ?_)
      clear hK K
      try simp only [Act.put, List.setIfInBounds_toArray, List.set_cons_zero, List.set_cons_succ]
      refine H.wpAnyT_ready (rs := [17]) (by kernel_rfl) (by simp) ?_
      refine H.AllT.cons (i := 17) rfl (by decide) (fun K hK => ?_) H.AllT.nil
      go_simp
      go_at_call 134
      refine (HCB.out _ HBG.out.mem.below).mono ?_
      rintro e W5b ⟨rfl, hd⟩
      have HBG := Aside0.mk (HBG.out.later hd.below)
      refine hK.out _ _ (cellsOf HBG.out) (fun hHeld => ?_)
      clear hK K
      try simp only [Act.put, List.setIfInBounds_toArray, List.set_cons_zero, List.set_cons_succ]
      refine H.wpAnyT_ready (rs := [18]) (by kernel_rfl) (by simp) ?_
      refine H.AllT.cons (i := 18) rfl (by decide) (fun K hK => ?_) H.AllT.nil
      go_simp
      have HBG := Aside0.mk (HBG.out.built xb)
      refine hK.out _ _ (cellsOf HBG.out) (fun hHeld => ?_)
      clear hK K
      try simp only [Act.put, List.setIfInBounds_toArray, List.set_cons_zero, List.set_cons_succ]
      refine H.wpAnyT_ready (rs := [19]) (by kernel_rfl) (by simp) ?_
      refine H.AllT.cons (i := 19) rfl (by decide) (fun K hK => ?_) H.AllT.nil
      refine Kd.R_append_rows_step (Kd.int .u32) (Rr := fun (x : Int) (cs : List Value) => cs = [.int .u32 x]) (w0 := w) w.heap.size (by rfl) (.tmp 36) (.tmp 40) 155 133 (.int .u32 0) 4 rfl Try.underlying155 info133 rfl (by decide) (by omega) vb _ [xb] _ 1 1 (fun _ => True) (fun _ => False) (by rfl) (by rfl) HBG.out.swap.rn (HBG.out.swap.row (x := xb) (by simp)) (fun x cs h => h) (fun _ hk => hk.elim) (fun _ _ => trivial) HBG.out.mem.below HBG.out.mem.below.size (by simp only [setsTo, List.length_map, List.length_range]; omega) ?_
      intro vb1 W6b hR6 hB6 hg6 hat6
      have HBG := Aside0.mk (HBG.out.swap.app hg6 hR6 hat6).swap
      clear hR6 hB6 hg6 hat6
      refine hK.out _ _ (cellsOf HBG.out) (fun hHeld => ?_)
      clear hK K
      try simp only [Act.put, List.setIfInBounds_toArray, List.set_cons_zero, List.set_cons_succ]
      obtain ⟨An, cn, rfl⟩ := Kd.R_slice HBG.out.rn
      obtain ⟨Ab, cb, rfl⟩ := Kd.R_slice HBG.out.rb
      simp only [List.length_append, List.length_cons, List.length_nil, Nat.zero_add] at HBG
      refine H.wpAnyT_takeY (i := 20) (v := .pointer (some ⟨wb, 0, none⟩)) rfl (by decide) (by kernel_rfl) (by kernel_rfl) (by kernel_rfl) (fun _ _ _ h => h) (Or.inl ⟨by rfl, ?_⟩) hHeld ?_
      · (intro w_ hSw; go_simp; try rfl)
      try simp only [Act.put, List.setIfInBounds_toArray, List.set_cons_zero, List.set_cons_succ]
      refine H.wpAnyT_takeY (i := 21) (v := .pointer (some ⟨wb, 2, none⟩)) rfl (by decide) (by kernel_rfl) (by kernel_rfl) (by kernel_rfl) (fun _ _ _ h => h) (Or.inl ⟨by rfl, ?_⟩) hHeld ?_
      · (intro w_ hSw; go_simp; try rfl)
      try simp only [Act.put, List.setIfInBounds_toArray, List.set_cons_zero, List.set_cons_succ]
      have f2 : W6b.frozen? ⟨wb, 2, none⟩ = false := blk_frozen HBG.out.mem.second _
      have s2 := hHeld.1
      refine H.wpAnyT_ready (rs := [22]) (by kernel_rfl) (by simp) ?_
      refine H.AllT.last (i := 22) rfl (by decide) (fun K hK => ?_) H.AllT.nil
      go_simp
      refine hK.out _ _ ?_
      clear hK K s2 f2
      have s4 := hHeld.2.1
      have f4 : W6b.frozen? ⟨wb, 3, none⟩ = false := blk_frozen HBG.out.mem.second _
      clear hHeld
      try simp only [Act.put, List.setIfInBounds_toArray, List.set_cons_zero, List.set_cons_succ]
      have HP := Aside0.mk (HBG.out.put2 rfl)
      have f3 := blk_frozen HP.out.mem.second 3
      have s3 := (blk_cell HP.out.mem.second 3).trans rfl
      refine wpAny_take (i := 23) (v := .pointer (some ⟨wb, 0, none⟩)) rfl (by kernel_rfl) (by kernel_rfl) (by kernel_rfl) (fun _ _ _ h => h) (Or.inl ⟨by rfl, ?_⟩) ?_
      · (intro w_; go_simp; try rfl)
      try simp only [Act.put, List.setIfInBounds_toArray, List.set_cons_zero, List.set_cons_succ]
      refine wpAny_take (i := 24) (v := .pointer (some ⟨wb, 3, none⟩)) rfl (by kernel_rfl) (by kernel_rfl) (by kernel_rfl) (fun _ _ _ h => h) (Or.inl ⟨by rfl, ?_⟩) ?_
      · (intro w_; go_simp; try rfl)
      try simp only [Act.put, List.setIfInBounds_toArray, List.set_cons_zero, List.set_cons_succ]
      refine wpAny_ready (rs := [25]) (by kernel_rfl) (by simp) ?_
      refine AllReady.cons (i := 25) rfl (fun K hK => ?_) AllReady.nil
      have HKK := Aside0.mk hK
      clear hK
      go_simp
      refine HKK.out _ _ ?_
      clear HKK s3 f3 s4 f4
      try simp only [Act.put, List.setIfInBounds_toArray, List.set_cons_zero, List.set_cons_succ]
      refine wpAny_done (by kernel_rfl) ?_ _
      have HQ := Aside0.mk (HP.out.put3 rfl)
      clear HP
      refine NoPanic.normal ?_
      go_wp2_with fail
      go_roundg (L.length - (i + 1))
      case measure => have := HK.out; omega
      case rel => exact ⟨i + 1, _, _, _, by go_num, ⟨by omega⟩, ⟨by rw [HXN.out, HXB.out]; exact HQ.out.drop⟩⟩
    · have HIL : Aside0 (i = L.length) := ⟨by have := HK.out; omega⟩
      go_wp2_with fail
      go_ret
      refine ⟨wb, mb, vn, vb, rfl, ?_, ?_, HBG.out.mem.below⟩
      · have hBB := HBG.out
        rw [HIL.out] at hBB
        refine ⟨by rw [HALL.out]; exact hBB.mem.head, ?_, ?_, HMZ.out.symm, hBB.mem.geh, hBB.gem, hBB.mem.below⟩
        · exact Kd.R_reok rfl hBB.rn (fun k hk => ⟨fun e => Kd.R_ne hBB.rn hBB.mem.head (by decide) (by rw [hk, e]), fun e => Bg.mapNe hBB.rn hBB.map (by rw [hk, e])⟩)
        · exact Kd.R_reok rfl hBB.rb (fun k hk => ⟨fun e => Kd.R_ne hBB.rb hBB.mem.head (by decide) (by rw [hk, e]), fun e => Bg.mapNe hBB.rb hBB.map (by rw [hk, e])⟩)
      · exact Memo.of_map HBG.out.map
end Go.Proofs.Ytbcfphoheijmdaa.Print
end

section
/- Orders: the Go function's call gives the number of orders of a kit. -/
namespace Go.Proofs.Ytbcfphoheijmdaa.Print
open Go.RowKit Go.Proofs.YtbcfphoheijmdaaW.PrintWords Go.Proofs.YtbcfphoheijmdaaW.PrintLast Go.Proofs.YtbcfphoheijmdaaW.PrintMore Go.Proofs.Ytbcfphoheijmdaa.H
attribute [local go_sem] max2_int min2_int max_two min_two max_three min_three max_four min_four
set_option linter.unusedVariables false
set_option linter.unusedSimpArgs false

theorem otherErr_ok {n own : Int} {l : List Int} {i : Nat} (h : otherErr n own l i = 0) : 0 ≤ l.getD i 0 ∧ l.getD i 0 ≤ n - 1 := by
  unfold otherErr at h
  split at h
  · omega
  · omega
theorem listed_ok {n own : Int} {l : List Int} (h : othersErr n own l = 0) : ∀ x, x ∈ l → 0 ≤ x ∧ x < n := by
  intro x hx
  obtain ⟨i, hi, rfl⟩ := List.mem_iff_getElem.1 hx
  have h1 := otherErr_ok (firstErr_zero h i hi)
  rw [List.getD_eq_getElem?_getD, List.getElem?_eq_getElem hi] at h1
  have h2 : 0 ≤ l[i] ∧ l[i] ≤ n - 1 := h1
  omega
theorem partErr_ok {n own : Int} {p : S57} (h : partErr n own p = 0) : (∀ x, x ∈ p.f0 → 0 ≤ x ∧ x < n) ∧ (∀ x, x ∈ p.f1 → 0 ≤ x ∧ x < n) ∧ 0 ≤ p.f2 ∧ p.f2 ≤ 8 ∧ 0 ≤ p.f3 ∧ p.f3 ≤ 10000 := by
  unfold partErr at h
  split at h
  · rename_i q
    exact absurd h q
  · rename_i q
    have q : firstErr (fun i => othersErr n own (listOf p i)) 2 = 0 := by
      by_cases z : firstErr (fun i => othersErr n own (listOf p i)) 2 = 0
      · exact z
      · exact absurd z q
    have z0 := firstErr_zero q 0 (by omega)
    have z1 := firstErr_zero q 1 (by omega)
    refine ⟨listed_ok z0, listed_ok z1, ?_⟩
    split at h
    · omega
    · omega
theorem kitErr_ok {L : List S57} {c : Int} (h : kitErr L c = 0) : L.length ≤ 14 ∧ 0 ≤ c ∧ c ≤ 10000 ∧ ∀ i, i < L.length → partErr L.length i (L.getD i z57) = 0 := by
  unfold kitErr at h
  split at h
  · omega
  · split at h
    · omega
    · exact ⟨by omega, by omega, by omega, firstErr_zero h⟩
theorem kitErr_fine {L : List S57} {c : Int} (h : kitErr L c = 0) : Fine L := by
  obtain ⟨h1, _, _, h2⟩ := kitErr_ok h
  exact ⟨h1, fun p hp x hx => (partErr_ok (h2 p hp)).1 x hx, fun p hp x hx => (partErr_ok (h2 p hp)).2.1 x hx⟩
def mount_Orders.f (l0_0 : List (S57)) (a0_1 : Int) : Option (Int × Int) := if Holds l0_0 then (if kitErr l0_0 a0_1 = 0 then some (waysOf l0_0 0, 0) else some (0, kitErr l0_0 a0_1)) else none
set_option maxHeartbeats 3200000 in
set_option maxRecDepth 100000 in
theorem mount_Orders.calls (A0_0 : Option Addr) (c0_0 : Nat) (l0_0 : List (S57)) (a0_1 : Int) (r1 : Int) (r2 : Int) (w : World) (hr0_0 : Kd.C k57 w A0_0 l0_0.length l0_0) (hc0_0 : l0_0.length ≤ c0_0) (h : mount_Orders.f l0_0 a0_1 = some (r1, r2)) :
    Calls Try.prog 30 #[.agg #[.slice A0_0 l0_0.length c0_0, .int .i64 a0_1]] w fun e w' => e = .returned (.tuple #[.int .i64 r1, .int .i64 r2]) ∧ Below w.heap.size w w' := by
  have HH : Holds l0_0 := by
    unfold mount_Orders.f at h
    split at h
    · assumption
    · exact absurd h (by simp)
  unfold mount_Orders.f at h
  rw [if_pos HH] at h
  have HR := Aside0.mk hr0_0
  have HM := Aside0.mk (Mem.start w)
  have hck : mount_CheckKit.f l0_0 a0_1 = some (kitErr l0_0 a0_1) := by unfold mount_CheckKit.f; rw [if_pos HH]
  have HCK := Aside0.mk (fun W (hB : Below w.heap.size w W) => mount_CheckKit.calls A0_0 c0_0 l0_0 a0_1 _ W (Kd.C_below hr0_0 hB) hc0_0 hck)
  have hu49 := Try.underlying49
  by_cases te : kitErr l0_0 a0_1 = 0
  · rw [if_pos te] at h
    have HF := Aside0.mk (Option.some.inj h)
    have HFI := kitErr_fine te
    have HBC := Aside0.mk (fun W (hB : Below w.heap.size w W) => begun_calls HFI HH (c := a0_1) (Kd.C_below hr0_0 hB) hc0_0)
    have HOC := Aside0.mk (fun (w0 W : World) (wb mb : Nat) (vn vb : Value) (hW : Work w0 W wb mb l0_0 a0_1 A0_0 c0_0 vn vb) (hM : Memo W mb (waysOf l0_0)) => orders_calls HFI _ 0 (Nat.le_refl _) (Nat.two_pow_pos _) W hW hM)
    rw [te] at HCK
    clear h te hr0_0 hck HFI
    go_enter Try.func30, Try.ntmps30
    go_wp2_with (first
      | ((with_reducible refine gate_dst (N := 1) rfl ?_); refine ev_box HM.out rfl 49 (.tmp 0) rfl (cs := #[.slice A0_0 l0_0.length c0_0, .int .i64 a0_1]) rfl ?_; intro g1 w1 hm1 hq1; clear hq1; have HM1 := Aside0.mk hm1; clear hm1 HM; have c1 : w1.cell? ⟨g1, 0, none⟩ = some (.slice A0_0 l0_0.length c0_0) := (HM1.out.cell 0).trans rfl; have c2 : w1.cell? ⟨g1, 1, none⟩ = some (.int .i64 a0_1) := (HM1.out.cell 1).trans rfl)
      | (go_at_call 40; refine (HCK.out _ HM1.out.below).mono ?_; rintro e w2 ⟨rfl, hd⟩; have HM2 := Aside0.mk (HM1.out.step hd); clear hd HM1 c1 c2; have c1 : w2.cell? ⟨g1, 0, none⟩ = some (.slice A0_0 l0_0.length c0_0) := (HM2.out.cell 0).trans rfl; have c2 : w2.cell? ⟨g1, 1, none⟩ = some (.int .i64 a0_1) := (HM2.out.cell 1).trans rfl)
      | (go_at_call 92; refine (HBC.out _ HM2.out.below).mono ?_; rintro e w3 ⟨wb, mb, vn, vb, rfl, hW3, hM3, hB3⟩; have HW3 := Aside0.mk hW3; have HM3 := Aside0.mk hM3; have HB3 := Aside0.mk hB3; clear hW3 hM3 hB3 c1 c2)
      | (go_at_call 93; refine (HOC.out _ _ _ _ _ _ HW3.out HM3.out).mono ?_; rintro e w4 ⟨rfl, hM4, hg4⟩; have HG4 := Aside0.mk hg4; clear hM4 hg4))
    go_ret2
    have e := HF.out
    injection e with e1 e2
    exact ⟨by rw [← e1, ← e2]; rfl, (HM2.out.step HB3.out).below.grown HG4.out (HM2.out.step HB3.out).below.size (fun k hk => by rw [← Option.some.inj hk]; exact Nat.le_trans HM2.out.below.size HW3.out.gem)⟩
  · rw [if_neg te] at h
    have HF := Aside0.mk (Option.some.inj h)
    have te1 : (kitErr l0_0 a0_1 != 0) = true := by simpa using te
    generalize kitErr l0_0 a0_1 = E at HF te1 HCK
    clear h te hr0_0 hck
    go_enter Try.func30, Try.ntmps30
    go_wp2_with (first
      | ((with_reducible refine gate_dst (N := 1) rfl ?_); refine ev_box HM.out rfl 49 (.tmp 0) rfl (cs := #[.slice A0_0 l0_0.length c0_0, .int .i64 a0_1]) rfl ?_; intro g1 w1 hm1 hq1; clear hq1; have HM1 := Aside0.mk hm1; clear hm1 HM; have c1 : w1.cell? ⟨g1, 0, none⟩ = some (.slice A0_0 l0_0.length c0_0) := (HM1.out.cell 0).trans rfl; have c2 : w1.cell? ⟨g1, 1, none⟩ = some (.int .i64 a0_1) := (HM1.out.cell 1).trans rfl)
      | (go_at_call 40; refine (HCK.out _ HM1.out.below).mono ?_; rintro e w2 ⟨rfl, hd⟩; have HM2 := Aside0.mk (HM1.out.step hd); clear hd HM1 c1 c2))
    go_ret2
    have e := HF.out
    injection e with e1 e2
    exact ⟨by rw [← e1, ← e2]; rfl, HM2.out.below⟩
end Go.Proofs.Ytbcfphoheijmdaa.Print
end

section
/- table.over: what the Go method leaves of a table. -/
namespace Go.Proofs.Ytbcfphoheijmdaa.H
open Go.RowKit Go.Proofs.YtbcfphoheijmdaaW.PrintWords Go.Proofs.YtbcfphoheijmdaaW.PrintLast Go.Proofs.YtbcfphoheijmdaaW.PrintMore
attribute [local go_sem] max2_int min2_int max_two min_two max_three min_three max_four min_four
set_option linter.unusedVariables false
set_option linter.unusedSimpArgs false

theorem info125 : (Try.prog.info? 125).map (fun i => (i.zero, i.size, i.bytes)) = some (some (.agg (Array.replicate 576 (.int .i64 0))), 576, 4608) := by kernel_rfl
theorem size125 : (Try.prog.info? 125).map (·.size) = some 576 := by kernel_rfl

/-- What 'over' leaves at a place. -/
def ovr (T : List Int) (m a b : Nat) : Int :=
  if T.getD (a * 24 + m) 0 < 1099511627776 ∧ T.getD (m * 24 + b) 0 < 1099511627776 then min (T.getD (a * 24 + b) 0) (T.getD (a * 24 + m) 0 + T.getD (m * 24 + b) 0) else T.getD (a * 24 + b) 0
/-- The table behind the places (a', b') before (a, b). -/
def OvTo (T U : List Int) (m n a b : Nat) : Prop :=
  U.length = 576 ∧ ∀ x y, x < 24 → y < 24 → U.getD (x * 24 + y) 0 = if (x < a ∨ x = a ∧ y < b) ∧ x < n ∧ y < n then ovr T m x y else T.getD (x * 24 + y) 0

theorem getD_set_ne {T : List Int} {i j : Nat} {v : Int} (h : i ≠ j) : (T.set i v).getD j 0 = T.getD j 0 := by
  simp [List.getD_eq_getElem?_getD, List.getElem?_set, h]
theorem getD_set_eq {T : List Int} {i : Nat} {v : Int} (h : i < T.length) : (T.set i v).getD i 0 = v := by
  simp [List.getD_eq_getElem?_getD, h]
theorem OvTo.put {T U : List Int} {m n a b : Nat} {X Y Z : Int} (h : OvTo T U m n a b) (ha : a < n) (hb : b < n) (hn : n ≤ 24) (h1 : T.getD (a * 24 + m) 0 = X) (h2 : T.getD (m * 24 + b) 0 = Y) (h3 : U.getD (a * 24 + b) 0 = Z) (t1 : X < 1099511627776) (t2 : Y < 1099511627776) :
    OvTo T (U.set (a * 24 + b) (if Z ≤ X + Y then Z else X + Y)) m n a (b + 1) := by
  have h4 : T.getD (a * 24 + b) 0 = Z := by rw [← h3, h.2 a b (by omega) (by omega), if_neg (by omega)]
  refine ⟨by simp [h.1], fun x y hx hy => ?_⟩
  by_cases q : x = a ∧ y = b
  · obtain ⟨rfl, rfl⟩ := q
    rw [getD_set_eq (by rw [h.1]; omega), if_pos (show (x < x ∨ x = x ∧ y < y + 1) ∧ x < n ∧ y < n by omega)]
    unfold ovr
    rw [h1, h2, h4, if_pos (show X < 1099511627776 ∧ Y < 1099511627776 from And.intro t1 t2)]
    split <;> omega
  · rw [getD_set_ne (by omega), h.2 x y hx hy]
    by_cases c : (x < a ∨ x = a ∧ y < b) ∧ x < n ∧ y < n
    · rw [if_pos c, if_pos (by omega)]
    · rw [if_neg c, if_neg (by omega)]
theorem OvTo.skip {T U : List Int} {m n a b : Nat} (h : OvTo T U m n a b) (e : T.getD (a * 24 + b) 0 = ovr T m a b) : OvTo T U m n a (b + 1) := by
  refine ⟨h.1, fun x y hx hy => ?_⟩
  rw [h.2 x y hx hy]
  by_cases c : (x < a ∨ x = a ∧ y < b) ∧ x < n ∧ y < n
  · rw [if_pos c, if_pos (by omega)]
  · rw [if_neg c]
    by_cases d : (x < a ∨ x = a ∧ y < b + 1) ∧ x < n ∧ y < n
    · rw [if_pos d]
      obtain ⟨rfl, rfl⟩ : x = a ∧ y = b := by omega
      exact e
    · rw [if_neg d]
theorem OvTo.next {T U : List Int} {m n a b : Nat} (h : OvTo T U m n a b) (hb : n ≤ b) : OvTo T U m n (a + 1) 0 := by
  refine ⟨h.1, fun x y hx hy => ?_⟩
  rw [h.2 x y hx hy]
  by_cases c : (x < a ∨ x = a ∧ y < b) ∧ x < n ∧ y < n
  · rw [if_pos c, if_pos (by omega)]
  · rw [if_neg c, if_neg (by omega)]
theorem OvTo.done {T U : List Int} {m n a b : Nat} (h : OvTo T U m n a b) (ha : n ≤ a) : OvTo T U m n n 0 := by
  refine ⟨h.1, fun x y hx hy => ?_⟩
  rw [h.2 x y hx hy]
  by_cases c : (x < a ∨ x = a ∧ y < b) ∧ x < n ∧ y < n
  · rw [if_pos c, if_pos (by omega)]
  · rw [if_neg c, if_neg (by omega)]

set_option maxHeartbeats 800000 in
set_option maxRecDepth 100000 in
theorem over_calls (T : List Int) (m n : Nat) (hT : T.length = 576) (hm : m < 24) (hn : n ≤ 24) (hbd : ∀ i, -4611686018427387904 ≤ T.getD i 0 ∧ T.getD i 0 ≤ 4611686018427387904) (w : World) :
    Calls Try.prog 133 #[.agg (nums .i64 T).toArray, .int .i64 m, .int .i64 n] w fun e w' => ∃ U, OvTo T U m n n 0 ∧ e = .returned (.agg (nums .i64 U).toArray) ∧ Below w.heap.size w w' := by
  have HS := Aside0.mk (size_nums hT)
  have HT := Aside0.mk hT
  have HBD := Aside0.mk hbd
  have HM := Aside0.mk (Mem.start w)
  clear hT hbd
  generalize hA : (nums .i64 T).toArray = A at HS ⊢
  have HA := Aside0.mk hA
  clear hA
  go_enter Try.func133, Try.ntmps133
  go_wp2_with (first
    | ((with_reducible refine gate_dst (N := 3) rfl ?_); refine ev_box HM.out rfl 125 (.tmp 0) rfl (cs := A) rfl ?_; intro g1 w1 hm1 hq1; clear hq1; have HM1 := Aside0.mk hm1; clear hm1 HM)
    | ((with_reducible refine gate_dst (N := 6) rfl ?_); refine ev_new HM1.out rfl 125 rfl info125 ?_; intro g2 w2 hm2 hq1; clear hq1; have HM2 := Aside0.mk hm2; clear hm2 HM1)
    | ((with_reducible refine gate_dst (N := 10) rfl ?_); refine ev_load HM2.out.second rfl 125 (.tmp 3) rfl rfl _ Try.underlying125 rfl size125 HS.out ?_)
    | ((with_reducible refine gate_dst (N := 7) rfl ?_); refine ev_new HM2.out rfl 125 rfl info125 ?_; intro g3 w3 hm3 hq1; clear hq1; have HM3 := Aside0.mk hm3; clear hm3 HM2)
    | (refine ev_store HM3.out rfl 125 (.tmp 7) (.tmp 10) rfl rfl rfl size125 (by simp) HS.out (by rw [← HA.out]; exact one_nums T) ?_; intro w4 hm4 hq1; clear hq1; have HM4 := Aside0.mk hm4; clear hm4 HM3))
  have H0 : Aside0 (Mem w w4 [(g3, (nums .i64 T).toArray, 125), (g2, Array.replicate 576 (.int .i64 0), 125), (g1, A, 125)]) := ⟨by rw [HA.out]; exact HM4.out⟩
  clear HM4
  go_loopg [12] n (fun k v12 w' => ∃ (a : Nat) (U : List Int), v12 = .int .i64 a ∧ Aside0 (a + k = n) ∧ Aside0 (OvTo T U m n a 0) ∧ Aside0 (Mem w w' [(g3, (nums .i64 U).toArray, 125), (g2, Array.replicate 576 (.int .i64 0), 125), (g1, A, 125)]))
  case atStart => exact ⟨0, T, rfl, ⟨by omega⟩, ⟨HT.out, fun x y _ _ => by simp⟩, H0⟩
  case round =>
    clear H0
    obtain ⟨a, U, rfl, HK, HU, HM⟩ := hrel
    by_cases ha : a < n
    · go_wp2_with fail
      go_loopg [16] n (fun k v16 w' => ∃ (b : Nat) (U : List Int), v16 = .int .i64 b ∧ Aside0 (b + k = n) ∧ Aside0 (OvTo T U m n a b) ∧ Aside0 (Mem w w' [(g3, (nums .i64 U).toArray, 125), (g2, Array.replicate 576 (.int .i64 0), 125), (g1, A, 125)]))
      case atStart => exact ⟨0, U, rfl, ⟨by omega⟩, HU, HM⟩
      case round =>
        clear HU HM U
        obtain ⟨b, U, rfl, HK2, HU, HM⟩ := hrel
        by_cases hb : b < n
        · have c1 : wr.cell? ⟨g1, a * 24 + m, none⟩ = some (.int .i64 (T.getD (a * 24 + m) 0)) := by rw [blk_cell HM.out.third, ← HA.out, get_nums _ _ (by rw [HT.out]; omega)]
          have c2 : wr.cell? ⟨g1, m * 24 + b, none⟩ = some (.int .i64 (T.getD (m * 24 + b) 0)) := by rw [blk_cell HM.out.third, ← HA.out, get_nums _ _ (by rw [HT.out]; omega)]
          have c3 : wr.cell? ⟨g3, a * 24 + b, none⟩ = some (.int .i64 (U.getD (a * 24 + b) 0)) := by rw [HM.out.cell, get_nums _ _ (by rw [HU.out.1]; omega)]
          have f3 : wr.frozen? ⟨g3, a * 24 + b, none⟩ = false := HM.out.frozen _
          have b1 := (HBD.out (a * 24 + m)).1
          have b2 := (HBD.out (a * 24 + m)).2
          have b3 := (HBD.out (m * 24 + b)).1
          have b4 := (HBD.out (m * 24 + b)).2
          generalize hX : T.getD (a * 24 + m) 0 = X at c1 b1 b2
          generalize hY : T.getD (m * 24 + b) 0 = Y at c2 b3 b4
          generalize hZ : U.getD (a * 24 + b) 0 = Z at c3
          have HX := Aside0.mk hX
          have HY := Aside0.mk hY
          have HZ := Aside0.mk hZ
          clear hX hY hZ
          by_cases t1 : X < 1099511627776
          · by_cases t2 : Y < 1099511627776
            · go_wp2_with fail
              have i1 : (0 : Int) ≤ (a : Int) := by omega
              have i2 : (a : Int) < 24 := by omega
              have i3 : (0 : Int) ≤ (b : Int) := by omega
              have i4 : (b : Int) < 24 := by omega
              have i5 : (0 : Int) ≤ (m : Int) := by omega
              have i6 : (m : Int) < 24 := by omega
              have HP := HU.out.put ha hb hn HX.out HY.out HZ.out t1 t2
              by_cases t3 : Z ≤ X + Y
              all_goals
                first | rw [if_pos t3] at HP | rw [if_neg t3] at HP
                have HQ := Aside0.mk HP
                clear HP
                have i7 : IntKind.i64.wrap (X + Y) = X + Y := IntWalk.i64_in _ (by omega)
                go_still_tail 21, (by kernel_rfl)
                clear i7
                go_wp2_with fail
                go_roundg (gk - 1)
                case measure => have := HK2.out; omega
                case rel => exact ⟨b + 1, _, by go_num, ⟨by have := HK2.out; omega⟩, HQ, ⟨(HM.out.put _ _ (set_nums _ _ _)).drew⟩⟩
            · go_wp2_with fail
              go_roundg (gk - 1)
              case measure => have := HK2.out; omega
              case rel => exact ⟨b + 1, U, by go_num, ⟨by have := HK2.out; omega⟩, ⟨HU.out.skip (by unfold ovr; rw [HX.out, HY.out, if_neg (by omega)])⟩, HM⟩
          · go_wp2_with fail
            go_roundg (gk - 1)
            case measure => have := HK2.out; omega
            case rel => exact ⟨b + 1, U, by go_num, ⟨by have := HK2.out; omega⟩, ⟨HU.out.skip (by unfold ovr; rw [HX.out, if_neg (by omega)])⟩, HM⟩
        · go_wp2_with fail
          go_roundg (n - (a + 1))
          case measure => have := HK.out; omega
          case rel => exact ⟨a + 1, U, by go_num, ⟨by have := HK.out; omega⟩, ⟨HU.out.next (by omega)⟩, HM⟩
    · go_wp2_with (first | ((with_reducible refine gate_dst (N := 56) rfl ?_); refine ev_load HM.out.head rfl 125 (.tmp 7) rfl rfl _ Try.underlying125 rfl size125 (size_nums HU.out.1) ?_) | (refine ev_store HM.out.swap rfl 125 (.tmp 6) (.tmp 56) rfl rfl rfl size125 (by simp) (size_nums HU.out.1) (one_nums U) ?_; intro w5 hm5 hq1; clear hq1; have HM5 := Aside0.mk hm5; clear hm5 HM))
      refine bodyPost_ret (results_cell_row rfl _ _ _ _ _ _ _ rfl HM5.out.head Try.underlying125 rfl (by rw [size125, size_nums HU.out.1])) rfl ⟨U, HU.out.done (by omega), rfl, HM5.out.below⟩
end Go.Proofs.Ytbcfphoheijmdaa.H
end

section
/- The tables of a chain, as Lean functions: what links say, and what the ways over ever more points make of it. -/
namespace Go.Proofs.Ytbcfphoheijmdaa.Print
open Go.RowKit Go.Proofs.YtbcfphoheijmdaaW.PrintWords Go.Proofs.YtbcfphoheijmdaaW.PrintLast Go.Proofs.YtbcfphoheijmdaaW.PrintMore Go.Proofs.Ytbcfphoheijmdaa.H
set_option linter.unusedVariables false
set_option linter.unusedSimpArgs false

/-- The table before any link: nothing bounds two points, but a point and itself. -/
def baseTab : List Int := (List.range 576).map (fun i => if i / 24 = i % 24 then 0 else 1099511627776)
/-- A link more. -/
def linkStep (T : List Int) (l : S35) : List Int :=
  let T1 := T.set (l.f0.toNat * 24 + l.f1.toNat) (mn (T.getD (l.f0.toNat * 24 + l.f1.toNat) 0) l.f2.f1)
  T1.set (l.f1.toNat * 24 + l.f0.toNat) (mn (T1.getD (l.f1.toNat * 24 + l.f0.toNat) 0) (-l.f2.f0))
def initTab (L : List S35) : List Int := L.foldl linkStep baseTab
/-- The ways over the point m. -/
def overTab (T : List Int) (m n : Nat) : List Int := (List.range 576).map (fun i => if i / 24 < n ∧ i % 24 < n then ovr T m (i / 24) (i % 24) else T.getD i 0)
/-- Is a point behind itself? -/
def negDiag (n : Nat) (T : List Int) : Bool := (List.range n).any (fun a => decide (T.getD (a * 24 + a) 0 < 0))
/-- The ways over k points from m on; 12 if a point comes behind itself. -/
def floyd (n : Nat) : Nat → Nat → List Int → List Int × Int
  | 0, _, T => (T, 0)
  | k + 1, m, T => if negDiag n (overTab T m n) then (overTab T m n, 12) else floyd n k (m + 1) (overTab T m n)
/-- The tight table of a chain, and the error. -/
def tightOf (P : Int) (L : List S35) : List Int × Int :=
  if chainErr P L = 0 then floyd P.toNat P.toNat 0 (initTab L) else (List.replicate 576 0, chainErr P L)

theorem OvTo.tab {T U : List Int} {m n : Nat} (h : OvTo T U m n n 0) : U = overTab T m n := by
  refine Is.list (n := 576) (f := fun i => if i / 24 < n ∧ i % 24 < n then ovr T m (i / 24) (i % 24) else T.getD i 0) ⟨h.1, fun j hj => ?_⟩
  have := h.2 (j / 24) (j % 24) (by omega) (by omega)
  rw [show j / 24 * 24 + j % 24 = j by omega] at this
  rw [this]
  show _ = if j / 24 < n ∧ j % 24 < n then ovr T m (j / 24) (j % 24) else T.getD j 0
  by_cases c : j / 24 < n ∧ j % 24 < n
  · rw [if_pos c, if_pos (by omega)]
  · rw [if_neg c, if_neg (by omega)]
theorem overTab_length (T : List Int) (m n : Nat) : (overTab T m n).length = 576 := by simp [overTab]
theorem getD_map_range (N : Nat) (f : Nat → Int) (i : Nat) : ((List.range N).map f).getD i 0 = if i < N then f i else 0 := by
  by_cases h : i < N
  · simp [List.getD_eq_getElem?_getD, h]
  · simp [List.getD_eq_getElem?_getD, h]
theorem overTab_get (T : List Int) (m n a b : Nat) (ha : a < n) (hb : b < n) (hn : n ≤ 24) : (overTab T m n).getD (a * 24 + b) 0 = ovr T m a b := by
  unfold overTab
  rw [getD_map_range, if_pos (by omega), show (a * 24 + b) / 24 = a by omega, show (a * 24 + b) % 24 = b by omega, if_pos ⟨ha, hb⟩]
theorem baseTab_length : baseTab.length = 576 := by simp [baseTab]
theorem linkStep_length (T : List Int) (l : S35) : (linkStep T l).length = T.length := by simp [linkStep]
theorem initTab_length (L : List S35) : (initTab L).length = 576 := by
  have : ∀ (L : List S35) (T : List Int), (L.foldl linkStep T).length = T.length := by
    intro L
    induction L with
    | nil => intro T; rfl
    | cons l L ih => intro T; rw [List.foldl_cons, ih, linkStep_length]
  rw [initTab, this, baseTab_length]
theorem initTab_snoc (L : List S35) (l : S35) : initTab (L ++ [l]) = linkStep (initTab L) l := by simp [initTab]

/-- Numbers that stay small. -/
def Small (B : Int) (T : List Int) : Prop := ∀ i, -B ≤ T.getD i 0 ∧ T.getD i 0 ≤ 1099511627776
theorem mn_le (a b : Int) : mn a b ≤ a ∧ mn a b ≤ b ∧ (mn a b = a ∨ mn a b = b) := by unfold mn; split <;> omega
theorem Small.set {B : Int} {T : List Int} {i : Nat} {v : Int} (h : Small B T) (h1 : -B ≤ v) (h2 : v ≤ 1099511627776) : Small B (T.set i v) := by
  intro j
  by_cases q : i = j
  · subst q
    by_cases c : i < T.length
    · rw [H.getD_set_eq c]; exact ⟨h1, h2⟩
    · rw [List.set_eq_of_length_le (by omega)]; exact h i
  · rw [H.getD_set_ne q]; exact h j
theorem Small.base {B : Int} (hB : 0 ≤ B) : Small B baseTab := by
  intro j
  unfold baseTab
  rw [getD_map_range]
  split
  · split <;> omega
  · omega
theorem Small.link {T : List Int} {l : S35} (h : Small 1000000 T) (h1 : l.f2.f0 ≤ l.f2.f1) (h2 : -1000000 ≤ l.f2.f0) (h3 : l.f2.f1 ≤ 1000000) : Small 1000000 (linkStep T l) := by
  have s1 : Small 1000000 (T.set (l.f0.toNat * 24 + l.f1.toNat) (mn (T.getD (l.f0.toNat * 24 + l.f1.toNat) 0) l.f2.f1)) := by
    have := mn_le (T.getD (l.f0.toNat * 24 + l.f1.toNat) 0) l.f2.f1
    have := h (l.f0.toNat * 24 + l.f1.toNat)
    exact h.set (by omega) (by omega)
  have := mn_le ((T.set (l.f0.toNat * 24 + l.f1.toNat) (mn (T.getD (l.f0.toNat * 24 + l.f1.toNat) 0) l.f2.f1)).getD (l.f1.toNat * 24 + l.f0.toNat) 0) (-l.f2.f0)
  have := s1 (l.f1.toNat * 24 + l.f0.toNat)
  exact s1.set (by omega) (by omega)
theorem Small.init {P : Int} (L : List S35) (h : ∀ l, l ∈ L → linkErr P l = 0) : Small 1000000 (initTab L) := by
  have : ∀ (L : List S35) (T : List Int), (∀ l, l ∈ L → linkErr P l = 0) → Small 1000000 T → Small 1000000 (L.foldl linkStep T) := by
    intro L
    induction L with
    | nil => intro T _ h; exact h
    | cons l L ih =>
      intro T h hT
      have hl := linkErr_ok (h l (by simp))
      exact ih _ (fun l' h' => h l' (by simp [h'])) (hT.link hl.2.2.2.2.2.1 hl.2.2.2.2.2.2.1 hl.2.2.2.2.2.2.2)
  exact this L _ h (Small.base (by omega))
theorem Small.over {B : Int} {T : List Int} {m n : Nat} (h : Small B T) (hB : 0 ≤ B) : Small (2 * B) (overTab T m n) := by
  intro j
  unfold overTab
  rw [getD_map_range]
  have h0 := h j
  split
  · split
    · unfold ovr
      have h1 := h (j / 24 * 24 + m)
      have h2 := h (m * 24 + j % 24)
      have h3 := h (j / 24 * 24 + j % 24)
      split <;> omega
    · omega
  · omega
theorem Small.mono {B C : Int} {T : List Int} (h : Small B T) (hBC : B ≤ C) : Small C T := fun i => by have := h i; omega
end Go.Proofs.Ytbcfphoheijmdaa.Print
end

section
/- tight: the table of a chain, and the error, as the Go function gives them. -/
namespace Go.Proofs.Ytbcfphoheijmdaa.Print
open Go.RowKit Go.Proofs.YtbcfphoheijmdaaW.PrintWords Go.Proofs.YtbcfphoheijmdaaW.PrintLast Go.Proofs.YtbcfphoheijmdaaW.PrintMore Go.Proofs.Ytbcfphoheijmdaa.H
attribute [local go_sem] max2_int min2_int max_two min_two max_three min_three max_four min_four
set_option linter.unusedVariables false
set_option linter.unusedSimpArgs false

/-- Two results, of which the first is a whole array in memory. -/
theorem results_row_tmp {P : Program} {fn : Func} {p q : Tmp} {ty : TypeId} (h : fn.results = #[.cell p ty, .tmp q]) (tmps : Array Value) (w : World) (g : Nat) (t : TypeId) (cs : Array Value) (fr : Nat × Nat) (d : TypeDesc)
    (hp : tmps.getD p undef = .pointer (some ⟨g, 0, none⟩)) (hg : w.heap[g]? = some (.cells cs t fr))
    (hu : P.underlying ty = some d) (hd : (match d with | .struct _ | .array _ _ => true | _ => false) = true) (hi : (P.info? ty).map (·.size) = some cs.size) :
    (results fn tmps).run P w = .ok (.tuple #[.agg cs, tmps.getD q undef]) w := by
  have hp' : tmps[p]?.getD undef = .pointer (some ⟨g, 0, none⟩) := by simpa using hp
  simp [results, h, hp', asAddr, run_loadVar_row w g t ty cs fr d hg hu hd hi]

theorem chainErr_ok {P : Int} {L : List S35} (h : chainErr P L = 0) : 1 ≤ P ∧ P ≤ 24 ∧ L.length ≤ 80 ∧ ∀ l, l ∈ L → linkErr P l = 0 := by
  unfold chainErr at h
  split at h
  · omega
  · split at h
    · omega
    · refine ⟨by omega, by omega, by omega, ?_⟩
      split at h
      · rename_i l hl
        have := List.find?_some hl
        simp [h] at this
      · rename_i hl
        intro l hm
        have := List.find?_eq_none.1 hl l hm
        simpa using this
theorem negDiag_true {n a : Nat} {T : List Int} (ha : a < n) (h : T.getD (a * 24 + a) 0 < 0) : negDiag n T = true := by
  unfold negDiag
  rw [List.any_eq_true]
  exact ⟨a, by simpa using ha, by simpa using h⟩
theorem negDiag_false {n : Nat} {T : List Int} (h : ∀ a, a < n → ¬ T.getD (a * 24 + a) 0 < 0) : negDiag n T = false := by
  unfold negDiag
  rw [List.any_eq_false]
  intro a ha
  simpa using h a (by simpa using ha)
theorem floyd_neg {n k m : Nat} {T : List Int} (h : negDiag n (overTab T m n) = true) : floyd n (k + 1) m T = (overTab T m n, 12) := by rw [floyd, if_pos h]
theorem floyd_next {n k m : Nat} {T : List Int} (h : negDiag n (overTab T m n) = false) : floyd n (k + 1) m T = floyd n k (m + 1) (overTab T m n) := by rw [floyd, if_neg (by rw [h]; simp)]
/-- How small the numbers of the table stay. -/
def bnd (m : Nat) : Int := 1000000 * 2 ^ m
theorem bnd_succ (m : Nat) : bnd (m + 1) = 2 * bnd m := by unfold bnd; rw [Int.pow_succ]; omega
theorem bnd_le (m : Nat) (h : m ≤ 24) : 0 ≤ bnd m ∧ bnd m ≤ 16777216000000 := by
  have : ∀ k : Nat, k ≤ 24 → bnd (24 - k) ≤ 16777216000000 ∧ 0 ≤ bnd (24 - k) := by
    intro k
    induction k with
    | zero => intro _; unfold bnd; decide
    | succ k ih =>
      intro hk
      have := ih (by omega)
      have e := bnd_succ (24 - (k + 1))
      rw [show 24 - (k + 1) + 1 = 24 - k by omega] at e
      omega
  have := this (24 - m) (by omega)
  rw [show 24 - (24 - m) = m by omega] at this
  exact ⟨this.2, this.1⟩
theorem Small.wide {B : Int} {T : List Int} (h : Small B T) (hB : B ≤ 16777216000000) : ∀ i, -4611686018427387904 ≤ T.getD i 0 ∧ T.getD i 0 ≤ 4611686018427387904 := fun i => by have := h i; omega
set_option maxHeartbeats 3200000 in
set_option maxRecDepth 100000 in
theorem tight_calls (P : Int) (A : Option Addr) (c : Nat) (L : List S35) (w : World) (hr : Kd.C k35 w A L.length L) (hc : L.length ≤ c) :
    Calls Try.prog 89 #[.agg #[.int .i64 P, .slice A L.length c]] w fun e w' => e = .returned (.tuple #[.agg (nums .i64 (tightOf P L).1).toArray, .int .i64 (tightOf P L).2]) ∧ Below w.heap.size w w' := by
  have HR := Aside0.mk hr
  have HM := Aside0.mk (Mem.start w)
  clear hr
  have hu27 := Try.underlying27
  have HCE := Aside0.mk (show mount_CheckChain.f P L = some (chainErr P L) from rfl)
  by_cases t1 : chainErr P L = 0
  rotate_left
  · have HF : Aside0 (tightOf P L = (List.replicate 576 0, chainErr P L)) := ⟨if_neg t1⟩
    rw [HF.out]
    generalize hE : chainErr P L = E at t1 HCE
    clear hE
    have t2 : (E != 0) = true := by simpa using t1
    generalize hZ : (nums .i64 (List.replicate 576 0)).toArray = Z
    have HZ := Aside0.mk hZ
    clear hZ t1
    go_enter Try.func89, Try.ntmps89
    go_wp2_with (first
      | ((with_reducible refine gate_dst (N := 1) rfl ?_); refine ev_box HM.out rfl 27 (.tmp 0) rfl (cs := #[.int .i64 P, .slice A L.length c]) rfl ?_; intro g1 w1 hm1 hq1; clear hq1; have HM1 := Aside0.mk hm1; clear hm1 HM)
      | ((with_reducible refine gate_dst (N := 2) rfl ?_); refine ev_new HM1.out rfl 125 rfl info125 ?_; intro g2 w2 hm2 hq1; clear hq1; have HM2 := Aside0.mk hm2; clear hm2 HM1)
      | ((with_reducible refine gate_dst (N := 4) rfl ?_); refine ev_new HM2.out rfl 125 rfl info125 ?_; intro g3 w3 hm3 hq1; clear hq1; have HM3 := Aside0.mk hm3; clear hm3 HM2; rw [zero_nums, HZ.out] at HM3)
      | ((with_reducible refine gate_dst (N := 12) rfl ?_); refine ev_load HM3.out.third rfl 27 (.tmp 1) rfl rfl _ Try.underlying27 rfl (n := 2) (by kernel_rfl) rfl ?_)
      | (go_at_call 53; refine (mount_CheckChain.calls _ _ _ _ _ _ (Kd.C_below HR.out HM3.out.below) hc HCE.out).mono ?_; rintro e w' ⟨rfl, hd⟩; have HM4 := Aside0.mk (HM3.out.step hd); clear hd HM3)
      | ((with_reducible refine gate_dst (N := 16) rfl ?_); refine ev_load HM4.out.head rfl 125 (.tmp 4) rfl rfl _ Try.underlying125 rfl size125 (by rw [← HZ.out]; exact size_nums (by simp)) ?_)
      | (refine ev_store HM4.out.swap rfl 125 (.tmp 2) (.tmp 16) rfl rfl rfl size125 (by rw [← HZ.out]; exact size_nums (by simp)) (by rw [← HZ.out]; exact size_nums (by simp)) (by rw [← HZ.out]; exact one_nums _) ?_; intro w5 hm5 hq1; clear hq1; have HM5 := Aside0.mk hm5; clear hm5 HM4))
    refine bodyPost_ret (results_row_tmp rfl _ _ _ _ _ _ _ rfl HM5.out.head Try.underlying125 rfl (by rw [size125, ← HZ.out, size_nums (n := 576) (by simp)])) rfl ⟨rfl, HM5.out.below⟩
  obtain ⟨n, rfl⟩ : ∃ n : Nat, P = n := ⟨P.toNat, by have := chainErr_ok t1; omega⟩
  have HOK := Aside0.mk (chainErr_ok t1)
  have hn1 : 1 ≤ n := by have := HOK.out.1; omega
  have hn2 : n ≤ 24 := by have := HOK.out.2.1; omega
  have hL : L.length ≤ 80 := HOK.out.2.2.1
  have HF : Aside0 (tightOf n L = floyd n n 0 (initTab L)) := ⟨if_pos t1⟩
  rw [t1] at HCE
  clear t1
  go_enter Try.func89, Try.ntmps89
  go_wp2_with (first
    | ((with_reducible refine gate_dst (N := 1) rfl ?_); refine ev_box HM.out rfl 27 (.tmp 0) rfl (cs := #[.int .i64 (n : Int), .slice A L.length c]) rfl ?_; intro g1 w1 hm1 hq1; clear hq1; have HM1 := Aside0.mk hm1; clear hm1 HM)
    | ((with_reducible refine gate_dst (N := 2) rfl ?_); refine ev_new HM1.out rfl 125 rfl info125 ?_; intro g2 w2 hm2 hq1; clear hq1; have HM2 := Aside0.mk hm2; clear hm2 HM1)
    | ((with_reducible refine gate_dst (N := 4) rfl ?_); refine ev_new HM2.out rfl 125 rfl info125 ?_; intro g3 w3 hm3 hq1; clear hq1; have HM3 := Aside0.mk hm3; clear hm3 HM2)
    | ((with_reducible refine gate_dst (N := 12) rfl ?_); refine ev_load HM3.out.third rfl 27 (.tmp 1) rfl rfl _ Try.underlying27 rfl (n := 2) (by kernel_rfl) rfl ?_)
    | (go_at_call 53; refine (mount_CheckChain.calls _ _ _ _ _ _ (Kd.C_below HR.out HM3.out.below) hc HCE.out).mono ?_; rintro e w' ⟨rfl, hd⟩; have HM4 := Aside0.mk (HM3.out.step hd); clear hd HM3))
  rw [zero_nums] at HM4
  -- the base
  go_loopg [18] 24 (fun k v18 w' => ∃ (a : Nat) (U : List Int), v18 = .int .i64 a ∧ Aside0 (a + k = 24) ∧ Aside0 (Is 576 U (fun i => if i < a * 24 then (if i / 24 = i % 24 then 0 else 1099511627776) else 0)) ∧ Aside0 (Mem w w' [(g3, (nums .i64 U).toArray, 125), (g2, (nums .i64 (List.replicate 576 0)).toArray, 125), (g1, #[.int .i64 (n : Int), .slice A L.length c], 27)]))
  case atStart => exact ⟨0, _, rfl, ⟨rfl⟩, ⟨(Is.zero 576).congr (fun j hj => (if_neg (by omega)).symm)⟩, HM4⟩
  case round =>
    clear HM4
    obtain ⟨a, U, rfl, HK, HU, HM⟩ := hrel
    by_cases ha : a < 24
    · go_wp2_with fail
      go_loopg [21] 24 (fun k v21 w' => ∃ (b : Nat) (U : List Int), v21 = .int .i64 b ∧ Aside0 (b + k = 24) ∧ Aside0 (Is 576 U (fun i => if i < a * 24 + b then (if i / 24 = i % 24 then 0 else 1099511627776) else 0)) ∧ Aside0 (Mem w w' [(g3, (nums .i64 U).toArray, 125), (g2, (nums .i64 (List.replicate 576 0)).toArray, 125), (g1, #[.int .i64 (n : Int), .slice A L.length c], 27)]))
      case atStart => exact ⟨0, U, rfl, ⟨by omega⟩, HU, HM⟩
      case round =>
        obtain ⟨b, V, rfl, HK2, HV, HN⟩ := hrel
        by_cases hb : b < 24
        · have c1 : wr.cell? ⟨g3, a * 24 + b, none⟩ = some (.int .i64 (V.getD (a * 24 + b) 0)) := by rw [HN.out.cell, get_nums _ _ (by rw [HV.out.1]; omega)]
          have f1 : wr.frozen? ⟨g3, a * 24 + b, none⟩ = false := HN.out.frozen _
          generalize hX : V.getD (a * 24 + b) 0 = X at c1
          have HX := Aside0.mk hX
          clear hX
          by_cases hab : a = b
          · have hab1 : ((a : Int) != (b : Int)) = false := by simp; omega
            have HAB := Aside0.mk hab
            clear hab
            go_wp2_with fail
            go_roundg (24 - (b + 1))
            case measure => have := HK2.out; omega
            case rel => exact ⟨b + 1, V, by go_num, ⟨by omega⟩, ⟨HV.out.congr (fun j hj => by
              by_cases q : j = a * 24 + b
              · subst q
                rw [if_neg (by omega), if_pos (by omega), if_pos (by have := HAB.out; omega)]
              · exact if_step q)⟩, HN⟩
          · have hab1 : ((a : Int) != (b : Int)) = true := by simp; omega
            have HAB := Aside0.mk hab
            clear hab
            go_wp2_with fail
            go_roundg (24 - (b + 1))
            case measure => have := HK2.out; omega
            case rel => exact ⟨b + 1, _, by go_num, ⟨by omega⟩, ⟨HV.out.set (by omega) ((if_pos (by omega)).trans (if_neg (by have := HAB.out; omega))) (fun j hj q => if_step q)⟩, ⟨HN.out.put _ _ (set_nums _ _ _)⟩⟩
        · go_wp2_with fail
          go_roundg (24 - (a + 1))
          case measure => have := HK.out; omega
          case rel => exact ⟨a + 1, V, by go_num, ⟨by omega⟩, ⟨HV.out.congr (fun j hj => by
            have := HK2.out
            by_cases q : j < a * 24 + b
            · rw [if_pos q, if_pos (show j < (a + 1) * 24 by omega)]
            · rw [if_neg q, if_neg (show ¬ j < (a + 1) * 24 by omega)])⟩, HN⟩
    · have HU2 : Aside0 (U = initTab []) := ⟨by rw [(HU.out.congr (g := fun i => if i / 24 = i % 24 then 0 else 1099511627776) (fun j hj => if_pos (by omega))).list]; rfl⟩
      have c1 : wr.cell? ⟨g1, 1, none⟩ = some (.slice A L.length c) := (blk_cell HM.out.third 1).trans rfl
      go_wp2_with fail
      clear c1
      -- the links
      go_loopg [36] L.length (fun k v36 w' => ∃ (i : Nat) (U : List Int), v36 = .int .i64 i ∧ Aside0 (i + k = L.length) ∧ Aside0 (U = initTab (L.take i)) ∧ Aside0 (Mem w w' [(g3, (nums .i64 U).toArray, 125), (g2, (nums .i64 (List.replicate 576 0)).toArray, 125), (g1, #[.int .i64 (n : Int), .slice A L.length c], 27)]))
      case atStart => exact ⟨0, U, rfl, ⟨by omega⟩, HU2, HM⟩
      case round =>
        obtain ⟨k, T, rfl, HK2, HT, HN⟩ := hrel
        by_cases hk : k < L.length
        · obtain ⟨ad, e0, x0, x1, x2, x3⟩ := at35 (Kd.C_below HR.out HN.out.below) k hk
          have HOKk := HOK.out.2.2.2 L[k] (List.getElem_mem hk)
          have HTn := Aside0.mk (show initTab (L.take (k + 1)) = linkStep T L[k] by rw [take_at _ _ hk, initTab_snoc, HT.out])
          generalize hX : L[k] = X at x0 x1 x2 x3 HOKk HTn
          clear hX
          cases e0
          have hk1 : (0 : Int) ≤ (k : Int) := by omega
          have hk2 : (k : Int) < (L.length : Int) := by omega
          obtain ⟨q1, q2, q3, q4, q5, q6, q7, q8⟩ := linkErr_ok HOKk
          clear HOKk
          go_wp2_with (first
            | ((with_reducible refine gate_dst (N := 9) rfl ?_); refine ev_new HN.out rfl 35 rfl info35 ?_; intro g4 w4 hm4 hq1; have HM5 := Aside0.mk hm4; clear hm4)
            | (refine ev_store HM5.out rfl 35 (.tmp 9) (.tmp 39) rfl rfl (cs := #[.int .i64 X.f0, .int .i64 X.f1, .int .i64 X.f2.f0, .int .i64 X.f2.f1]) rfl size35 rfl rfl (by simp [Value.oneCell']) ?_; intro w5 hm5 hq1; clear hq1; have HM6 := Aside0.mk hm5; clear hm5 HM5))
          have d0 : w5.cell? ⟨g4, 0, none⟩ = some (.int .i64 X.f0) := (HM6.out.cell 0).trans rfl
          have d1 : w5.cell? ⟨g4, 1, none⟩ = some (.int .i64 X.f1) := (HM6.out.cell 1).trans rfl
          have d2 : w5.cell? ⟨g4, 2, none⟩ = some (.int .i64 X.f2.f0) := (HM6.out.cell 2).trans rfl
          have d3 : w5.cell? ⟨g4, 3, none⟩ = some (.int .i64 X.f2.f1) := (HM6.out.cell 3).trans rfl
          obtain ⟨f, hf⟩ : ∃ f : Nat, X.f0 = f := ⟨X.f0.toNat, by omega⟩
          obtain ⟨t, ht⟩ : ∃ t : Nat, X.f1 = t := ⟨X.f1.toNat, by omega⟩
          generalize hlo : X.f2.f0 = lo at d2 q6 q7
          generalize hhi : X.f2.f1 = hi at d3 q6 q8
          have HLT := Aside0.mk (show T.length = 576 by rw [HT.out, initTab_length])
          have HTn2 : Aside0 (initTab (L.take (k + 1)) = (T.set (f * 24 + t) (mn (T.getD (f * 24 + t) 0) hi)).set (t * 24 + f) (mn ((T.set (f * 24 + t) (mn (T.getD (f * 24 + t) 0) hi)).getD (t * 24 + f) 0) (-lo))) := ⟨by rw [HTn.out]; unfold linkStep; simp only [hf, ht, hlo, hhi, Int.toNat_natCast]⟩
          have HCS : Aside0 (#[Value.int .i64 X.f0, .int .i64 X.f1, .int .i64 X.f2.f0, .int .i64 X.f2.f1] = #[Value.int .i64 (f : Int), .int .i64 (t : Int), .int .i64 lo, .int .i64 hi]) := ⟨by rw [hf, ht, hlo, hhi]⟩
          rw [HCS.out] at HM6
          rw [hf] at d0 q1 q2 q5
          rw [ht] at d1 q3 q4 q5
          clear HTn HCS x0 x1 x2 x3 hf ht hlo hhi
          have i1 : (0 : Int) ≤ (f : Int) := by omega
          have i2 : (f : Int) < 24 := by omega
          have i3 : (0 : Int) ≤ (t : Int) := by omega
          have i4 : (t : Int) < 24 := by omega
          have HNE := Aside0.mk q5
          clear q5 q1 q2 q3 q4
          have e1 : w5.cell? ⟨g3, f * 24 + t, none⟩ = some (.int .i64 (T.getD (f * 24 + t) 0)) := by rw [blk_cell HM6.out.second, get_nums _ _ (by rw [HLT.out]; omega)]
          have e2 : w5.frozen? ⟨g3, f * 24 + t, none⟩ = false := blk_frozen HM6.out.second _
          have HS1 := Aside0.mk (fun v => (HM6.out.swap.put (f * 24 + t) (.int .i64 v) (set_nums T (f * 24 + t) v)).swap.drew)
          generalize hY : T.getD (f * 24 + t) 0 = Y at e1 HTn2
          clear hY
          have HMN : Aside0 (mn Y hi = if hi < Y then hi else Y) := ⟨rfl⟩
          rw [HMN.out] at HTn2
          clear HMN
          have hnl : IntKind.i64.wrap (-lo) = -lo := IntWalk.i64_in _ (by omega)
          have HNL := Aside0.mk hnl
          clear hnl
          by_cases tm : hi < Y
          · rw [if_pos tm] at HTn2
            go_still_tail 17, (by kernel_rfl)
            go_wp2_with fail
            generalize hW : (w5.setCell ⟨g3, f * 24 + t, none⟩ (.int .i64 hi)).drew = W7
            have HM7 := HS1.out hi
            rw [hW] at HM7
            have hl7 : (T.set (f * 24 + t) hi).length = 576 := by rw [List.length_set]; exact HLT.out
            generalize T.set (f * 24 + t) hi = T1 at HM7 HTn2 hl7
            clear hW HS1 d0 d1 d2 d3 e1 e2 HM6
            have HM8 := Aside0.mk HM7
            have HL7 := Aside0.mk hl7
            clear HM7 hl7
            have d0 : W7.cell? ⟨g4, 0, none⟩ = some (.int .i64 (f : Int)) := (HM8.out.cell 0).trans rfl
            have d1 : W7.cell? ⟨g4, 1, none⟩ = some (.int .i64 (t : Int)) := (HM8.out.cell 1).trans rfl
            have d2 : W7.cell? ⟨g4, 2, none⟩ = some (.int .i64 lo) := (HM8.out.cell 2).trans rfl
            have e1 : W7.cell? ⟨g3, t * 24 + f, none⟩ = some (.int .i64 (T1.getD (t * 24 + f) 0)) := by rw [blk_cell HM8.out.second, get_nums _ _ (by rw [HL7.out]; omega)]
            have e2 : W7.frozen? ⟨g3, t * 24 + f, none⟩ = false := blk_frozen HM8.out.second _
            generalize hY2 : T1.getD (t * 24 + f) 0 = Y2 at e1 HTn2
            clear hY2
            have HMN : Aside0 (mn Y2 (-lo) = if -lo < Y2 then -lo else Y2) := ⟨rfl⟩
            rw [HMN.out] at HTn2
            clear HMN
            have HS2 := Aside0.mk (fun v => (HM8.out.swap.put (t * 24 + f) (.int .i64 v) (set_nums T1 (t * 24 + f) v)).swap.drop.drew)
            by_cases tm2 : -lo < Y2
            all_goals
              first | rw [if_pos tm2] at HTn2 | rw [if_neg tm2] at HTn2
              have hnl := HNL.out
              go_still_tail 18, (by kernel_rfl)
              clear hnl
              go_wp2_with fail
              go_roundg (L.length - (k + 1))
              case measure => have := HK2.out; omega
              case rel => exact ⟨k + 1, _, by go_num, ⟨by have := HK2.out; omega⟩, ⟨HTn2.out.symm⟩, ⟨HS2.out _⟩⟩
          · rw [if_neg tm] at HTn2
            go_still_tail 17, (by kernel_rfl)
            go_wp2_with fail
            generalize hW : (w5.setCell ⟨g3, f * 24 + t, none⟩ (.int .i64 Y)).drew = W7
            have HM7 := HS1.out Y
            rw [hW] at HM7
            have hl7 : (T.set (f * 24 + t) Y).length = 576 := by rw [List.length_set]; exact HLT.out
            generalize T.set (f * 24 + t) Y = T1 at HM7 HTn2 hl7
            clear hW HS1 d0 d1 d2 d3 e1 e2 HM6
            have HM8 := Aside0.mk HM7
            have HL7 := Aside0.mk hl7
            clear HM7 hl7
            have d0 : W7.cell? ⟨g4, 0, none⟩ = some (.int .i64 (f : Int)) := (HM8.out.cell 0).trans rfl
            have d1 : W7.cell? ⟨g4, 1, none⟩ = some (.int .i64 (t : Int)) := (HM8.out.cell 1).trans rfl
            have d2 : W7.cell? ⟨g4, 2, none⟩ = some (.int .i64 lo) := (HM8.out.cell 2).trans rfl
            have e1 : W7.cell? ⟨g3, t * 24 + f, none⟩ = some (.int .i64 (T1.getD (t * 24 + f) 0)) := by rw [blk_cell HM8.out.second, get_nums _ _ (by rw [HL7.out]; omega)]
            have e2 : W7.frozen? ⟨g3, t * 24 + f, none⟩ = false := blk_frozen HM8.out.second _
            generalize hY2 : T1.getD (t * 24 + f) 0 = Y2 at e1 HTn2
            clear hY2
            have HMN : Aside0 (mn Y2 (-lo) = if -lo < Y2 then -lo else Y2) := ⟨rfl⟩
            rw [HMN.out] at HTn2
            clear HMN
            have HS2 := Aside0.mk (fun v => (HM8.out.swap.put (t * 24 + f) (.int .i64 v) (set_nums T1 (t * 24 + f) v)).swap.drop.drew)
            by_cases tm2 : -lo < Y2
            all_goals
              first | rw [if_pos tm2] at HTn2 | rw [if_neg tm2] at HTn2
              have hnl := HNL.out
              go_still_tail 18, (by kernel_rfl)
              clear hnl
              go_wp2_with fail
              go_roundg (L.length - (k + 1))
              case measure => have := HK2.out; omega
              case rel => exact ⟨k + 1, _, by go_num, ⟨by have := HK2.out; omega⟩, ⟨HTn2.out.symm⟩, ⟨HS2.out _⟩⟩
        · have d0 : wr.cell? ⟨g1, 0, none⟩ = some (.int .i64 (n : Int)) := (blk_cell HN.out.third 0).trans rfl
          have HT2 : Aside0 (T = initTab L) := ⟨by rw [HT.out, List.take_of_length_le (by omega)]⟩
          have hp1 : (1 : Int) ≤ (n : Int) := by omega
          go_wp2_with fail
          clear d0
          -- the ways over ever more points
          go_loopg [78] n (fun k v78 w' => ∃ (m : Nat) (T : List Int), v78 = .int .i64 m ∧ Aside0 (m + k = n) ∧ Aside0 (T.length = 576 ∧ Small (bnd m) T ∧ floyd n (n - m) m T = floyd n n 0 (initTab L)) ∧ Aside0 (Mem w w' [(g3, (nums .i64 T).toArray, 125), (g2, (nums .i64 (List.replicate 576 0)).toArray, 125), (g1, #[.int .i64 (n : Int), .slice A L.length c], 27)]))
          case atStart => exact ⟨0, T, rfl, ⟨by omega⟩, ⟨by rw [HT2.out, initTab_length], by rw [HT2.out]; exact Small.init L HOK.out.2.2.2, by rw [HT2.out]; rfl⟩, HN⟩
          case round =>
            obtain ⟨m, T3, rfl, HK3, HT3, HN3⟩ := hrel
            by_cases hm : m < n
            · have hb3 := bnd_le m (by omega)
              have HOC := Aside0.mk (fun W => over_calls T3 m n HT3.out.1 (by omega) hn2 (HT3.out.2.1.wide (by omega)) W)
              have d0 : wr.cell? ⟨g1, 0, none⟩ = some (.int .i64 (n : Int)) := (blk_cell HN3.out.third 0).trans rfl
              go_wp2_with (first
                | ((with_reducible refine gate_dst (N := 81) rfl ?_); refine ev_load HN3.out.head rfl 125 (.tmp 4) rfl rfl _ Try.underlying125 rfl size125 (size_nums HT3.out.1) ?_)
                | (go_at_call 133; refine (HOC.out _).mono ?_; rintro e w6 ⟨U, hU, rfl, hd⟩; have HU5 := Aside0.mk hU; clear hU; have HM5 := Aside0.mk (HN3.out.step hd); clear hd)
                | (refine ev_store HM5.out rfl 125 (.tmp 4) (.tmp 85) rfl rfl rfl size125 (size_nums HT3.out.1) (size_nums HU5.out.1) (one_nums U) ?_; intro w7 hm7 hq1; clear hq1; have HM6 := Aside0.mk hm7; clear hm7 HM5; have d2 : w7.cell? ⟨g1, 0, none⟩ = some (.int .i64 (n : Int)) := (blk_cell HM6.out.third 0).trans rfl))
              have HUT := Aside0.mk (OvTo.tab HU5.out)
              have HUL := Aside0.mk HU5.out.1
              clear HU5 d0 d2
              go_loopg [88] n (fun k v88 w' => ∃ (a : Nat), v88 = .int .i64 a ∧ Aside0 (a + k = n) ∧ Aside0 (∀ x, x < a → ¬ U.getD (x * 24 + x) 0 < 0) ∧ Aside0 (Mem w w' [(g3, (nums .i64 U).toArray, 125), (g2, (nums .i64 (List.replicate 576 0)).toArray, 125), (g1, #[.int .i64 (n : Int), .slice A L.length c], 27)]))
              case atStart => exact ⟨0, rfl, ⟨by omega⟩, ⟨fun x hx => absurd hx (by omega)⟩, HM6⟩
              case round =>
                obtain ⟨a, rfl, HK4, HD, HN4⟩ := hrel
                by_cases ha : a < n
                · have e1 : wr.cell? ⟨g3, a * 24 + a, none⟩ = some (.int .i64 (U.getD (a * 24 + a) 0)) := by rw [HN4.out.cell, get_nums _ _ (by rw [HUL.out]; omega)]
                  generalize hV : U.getD (a * 24 + a) 0 = V at e1
                  have HV := Aside0.mk hV
                  clear hV
                  by_cases tv : V < 0
                  · have HFL : Aside0 (tightOf (n : Int) L = (U, 12)) := ⟨by
                      rw [HF.out, ← HT3.out.2.2, show n - m = (n - m - 1) + 1 by omega, floyd_neg (by rw [← HUT.out]; exact negDiag_true ha (by rw [HV.out]; exact tv)), ← HUT.out]⟩
                    go_wp2_with (first
                      | ((with_reducible refine gate_dst (N := 97) rfl ?_); refine ev_load HN4.out.head rfl 125 (.tmp 4) rfl rfl _ Try.underlying125 rfl size125 (size_nums HUL.out) ?_)
                      | (refine ev_store HN4.out.swap rfl 125 (.tmp 2) (.tmp 97) rfl rfl rfl size125 (size_nums (by simp)) (size_nums HUL.out) (one_nums U) ?_; intro w8 hm8 hq1; clear hq1; have HM8 := Aside0.mk hm8; clear hm8 HN4))
                    refine bodyPost_ret (results_row_tmp rfl _ _ _ _ _ _ _ rfl HM8.out.head Try.underlying125 rfl (by rw [size125, size_nums HUL.out])) rfl ⟨by rw [HFL.out]; rfl, HM8.out.below⟩
                  · have HD2 : Aside0 (∀ x, x < a + 1 → ¬ U.getD (x * 24 + x) 0 < 0) := ⟨fun x hx => by
                      by_cases q : x = a
                      · subst q; rw [HV.out]; exact tv
                      · exact HD.out x (by omega)⟩
                    go_wp2_with fail
                    go_roundg (n - (a + 1))
                    case measure => have := HK4.out; omega
                    case rel => exact ⟨a + 1, by go_num, ⟨by omega⟩, HD2, HN4⟩
                · have HNX : Aside0 (floyd n (n - (m + 1)) (m + 1) U = floyd n n 0 (initTab L)) := ⟨by
                    rw [← HT3.out.2.2, show n - m = (n - (m + 1)) + 1 by omega, floyd_next (by rw [← HUT.out]; exact negDiag_false (fun x hx => HD.out x (by omega))), ← HUT.out]⟩
                  go_wp2_with fail
                  go_roundg (n - (m + 1))
                  case measure => have := HK3.out; omega
                  case rel => exact ⟨m + 1, U, by go_num, ⟨by omega⟩, ⟨HUL.out, by rw [bnd_succ, HUT.out]; exact HT3.out.2.1.over (by omega), HNX.out⟩, HN4⟩
            · have HFL : Aside0 (tightOf (n : Int) L = (T3, 0)) := ⟨by rw [HF.out, ← HT3.out.2.2, show n - m = 0 by omega]; rfl⟩
              go_wp2_with (first
                | ((with_reducible refine gate_dst (N := 100) rfl ?_); refine ev_load HN3.out.head rfl 125 (.tmp 4) rfl rfl _ Try.underlying125 rfl size125 (size_nums HT3.out.1) ?_)
                | (refine ev_store HN3.out.swap rfl 125 (.tmp 2) (.tmp 100) rfl rfl rfl size125 (size_nums (by simp)) (size_nums HT3.out.1) (one_nums T3) ?_; intro w8 hm8 hq1; clear hq1; have HM8 := Aside0.mk hm8; clear hm8 HN3))
              refine bodyPost_ret (results_row_tmp rfl _ _ _ _ _ _ _ rfl HM8.out.head Try.underlying125 rfl (by rw [size125, size_nums HT3.out.1])) rfl ⟨by rw [HFL.out]; rfl, HM8.out.below⟩
end Go.Proofs.Ytbcfphoheijmdaa.Print
end

section
/- table.span: the range between two points that the Go method reads off a table. -/
namespace Go.Proofs.Ytbcfphoheijmdaa.Print
open Go.RowKit Go.Proofs.YtbcfphoheijmdaaW.PrintWords Go.Proofs.YtbcfphoheijmdaaW.PrintLast Go.Proofs.YtbcfphoheijmdaaW.PrintMore Go.Proofs.Ytbcfphoheijmdaa.H
set_option linter.unusedVariables false
set_option linter.unusedSimpArgs false

theorem info32a : (Try.prog.info? 32).map (fun i => (i.zero, i.size, i.bytes)) = some (some (.agg #[.int .i64 0, .int .i64 0]), 2, 16) := by kernel_rfl
theorem size32 : (Try.prog.info? 32).map (·.size) = some 2 := by kernel_rfl
/-- The tight range from a to b. -/
def spanOf (T : List Int) (a b : Nat) : S32 := ⟨-(T.getD (b * 24 + a) 0), T.getD (a * 24 + b) 0⟩
set_option maxHeartbeats 800000 in
set_option maxRecDepth 100000 in
theorem span_calls (T : List Int) (a b : Nat) (hT : T.length = 576) (ha : a < 24) (hb : b < 24) (hbd : ∀ i, -4611686018427387904 ≤ T.getD i 0 ∧ T.getD i 0 ≤ 4611686018427387904) (w : World) :
    Calls Try.prog 90 #[.agg (nums .i64 T).toArray, .int .i64 a, .int .i64 b] w fun e w' => e = .returned (.agg #[.int .i64 (spanOf T a b).f0, .int .i64 (spanOf T a b).f1]) ∧ Below w.heap.size w w' := by
  have HM := Aside0.mk (Mem.start w)
  have HT := Aside0.mk hT
  have hX1 := (hbd (b * 24 + a)).1
  have hX2 := (hbd (b * 24 + a)).2
  clear hT hbd
  have HC1 := Aside0.mk (get_nums T (b * 24 + a) (by rw [HT.out]; omega))
  have HC2 := Aside0.mk (get_nums T (a * 24 + b) (by rw [HT.out]; omega))
  unfold spanOf
  generalize hX : T.getD (b * 24 + a) 0 = X at hX1 hX2 HC1 ⊢
  generalize hY : T.getD (a * 24 + b) 0 = Y at HC2 ⊢
  clear hX hY
  have HS := Aside0.mk (size_nums HT.out)
  generalize (nums .i64 T).toArray = A at HC1 HC2 HS ⊢
  have i1 : (0 : Int) ≤ (a : Int) := by omega
  have i2 : (a : Int) < 24 := by omega
  have i3 : (0 : Int) ≤ (b : Int) := by omega
  have i4 : (b : Int) < 24 := by omega
  have hu32 := Try.underlying32
  go_enter Try.func90, Try.ntmps90
  go_wp2_with (first
    | ((with_reducible refine gate_dst (N := 3) rfl ?_); refine ev_box HM.out rfl 125 (.tmp 0) rfl (cs := A) rfl ?_; intro g1 w1 hm1 hq1; clear hq1; have HM1 := Aside0.mk hm1; clear hm1 HM)
    | ((with_reducible refine gate_dst (N := 6) rfl ?_); refine ev_new HM1.out rfl 32 rfl info32a ?_; intro g2 w2 hm2 hq1; clear hq1; have HM2 := Aside0.mk hm2; clear hm2 HM1))
  have c1 : w2.cell? ⟨g1, b * 24 + a, none⟩ = some (.int .i64 X) := by rw [blk_cell HM2.out.second]; exact HC1.out
  have c2 : w2.cell? ⟨g1, a * 24 + b, none⟩ = some (.int .i64 Y) := by rw [blk_cell HM2.out.second]; exact HC2.out
  have c3 : w2.cell? ⟨g2, 0, none⟩ = some (.int .i64 0) := (HM2.out.cell 0).trans rfl
  have c4 : w2.cell? ⟨g2, 1, none⟩ = some (.int .i64 0) := (HM2.out.cell 1).trans rfl
  have f3 : w2.frozen? ⟨g2, 0, none⟩ = false := HM2.out.frozen _
  have f4 : w2.frozen? ⟨g2, 1, none⟩ = false := HM2.out.frozen _
  have hn : IntKind.i64.wrap (-X) = -X := IntWalk.i64_in _ (by omega)
  go_still_tail 12, (by kernel_rfl)
  clear hn
  go_wp2_with fail
  have HM3 := ((HM2.out.put 0 (.int .i64 (-X)) rfl).put 1 (.int .i64 Y) rfl).drew
  exact bodyPost_ret (results_cell_row rfl _ _ _ _ _ _ _ rfl HM3.head Try.underlying32 rfl size32) rfl ⟨rfl, HM3.below⟩
end Go.Proofs.Ytbcfphoheijmdaa.Print
end

section
/- Tight: the tight ranges of a chain, and that the Go function's call gives them. -/
namespace Go.Proofs.Ytbcfphoheijmdaa.Print
open Go.RowKit Go.Proofs.YtbcfphoheijmdaaW.PrintWords Go.Proofs.YtbcfphoheijmdaaW.PrintLast Go.Proofs.YtbcfphoheijmdaaW.PrintMore Go.Proofs.Ytbcfphoheijmdaa.H
attribute [local go_sem] max2_int min2_int max_two min_two max_three min_three max_four min_four
attribute [local go_sem ↓] Go.wp_at_zero Go.wp_at_succ
set_option linter.unusedVariables false
set_option linter.unusedSimpArgs false

/-- The tight ranges as rows. -/
def rowsOf (n : Nat) (T : List Int) : List (List S32) := (List.range n).map (fun a => (List.range n).map (fun b => spanOf T a b))
def tightRes (P : Int) (L : List S35) : List (List S32) × Int := if (tightOf P L).2 = 0 then (rowsOf P.toNat (tightOf P L).1, 0) else ([], (tightOf P L).2)
def mount_Tight.f (a0_0 : Int) (l0_1 : List (S35)) : Option ((List (List (S32))) × Int) := some (tightRes a0_0 l0_1)

theorem floyd_small {n : Nat} : ∀ (k m : Nat) (T : List Int), m + k ≤ 24 → Small (bnd m) T → T.length = 576 → Small (bnd 24) (floyd n k m T).1 ∧ (floyd n k m T).1.length = 576
  | 0, m, T, h, hs, hl => ⟨hs.mono (by
      have : ∀ j, m + j ≤ 24 → bnd m ≤ bnd (m + j) := by
        intro j
        induction j with
        | zero => intro _; exact Int.le_refl _
        | succ j ih => intro hj; have := ih (by omega); have e := bnd_succ (m + j); have := bnd_le (m + j) (by omega); rw [← Nat.add_assoc, e]; omega
      have := this (24 - m) (by omega)
      rwa [show m + (24 - m) = 24 by omega] at this), hl⟩
  | k + 1, m, T, h, hs, hl => by
    have hb := bnd_le m (by omega)
    have h1 : Small (bnd (m + 1)) (overTab T m n) := by rw [bnd_succ]; exact hs.over hb.1
    rw [floyd]
    split
    · exact floyd_small (n := n) 0 (m + 1) _ (by omega) h1 (overTab_length _ _ _)
    · exact floyd_small k (m + 1) _ (by omega) h1 (overTab_length _ _ _)
theorem tightOf_small {P : Int} {L : List S35} (h : (tightOf P L).2 = 0) : chainErr P L = 0 ∧ (tightOf P L).1.length = 576 ∧ Small (bnd 24) (tightOf P L).1 := by
  unfold tightOf at h ⊢
  split at h
  · rename_i hc
    rw [if_pos hc]
    have hok := chainErr_ok hc
    have := floyd_small (n := P.toNat) P.toNat 0 (initTab L) (by omega) (Small.init L hok.2.2.2) (initTab_length L)
    exact ⟨hc, this.2, this.1⟩
  · rename_i hc
    exact absurd h hc

/-- The rows on the way: those before a whole, of row a the first b ranges. -/
def rowsTo (n : Nat) (T : List Int) (a b : Nat) : List (List S32) := (List.range n).map (fun j => if j < a then (List.range n).map (fun b => spanOf T j b) else if j = a then (List.range b).map (fun b => spanOf T j b) else [])
theorem rowsTo_length (n : Nat) (T : List Int) (a b : Nat) : (rowsTo n T a b).length = n := by simp [rowsTo]
theorem rowsTo_start (n : Nat) (T : List Int) : rowsTo n T 0 0 = List.replicate n [] := by
  apply List.ext_getElem
  · simp [rowsTo]
  · intro i h1 h2
    simp [rowsTo]
theorem rowsTo_get (n : Nat) (T : List Int) (a b : Nat) (ha : a < n) : (rowsTo n T a b).getD a [] = (List.range b).map (fun b => spanOf T a b) := by
  simp [rowsTo, List.getD_eq_getElem?_getD, ha]
theorem rowsTo_next (n : Nat) (T : List Int) (a b : Nat) (hb : b = n) : rowsTo n T a b = rowsTo n T (a + 1) 0 := by
  subst hb
  apply List.ext_getElem
  · simp [rowsTo]
  · intro i h1 h2
    simp only [rowsTo, List.getElem_map, List.getElem_range]
    by_cases q : i < a
    · rw [if_pos q, if_pos (by omega)]
    · by_cases q2 : i = a
      · rw [if_neg q, if_pos q2, if_pos (by omega)]
      · rw [if_neg q, if_neg q2, if_neg (by omega)]
        by_cases q3 : i = a + 1
        · rw [if_pos q3]; rfl
        · rw [if_neg q3]
theorem rowsTo_done (n : Nat) (T : List Int) (a b : Nat) (ha : n ≤ a) : rowsTo n T a b = rowsOf n T := by
  apply List.ext_getElem
  · simp [rowsTo, rowsOf]
  · intro i h1 h2
    have hi : i < n := by simpa [rowsTo] using h1
    simp only [rowsTo, rowsOf, List.getElem_map, List.getElem_range]
    rw [if_pos (by omega)]
theorem rowsTo_set (n : Nat) (T : List Int) (a b : Nat) : (rowsTo n T a b).set a ((List.range b).map (fun b => spanOf T a b) ++ [spanOf T a b]) = rowsTo n T a (b + 1) := by
  apply List.ext_getElem
  · simp [rowsTo]
  · intro i h1 h2
    rw [List.getElem_set]
    simp only [rowsTo, List.getElem_map, List.getElem_range]
    by_cases q : a = i
    · subst q
      rw [if_pos rfl, if_neg (by omega), if_pos rfl, List.range_succ, List.map_append]
      rfl
    · rw [if_neg q]
      by_cases q2 : i < a
      · rw [if_pos q2, if_pos q2]
      · rw [if_neg q2, if_neg q2, if_neg (by omega), if_neg (by omega)]
theorem rangeAt_blk {W : World} {g : Nat} {T : List Value} {t : TypeId} (h : W.heap[g]? = some (.cells T.toArray t (0, 0))) : W.rangeAt g 0 T := fun j v hv => by
  rw [Nat.zero_add, blk_cell h j, List.getElem?_toArray]
  exact hv
set_option maxHeartbeats 3200000 in
set_option maxRecDepth 100000 in
theorem mount_Tight.calls (a0_0 : Int) (A0_1 : Option Addr) (c0_1 : Nat) (l0_1 : List (S35)) (r1 : List (List (S32))) (r2 : Int) (w : World) (hr0_1 : Kd.C k35 w A0_1 l0_1.length l0_1) (hc0_1 : l0_1.length ≤ c0_1) (h : mount_Tight.f a0_0 l0_1 = some (r1, r2)) :
    Calls Try.prog 24 #[.agg #[.int .i64 a0_0, .slice A0_1 l0_1.length c0_1]] w fun e w' => ∃ v0_ : Value, e = .returned (.tuple #[v0_, .int .i64 r2]) ∧ Kd.S (Kd.slice 32 k32) 45 w' w.heap.size (fun _ => True) v0_ r1 ∧ Below w.heap.size w w' := by
  have HF := Aside0.mk (Option.some.inj h)
  have HR := Aside0.mk hr0_1
  have HM := Aside0.mk (Mem.start w)
  clear h hr0_1
  have hu27 := Try.underlying27
  have HTC := Aside0.mk (fun W hW => tight_calls a0_0 A0_1 c0_1 l0_1 W hW hc0_1)
  have HLT : Aside0 ((tightOf a0_0 l0_1).1.length = 576) := ⟨by
    by_cases hc : chainErr a0_0 l0_1 = 0
    · unfold tightOf; rw [if_pos hc]; exact (floyd_small (n := a0_0.toNat) a0_0.toNat 0 (initTab l0_1) (by have := chainErr_ok hc; omega) (Small.init _ (chainErr_ok hc).2.2.2) (initTab_length _)).2
    · unfold tightOf; rw [if_neg hc]; simp⟩
  by_cases t1 : (tightOf a0_0 l0_1).2 = 0
  rotate_left
  · have HF2 : Aside0 (r1 = [] ∧ r2 = (tightOf a0_0 l0_1).2) := ⟨by have := HF.out; unfold tightRes at this; rw [if_neg t1] at this; exact ⟨(congrArg Prod.fst this).symm, (congrArg Prod.snd this).symm⟩⟩
    generalize (tightOf a0_0 l0_1).2 = E at t1 HTC HF2
    generalize (tightOf a0_0 l0_1).1 = T at HTC HLT
    have t2 : (E != 0) = true := by simpa using t1
    clear t1
    go_enter Try.func24, Try.ntmps24
    go_wp2_with (first
      | ((with_reducible refine gate_dst (N := 1) rfl ?_); refine ev_box HM.out rfl 27 (.tmp 0) rfl (cs := #[.int .i64 a0_0, .slice A0_1 l0_1.length c0_1]) rfl ?_; intro g1 w1 hm1 hq1; clear hq1; have HM1 := Aside0.mk hm1; clear hm1 HM)
      | ((with_reducible refine gate_dst (N := 10) rfl ?_); refine ev_load HM1.out.head rfl 27 (.tmp 1) rfl rfl _ Try.underlying27 rfl (n := 2) (by kernel_rfl) rfl ?_)
      | (go_at_call 89; refine (HTC.out _ (Kd.C_below HR.out HM1.out.below)).mono ?_; rintro e w' ⟨rfl, hd⟩; have HM2 := Aside0.mk (HM1.out.step hd); clear hd HM1)
      | ((with_reducible refine gate_dst (N := 4) rfl ?_); refine ev_new HM2.out rfl 125 rfl info125 ?_; intro g3 w3 hm3 hq1; clear hq1; have HM3 := Aside0.mk hm3; clear hm3 HM2)
      | (refine ev_store HM3.out rfl 125 (.tmp 4) (.tmp 12) rfl rfl rfl size125 (by simp) (size_nums HLT.out) (one_nums _) ?_; intro w5 hm5 hq1; clear hq1; have HM5 := Aside0.mk hm5; clear hm5 HM3))
    go_ret2
    exact ⟨.slice none 0 0, by rw [HF2.out.2]; rfl, by rw [HF2.out.1]; exact Kd.S_nil _ _ _ _ _, HM5.out.below⟩
  obtain ⟨hce, _, hsm⟩ := tightOf_small t1
  have HOK := Aside0.mk (chainErr_ok hce)
  have HF2 : Aside0 (r1 = rowsOf a0_0.toNat (tightOf a0_0 l0_1).1 ∧ r2 = 0) := ⟨by have := HF.out; unfold tightRes at this; rw [if_pos t1] at this; exact ⟨(congrArg Prod.fst this).symm, (congrArg Prod.snd this).symm⟩⟩
  rw [t1] at HTC
  have HBD := Aside0.mk (hsm.wide (bnd_le 24 (by omega)).2)
  clear t1 hce hsm HF
  generalize (tightOf a0_0 l0_1).1 = T at HTC HLT HF2 HBD
  obtain ⟨n, rfl⟩ : ∃ n : Nat, a0_0 = n := ⟨a0_0.toNat, by have := HOK.out; omega⟩
  have hn1 : 1 ≤ n := by have := HOK.out.1; omega
  have hn2 : n ≤ 24 := by have := HOK.out.2.1; omega
  clear HOK
  go_enter Try.func24, Try.ntmps24
  go_wp2_with (first
    | ((with_reducible refine gate_dst (N := 1) rfl ?_); refine ev_box HM.out rfl 27 (.tmp 0) rfl (cs := #[.int .i64 (n : Int), .slice A0_1 l0_1.length c0_1]) rfl ?_; intro g1 w1 hm1 hq1; clear hq1; have HM1 := Aside0.mk hm1; clear hm1 HM)
    | ((with_reducible refine gate_dst (N := 10) rfl ?_); refine ev_load HM1.out.head rfl 27 (.tmp 1) rfl rfl _ Try.underlying27 rfl (n := 2) (by kernel_rfl) rfl ?_)
    | (go_at_call 89; refine (HTC.out _ (Kd.C_below HR.out HM1.out.below)).mono ?_; rintro e w' ⟨rfl, hd⟩; have HM2 := Aside0.mk (HM1.out.step hd); clear hd HM1)
    | ((with_reducible refine gate_dst (N := 4) rfl ?_); refine ev_new HM2.out rfl 125 rfl info125 ?_; intro g3 w3 hm3 hq1; clear hq1; have HM3 := Aside0.mk hm3; clear hm3 HM2)
    | (refine ev_store HM3.out rfl 125 (.tmp 4) (.tmp 12) rfl rfl rfl size125 (by simp) (size_nums HLT.out) (one_nums _) ?_; intro w5 hm5 hq1; clear hq1; have HM5 := Aside0.mk hm5; clear hm5 HM3; have c0 : w5.cell? ⟨g1, 0, none⟩ = some (.int .i64 (n : Int)) := (blk_cell HM5.out.second 0).trans rfl)
    | ((with_reducible refine gate_dst (N := 19) rfl ?_); refine ev_make HM5.out rfl 36 (.tmp 18) rfl n rfl 45 (.slice none 0 0) 24 Try.underlying36 info45 rfl (by omega) (by unfold maxLen; omega) ?_; intro g6 w6 hm6 hq6; have HM6 := Aside0.mk hm6; clear hm6 HM5 hq6))
  have HRA : Aside0 (RowsAt k32 32 w6 w.heap.size g6 (fun _ => 0) (List.replicate n (.slice none 0 0)) (rowsTo n T 0 0)) := ⟨by rw [rowsTo_start]; exact RowsAt.start _ _ _ _ _ _ _⟩
  go_loopg [22] n (fun k v22 w' => ∃ (a : Nat) (f : Nat → Nat) (vs : List Value), v22 = .int .i64 a ∧ Aside0 (a + k = n) ∧ Aside0 (Mem w w' [(g6, vs.toArray, 45), (g3, (nums .i64 T).toArray, 125), (g1, #[.int .i64 (n : Int), .slice A0_1 l0_1.length c0_1], 27)]) ∧ Aside0 (RowsAt k32 32 w' w.heap.size g6 f vs (rowsTo n T a 0) ∧ ∀ k, w'.heap.size ≤ k → f k = a))
  case atStart => exact ⟨0, _, _, rfl, ⟨by omega⟩, HM6, ⟨HRA.out, fun _ _ => rfl⟩⟩
  case round =>
    clear HM6 HRA
    obtain ⟨a, f, vs, rfl, HK, HM, HRA⟩ := hrel
    by_cases ha : a < n
    · have d0 : wr.cell? ⟨g1, 0, none⟩ = some (.int .i64 (n : Int)) := (blk_cell HM.out.third 0).trans rfl
      go_wp2_with fail
      clear d0
      go_loopg [27] n (fun k v27 w' => ∃ (b : Nat) (f : Nat → Nat) (vs : List Value), v27 = .int .i64 b ∧ Aside0 (b + k = n) ∧ Aside0 (Mem w w' [(g6, vs.toArray, 45), (g3, (nums .i64 T).toArray, 125), (g1, #[.int .i64 (n : Int), .slice A0_1 l0_1.length c0_1], 27)]) ∧ Aside0 (RowsAt k32 32 w' w.heap.size g6 f vs (rowsTo n T a b) ∧ ∀ k, w'.heap.size ≤ k → f k = a))
      case atStart => exact ⟨0, f, vs, rfl, ⟨by omega⟩, HM, HRA⟩
      case round =>
        obtain ⟨b, f2, vs2, rfl, HK2, HN, HRB⟩ := hrel
        by_cases hb : b < n
        · have HRow := HRB.out.1.2 a (by rw [rowsTo_length]; exact ha)
          rw [rowsTo_get _ _ _ _ ha] at HRow
          have hvl : a < vs2.length := by rw [HRB.out.1.1, rowsTo_length]; exact ha
          have HVA := Aside0.mk (show vs2.toArray[a]? = some (vs2.getD a undef) by
            rw [List.getD_eq_getElem?_getD, List.getElem?_eq_getElem hvl]
            simp [hvl])
          have c1 : wr.cell? ⟨g6, a, none⟩ = some (vs2.getD a undef) := by rw [HN.out.cell]; exact HVA.out
          have f1 : wr.frozen? ⟨g6, a, none⟩ = false := HN.out.frozen _
          generalize hV : vs2.getD a undef = v at c1 HRow HVA
          have HV := Aside0.mk hV
          have HROW := Aside0.mk HRow
          clear hV HRow hvl
          have i1 : (0 : Int) ≤ (a : Int) := by omega
          have i2 : (a : Int) < (n : Int) := by omega
          have HSP := Aside0.mk (fun W => span_calls T a b HLT.out (by omega) (by omega) HBD.out W)
          go_wp2_with fail
          have hu125 := Try.underlying125
          have hi125 : (Try.prog.info? 125).map (·.size) = some (nums .i64 T).length := by rw [size125]; simp [nums, HLT.out]
          have hfr : ∀ k, wr.heap.size ≤ k → f2 k = a ∧ k ≠ g6 := fun k hk => ⟨HRB.out.2 k hk, by have := blk_lt HN.out.head; omega⟩
          have HFR := Aside0.mk hfr
          clear hfr
          have HLX := Aside0.mk (show ((List.range b).map (fun b => spanOf T a b)).length = b by simp)
          generalize hXS : (List.range b).map (fun b => spanOf T a b) = XS at HROW HLX
          have HXS := Aside0.mk hXS
          clear hXS
          refine wp_region_noPanic ?_
          refine H.wp_region_T [13] (S := fun w' => w'.cell? ⟨g6, a, none⟩ = some v ∧ w'.rangeAt g3 0 (nums .i64 T)) (by kernel_rfl) ⟨(HN.out.drew.cell a).trans HVA.out, rangeAt_blk HN.out.drew.second⟩ (fun hHeld => ?_)
          refine H.wpAnyT_takeY (i := 0) (v := .slice (some ⟨g6, 0, none⟩) n n) rfl (by decide) (by kernel_rfl) (by kernel_rfl) (by kernel_rfl) (fun _ _ _ h => h) (Or.inl ⟨by rfl, ?_⟩) hHeld ?_
          · (intro w_ hSw; go_simp; try rfl)
          try simp only [Act.put, List.setIfInBounds_toArray, List.set_cons_zero, List.set_cons_succ]
          refine H.wpAnyT_takeY (i := 1) (v := .int .i64 (a : Int)) rfl (by decide) (by kernel_rfl) (by kernel_rfl) (by kernel_rfl) (fun _ _ _ h => h) (Or.inl ⟨by rfl, ?_⟩) hHeld ?_
          · (intro w_ hSw; go_simp; try rfl)
          try simp only [Act.put, List.setIfInBounds_toArray, List.set_cons_zero, List.set_cons_succ]
          refine H.wpAnyT_takeY (i := 2) (v := .slice (some ⟨g6, 0, none⟩) n n) rfl (by decide) (by kernel_rfl) (by kernel_rfl) (by kernel_rfl) (fun _ _ _ h => h) (Or.inl ⟨by rfl, ?_⟩) hHeld ?_
          · (intro w_ hSw; go_simp; try rfl)
          try simp only [Act.put, List.setIfInBounds_toArray, List.set_cons_zero, List.set_cons_succ]
          refine H.wpAnyT_takeY (i := 3) (v := .int .i64 (a : Int)) rfl (by decide) (by kernel_rfl) (by kernel_rfl) (by kernel_rfl) (fun _ _ _ h => h) (Or.inl ⟨by rfl, ?_⟩) hHeld ?_
          · (intro w_ hSw; go_simp; try rfl)
          try simp only [Act.put, List.setIfInBounds_toArray, List.set_cons_zero, List.set_cons_succ]
          refine H.wpAnyT_takeY (i := 4) (v := .pointer (some ⟨g6, a, none⟩)) rfl (by decide) (by kernel_rfl) (by kernel_rfl) (by kernel_rfl) (fun _ _ _ h => h) (Or.inl ⟨by rfl, ?_⟩) hHeld ?_
          · (intro w_ hSw; go_simp; try rfl)
          try simp only [Act.put, List.setIfInBounds_toArray, List.set_cons_zero, List.set_cons_succ]
          refine H.wpAnyT_take (i := 5) (v := v) rfl (by decide) (by kernel_rfl) (by kernel_rfl) (by kernel_rfl) (by kernel_rfl) (fun _ _ _ h => h) (Or.inl ⟨by rfl, ?_⟩) hHeld ?_
          · (intro w_ hSw; (try dsimp only at hSw); obtain ⟨q1, q2⟩ := hSw; go_simp; try rfl)
          try simp only [Act.put, List.setIfInBounds_toArray, List.set_cons_zero, List.set_cons_succ]
          refine H.wpAnyT_take (i := 6) (v := .agg (nums .i64 T).toArray) rfl (by decide) (by kernel_rfl) (by kernel_rfl) (by kernel_rfl) (by kernel_rfl) (fun _ _ _ h => h) (yieldsIf_load_mid (by rfl) _ _ rfl _ _ rfl _ _ (fun w_ hSw => hSw.2) hu125 rfl hi125) hHeld ?_
          try simp only [Act.put, List.setIfInBounds_toArray, List.set_cons_zero, List.set_cons_succ]
          refine H.wpAnyT_takeY (i := 7) (v := .int .i64 (a : Int)) rfl (by decide) (by kernel_rfl) (by kernel_rfl) (by kernel_rfl) (fun _ _ _ h => h) (Or.inl ⟨by rfl, ?_⟩) hHeld ?_
          · (intro w_ hSw; go_simp; try rfl)
          try simp only [Act.put, List.setIfInBounds_toArray, List.set_cons_zero, List.set_cons_succ]
          refine H.wpAnyT_takeY (i := 8) (v := .int .i64 (b : Int)) rfl (by decide) (by kernel_rfl) (by kernel_rfl) (by kernel_rfl) (fun _ _ _ h => h) (Or.inl ⟨by rfl, ?_⟩) hHeld ?_
          · (intro w_ hSw; go_simp; try rfl)
          try simp only [Act.put, List.setIfInBounds_toArray, List.set_cons_zero, List.set_cons_succ]
          refine H.wpAnyT_ready (rs := [9]) (by kernel_rfl) (by simp) ?_
          refine H.AllT.cons (i := 9) rfl (by decide) (fun K hK => ?_) H.AllT.nil
          go_simp
          go_at_call 90
          refine (HSP.out _).mono ?_
          rintro e w7 ⟨rfl, hd7⟩
          have HM7 := Aside0.mk (HN.out.drew.step hd7)
          have HR7 := Aside0.mk (Kd.R_below (Kd.R_drew HROW.out) hd7)
          have HS7 := Aside0.mk hd7.size
          have HRB7 := Aside0.mk ((HRB.out.1.below (below_drew1 (Below.refl _ _))).below hd7)
          have c7 : w7.cell? ⟨g6, a, none⟩ = some v := (HM7.out.cell a).trans HVA.out
          have c7a : ∀ o, (w7.alloc o).cell? ⟨g6, a, none⟩ = some v := (fun o => ((HM7.out.alloc o).cell a).trans HVA.out)
          clear hd7
          refine hK.out _ _ (⟨c7, rangeAt_blk HM7.out.second⟩) (fun hHeld => ?_)
          clear hK K
          try simp only [Act.put, List.setIfInBounds_toArray, List.set_cons_zero, List.set_cons_succ]
          refine H.wpAnyT_ready (rs := [10]) (by kernel_rfl) (by simp) ?_
          refine H.AllT.cons (i := 10) rfl (by decide) (fun K hK => ?_) H.AllT.nil
          go_simp
          refine hK.out _ _ (⟨c7a _, rangeAt_blk (HM7.out.alloc _).second⟩) (fun hHeld => ?_)
          clear hK K
          try simp only [Act.put, List.setIfInBounds_toArray, List.set_cons_zero, List.set_cons_succ]
          refine H.wpAnyT_ready (rs := [11]) (by kernel_rfl) (by simp) ?_
          refine H.AllT.cons (i := 11) rfl (by decide) (fun K hK => ?_) H.AllT.nil
          refine Kd.R_append_step k32 (w0 := w) w.heap.size (by rfl) (.tmp 35) (.tmp 40) 45 32 (.agg #[.int .i64 0, .int .i64 0]) 16 rfl Try.underlying45 info32 rfl (by decide) (by omega) v XS (spanOf T a b) [.int .i64 (spanOf T a b).f0, .int .i64 (spanOf T a b).f1] (fun k => f2 k = a ∧ k ≠ g6) (fun _ => False) (by rfl) (by rfl) (k32_mkM _ _ _ _) (fun _ hk => hk.elim) (fun k hk => HFR.out k (Nat.le_trans HS7.out hk)) HR7.out HM7.out.below HM7.out.below.size (by rw [HLX.out]; omega) ?_
          intro v1 w8 hR8 hB8 hg8 hat8
          obtain ⟨A1, n1, he1⟩ := Kd.R_slice hR8
          subst he1
          rw [List.length_append, List.length_singleton] at hR8
          have HM8 := Aside0.mk (HM7.out.grownR HR7.out hg8 (by simp))
          have HR8 := Aside0.mk hR8
          have HG8 := Aside0.mk hg8
          have c8 : w8.cell? ⟨g6, a, none⟩ = some v := (HM8.out.cell a).trans HVA.out
          have f8 : w8.frozen? ⟨g6, a, none⟩ = false := HM8.out.frozen _
          clear hR8 hB8 hg8 hat8
          refine hK.out _ _ (⟨c8, rangeAt_blk HM8.out.second⟩) (fun hHeld => ?_)
          clear hK K
          try simp only [Act.put, List.setIfInBounds_toArray, List.set_cons_zero, List.set_cons_succ]
          refine H.wpAnyT_takeY (i := 12) (v := .pointer (some ⟨g6, a, none⟩)) rfl (by decide) (by kernel_rfl) (by kernel_rfl) (by kernel_rfl) (fun _ _ _ h => h) (Or.inl ⟨by rfl, ?_⟩) hHeld ?_
          · (intro w_ hSw; go_simp; try rfl)
          try simp only [Act.put, List.setIfInBounds_toArray, List.set_cons_zero, List.set_cons_succ]
          refine H.wpAnyT_ready (rs := [13]) (by kernel_rfl) (by simp) ?_
          refine H.AllT.last (i := 13) rfl (by decide) (fun K hK => ?_) H.AllT.nil
          go_simp
          refine hK.out _ _ ?_
          clear hK K
          try simp only [Act.put, List.setIfInBounds_toArray, List.set_cons_zero, List.set_cons_succ]
          refine wpAny_done (by kernel_rfl) ?_ _
          refine NoPanic.normal ?_
          (
            go_wp2_with fail
            go_roundg (n - (b + 1))
            case measure => have := HK2.out; omega
            case rel => exact ⟨b + 1, f2, vs2.set a (.slice A1 (XS.length + 1) n1), by go_num, ⟨by omega⟩, ⟨HM8.out.put a _ (by simp)⟩, ⟨by
              have := (HRB7.out.put (by rw [rowsTo_length]; exact ha) HV.out HG8.out HR8.out).far a (.slice A1 (XS.length + 1) n1)
              rwa [← HXS.out, rowsTo_set, HXS.out] at this, fun k hk => HRB.out.2 k (Nat.le_trans HS7.out (Nat.le_trans HG8.out.size (by rw [World.size_setCell] at hk; exact hk)))⟩⟩)
        · have HO2 : Aside0 (RowsAt k32 32 wr w.heap.size g6 (fun k => if k < wr.heap.size then f2 k else a + 1) vs2 (rowsTo n T (a + 1) 0) ∧ ∀ k, wr.heap.size ≤ k → (if k < wr.heap.size then f2 k else a + 1) = a + 1) := ⟨by rw [← rowsTo_next n T a b (by have := HK2.out; omega)]; exact HRB.out.1.owner (fun k hk => if_pos hk), fun k hk => if_neg (by omega)⟩
          go_wp2_with fail
          go_roundg (n - (a + 1))
          case measure => have := HK.out; omega
          case rel => exact ⟨a + 1, _, vs2, by go_num, ⟨by omega⟩, HN, HO2⟩
    · have HWH := HRA.out.1.whole HM.out.head HM.out.geh (by rw [rowsTo_length]; unfold maxLen; omega)
      rw [rowsTo_length, rowsTo_done n T a 0 (by omega)] at HWH
      have HW2 := Aside0.mk HWH
      clear HWH
      go_wp2_with fail
      go_ret2
      exact ⟨.slice (some ⟨g6, 0, none⟩) n n, by rw [HF2.out.2]; rfl, by rw [HF2.out.1]; exact HW2.out, HM.out.below⟩
end Go.Proofs.Ytbcfphoheijmdaa.Print
end
