/- Part 4 of the texts of a claim about Ytbcfphoheijmdaa, put together by a program of this work: what the Go functions do, and that their calls do so. -/
import Derived.Test.YtbcfphoheijmdaaMT3
import Derived.Test.YtbcfphoheijmdaaMT2
import Derived.Deep.RegionHeld
section
/- What the Go function thermionkit_Dice_next does, as a Lean function, and that its call does so. Printed by a program of this work out of the translation. -/
namespace Go.Proofs.Ytbcfphoheijmdaa.Print
open Go.RowKit Go.Proofs.YtbcfphoheijmdaaW.PrintWords Go.Proofs.YtbcfphoheijmdaaW.PrintLast Go.Proofs.YtbcfphoheijmdaaW.PrintMore
attribute [local go_sem] max2_int min2_int max_two min_two max_three min_three max_four min_four
set_option linter.unusedVariables false
set_option linter.unusedSimpArgs false

/-- A state of type 118 at block g of W; what its slices lead to came in by w0. -/
def IsS118 (w0 W : World) (g : Nat) (f0 : Int) : Prop := W.heap[g]? = some (.cells #[.int .u64 f0] 118 (0, 0)) ∧ w0.heap.size ≤ g
theorem IsS118.grown {w0 W : World} {g : Nat} {f0 : Int} {W1 : World} {row : Option Nat} (h : IsS118 w0 W g f0) (hw : W.grownBy W1 row) (hne : some g ≠ row) : IsS118 w0 W1 g f0 := by
 obtain ⟨hb, hg⟩ := h
 exact ⟨blk_grown hb hw hne, hg⟩
theorem IsS118.kept {w0 W : World} {g : Nat} {f0 : Int} {W1 : World} {S : Nat → Prop} (h : IsS118 w0 W g f0) (hk : Kept W W1 S) (hne : ¬ S g) : IsS118 w0 W1 g f0 := by
 obtain ⟨hb, hg⟩ := h
 exact ⟨blk_kept hb hk hne, hg⟩
theorem IsS118.below {w0 W : World} {g : Nat} {f0 : Int} {W1 : World} (h : IsS118 w0 W g f0) (hw : Below W.heap.size W W1) : IsS118 w0 W1 g f0 := h.grown (grown_of_below hw none) (by simp)
theorem IsS118.alloc {w0 W : World} {g : Nat} {f0 : Int} (h : IsS118 w0 W g f0) (o : Obj) : IsS118 w0 (W.alloc o) g f0 := h.below (below_alloc (Below.refl _ _) o)
theorem IsS118.drewN {w0 W : World} {g : Nat} {f0 : Int} (h : IsS118 w0 W g f0) (m : Nat) : IsS118 w0 (W.drewN m) g f0 := h
theorem IsS118.drew {w0 W : World} {g : Nat} {f0 : Int} (h : IsS118 w0 W g f0) : IsS118 w0 W.drew g f0 := h
theorem IsS118.at_ {w0 W : World} {g : Nat} {f0 : Int} {w' : World} {m : Nat} (hq : W.drewN m = w') (h : IsS118 w0 W g f0) : IsS118 w0 w' g f0 := by subst hq; exact IsS118.drewN h m
theorem IsS118.apart {w0 W : World} {g : Nat} {f0 : Int} {α : Type} {d : Kd α} {e : Nat} {base : Nat} {ok : Nat → Prop} {v : Value} {xs : List α} (h : IsS118 w0 W g f0) (ho : d.R e W base ok v xs) (ht : ∀ q, q ∈ e :: d.E → q ≠ 118) : d.R e W base (fun k => ok k ∧ k ≠ g) v xs := by
 obtain ⟨hb, hg⟩ := h
 exact Kd.R_types ho hb ht
theorem IsS118.own_ne {w0 W : World} {g : Nat} {f0 : Int} {α : Type} {d : Kd α} {e : Nat} {base : Nat} {ok : Nat → Prop} {v : Value} {xs : List α} (h : IsS118 w0 W g f0) (ho : d.R e W base ok v xs) (ht : e ≠ 118) : some g ≠ v.ownBlock := by
 obtain ⟨hb, hg⟩ := h
 exact Kd.R_ne ho hb ht
theorem IsS118.lt {w0 W : World} {g : Nat} {f0 : Int} (h : IsS118 w0 W g f0) : g < W.heap.size := by
 obtain ⟨hb, hg⟩ := h
 exact blk_lt hb
theorem IsS118.ge {w0 W : World} {g : Nat} {f0 : Int} (h : IsS118 w0 W g f0) : w0.heap.size ≤ g := by
 obtain ⟨hb, hg⟩ := h
 exact hg
theorem IsS118.far {w0 W : World} {g : Nat} {f0 : Int} {p : Addr} (h : IsS118 w0 W g f0) (hne : g ≠ p.block) (u : Value) : IsS118 w0 (W.setCell p u) g f0 := by
 obtain ⟨hb, hg⟩ := h
 exact ⟨blk_far hb hne u, hg⟩
theorem cellS118_0 {W : World} {g : Nat} {f0 : Int} (h : W.heap[g]? = some (.cells #[.int .u64 f0] 118 (0, 0))) : W.cell? ⟨g, 0, none⟩ = some (.int .u64 f0) := (blk_cell h 0).trans rfl
theorem IsS118.set_0 {w0 W : World} {g : Nat} {f0 : Int} (h : IsS118 w0 W g f0) (x : Int) : IsS118 w0 (W.setCell ⟨g, 0, none⟩ (.int .u64 x)) g x := by
 obtain ⟨hb, hg⟩ := h
 exact ⟨by simpa using blk_set hb 0 (.int .u64 x), hg⟩
theorem IsS118.new (w0 W : World) (f0 : Int) (hB : Below w0.heap.size w0 W) : IsS118 w0 (W.alloc (.cells #[.int .u64 f0] 118)) W.heap.size f0 := ⟨by simpa using heap_alloc_new W _, hB.size⟩

/-! ### thermionkit_Dice_next: function 85 -/
def thermionkit_Dice_next.f (s0_0 : Int) : Option (Int × Int) := some (Go.bits .xor .u64 (IntKind.u64.wrap ((Go.bits .xor .u64 (IntKind.u64.wrap ((Go.bits .xor .u64 (IntKind.u64.wrap (s0_0 + 11400714819323198485)) ((IntKind.u64.wrap (s0_0 + 11400714819323198485)) / 1073741824)) * 13787848793156543929)) ((IntKind.u64.wrap ((Go.bits .xor .u64 (IntKind.u64.wrap (s0_0 + 11400714819323198485)) ((IntKind.u64.wrap (s0_0 + 11400714819323198485)) / 1073741824)) * 13787848793156543929)) / 134217728)) * 10723151780598845931)) ((IntKind.u64.wrap ((Go.bits .xor .u64 (IntKind.u64.wrap ((Go.bits .xor .u64 (IntKind.u64.wrap (s0_0 + 11400714819323198485)) ((IntKind.u64.wrap (s0_0 + 11400714819323198485)) / 1073741824)) * 13787848793156543929)) ((IntKind.u64.wrap ((Go.bits .xor .u64 (IntKind.u64.wrap (s0_0 + 11400714819323198485)) ((IntKind.u64.wrap (s0_0 + 11400714819323198485)) / 1073741824)) * 13787848793156543929)) / 134217728)) * 10723151780598845931)) / 2147483648), IntKind.u64.wrap (s0_0 + 11400714819323198485))
set_option maxHeartbeats 8000000 in
set_option maxRecDepth 100000 in
theorem thermionkit_Dice_next.calls (g : Nat) (s0_0 : Int) (r1 : Int) (r2 : Int) (w0 w : World) (hI : IsS118 w0 w g s0_0) (hB : Below w0.heap.size w0 w) (h : thermionkit_Dice_next.f s0_0 = some (r1, r2)) :
  Calls Try.prog 85 #[.pointer (some ⟨g, 0, none⟩)] w fun e w' => e = .returned (.int .u64 r1) ∧ IsS118 w0 w' g r2 ∧ Below w0.heap.size w0 w' ∧ KeepBut w w' g none := by
 have HI0 := Aside0.mk hI
 have HK := Aside0.mk (KeepBut.refl w g none)
 have HL := Aside0.mk hB.size
 clear hI
 have HW0 := Aside0.mk hB.size
 have HB := Aside0.mk hB
 clear hB
 have H : (some (Go.bits .xor .u64 (IntKind.u64.wrap ((Go.bits .xor .u64 (IntKind.u64.wrap ((Go.bits .xor .u64 (IntKind.u64.wrap (s0_0 + 11400714819323198485)) ((IntKind.u64.wrap (s0_0 + 11400714819323198485)) / 1073741824)) * 13787848793156543929)) ((IntKind.u64.wrap ((Go.bits .xor .u64 (IntKind.u64.wrap (s0_0 + 11400714819323198485)) ((IntKind.u64.wrap (s0_0 + 11400714819323198485)) / 1073741824)) * 13787848793156543929)) / 134217728)) * 10723151780598845931)) ((IntKind.u64.wrap ((Go.bits .xor .u64 (IntKind.u64.wrap ((Go.bits .xor .u64 (IntKind.u64.wrap (s0_0 + 11400714819323198485)) ((IntKind.u64.wrap (s0_0 + 11400714819323198485)) / 1073741824)) * 13787848793156543929)) ((IntKind.u64.wrap ((Go.bits .xor .u64 (IntKind.u64.wrap (s0_0 + 11400714819323198485)) ((IntKind.u64.wrap (s0_0 + 11400714819323198485)) / 1073741824)) * 13787848793156543929)) / 134217728)) * 10723151780598845931)) / 2147483648), IntKind.u64.wrap (s0_0 + 11400714819323198485))) = some (r1, r2) := h
 clear h
 simp only [Option.some.injEq, Prod.mk.injEq] at H
 obtain ⟨rfl, rfl⟩ := H
 obtain ⟨HGz2, hgz2⟩ := HI0.out
 have hcz2_0 := cellS118_0 HGz2
 have hfz2_0 := blk_frozen HGz2 0
 clear HGz2 hgz2
 go_enter Try.func85, Try.ntmps85
 go_wp2
 go_ret
 exact ⟨by first | rfl | (simp [errW_none, errW_some] <;> rfl) | (simp [*, errW_none, errW_some] <;> rfl), by repeat (first | (with_reducible first | exact HI0.out | apply IsS118.alloc | apply IsS118.drewN | apply IsS118.drew | apply IsS118.set_0) | exact HI0.out), by repeat (first | (with_reducible first | exact HB.out | apply below_alloc | apply pw_below_drewN | apply below_drew1 | refine below_set ?_ (IsS118.ge HI0.out)) | exact HB.out), by repeat (first | (with_reducible first | exact HK.out | apply KeepBut.set_ | apply keep_drewN | apply keep_drew | apply keep_alloc) | exact HK.out)⟩

end Go.Proofs.Ytbcfphoheijmdaa.Print
end

section
/- NewDice: what the Go function makes of a list of numbers, as a Lean function, and that its call does so. -/
namespace Go.Proofs.Ytbcfphoheijmdaa.Print
open Go.RowKit Go.Proofs.YtbcfphoheijmdaaW.PrintWords Go.Proofs.YtbcfphoheijmdaaW.PrintLast Go.Proofs.YtbcfphoheijmdaaW.PrintMore Go.Proofs.Ytbcfphoheijmdaa.H
set_option linter.unusedVariables false
set_option linter.unusedSimpArgs false

theorem at_nat {w : World} {k : IntKind} {A : Option Addr} {n : Nat} {xs : List Int} (h : (Kd.int k).C w A n xs) (i : Nat) (h1 : i < n) : ∃ ad, A = some ad ∧ w.cell? (ad.add i) = some (.int k (xs.getD i 0)) := by
  obtain ⟨ad, e, hc⟩ := Kd.at_int h (i : Int) (by omega) (by omega)
  refine ⟨ad, e, ?_⟩
  simpa [rd] using hc
/-- The dice's word behind a step. -/
def nextWord (s : Int) : Int := ((thermionkit_Dice_next.f s).getD (0, 0)).2
theorem next_eq (s : Int) : ∃ r, thermionkit_Dice_next.f s = some (r, nextWord s) := ⟨_, rfl⟩
/-- The dice's word behind a list of numbers. -/
def wordTo (s : Int) : List Int → Int
  | [] => s
  | x :: xs => wordTo (nextWord (Go.bits .xor .u64 s (IntKind.u64.wrap x))) xs
theorem wordTo_snoc (s : Int) (xs : List Int) (x : Int) : wordTo s (xs ++ [x]) = nextWord (Go.bits .xor .u64 (wordTo s xs) (IntKind.u64.wrap x)) := by
  induction xs generalizing s with
  | nil => rfl
  | cons y ys ih => exact ih _
theorem take_snoc (l : List Int) (k : Nat) (h : k < l.length) : l.take (k + 1) = l.take k ++ [l.getD k 0] := by
  rw [List.take_add_one, List.getD_eq_getElem?_getD]
  simp [h]
def thermionkit_NewDice.f (l0 : List Int) : Option (Int) := some (wordTo ((l0.length : Int) + 1374496523) l0)
theorem Mem.one {w W : World} {g : Nat} {cs : Array Value} {t : TypeId} (hb : W.heap[g]? = some (.cells cs t (0, 0))) (hg : w.heap.size ≤ g) (h : Below w.heap.size w W) : Mem w W [(g, cs, t)] :=
  ⟨h, fun p hp => by rcases List.mem_singleton.1 hp with rfl; exact hb, fun p hp => by rcases List.mem_singleton.1 hp with rfl; exact hg, by simp⟩
set_option maxHeartbeats 800000 in
set_option maxRecDepth 100000 in
theorem thermionkit_NewDice.calls (A0 : Option Addr) (c0 : Nat) (l0 : List Int) (r : Int) (w0 w : World) (hB : Below w0.heap.size w0 w) (hr0 : Kd.C (Kd.int .i64) w0 A0 l0.length l0) (hc0 : l0.length ≤ c0) (h : thermionkit_NewDice.f l0 = some r) :
    Calls Try.prog 19 #[.slice A0 l0.length c0] w fun e w' => ∃ g_ : Nat, e = .returned (.pointer (some ⟨g_, 0, none⟩)) ∧ IsS118 w0 w' g_ r ∧ Below w0.heap.size w0 w' ∧ Below w.heap.size w w' := by
  have HR := Aside0.mk (Kd.C_below hr0 hB)
  have HB0 := Aside0.mk hB
  have HF := Aside0.mk (Option.some.inj h)
  have HM := Aside0.mk (Mem.start w)
  have hlen : l0.length ≤ 9223372036854775807 := by have := (Kd.reads_of_C (enc := Value.int .i64) (d := (0 : Int)) (h1 := fun _ => rfl) hr0).2.1; omega
  clear hr0 h hB
  have hu118 := Try.underlying118
  go_enter Try.func19, Try.ntmps19
  go_wp2_with (first
    | ((with_reducible refine gate_dst (N := 10) rfl ?_); refine ev_box HM.out rfl 118 (.tmp 9) rfl (cs := #[.int .u64 ((l0.length : Int) + 1374496523)]) rfl ?_; intro g1 w1 hm1 hq1; clear hq1; have HM1 := Aside0.mk hm1; clear hm1 HM))
  go_loopg [4] l0.length (fun k v4 w' => ∃ (i : Nat) (S : Int), v4 = .int .i64 i ∧ Aside0 (i + k = l0.length) ∧ Aside0 (S = wordTo ((l0.length : Int) + 1374496523) (l0.take i)) ∧ Aside0 (Mem w w' [(g1, #[.int .u64 S], 118)]))
  case atStart => exact ⟨0, _, rfl, ⟨by omega⟩, ⟨rfl⟩, HM1⟩
  case round =>
    clear HM1
    obtain ⟨i, S, rfl, HK, HS, HM⟩ := hrel
    by_cases hi : i < l0.length
    · obtain ⟨ad, e0, hx⟩ := at_nat (Kd.C_below HR.out HM.out.below) i hi
      cases e0
      generalize hX : l0.getD i 0 = X at hx
      have HX := Aside0.mk hX
      clear hX
      have c1 : wr.cell? ⟨g1, 0, none⟩ = some (.int .u64 S) := by rw [HM.out.cell]; rfl
      have f1 : wr.frozen? ⟨g1, 0, none⟩ = false := HM.out.frozen _
      have i1 : (0 : Int) ≤ (i : Int) := by omega
      have i2 : (i : Int) < (l0.length : Int) := by omega
      go_wp2_with fail
      go_still_tail 13, (by kernel_rfl)
      go_wp2_with fail
      have HM2 := (HM.out.put 0 (.int .u64 (Go.bits .xor .u64 S (IntKind.u64.wrap X))) rfl).drew
      obtain ⟨q, hq⟩ := next_eq (Go.bits .xor .u64 S (IntKind.u64.wrap X))
      refine (thermionkit_Dice_next.calls g1 _ q _ w _ ⟨HM2.head, HM2.geh⟩ HM2.below hq).mono ?_
      rintro e w2 ⟨rfl, ⟨hb2, _⟩, hbl2, _⟩
      have HM3 := Aside0.mk (Mem.one hb2 HM2.geh hbl2)
      clear hb2 hbl2 HM2 hq
      have HS2 : Aside0 (nextWord (Go.bits .xor .u64 S (IntKind.u64.wrap X)) = wordTo ((l0.length : Int) + 1374496523) (l0.take (i + 1))) := ⟨by rw [take_snoc _ _ hi, wordTo_snoc, ← HS.out, HX.out]⟩
      go_wp2_with fail
      go_roundg (l0.length - (i + 1))
      case measure => have := HK.out; omega
      case rel => exact ⟨i + 1, _, by go_num, ⟨by have := HK.out; omega⟩, HS2, HM3⟩
    · go_wp2
      go_ret
      refine ⟨g1, rfl, ⟨?_, Nat.le_trans HB0.out.size HM.out.geh⟩, below_step HB0.out HM.out.below, HM.out.below⟩
      rw [HM.out.head, ← HF.out, HS.out, List.take_of_length_le (by omega)]
end Go.Proofs.Ytbcfphoheijmdaa.Print
end

section
/- What the Go function mount_in does, as a Lean function, and that its call does so. Printed by a program of this work out of the translation. -/
namespace Go.Proofs.Ytbcfphoheijmdaa.Print
open Go.RowKit Go.Proofs.YtbcfphoheijmdaaW.PrintWords Go.Proofs.YtbcfphoheijmdaaW.PrintLast Go.Proofs.YtbcfphoheijmdaaW.PrintMore
attribute [local go_sem] max2_int min2_int max_two min_two max_three min_three max_four min_four
set_option linter.unusedVariables false
set_option linter.unusedSimpArgs false

/-! ### mount_in: function 102 -/
def mount_in.f (a0 : Int) (a1 : Int) (a2 : Int) : Option (Bool) := if a1 ≤ a0 then (some (decide (a0 ≤ a2))) else (some false)
set_option maxHeartbeats 8000000 in
set_option maxRecDepth 100000 in
theorem mount_in.calls (a0 : Int) (a1 : Int) (a2 : Int) (r : Bool) (w : World) (h : mount_in.f a0 a1 a2 = some r) :
  Calls Try.prog 102 #[.int .i64 a0, .int .i64 a1, .int .i64 a2] w fun e w' => e = .returned (.bool r) ∧ Drawn0 w w' := by
 have H : (if a1 ≤ a0 then (some (decide (a0 ≤ a2))) else (some false)) = some r := h
 clear h
 by_cases c4 : a1 ≤ a0
 ·rw [if_pos c4] at H
  have c4b0 : decide (a1 ≤ a0) = true := decide_eq_true c4
  clear c4
  obtain rfl := Option.some.inj H
  go_enter Try.func102, Try.ntmps102
  go_wp2
  go_ret
  exact ⟨by first | rfl | (simp; done) | (simp [*]; done), by repeat (first | exact Drawn0.refl _ | apply Drawn0.step)⟩
 ·rw [if_neg c4] at H
  have c4b0 : decide (a1 ≤ a0) = false := decide_eq_false c4
  clear c4
  obtain rfl := Option.some.inj H
  go_enter Try.func102, Try.ntmps102
  go_wp2
  go_ret
  exact ⟨by first | rfl | (simp; done) | (simp [*]; done), by repeat (first | exact Drawn0.refl _ | apply Drawn0.step)⟩

end Go.Proofs.Ytbcfphoheijmdaa.Print
end

section
/- What the Go function mount_checkLink does, as a Lean function, and that its call does so. Printed by a program of this work out of the translation. -/
namespace Go.Proofs.Ytbcfphoheijmdaa.Print
open Go.RowKit Go.Proofs.YtbcfphoheijmdaaW.PrintWords Go.Proofs.YtbcfphoheijmdaaW.PrintLast Go.Proofs.YtbcfphoheijmdaaW.PrintMore
attribute [local go_sem] max2_int min2_int max_two min_two max_three min_three max_four min_four
set_option linter.unusedVariables false
set_option linter.unusedSimpArgs false

/-! ### mount_checkLink: function 91 -/
def mount_checkLink.j0 : Nat → Bool → Int → Int → Int → Int → Option (Int)
 | 0, _, _, _, _, _ => none
 | k + 1, x5, x108000, x108001, x108002, x108003 => if x5 = true then (some 7) else (if x108000 = x108001 then (some 9) else (if x108002 > x108003 then (some 11) else (if x108002 < (-1000000) then (some 2) else (if x108003 > 1000000 then (some 2) else (some 0)))))
def mount_checkLink.f (k : Nat) (a0 : Int) (a1_0 : Int) (a1_1 : Int) (a1_2 : Int) (a1_3 : Int) : Option (Int) := (mount_in.f a1_0 0 (wrap64 (a0 - 1))).bind fun t108 => (if t108 = true then ((mount_in.f a1_1 0 (wrap64 (a0 - 1))).bind fun t109 => (mount_checkLink.j0 k (!t109) a1_0 a1_1 a1_2 a1_3)) else (mount_checkLink.j0 k true a1_0 a1_1 a1_2 a1_3))
theorem mount_checkLink.mono_l : ∀ k, (∀ y0 y1 y2 y3 y4, LeO (mount_checkLink.j0 k y0 y1 y2 y3 y4) (mount_checkLink.j0 (k + 1) y0 y1 y2 y3 y4))
 | 0 => fun _ _ _ _ _ r h => by simp [mount_checkLink.j0] at h
 | k + 1 => by
  have ih0 := mount_checkLink.mono_l k
  ·intro y0 y1 y2 y3 y4
   unfold mount_checkLink.j0
   repeat' first
   | (with_reducible exact ih0 _ _ _ _ _)
   | (with_reducible exact LeO.refl _)
   | (with_reducible exact LeO.none _)
   | (with_reducible refine LeO.ite ?_ ?_)
   | (with_reducible refine LeO.bind ?_ (fun _ => ?_))
   | exact ih0 _ _ _ _ _
   | exact LeO.none _
   | refine LeO.ite ?_ ?_
   | refine LeO.bind ?_ (fun _ => ?_)
theorem mount_checkLink.mono : ∀ a0 a1 a2 a3 a4 k, LeO (mount_checkLink.f k a0 a1 a2 a3 a4) (mount_checkLink.f (k + 1) a0 a1 a2 a3 a4) := by
 intro a0 a1 a2 a3 a4 k
 have ih0 := mount_checkLink.mono_l k
 unfold mount_checkLink.f
 repeat' first
   | (with_reducible exact ih0 _ _ _ _ _)
   | (with_reducible exact LeO.refl _)
   | (with_reducible exact LeO.none _)
   | (with_reducible refine LeO.ite ?_ ?_)
   | (with_reducible refine LeO.bind ?_ (fun _ => ?_))
   | exact ih0 _ _ _ _ _
   | exact LeO.none _
   | refine LeO.ite ?_ ?_
   | refine LeO.bind ?_ (fun _ => ?_)
set_option maxHeartbeats 8000000 in
set_option maxRecDepth 100000 in
theorem mount_checkLink.calls (k : Nat) (a0 : Int) (a1_0 : Int) (a1_1 : Int) (a1_2 : Int) (a1_3 : Int) (r : Int) (w : World) (h : mount_checkLink.f k a0 a1_0 a1_1 a1_2 a1_3 = some r) :
  Calls Try.prog 91 #[.int .i64 a0, .agg #[.int .i64 a1_0, .int .i64 a1_1, .int .i64 a1_2, .int .i64 a1_3]] w fun e w' => e = .returned (.int .i64 r) ∧ Below w.heap.size w w' := by
 have hu35 := Try.underlying35
 have HB := Aside0.mk (Below.refl w.heap.size w)
 have H : ((mount_in.f a1_0 0 (wrap64 (a0 - 1))).bind fun t108 => (if t108 = true then ((mount_in.f a1_1 0 (wrap64 (a0 - 1))).bind fun t109 => (mount_checkLink.j0 k (!t109) a1_0 a1_1 a1_2 a1_3)) else (mount_checkLink.j0 k true a1_0 a1_1 a1_2 a1_3))) = some r := h
 clear h
 have HC3 := Aside0.mk H
 clear H
 go_enter Try.func91, Try.ntmps91
 go_upto_region 1 with (first | ((with_reducible refine gate_dst (N := 3) rfl ?_); refine box_event ?hg (N := 3) ?hd (cs := #[.int .i64 a1_0, .int .i64 a1_1, .int .i64 a1_2, .int .i64 a1_3]) (t := 35) ?hr ?_; (case hd => rfl); (case hg => rfl); (case hr => first | (go_simp; done) | (go_simp; rfl)); intro gb107 hg w4 hbox hb; have n0_ := Aside0.mk (below_step (by repeat (first | (with_reducible first | exact HB.out | apply below_alloc | apply pw_below_drewN | apply below_drew1) | exact HB.out)) hb); have n1_ := Aside0.mk (hbox); have n2_ := Aside0.mk ((by rw [hg]; exact (below_size (by repeat (first | (with_reducible first | exact HB.out | apply below_alloc | apply pw_below_drewN | apply below_drew1) | exact HB.out))) : w.heap.size ≤ gb107)); have n3_ := Aside0.mk ((by rw [hg]; exact (below_size (by repeat (first | (with_reducible first | exact HB.out | apply below_alloc | apply pw_below_drewN | apply below_drew1) | exact HB.out))) : w.heap.size ≤ gb107)); clear HB; have HB := n0_; have BK107 := n1_; have GW107 := n2_; have GE107 := n3_; clear n0_ n1_ n2_ n3_; clear hb hbox hg))
 (try simp only [Act.put, List.setIfInBounds_toArray, List.set_cons_zero, List.set_cons_succ])
 go_cut [5] (fun v5 wc => ∃ (kq : Nat) (x5_2 : Bool), v5 = .bool x5_2 ∧ Aside0 (mount_checkLink.j0 kq x5_2 a1_0 a1_1 a1_2 a1_3 = some r) ∧ Aside0 (kq ≤ k) ∧ Aside0 (wc.heap[gb107]? = some (.cells #[.int .i64 a1_0, .int .i64 a1_1, .int .i64 a1_2, .int .i64 a1_3] 35 (0, 0))) ∧ Aside0 (Below w.heap.size w wc))
 case first =>
  have H := HC3.out
  clear HC3
  replace H := Option.bind_eq_some_iff.mp H
  obtain ⟨t108, A50, H⟩ := H
  replace H : (if t108 = true then ((mount_in.f a1_1 0 (wrap64 (a0 - 1))).bind fun t109 => (mount_checkLink.j0 k (!t109) a1_0 a1_1 a1_2 a1_3)) else (mount_checkLink.j0 k true a1_0 a1_1 a1_2 a1_3)) = some r := H
  have A5 := Aside0.mk A50
  clear A50
  by_cases c6 : t108 = true
  ·subst c6
   have H1 : ((mount_in.f a1_1 0 (wrap64 (a0 - 1))).bind fun t109 => (mount_checkLink.j0 k (!t109) a1_0 a1_1 a1_2 a1_3)) = some r := by rw [if_pos rfl] at H; exact H
   clear H
   have H := H1
   clear H1
   replace H := Option.bind_eq_some_iff.mp H
   obtain ⟨t109, A70, H⟩ := H
   replace H : (mount_checkLink.j0 k (!t109) a1_0 a1_1 a1_2 a1_3) = some r := H
   have A7 := Aside0.mk A70
   clear A70
   have H' := Aside0.mk H
   clear H
   have hcz8_0 : w4.cell? ⟨gb107, 0, none⟩ = some (.int .i64 a1_0) := (blk_cell BK107.out 0).trans rfl
   have hcz8_1 : w4.cell? ⟨gb107, 1, none⟩ = some (.int .i64 a1_1) := (blk_cell BK107.out 1).trans rfl
   have hcz8_2 : w4.cell? ⟨gb107, 2, none⟩ = some (.int .i64 a1_2) := (blk_cell BK107.out 2).trans rfl
   have hcz8_3 : w4.cell? ⟨gb107, 3, none⟩ = some (.int .i64 a1_3) := (blk_cell BK107.out 3).trans rfl
   have hfz8_0 := blk_frozen BK107.out 0
   have hfz8_1 := blk_frozen BK107.out 1
   have hfz8_2 := blk_frozen BK107.out 2
   have hfz8_3 := blk_frozen BK107.out 3
   go_wp2_with (first | ((with_reducible refine gate_callee (f := 102) rfl ?_); refine goesL_ (some 10) rfl rfl Try.func102 (by kernel_rfl) rfl #[.int .i64 a1_0, .int .i64 0, .int .i64 (wrap64 (a0 - 1))] rfl (by (try simp only [List.map_toArray, List.map_cons, List.map_nil]); first | done | rfl | (simp only [List.length_drop, List.length_take]; rfl)) ?_; (with_reducible refine (mount_in.calls a1_0 0 (wrap64 (a0 - 1)) true _ A5.out).mono ?_); rintro e w' ⟨rfl, ⟨nd, rfl⟩⟩; refine ⟨_, rfl, ?_⟩) | (go_at_call 102; (with_reducible refine (mount_in.calls a1_1 0 (wrap64 (a0 - 1)) t109 _ A7.out).mono ?_); rintro e w' ⟨rfl, ⟨nd, rfl⟩⟩))
   go_meet
   case rel => exact ⟨_, (!t109), (by first | rfl | (simp; done) | (simp [*]; done)), H', ⟨by first | omega | exact Nat.le_refl _⟩, ⟨by (with_reducible repeat (first | refine blk_drewN ?_ _ | refine blk_drew ?_ | refine blk_alloc ?_ _)); exact BK107.out⟩, ⟨by repeat (first | (with_reducible first | exact HB.out | apply below_alloc | apply pw_below_drewN | apply below_drew1 | refine below_set ?_ GE107.out) | exact HB.out)⟩⟩
  ·replace c6 := Bool.eq_false_iff.mpr c6
   subst c6
   have H1 : (mount_checkLink.j0 k true a1_0 a1_1 a1_2 a1_3) = some r := by rw [if_neg (show ¬ (false = true) by decide)] at H; exact H
   clear H
   have H := H1
   clear H1
   have H' := Aside0.mk H
   clear H
   have hcz9_0 : w4.cell? ⟨gb107, 0, none⟩ = some (.int .i64 a1_0) := (blk_cell BK107.out 0).trans rfl
   have hcz9_1 : w4.cell? ⟨gb107, 1, none⟩ = some (.int .i64 a1_1) := (blk_cell BK107.out 1).trans rfl
   have hcz9_2 : w4.cell? ⟨gb107, 2, none⟩ = some (.int .i64 a1_2) := (blk_cell BK107.out 2).trans rfl
   have hcz9_3 : w4.cell? ⟨gb107, 3, none⟩ = some (.int .i64 a1_3) := (blk_cell BK107.out 3).trans rfl
   have hfz9_0 := blk_frozen BK107.out 0
   have hfz9_1 := blk_frozen BK107.out 1
   have hfz9_2 := blk_frozen BK107.out 2
   have hfz9_3 := blk_frozen BK107.out 3
   go_wp2_with (first | ((with_reducible refine gate_callee (f := 102) rfl ?_); refine goesL_ (some 10) rfl rfl Try.func102 (by kernel_rfl) rfl #[.int .i64 a1_0, .int .i64 0, .int .i64 (wrap64 (a0 - 1))] rfl (by (try simp only [List.map_toArray, List.map_cons, List.map_nil]); first | done | rfl | (simp only [List.length_drop, List.length_take]; rfl)) ?_; (with_reducible refine (mount_in.calls a1_0 0 (wrap64 (a0 - 1)) false _ A5.out).mono ?_); rintro e w' ⟨rfl, ⟨nd, rfl⟩⟩; refine ⟨_, rfl, ?_⟩))
   go_meet
   case rel => exact ⟨_, (true), (by first | rfl | (simp; done) | (simp [*]; done)), H', ⟨by first | omega | exact Nat.le_refl _⟩, ⟨by (with_reducible repeat (first | refine blk_drewN ?_ _ | refine blk_drew ?_ | refine blk_alloc ?_ _)); exact BK107.out⟩, ⟨by repeat (first | (with_reducible first | exact HB.out | apply below_alloc | apply pw_below_drewN | apply below_drew1 | refine below_set ?_ GE107.out) | exact HB.out)⟩⟩
 case rest =>
  clear HC3
  try clear c1
  try clear p2
  try clear c6
  try clear p6
  try clear c9
  try clear hcz8_0
  try clear hcz8_1
  try clear hcz8_2
  try clear hcz8_3
  try clear hcz9_0
  try clear hcz9_1
  try clear hcz9_2
  try clear hcz9_3
  try clear hfz8_0
  try clear hfz8_1
  try clear hfz8_2
  try clear hfz8_3
  try clear hfz9_0
  try clear hfz9_1
  try clear hfz9_2
  try clear hfz9_3
  obtain ⟨kq, x5_2, rfl, HA, HJ2, BK107, HB⟩ := hcut
  cases kq with
  | zero => exact absurd HA.out (by simp [mount_checkLink.j0])
  | succ kj2 =>
   have H := HA.out
   clear HA
   simp only [mount_checkLink.j0] at H
   by_cases c10 : x5_2 = true
   ·subst c10
    have H1 : (some 7) = some r := by rw [if_pos rfl] at H; exact H
    clear H
    have H := H1
    clear H1
    obtain rfl := Option.some.inj H
    go_wp2
    go_ret
    exact ⟨by first | rfl | (simp [errW_none, errW_some] <;> rfl) | (simp [*, errW_none, errW_some] <;> rfl), by repeat (first | (with_reducible first | exact HB.out | apply below_alloc | apply pw_below_drewN | apply below_drew1 | refine below_set ?_ GE107.out) | exact HB.out)⟩
   ·replace c10 := Bool.eq_false_iff.mpr c10
    subst c10
    have H1 : (if a1_0 = a1_1 then (some 9) else (if a1_2 > a1_3 then (some 11) else (if a1_2 < (-1000000) then (some 2) else (if a1_3 > 1000000 then (some 2) else (some 0))))) = some r := by rw [if_neg (show ¬ (false = true) by decide)] at H; exact H
    clear H
    have H := H1
    clear H1
    by_cases c11 : a1_0 = a1_1
    ·rw [if_pos c11] at H
     have c11b0 : (a1_0 == a1_1) = true := beq_iff_eq.mpr c11
     have c11b1 : (a1_0 != a1_1) = false := bne_eq_false_iff_eq.mpr c11
     clear c11
     obtain rfl := Option.some.inj H
     have hcz12_0 : wc.cell? ⟨gb107, 0, none⟩ = some (.int .i64 a1_0) := (blk_cell BK107.out 0).trans rfl
     have hcz12_1 : wc.cell? ⟨gb107, 1, none⟩ = some (.int .i64 a1_1) := (blk_cell BK107.out 1).trans rfl
     have hcz12_2 : wc.cell? ⟨gb107, 2, none⟩ = some (.int .i64 a1_2) := (blk_cell BK107.out 2).trans rfl
     have hcz12_3 : wc.cell? ⟨gb107, 3, none⟩ = some (.int .i64 a1_3) := (blk_cell BK107.out 3).trans rfl
     have hfz12_0 := blk_frozen BK107.out 0
     have hfz12_1 := blk_frozen BK107.out 1
     have hfz12_2 := blk_frozen BK107.out 2
     have hfz12_3 := blk_frozen BK107.out 3
     go_wp2
     go_ret
     exact ⟨by first | rfl | (simp [errW_none, errW_some] <;> rfl) | (simp [*, errW_none, errW_some] <;> rfl), by repeat (first | (with_reducible first | exact HB.out | apply below_alloc | apply pw_below_drewN | apply below_drew1 | refine below_set ?_ GE107.out) | exact HB.out)⟩
    ·rw [if_neg c11] at H
     have c11b0 : (a1_0 == a1_1) = false := beq_eq_false_iff_ne.mpr c11
     have c11b1 : (a1_0 != a1_1) = true := bne_iff_ne.mpr c11
     by_cases c13 : a1_2 > a1_3
     ·rw [if_pos c13] at H
      have c13b0 : decide (a1_3 < a1_2) = true := decide_eq_true c13
      clear c13
      obtain rfl := Option.some.inj H
      have hcz14_0 : wc.cell? ⟨gb107, 0, none⟩ = some (.int .i64 a1_0) := (blk_cell BK107.out 0).trans rfl
      have hcz14_1 : wc.cell? ⟨gb107, 1, none⟩ = some (.int .i64 a1_1) := (blk_cell BK107.out 1).trans rfl
      have hcz14_2 : wc.cell? ⟨gb107, 2, none⟩ = some (.int .i64 a1_2) := (blk_cell BK107.out 2).trans rfl
      have hcz14_3 : wc.cell? ⟨gb107, 3, none⟩ = some (.int .i64 a1_3) := (blk_cell BK107.out 3).trans rfl
      have hfz14_0 := blk_frozen BK107.out 0
      have hfz14_1 := blk_frozen BK107.out 1
      have hfz14_2 := blk_frozen BK107.out 2
      have hfz14_3 := blk_frozen BK107.out 3
      go_wp2
      go_ret
      exact ⟨by first | rfl | (simp [errW_none, errW_some] <;> rfl) | (simp [*, errW_none, errW_some] <;> rfl), by repeat (first | (with_reducible first | exact HB.out | apply below_alloc | apply pw_below_drewN | apply below_drew1 | refine below_set ?_ GE107.out) | exact HB.out)⟩
     ·rw [if_neg c13] at H
      have c13b0 : decide (a1_3 < a1_2) = false := decide_eq_false c13
      clear c13
      by_cases c15 : a1_2 < (-1000000)
      ·rw [if_pos c15] at H
       have c15b0 : decide (a1_2 < (-1000000)) = true := decide_eq_true c15
       clear c15
       obtain rfl := Option.some.inj H
       have hcz16_0 : wc.cell? ⟨gb107, 0, none⟩ = some (.int .i64 a1_0) := (blk_cell BK107.out 0).trans rfl
       have hcz16_1 : wc.cell? ⟨gb107, 1, none⟩ = some (.int .i64 a1_1) := (blk_cell BK107.out 1).trans rfl
       have hcz16_2 : wc.cell? ⟨gb107, 2, none⟩ = some (.int .i64 a1_2) := (blk_cell BK107.out 2).trans rfl
       have hcz16_3 : wc.cell? ⟨gb107, 3, none⟩ = some (.int .i64 a1_3) := (blk_cell BK107.out 3).trans rfl
       have hfz16_0 := blk_frozen BK107.out 0
       have hfz16_1 := blk_frozen BK107.out 1
       have hfz16_2 := blk_frozen BK107.out 2
       have hfz16_3 := blk_frozen BK107.out 3
       go_wp2
       go_ret
       exact ⟨by first | rfl | (simp [errW_none, errW_some] <;> rfl) | (simp [*, errW_none, errW_some] <;> rfl), by repeat (first | (with_reducible first | exact HB.out | apply below_alloc | apply pw_below_drewN | apply below_drew1 | refine below_set ?_ GE107.out) | exact HB.out)⟩
      ·rw [if_neg c15] at H
       have c15b0 : decide (a1_2 < (-1000000)) = false := decide_eq_false c15
       clear c15
       by_cases c17 : a1_3 > 1000000
       ·rw [if_pos c17] at H
        have c17b0 : decide (1000000 < a1_3) = true := decide_eq_true c17
        clear c17
        obtain rfl := Option.some.inj H
        have hcz18_0 : wc.cell? ⟨gb107, 0, none⟩ = some (.int .i64 a1_0) := (blk_cell BK107.out 0).trans rfl
        have hcz18_1 : wc.cell? ⟨gb107, 1, none⟩ = some (.int .i64 a1_1) := (blk_cell BK107.out 1).trans rfl
        have hcz18_2 : wc.cell? ⟨gb107, 2, none⟩ = some (.int .i64 a1_2) := (blk_cell BK107.out 2).trans rfl
        have hcz18_3 : wc.cell? ⟨gb107, 3, none⟩ = some (.int .i64 a1_3) := (blk_cell BK107.out 3).trans rfl
        have hfz18_0 := blk_frozen BK107.out 0
        have hfz18_1 := blk_frozen BK107.out 1
        have hfz18_2 := blk_frozen BK107.out 2
        have hfz18_3 := blk_frozen BK107.out 3
        go_wp2
        go_ret
        exact ⟨by first | rfl | (simp [errW_none, errW_some] <;> rfl) | (simp [*, errW_none, errW_some] <;> rfl), by repeat (first | (with_reducible first | exact HB.out | apply below_alloc | apply pw_below_drewN | apply below_drew1 | refine below_set ?_ GE107.out) | exact HB.out)⟩
       ·rw [if_neg c17] at H
        have c17b0 : decide (1000000 < a1_3) = false := decide_eq_false c17
        clear c17
        obtain rfl := Option.some.inj H
        have hcz19_0 : wc.cell? ⟨gb107, 0, none⟩ = some (.int .i64 a1_0) := (blk_cell BK107.out 0).trans rfl
        have hcz19_1 : wc.cell? ⟨gb107, 1, none⟩ = some (.int .i64 a1_1) := (blk_cell BK107.out 1).trans rfl
        have hcz19_2 : wc.cell? ⟨gb107, 2, none⟩ = some (.int .i64 a1_2) := (blk_cell BK107.out 2).trans rfl
        have hcz19_3 : wc.cell? ⟨gb107, 3, none⟩ = some (.int .i64 a1_3) := (blk_cell BK107.out 3).trans rfl
        have hfz19_0 := blk_frozen BK107.out 0
        have hfz19_1 := blk_frozen BK107.out 1
        have hfz19_2 := blk_frozen BK107.out 2
        have hfz19_3 := blk_frozen BK107.out 3
        go_wp2
        go_ret
        exact ⟨by first | rfl | (simp [errW_none, errW_some] <;> rfl) | (simp [*, errW_none, errW_some] <;> rfl), by repeat (first | (with_reducible first | exact HB.out | apply below_alloc | apply pw_below_drewN | apply below_drew1 | refine below_set ?_ GE107.out) | exact HB.out)⟩

end Go.Proofs.Ytbcfphoheijmdaa.Print
end

section
/- Which error a chain has, as a Lean function; small closed facts. -/
namespace Go.Proofs.Ytbcfphoheijmdaa.Print
open Go.RowKit Go.Proofs.YtbcfphoheijmdaaW.PrintWords Go.Proofs.YtbcfphoheijmdaaW.PrintLast Go.Proofs.YtbcfphoheijmdaaW.PrintMore Go.Proofs.Ytbcfphoheijmdaa.H
attribute [local go_sem] max2_int min2_int max_two min_two max_three min_three max_four min_four
set_option linter.unusedVariables false
set_option linter.unusedSimpArgs false

/-- The error of a link of a chain with P points. -/
def linkErr (P : Int) (l : S35) : Int :=
  if l.f0 < 0 ∨ P - 1 < l.f0 ∨ l.f1 < 0 ∨ P - 1 < l.f1 then 7 else if l.f0 = l.f1 then 9 else if l.f2.f1 < l.f2.f0 then 11 else if l.f2.f0 < -1000000 ∨ 1000000 < l.f2.f1 then 2 else 0
theorem checkLink_eq (P : Int) (l : S35) (h1 : -9223372036854775807 ≤ P) (h2 : P ≤ 9223372036854775807) : mount_checkLink.f 1 P l.f0 l.f1 l.f2.f0 l.f2.f1 = some (linkErr P l) := by
  have hw : wrap64 (P - 1) = P - 1 := by unfold wrap64; omega
  simp only [mount_checkLink.f, mount_checkLink.j0, mount_in.f, hw, linkErr]
  repeat' split
  all_goals first | rfl | (exfalso; simp_all; omega) | (simp_all; done) | (simp_all; omega)
/-- The roots behind one link more. -/
def rootVal (a b r : Int) : Int := if r = a ∨ r = b then mn a b else r
def rootStep (R : List Int) (l : S35) : List Int := R.map (rootVal (R.getD l.f0.toNat 0) (R.getD l.f1.toNat 0))
def rootsOf (L : List S35) : List Int := L.foldl rootStep ((List.range 24).map (fun (i : Nat) => (i : Int)))
def chainErr (P : Int) (L : List S35) : Int :=
  if P < 1 ∨ 24 < P then 2 else if 80 < L.length then 8 else
    match L.find? (fun l => linkErr P l != 0) with
    | some l => linkErr P l
    | none => if ((rootsOf L).take P.toNat).all (· == 0) then 0 else 13
def mount_CheckChain.f (a0_0 : Int) (l0_1 : List (S35)) : Option (Int) := some (chainErr a0_0 l0_1)
theorem size35 : (Try.prog.info? 35).map (·.size) = some 4 := by kernel_rfl
theorem info123 : (Try.prog.info? 123).map (fun i => (i.zero, i.size, i.bytes)) = some (some (.agg (Array.replicate 24 (.int .i64 0))), 24, 192) := by kernel_rfl
theorem size123 : (Try.prog.info? 123).map (·.size) = some 24 := by kernel_rfl
theorem size3 : (Try.prog.info? 3).map (·.size) = some 1 := by kernel_rfl

end Go.Proofs.Ytbcfphoheijmdaa.Print
end

section
/- CheckChain: the Go function's call gives the error of the chain. -/
namespace Go.Proofs.Ytbcfphoheijmdaa.Print
open Go.RowKit Go.Proofs.YtbcfphoheijmdaaW.PrintWords Go.Proofs.YtbcfphoheijmdaaW.PrintLast Go.Proofs.YtbcfphoheijmdaaW.PrintMore Go.Proofs.Ytbcfphoheijmdaa.H
attribute [local go_sem] max2_int min2_int max_two min_two max_three min_three max_four min_four
set_option linter.unusedVariables false
set_option linter.unusedSimpArgs false

/-- A list of n numbers, told place by place. -/
def Is (n : Nat) (U : List Int) (f : Nat → Int) : Prop := U.length = n ∧ ∀ j, j < n → U.getD j 0 = f j
theorem Is.list {n : Nat} {U : List Int} {f : Nat → Int} (h : Is n U f) : U = (List.range n).map f := by
  apply List.ext_getElem
  · simp [h.1]
  · intro i h1 h2
    have := h.2 i (by rw [← h.1]; exact h1)
    simp [List.getD_eq_getElem?_getD, h1] at this
    simp [this]
theorem Is.congr {n : Nat} {U : List Int} {f g : Nat → Int} (h : Is n U f) (e : ∀ j, j < n → f j = g j) : Is n U g := ⟨h.1, fun j hj => (h.2 j hj).trans (e j hj)⟩
theorem Is.set {n : Nat} {U : List Int} {f g : Nat → Int} {i : Nat} {v : Int} (h : Is n U f) (hi : i < n) (e1 : g i = v) (e : ∀ j, j < n → j ≠ i → f j = g j) : Is n (U.set i v) g := by
  refine ⟨by simp [h.1], fun j hj => ?_⟩
  by_cases q : j = i
  · subst q
    rw [← e1]
    simp [List.getD_eq_getElem?_getD, h.1, hj, e1]
  · rw [← e j hj q, ← h.2 j hj]
    simp [List.getD_eq_getElem?_getD, List.getElem?_set, Ne.symm q]
theorem Is.zero (n : Nat) : Is n (List.replicate n 0) (fun j => 0) := ⟨by simp, fun j hj => by
  rw [List.getD_eq_getElem?_getD, List.getElem?_replicate]
  split <;> rfl⟩
theorem if_step {i j : Nat} {A B : Int} (q : j ≠ i) : (if j < i then A else B) = (if j < i + 1 then A else B) := by
  by_cases z : j < i
  · rw [if_pos z, if_pos (by omega)]
  · rw [if_neg z, if_neg (by omega)]
theorem Is.of (n : Nat) (U : List Int) (h : U.length = n) : Is n U (fun j => U.getD j 0) := ⟨h, fun _ _ => rfl⟩
theorem rd35 (l : List S35) (k : Nat) (h : k < l.length) : rd_T35 l (k : Int) = l[k] := by simp [rd_T35, h]
theorem at35 {w : World} {A : Option Addr} {xs : List S35} (h : Kd.C k35 w A xs.length xs) (i : Nat) (hi : i < xs.length) : ∃ ad, A = some ad ∧ w.cell? (ad.add (i * 4)) = some (.int .i64 xs[i].f0) ∧ w.cell? ⟨(ad.add (i * 4)).block, (ad.add (i * 4)).off + 1, none⟩ = some (.int .i64 xs[i].f1) ∧ w.cell? ⟨(ad.add (i * 4)).block, (ad.add (i * 4)).off + 2, none⟩ = some (.int .i64 xs[i].f2.f0) ∧ w.cell? ⟨(ad.add (i * 4)).block, (ad.add (i * 4)).off + 3, none⟩ = some (.int .i64 xs[i].f2.f1) := by
  obtain ⟨ad, e, h0, h1, h2, h3⟩ := at_T35 h (i : Int) (by omega) (by omega)
  rw [rd35 _ _ hi] at h0 h1 h2 h3
  rw [Int.toNat_natCast] at h0 h1 h2 h3
  exact ⟨ad, e, h0, h1, h2, h3⟩
/-- The links before k are all right. -/
def OkTo (P : Int) (L : List S35) (k : Nat) : Prop := ∀ l, l ∈ L.take k → linkErr P l = 0
theorem OkTo.start (P : Int) (L : List S35) : OkTo P L 0 := by intro l hl; simp at hl
theorem take_at {α : Type} (L : List α) (k : Nat) (h : k < L.length) : L.take (k + 1) = L.take k ++ [L[k]] := by
  rw [List.take_add_one]
  simp [h]
theorem OkTo.next {P : Int} {L : List S35} {k : Nat} (h : OkTo P L k) (hk : k < L.length) (e : linkErr P L[k] = 0) : OkTo P L (k + 1) := by
  intro l hl
  rw [take_at L k hk] at hl
  rcases List.mem_append.1 hl with hl | hl
  · exact h l hl
  · rw [List.mem_singleton.1 hl]; exact e
theorem find_split {α : Type} (p : α → Bool) (A B : List α) (x : α) (h : ∀ l, l ∈ A → p l = false) (hx : p x = true) : (A ++ x :: B).find? p = some x := by
  rw [List.find?_append]
  have : A.find? p = none := by
    rw [List.find?_eq_none]
    intro l hl
    simp [h l hl]
  rw [this, Option.none_or, List.find?_cons_of_pos hx]
theorem OkTo.find {P : Int} {L : List S35} {k : Nat} (h : OkTo P L k) (hk : k < L.length) (e : linkErr P L[k] ≠ 0) : L.find? (fun l => linkErr P l != 0) = some L[k] := by
  have e1 : L.take k ++ L[k] :: L.drop (k + 1) = L := by
    rw [← List.drop_eq_getElem_cons hk, List.take_append_drop]
  have := find_split (fun l => linkErr P l != 0) (L.take k) (L.drop (k + 1)) L[k] (fun l hl => by simp [h l hl]) (by simpa using e)
  rwa [e1] at this
theorem OkTo.none {P : Int} {L : List S35} (h : OkTo P L L.length) : L.find? (fun l => linkErr P l != 0) = none := by
  rw [List.find?_eq_none]
  intro l hl
  simp [h l (by rw [List.take_length]; exact hl)]
theorem rootsOf_snoc (L : List S35) (l : S35) : rootsOf (L ++ [l]) = rootStep (rootsOf L) l := by simp [rootsOf]
theorem rootsOf_length (L : List S35) : (rootsOf L).length = 24 := by
  have : ∀ (L : List S35) (R : List Int), (L.foldl rootStep R).length = R.length := by
    intro L
    induction L with
    | nil => intro R; rfl
    | cons l L ih => intro R; rw [List.foldl_cons, ih]; simp [rootStep]
  rw [rootsOf, this]
  simp
theorem Is.step {R U : List Int} {l : S35} (hR : R.length = 24) (h : Is 24 U (fun j => if j < 24 then rootVal (R.getD l.f0.toNat 0) (R.getD l.f1.toNat 0) (R.getD j 0) else R.getD j 0)) : U = rootStep R l := by
  rw [h.list]
  apply List.ext_getElem
  · simp [rootStep, hR]
  · intro i h1 h2
    have hi : i < 24 := by simpa using h1
    simp [rootStep, hi, List.getD_eq_getElem?_getD, hR]
theorem linkErr_ok {P : Int} {l : S35} (h : linkErr P l = 0) : 0 ≤ l.f0 ∧ l.f0 < P ∧ 0 ≤ l.f1 ∧ l.f1 < P ∧ l.f0 ≠ l.f1 ∧ l.f2.f0 ≤ l.f2.f1 ∧ -1000000 ≤ l.f2.f0 ∧ l.f2.f1 ≤ 1000000 := by
  unfold linkErr at h
  split at h
  · omega
  · split at h
    · omega
    · split at h
      · omega
      · split at h <;> omega
theorem roots_all {R : List Int} {n : Nat} (h : ∀ x, x < n → R.getD x 0 = 0) (hn : n ≤ R.length) : (R.take ((n : Int).toNat)).all (· == 0) = true := by
  rw [List.all_eq_true]
  intro x hx
  rw [Int.toNat_natCast] at hx
  obtain ⟨i, hi, rfl⟩ := List.mem_iff_getElem.1 hx
  have h1 : i < n := by rw [List.length_take] at hi; omega
  have := h i h1
  rw [List.getElem_take]
  rw [List.getD_eq_getElem?_getD, List.getElem?_eq_getElem (by omega)] at this
  simpa using this
theorem roots_not {R : List Int} {n j : Nat} (hj : j < R.length) (h : R.getD j 0 ≠ 0) (hn : j < n) : ¬ (R.take ((n : Int).toNat)).all (· == 0) = true := by
  intro q
  rw [List.all_eq_true] at q
  apply h
  rw [List.getD_eq_getElem?_getD, List.getElem?_eq_getElem hj]
  have := q R[j] (List.mem_iff_getElem.2 ⟨j, by rw [List.length_take, Int.toNat_natCast]; omega, by rw [List.getElem_take]⟩)
  simpa using this
set_option maxHeartbeats 1600000 in
set_option maxRecDepth 100000 in
theorem mount_CheckChain.calls (a0_0 : Int) (A0_1 : Option Addr) (c0_1 : Nat) (l0_1 : List (S35)) (r : Int) (w : World) (hr0_1 : Kd.C k35 w A0_1 l0_1.length l0_1) (hc0_1 : l0_1.length ≤ c0_1) (h : mount_CheckChain.f a0_0 l0_1 = some r) :
    Calls Try.prog 53 #[.agg #[.int .i64 a0_0, .slice A0_1 l0_1.length c0_1]] w fun e w' => e = .returned (.int .i64 r) ∧ Below w.heap.size w w' := by
  have HF := Aside0.mk (Option.some.inj h)
  have HR := Aside0.mk hr0_1
  have HM := Aside0.mk (Mem.start w)
  clear h hr0_1
  have hu27 := Try.underlying27
  have hu35 := Try.underlying35
  by_cases t1 : 1 ≤ a0_0
  rotate_left
  · have e1 : mount_in.f a0_0 1 24 = some false := by unfold mount_in.f; rw [if_neg t1]
    have HF2 : Aside0 (r = 2) := ⟨by rw [← HF.out]; unfold chainErr; rw [if_pos (by omega)]⟩
    go_enter Try.func53, Try.ntmps53
    go_wp2_with (first
      | ((with_reducible refine gate_dst (N := 1) rfl ?_); refine ev_box HM.out rfl 27 (.tmp 0) rfl (cs := #[.int .i64 a0_0, .slice A0_1 l0_1.length c0_1]) rfl ?_; intro g1 w1 hm1 hq1; clear hq1; have HM1 := Aside0.mk hm1; clear hm1 HM; have c1 : w1.cell? ⟨g1, 0, none⟩ = some (.int .i64 a0_0) := (HM1.out.cell 0).trans rfl)
      | (go_at_call 102; refine (mount_in.calls _ _ _ _ _ e1).mono ?_; rintro e w' ⟨rfl, hd⟩; have HB2 := Aside0.mk hd.below; clear hd))
    go_ret
    exact ⟨by rw [HF2.out]; rfl, below_step HM1.out.below HB2.out⟩
  by_cases t2 : a0_0 ≤ 24
  rotate_left
  · have e1 : mount_in.f a0_0 1 24 = some false := by unfold mount_in.f; rw [if_pos t1, decide_eq_false t2]
    have HF2 : Aside0 (r = 2) := ⟨by rw [← HF.out]; unfold chainErr; rw [if_pos (by omega)]⟩
    go_enter Try.func53, Try.ntmps53
    go_wp2_with (first
      | ((with_reducible refine gate_dst (N := 1) rfl ?_); refine ev_box HM.out rfl 27 (.tmp 0) rfl (cs := #[.int .i64 a0_0, .slice A0_1 l0_1.length c0_1]) rfl ?_; intro g1 w1 hm1 hq1; clear hq1; have HM1 := Aside0.mk hm1; clear hm1 HM; have c1 : w1.cell? ⟨g1, 0, none⟩ = some (.int .i64 a0_0) := (HM1.out.cell 0).trans rfl)
      | (go_at_call 102; refine (mount_in.calls _ _ _ _ _ e1).mono ?_; rintro e w' ⟨rfl, hd⟩; have HB2 := Aside0.mk hd.below; clear hd))
    go_ret
    exact ⟨by rw [HF2.out]; rfl, below_step HM1.out.below HB2.out⟩
  have e1 : mount_in.f a0_0 1 24 = some true := by unfold mount_in.f; rw [if_pos t1, decide_eq_true t2]
  by_cases t3 : 80 < l0_1.length
  · have HF2 : Aside0 (r = 8) := ⟨by rw [← HF.out]; unfold chainErr; rw [if_neg (by omega), if_pos t3]⟩
    have t3' : decide (80 < l0_1.length) = true := decide_eq_true t3
    go_enter Try.func53, Try.ntmps53
    go_wp2_with (first
      | ((with_reducible refine gate_dst (N := 1) rfl ?_); refine ev_box HM.out rfl 27 (.tmp 0) rfl (cs := #[.int .i64 a0_0, .slice A0_1 l0_1.length c0_1]) rfl ?_; intro g1 w1 hm1 hq1; clear hq1; have HM1 := Aside0.mk hm1; clear hm1 HM; have c1 : w1.cell? ⟨g1, 0, none⟩ = some (.int .i64 a0_0) := (HM1.out.cell 0).trans rfl)
      | (go_at_call 102; refine (mount_in.calls _ _ _ _ _ e1).mono ?_; rintro e w' ⟨rfl, hd⟩; have HM2 := Aside0.mk (HM1.out.step hd.below); clear hd HM1; have c2 : w'.cell? ⟨g1, 1, none⟩ = some (.slice A0_1 l0_1.length c0_1) := (HM2.out.cell 1).trans rfl))
    go_ret
    exact ⟨by rw [HF2.out]; rfl, HM2.out.below⟩
  have t3' : decide (80 < l0_1.length) = false := decide_eq_false t3
  obtain ⟨n, rfl⟩ : ∃ n : Nat, a0_0 = n := ⟨a0_0.toNat, by omega⟩
  go_enter Try.func53, Try.ntmps53
  go_wp2_with (first
    | ((with_reducible refine gate_dst (N := 1) rfl ?_); refine ev_box HM.out rfl 27 (.tmp 0) rfl (cs := #[.int .i64 (n : Int), .slice A0_1 l0_1.length c0_1]) rfl ?_; intro g1 w1 hm1 hq1; clear hq1; have HM1 := Aside0.mk hm1; clear hm1 HM; have c1 : w1.cell? ⟨g1, 0, none⟩ = some (.int .i64 (n : Int)) := (HM1.out.cell 0).trans rfl)
    | (go_at_call 102; refine (mount_in.calls _ _ _ _ _ e1).mono ?_; rintro e w' ⟨rfl, hd⟩; have HM2 := Aside0.mk (HM1.out.step hd.below); clear hd HM1; have c2 : w'.cell? ⟨g1, 1, none⟩ = some (.slice A0_1 l0_1.length c0_1) := (HM2.out.cell 1).trans rfl)
    | ((with_reducible refine gate_dst (N := 3) rfl ?_); refine ev_new HM2.out rfl 123 rfl info123 ?_; intro g2 w2 hm2 hq1; clear hq1; have HM3 := Aside0.mk hm2; clear hm2 HM2))
  rw [zero_nums] at HM3
  go_loopg [24] 24 (fun k v24 w' => ∃ (i : Nat) (U : List Int), v24 = .int .i64 i ∧ Aside0 (i + k = 24) ∧ Aside0 (Is 24 U (fun j => if j < i then (j : Int) else 0)) ∧ Aside0 (Mem w w' [(g2, (nums .i64 U).toArray, 123), (g1, #[.int .i64 (n : Int), .slice A0_1 l0_1.length c0_1], 27)]))
  case atStart => exact ⟨0, _, rfl, ⟨rfl⟩, ⟨(Is.zero 24).congr (fun j hj => (if_neg (by omega)).symm)⟩, HM3⟩
  case round =>
    clear HM3
    obtain ⟨i, U, rfl, HK, HU, HM⟩ := hrel
    by_cases hi : i < 24
    · have c1 : wr.cell? ⟨g2, i, none⟩ = some (.int .i64 (U.getD i 0)) := by rw [HM.out.cell, get_nums _ _ (by rw [HU.out.1]; exact hi)]
      have f1 : wr.frozen? ⟨g2, i, none⟩ = false := HM.out.frozen _
      generalize hX : U.getD i 0 = X at c1
      clear hX
      go_wp2_with fail
      go_roundg (24 - (i + 1))
      case measure => have := HK.out; omega
      case rel => exact ⟨i + 1, _, by go_num, ⟨by omega⟩, ⟨HU.out.set hi (if_pos (by omega)) (fun j hj q => if_step q)⟩, ⟨HM.out.put _ _ (set_nums _ _ _)⟩⟩
    · have c1 : wr.cell? ⟨g1, 1, none⟩ = some (.slice A0_1 l0_1.length c0_1) := (blk_cell HM.out.second 1).trans rfl
      have HU2 : Aside0 (U = rootsOf []) := ⟨by rw [(HU.out.congr (g := fun j => (j : Int)) (fun j hj => if_pos (by omega))).list]; rfl⟩
      go_wp2_with fail
      clear c1
      go_loopg [34] l0_1.length (fun k v34 w' => ∃ (i : Nat) (U : List Int), v34 = .int .i64 i ∧ Aside0 (i + k = l0_1.length) ∧ Aside0 (U = rootsOf (l0_1.take i) ∧ OkTo (n : Int) l0_1 i) ∧ Aside0 (Mem w w' [(g2, (nums .i64 U).toArray, 123), (g1, #[.int .i64 (n : Int), .slice A0_1 l0_1.length c0_1], 27)]))
      case atStart => exact ⟨0, U, rfl, ⟨by omega⟩, ⟨HU2.out, OkTo.start _ _⟩, HM⟩
      case round =>
        obtain ⟨k, R, rfl, HK2, HU3, HM5⟩ := hrel
        have HL := Aside0.mk (show R.length = 24 by rw [HU3.out.1]; exact rootsOf_length _)
        by_cases hk : k < l0_1.length
        · obtain ⟨ad, e0, x0, x1, x2, x3⟩ := at35 (Kd.C_below HR.out HM5.out.below) k hk
          have HX := Aside0.mk (show l0_1[k] = l0_1[k] from rfl)
          have HE := checkLink_eq (n : Int) l0_1[k] (by omega) (by omega)
          generalize hX : l0_1[k] = X at x0 x1 x2 x3 HE
          have HXX := Aside0.mk hX
          clear hX HX
          cases e0
          have hk1 : (0 : Int) ≤ (k : Int) := by omega
          have hk2 : (k : Int) < (l0_1.length : Int) := by omega
          have HE2 := Aside0.mk HE
          clear HE
          by_cases tE : linkErr (n : Int) X = 0
          · have HOK := Aside0.mk (HU3.out.2.next hk (by rw [HXX.out]; exact tE))
            rw [tE] at HE2
            obtain ⟨q1, q2, q3, q4, q5, _⟩ := linkErr_ok tE
            clear tE
            have HX2 := Aside0.mk (show rootsOf (l0_1.take (k + 1)) = rootStep R X by rw [take_at _ _ hk, rootsOf_snoc, HU3.out.1, HXX.out])
            go_wp2_with (first
              | ((with_reducible refine gate_dst (N := 6) rfl ?_); refine ev_new HM5.out rfl 35 rfl info35 ?_; intro g3 w3 hm3 hq1; have HM6 := Aside0.mk hm3; clear hm3)
              | (refine ev_store HM6.out rfl 35 (.tmp 6) (.tmp 37) rfl rfl (cs := #[.int .i64 X.f0, .int .i64 X.f1, .int .i64 X.f2.f0, .int .i64 X.f2.f1]) rfl size35 rfl rfl (by simp [Value.oneCell']) ?_; intro w4 hm4 hq1; clear hq1; have HM7 := Aside0.mk hm4; clear hm4 HM6; have c0 : w4.cell? ⟨g1, 0, none⟩ = some (.int .i64 (n : Int)) := (blk_cell HM7.out.third 0).trans rfl)
              | ((with_reducible refine gate_dst (N := 40) rfl ?_); refine ev_load HM7.out.head rfl 35 (.tmp 6) rfl rfl _ Try.underlying35 rfl size35 rfl ?_)
              | (go_at_call 91; refine (mount_checkLink.calls _ _ _ _ _ _ _ _ HE2.out).mono ?_; rintro e w5 ⟨rfl, hd⟩; have HM8 := Aside0.mk (HM7.out.step hd); clear hd))
            have d0 : w5.cell? ⟨g3, 0, none⟩ = some (.int .i64 X.f0) := (HM8.out.cell 0).trans rfl
            have d1 : w5.cell? ⟨g3, 1, none⟩ = some (.int .i64 X.f1) := (HM8.out.cell 1).trans rfl
            have d2 : w5.cell? ⟨g2, X.f0.toNat, none⟩ = some (.int .i64 (R.getD X.f0.toNat 0)) := by rw [blk_cell HM8.out.second, get_nums _ _ (by rw [HL.out]; omega)]
            have d3 : w5.cell? ⟨g2, X.f1.toNat, none⟩ = some (.int .i64 (R.getD X.f1.toNat 0)) := by rw [blk_cell HM8.out.second, get_nums _ _ (by rw [HL.out]; omega)]
            have HST := Aside0.mk (show rootStep R X = R.map (rootVal (R.getD X.f0.toNat 0) (R.getD X.f1.toNat 0)) from rfl)
            have HIS := Aside0.mk (fun U h => Is.step (R := R) (U := U) (l := X) HL.out h)
            generalize hA : R.getD X.f0.toNat 0 = A at d2 HST HIS
            generalize hB : R.getD X.f1.toNat 0 = B at d3 HST HIS
            clear hA hB
            have q6 : X.f0 < 24 := by omega
            have q7 : X.f1 < 24 := by omega
            go_quiet (fail)
            go_wp2_with (first
              | ((with_reducible refine gate_dst (N := 53) rfl ?_); refine ev_load (W := w5.drewN nq) HM8.out.second rfl 123 (.tmp 3) rfl rfl _ Try.underlying123 rfl size123 (size_nums HL.out) ?_))
            clear d0 d1 d2 d3
            have HM9 : Aside0 (Mem w (w5.drewN nq) [(g2, (nums .i64 R).toArray, 123), (g1, #[.int .i64 (n : Int), .slice (some ad) l0_1.length c0_1], 27)]) := ⟨(HM8.out.drewN nq).drop⟩
            clear HM8
            go_loopg [54] 24 (fun k v54 w' => ∃ (j : Nat) (U : List Int), v54 = .int .i64 j ∧ Aside0 (j + k = 24) ∧ Aside0 (Is 24 U (fun x => if x < j then rootVal A B (R.getD x 0) else R.getD x 0)) ∧ Aside0 (Mem w w' [(g2, (nums .i64 U).toArray, 123), (g1, #[.int .i64 (n : Int), .slice (some ad) l0_1.length c0_1], 27)]))
            case atStart => exact ⟨0, R, rfl, ⟨by omega⟩, ⟨(Is.of 24 R HL.out).congr (fun x hx => (if_neg (by omega)).symm)⟩, HM9⟩
            case round =>
              clear HM9
              obtain ⟨j, U2, rfl, HK3, HU4, HM9⟩ := hrel
              by_cases hj : j < 24
              · have hix := run_index_one (P := Try.prog) 123 3 24 (nums .i64 R).toArray j _ _ Try.underlying123 Try.underlying3 rfl size3 hj (get_nums R j (by rw [HL.out]; exact hj))
                have e1 : wr.cell? ⟨g2, j, none⟩ = some (.int .i64 (U2.getD j 0)) := by rw [HM9.out.cell, get_nums _ _ (by rw [HU4.out.1]; exact hj)]
                have e2 : wr.frozen? ⟨g2, j, none⟩ = false := HM9.out.frozen _
                generalize hX : U2.getD j 0 = Y at e1
                clear hX
                generalize hV : R.getD j 0 = V at hix
                have HV := Aside0.mk hV
                clear hV
                by_cases tt : V = A ∨ V = B
                · have HRV : Aside0 (rootVal A B V = if B < A then B else A) := ⟨if_pos tt⟩
                  by_cases tm : B < A
                  all_goals
                    first | rw [if_pos tm] at HRV | rw [if_neg tm] at HRV
                    by_cases ta : V = A
                    · have ta1 : (V == A) = true := by simpa using ta
                      clear ta tt
                      go_wp2_with fail
                      go_roundg (24 - (j + 1))
                      case measure => have := HK3.out; omega
                      case rel => exact ⟨j + 1, _, by go_num, ⟨by omega⟩, ⟨HU4.out.set hj ((if_pos (by omega)).trans (by rw [HV.out]; exact HRV.out)) (fun x hx q => if_step q)⟩, ⟨HM9.out.put _ _ (set_nums _ _ _)⟩⟩
                    · have ta1 : (V == A) = false := by simpa using ta
                      have tb1 : (V == B) = true := by rcases tt with tt | tt; · exact absurd tt ta
                                                       · simpa using tt
                      clear ta tt
                      go_wp2_with fail
                      go_roundg (24 - (j + 1))
                      case measure => have := HK3.out; omega
                      case rel => exact ⟨j + 1, _, by go_num, ⟨by omega⟩, ⟨HU4.out.set hj ((if_pos (by omega)).trans (by rw [HV.out]; exact HRV.out)) (fun x hx q => if_step q)⟩, ⟨HM9.out.put _ _ (set_nums _ _ _)⟩⟩
                · have HRV : Aside0 (rootVal A B V = V) := ⟨if_neg tt⟩
                  have ta1 : (V == A) = false := by simp; exact fun q => tt (.inl q)
                  have tb1 : (V == B) = false := by simp; exact fun q => tt (.inr q)
                  clear tt
                  go_wp2_with fail
                  go_roundg (24 - (j + 1))
                  case measure => have := HK3.out; omega
                  case rel => exact ⟨j + 1, U2, by go_num, ⟨by omega⟩, ⟨HU4.out.congr (fun x hx => by
                    by_cases q : x = j
                    · subst q
                      rw [if_neg (by omega), if_pos (by omega), HV.out, HRV.out]
                    · exact if_step q)⟩, HM9⟩
              · have HEQ : Aside0 (U2 = rootsOf (l0_1.take (k + 1))) := ⟨by rw [HX2.out]; exact HIS.out _ (HU4.out.congr (fun x hx => by rw [if_pos (by omega), if_pos hx]))⟩
                go_wp2_with fail
                go_roundg (l0_1.length - (k + 1))
                case measure => have := HK2.out; omega
                case rel => exact ⟨k + 1, U2, by go_num, ⟨by have := HK2.out; omega⟩, ⟨HEQ.out, HOK.out⟩, HM9⟩
          · generalize hE : linkErr (n : Int) X = E at tE HE2
            have HF2 : Aside0 (r = E) := ⟨by rw [← HF.out]; unfold chainErr; rw [if_neg (by omega), if_neg t3, HU3.out.2.find hk (by rw [HXX.out, hE]; exact tE), HXX.out]; exact hE⟩
            clear hE
            have tE1 : (E != 0) = true := by simpa using tE
            go_wp2_with (first
              | ((with_reducible refine gate_dst (N := 6) rfl ?_); refine ev_new HM5.out rfl 35 rfl info35 ?_; intro g3 w3 hm3 hq1; have HM6 := Aside0.mk hm3; clear hm3)
              | (refine ev_store HM6.out rfl 35 (.tmp 6) (.tmp 37) rfl rfl (cs := #[.int .i64 X.f0, .int .i64 X.f1, .int .i64 X.f2.f0, .int .i64 X.f2.f1]) rfl size35 rfl rfl (by simp [Value.oneCell']) ?_; intro w4 hm4 hq1; clear hq1; have HM7 := Aside0.mk hm4; clear hm4 HM6; have c0 : w4.cell? ⟨g1, 0, none⟩ = some (.int .i64 (n : Int)) := (blk_cell HM7.out.third 0).trans rfl)
              | ((with_reducible refine gate_dst (N := 40) rfl ?_); refine ev_load HM7.out.head rfl 35 (.tmp 6) rfl rfl _ Try.underlying35 rfl size35 rfl ?_)
              | (go_at_call 91; refine (mount_checkLink.calls _ _ _ _ _ _ _ _ HE2.out).mono ?_; rintro e w5 ⟨rfl, hd⟩; have HM8 := Aside0.mk (HM7.out.step hd); clear hd))
            go_ret
            exact ⟨by rw [HF2.out]; rfl, HM8.out.below⟩
        · have d0 : wr.cell? ⟨g1, 0, none⟩ = some (.int .i64 (n : Int)) := (blk_cell HM5.out.second 0).trans rfl
          have HR3 : Aside0 (R = rootsOf l0_1) := ⟨by rw [HU3.out.1, List.take_of_length_le (by omega)]⟩
          have HOK : Aside0 (OkTo (n : Int) l0_1 l0_1.length) := ⟨by have := HU3.out.2; intro l hl; exact this l (by rw [List.take_of_length_le (by omega)]; rwa [List.take_length] at hl)⟩
          have p0 : (0 : Int) ≤ (n : Int) := by omega
          have hu123 := Try.underlying123
          go_wp2_with fail
          go_loopg [77] n (fun k v77 w' => ∃ (j : Nat), v77 = .int .i64 j ∧ Aside0 (j + k = n) ∧ Aside0 (∀ x, x < j → R.getD x 0 = 0) ∧ Aside0 (Mem w w' [(g2, (nums .i64 R).toArray, 123), (g1, #[.int .i64 (n : Int), .slice A0_1 l0_1.length c0_1], 27)]))
          case atStart => exact ⟨0, rfl, ⟨by omega⟩, ⟨fun x hx => absurd hx (by omega)⟩, HM5⟩
          case round =>
            obtain ⟨j, rfl, HK3, HZ, HM9⟩ := hrel
            by_cases hj : j < n
            · have e1 : wr.cell? ⟨g2, j, none⟩ = some (.int .i64 (R.getD j 0)) := by rw [HM9.out.cell, get_nums _ _ (by rw [HL.out]; omega)]
              generalize hV : R.getD j 0 = V at e1
              have HV := Aside0.mk hV
              clear hV
              have j1 : (0 : Int) ≤ (j : Int) := by omega
              have j2 : (j : Int) < (n : Int) := by omega
              by_cases tv : V = 0
              · have HZ2 : Aside0 (∀ x, x < j + 1 → R.getD x 0 = 0) := ⟨fun x hx => by
                  by_cases q : x = j
                  · subst q; rw [HV.out, tv]
                  · exact HZ.out x (by omega)⟩
                have tv1 : (V != 0) = false := by simpa using tv
                clear tv
                go_wp2_with fail
                go_roundg (n - (j + 1))
                case measure => have := HK3.out; omega
                case rel => exact ⟨j + 1, by go_num, ⟨by omega⟩, HZ2, HM9⟩
              · have HF2 : Aside0 (r = 13) := ⟨by rw [← HF.out]; unfold chainErr; rw [if_neg (by omega), if_neg t3, HOK.out.none, ← HR3.out]; exact if_neg (roots_not (j := j) (by rw [HL.out]; omega) (by rw [HV.out]; exact tv) (by omega))⟩
                have tv1 : (V != 0) = true := by simpa using tv
                clear tv
                go_wp2_with fail
                go_ret
                exact ⟨by rw [HF2.out]; rfl, HM9.out.below⟩
            · have HF2 : Aside0 (r = 0) := ⟨by rw [← HF.out]; unfold chainErr; rw [if_neg (by omega), if_neg t3, HOK.out.none, ← HR3.out]; exact if_pos (roots_all (fun x hx => HZ.out x (by omega)) (by rw [HL.out]; omega))⟩
              go_wp2_with fail
              go_ret
              exact ⟨by rw [HF2.out]; rfl, HM9.out.below⟩
end Go.Proofs.Ytbcfphoheijmdaa.Print
end

section
/- table.over: what the Go method leaves of a table. -/
namespace Go.Proofs.Ytbcfphoheijmdaa.H
open Go.RowKit Go.Proofs.YtbcfphoheijmdaaW.PrintWords Go.Proofs.YtbcfphoheijmdaaW.PrintLast Go.Proofs.YtbcfphoheijmdaaW.PrintMore
attribute [local go_sem] max2_int min2_int max_two min_two max_three min_three max_four min_four
set_option linter.unusedVariables false
set_option linter.unusedSimpArgs false

theorem info125 : (Try.prog.info? 125).map (fun i => (i.zero, i.size, i.bytes)) = some (some (.agg (Array.replicate 576 (.int .i64 0))), 576, 4608) := by kernel_rfl
theorem size125 : (Try.prog.info? 125).map (·.size) = some 576 := by kernel_rfl

/-- What 'over' leaves at a place. -/
def ovr (T : List Int) (m a b : Nat) : Int :=
  if T.getD (a * 24 + m) 0 < 1099511627776 ∧ T.getD (m * 24 + b) 0 < 1099511627776 then min (T.getD (a * 24 + b) 0) (T.getD (a * 24 + m) 0 + T.getD (m * 24 + b) 0) else T.getD (a * 24 + b) 0
/-- The table behind the places (a', b') before (a, b). -/
def OvTo (T U : List Int) (m n a b : Nat) : Prop :=
  U.length = 576 ∧ ∀ x y, x < 24 → y < 24 → U.getD (x * 24 + y) 0 = if (x < a ∨ x = a ∧ y < b) ∧ x < n ∧ y < n then ovr T m x y else T.getD (x * 24 + y) 0

theorem getD_set_ne {T : List Int} {i j : Nat} {v : Int} (h : i ≠ j) : (T.set i v).getD j 0 = T.getD j 0 := by
  simp [List.getD_eq_getElem?_getD, List.getElem?_set, h]
theorem getD_set_eq {T : List Int} {i : Nat} {v : Int} (h : i < T.length) : (T.set i v).getD i 0 = v := by
  simp [List.getD_eq_getElem?_getD, h]
theorem OvTo.put {T U : List Int} {m n a b : Nat} {X Y Z : Int} (h : OvTo T U m n a b) (ha : a < n) (hb : b < n) (hn : n ≤ 24) (h1 : T.getD (a * 24 + m) 0 = X) (h2 : T.getD (m * 24 + b) 0 = Y) (h3 : U.getD (a * 24 + b) 0 = Z) (t1 : X < 1099511627776) (t2 : Y < 1099511627776) :
    OvTo T (U.set (a * 24 + b) (if Z ≤ X + Y then Z else X + Y)) m n a (b + 1) := by
  have h4 : T.getD (a * 24 + b) 0 = Z := by rw [← h3, h.2 a b (by omega) (by omega), if_neg (by omega)]
  refine ⟨by simp [h.1], fun x y hx hy => ?_⟩
  by_cases q : x = a ∧ y = b
  · obtain ⟨rfl, rfl⟩ := q
    rw [getD_set_eq (by rw [h.1]; omega), if_pos (show (x < x ∨ x = x ∧ y < y + 1) ∧ x < n ∧ y < n by omega)]
    unfold ovr
    rw [h1, h2, h4, if_pos (show X < 1099511627776 ∧ Y < 1099511627776 from And.intro t1 t2)]
    split <;> omega
  · rw [getD_set_ne (by omega), h.2 x y hx hy]
    by_cases c : (x < a ∨ x = a ∧ y < b) ∧ x < n ∧ y < n
    · rw [if_pos c, if_pos (by omega)]
    · rw [if_neg c, if_neg (by omega)]
theorem OvTo.skip {T U : List Int} {m n a b : Nat} (h : OvTo T U m n a b) (e : T.getD (a * 24 + b) 0 = ovr T m a b) : OvTo T U m n a (b + 1) := by
  refine ⟨h.1, fun x y hx hy => ?_⟩
  rw [h.2 x y hx hy]
  by_cases c : (x < a ∨ x = a ∧ y < b) ∧ x < n ∧ y < n
  · rw [if_pos c, if_pos (by omega)]
  · rw [if_neg c]
    by_cases d : (x < a ∨ x = a ∧ y < b + 1) ∧ x < n ∧ y < n
    · rw [if_pos d]
      obtain ⟨rfl, rfl⟩ : x = a ∧ y = b := by omega
      exact e
    · rw [if_neg d]
theorem OvTo.next {T U : List Int} {m n a b : Nat} (h : OvTo T U m n a b) (hb : n ≤ b) : OvTo T U m n (a + 1) 0 := by
  refine ⟨h.1, fun x y hx hy => ?_⟩
  rw [h.2 x y hx hy]
  by_cases c : (x < a ∨ x = a ∧ y < b) ∧ x < n ∧ y < n
  · rw [if_pos c, if_pos (by omega)]
  · rw [if_neg c, if_neg (by omega)]
theorem OvTo.done {T U : List Int} {m n a b : Nat} (h : OvTo T U m n a b) (ha : n ≤ a) : OvTo T U m n n 0 := by
  refine ⟨h.1, fun x y hx hy => ?_⟩
  rw [h.2 x y hx hy]
  by_cases c : (x < a ∨ x = a ∧ y < b) ∧ x < n ∧ y < n
  · rw [if_pos c, if_pos (by omega)]
  · rw [if_neg c, if_neg (by omega)]

set_option maxHeartbeats 800000 in
set_option maxRecDepth 100000 in
theorem over_calls (T : List Int) (m n : Nat) (hT : T.length = 576) (hm : m < 24) (hn : n ≤ 24) (hbd : ∀ i, -4611686018427387904 ≤ T.getD i 0 ∧ T.getD i 0 ≤ 4611686018427387904) (w : World) :
    Calls Try.prog 133 #[.agg (nums .i64 T).toArray, .int .i64 m, .int .i64 n] w fun e w' => ∃ U, OvTo T U m n n 0 ∧ e = .returned (.agg (nums .i64 U).toArray) ∧ Below w.heap.size w w' := by
  have HS := Aside0.mk (size_nums hT)
  have HT := Aside0.mk hT
  have HBD := Aside0.mk hbd
  have HM := Aside0.mk (Mem.start w)
  clear hT hbd
  generalize hA : (nums .i64 T).toArray = A at HS ⊢
  have HA := Aside0.mk hA
  clear hA
  go_enter Try.func133, Try.ntmps133
  go_wp2_with (first
    | ((with_reducible refine gate_dst (N := 3) rfl ?_); refine ev_box HM.out rfl 125 (.tmp 0) rfl (cs := A) rfl ?_; intro g1 w1 hm1 hq1; clear hq1; have HM1 := Aside0.mk hm1; clear hm1 HM)
    | ((with_reducible refine gate_dst (N := 6) rfl ?_); refine ev_new HM1.out rfl 125 rfl info125 ?_; intro g2 w2 hm2 hq1; clear hq1; have HM2 := Aside0.mk hm2; clear hm2 HM1)
    | ((with_reducible refine gate_dst (N := 10) rfl ?_); refine ev_load HM2.out.second rfl 125 (.tmp 3) rfl rfl _ Try.underlying125 rfl size125 HS.out ?_)
    | ((with_reducible refine gate_dst (N := 7) rfl ?_); refine ev_new HM2.out rfl 125 rfl info125 ?_; intro g3 w3 hm3 hq1; clear hq1; have HM3 := Aside0.mk hm3; clear hm3 HM2)
    | (refine ev_store HM3.out rfl 125 (.tmp 7) (.tmp 10) rfl rfl rfl size125 (by simp) HS.out (by rw [← HA.out]; exact one_nums T) ?_; intro w4 hm4 hq1; clear hq1; have HM4 := Aside0.mk hm4; clear hm4 HM3))
  have H0 : Aside0 (Mem w w4 [(g3, (nums .i64 T).toArray, 125), (g2, Array.replicate 576 (.int .i64 0), 125), (g1, A, 125)]) := ⟨by rw [HA.out]; exact HM4.out⟩
  clear HM4
  go_loopg [12] n (fun k v12 w' => ∃ (a : Nat) (U : List Int), v12 = .int .i64 a ∧ Aside0 (a + k = n) ∧ Aside0 (OvTo T U m n a 0) ∧ Aside0 (Mem w w' [(g3, (nums .i64 U).toArray, 125), (g2, Array.replicate 576 (.int .i64 0), 125), (g1, A, 125)]))
  case atStart => exact ⟨0, T, rfl, ⟨by omega⟩, ⟨HT.out, fun x y _ _ => by simp⟩, H0⟩
  case round =>
    clear H0
    obtain ⟨a, U, rfl, HK, HU, HM⟩ := hrel
    by_cases ha : a < n
    · go_wp2_with fail
      go_loopg [16] n (fun k v16 w' => ∃ (b : Nat) (U : List Int), v16 = .int .i64 b ∧ Aside0 (b + k = n) ∧ Aside0 (OvTo T U m n a b) ∧ Aside0 (Mem w w' [(g3, (nums .i64 U).toArray, 125), (g2, Array.replicate 576 (.int .i64 0), 125), (g1, A, 125)]))
      case atStart => exact ⟨0, U, rfl, ⟨by omega⟩, HU, HM⟩
      case round =>
        clear HU HM U
        obtain ⟨b, U, rfl, HK2, HU, HM⟩ := hrel
        by_cases hb : b < n
        · have c1 : wr.cell? ⟨g1, a * 24 + m, none⟩ = some (.int .i64 (T.getD (a * 24 + m) 0)) := by rw [blk_cell HM.out.third, ← HA.out, get_nums _ _ (by rw [HT.out]; omega)]
          have c2 : wr.cell? ⟨g1, m * 24 + b, none⟩ = some (.int .i64 (T.getD (m * 24 + b) 0)) := by rw [blk_cell HM.out.third, ← HA.out, get_nums _ _ (by rw [HT.out]; omega)]
          have c3 : wr.cell? ⟨g3, a * 24 + b, none⟩ = some (.int .i64 (U.getD (a * 24 + b) 0)) := by rw [HM.out.cell, get_nums _ _ (by rw [HU.out.1]; omega)]
          have f3 : wr.frozen? ⟨g3, a * 24 + b, none⟩ = false := HM.out.frozen _
          have b1 := (HBD.out (a * 24 + m)).1
          have b2 := (HBD.out (a * 24 + m)).2
          have b3 := (HBD.out (m * 24 + b)).1
          have b4 := (HBD.out (m * 24 + b)).2
          generalize hX : T.getD (a * 24 + m) 0 = X at c1 b1 b2
          generalize hY : T.getD (m * 24 + b) 0 = Y at c2 b3 b4
          generalize hZ : U.getD (a * 24 + b) 0 = Z at c3
          have HX := Aside0.mk hX
          have HY := Aside0.mk hY
          have HZ := Aside0.mk hZ
          clear hX hY hZ
          by_cases t1 : X < 1099511627776
          · by_cases t2 : Y < 1099511627776
            · go_wp2_with fail
              have i1 : (0 : Int) ≤ (a : Int) := by omega
              have i2 : (a : Int) < 24 := by omega
              have i3 : (0 : Int) ≤ (b : Int) := by omega
              have i4 : (b : Int) < 24 := by omega
              have i5 : (0 : Int) ≤ (m : Int) := by omega
              have i6 : (m : Int) < 24 := by omega
              have HP := HU.out.put ha hb hn HX.out HY.out HZ.out t1 t2
              by_cases t3 : Z ≤ X + Y
              all_goals
                first | rw [if_pos t3] at HP | rw [if_neg t3] at HP
                have HQ := Aside0.mk HP
                clear HP
                have i7 : IntKind.i64.wrap (X + Y) = X + Y := IntWalk.i64_in _ (by omega)
                go_still_tail 21, (by kernel_rfl)
                clear i7
                go_wp2_with fail
                go_roundg (gk - 1)
                case measure => have := HK2.out; omega
                case rel => exact ⟨b + 1, _, by go_num, ⟨by have := HK2.out; omega⟩, HQ, ⟨(HM.out.put _ _ (set_nums _ _ _)).drew⟩⟩
            · go_wp2_with fail
              go_roundg (gk - 1)
              case measure => have := HK2.out; omega
              case rel => exact ⟨b + 1, U, by go_num, ⟨by have := HK2.out; omega⟩, ⟨HU.out.skip (by unfold ovr; rw [HX.out, HY.out, if_neg (by omega)])⟩, HM⟩
          · go_wp2_with fail
            go_roundg (gk - 1)
            case measure => have := HK2.out; omega
            case rel => exact ⟨b + 1, U, by go_num, ⟨by have := HK2.out; omega⟩, ⟨HU.out.skip (by unfold ovr; rw [HX.out, if_neg (by omega)])⟩, HM⟩
        · go_wp2_with fail
          go_roundg (n - (a + 1))
          case measure => have := HK.out; omega
          case rel => exact ⟨a + 1, U, by go_num, ⟨by have := HK.out; omega⟩, ⟨HU.out.next (by omega)⟩, HM⟩
    · go_wp2_with (first | ((with_reducible refine gate_dst (N := 56) rfl ?_); refine ev_load HM.out.head rfl 125 (.tmp 7) rfl rfl _ Try.underlying125 rfl size125 (size_nums HU.out.1) ?_) | (refine ev_store HM.out.swap rfl 125 (.tmp 6) (.tmp 56) rfl rfl rfl size125 (by simp) (size_nums HU.out.1) (one_nums U) ?_; intro w5 hm5 hq1; clear hq1; have HM5 := Aside0.mk hm5; clear hm5 HM))
      refine bodyPost_ret (results_cell_row rfl _ _ _ _ _ _ _ rfl HM5.out.head Try.underlying125 rfl (by rw [size125, size_nums HU.out.1])) rfl ⟨U, HU.out.done (by omega), rfl, HM5.out.below⟩
end Go.Proofs.Ytbcfphoheijmdaa.H
end

section
/- The tables of a chain, as Lean functions: what links say, and what the ways over ever more points make of it. -/
namespace Go.Proofs.Ytbcfphoheijmdaa.Print
open Go.RowKit Go.Proofs.YtbcfphoheijmdaaW.PrintWords Go.Proofs.YtbcfphoheijmdaaW.PrintLast Go.Proofs.YtbcfphoheijmdaaW.PrintMore Go.Proofs.Ytbcfphoheijmdaa.H
set_option linter.unusedVariables false
set_option linter.unusedSimpArgs false

/-- The table before any link: nothing bounds two points, but a point and itself. -/
def baseTab : List Int := (List.range 576).map (fun i => if i / 24 = i % 24 then 0 else 1099511627776)
/-- A link more. -/
def linkStep (T : List Int) (l : S35) : List Int :=
  let T1 := T.set (l.f0.toNat * 24 + l.f1.toNat) (mn (T.getD (l.f0.toNat * 24 + l.f1.toNat) 0) l.f2.f1)
  T1.set (l.f1.toNat * 24 + l.f0.toNat) (mn (T1.getD (l.f1.toNat * 24 + l.f0.toNat) 0) (-l.f2.f0))
def initTab (L : List S35) : List Int := L.foldl linkStep baseTab
/-- The ways over the point m. -/
def overTab (T : List Int) (m n : Nat) : List Int := (List.range 576).map (fun i => if i / 24 < n ∧ i % 24 < n then ovr T m (i / 24) (i % 24) else T.getD i 0)
/-- Is a point behind itself? -/
def negDiag (n : Nat) (T : List Int) : Bool := (List.range n).any (fun a => decide (T.getD (a * 24 + a) 0 < 0))
/-- The ways over k points from m on; 12 if a point comes behind itself. -/
def floyd (n : Nat) : Nat → Nat → List Int → List Int × Int
  | 0, _, T => (T, 0)
  | k + 1, m, T => if negDiag n (overTab T m n) then (overTab T m n, 12) else floyd n k (m + 1) (overTab T m n)
/-- The tight table of a chain, and the error. -/
def tightOf (P : Int) (L : List S35) : List Int × Int :=
  if chainErr P L = 0 then floyd P.toNat P.toNat 0 (initTab L) else (List.replicate 576 0, chainErr P L)

theorem OvTo.tab {T U : List Int} {m n : Nat} (h : OvTo T U m n n 0) : U = overTab T m n := by
  refine Is.list (n := 576) (f := fun i => if i / 24 < n ∧ i % 24 < n then ovr T m (i / 24) (i % 24) else T.getD i 0) ⟨h.1, fun j hj => ?_⟩
  have := h.2 (j / 24) (j % 24) (by omega) (by omega)
  rw [show j / 24 * 24 + j % 24 = j by omega] at this
  rw [this]
  show _ = if j / 24 < n ∧ j % 24 < n then ovr T m (j / 24) (j % 24) else T.getD j 0
  by_cases c : j / 24 < n ∧ j % 24 < n
  · rw [if_pos c, if_pos (by omega)]
  · rw [if_neg c, if_neg (by omega)]
theorem overTab_length (T : List Int) (m n : Nat) : (overTab T m n).length = 576 := by simp [overTab]
theorem getD_map_range (N : Nat) (f : Nat → Int) (i : Nat) : ((List.range N).map f).getD i 0 = if i < N then f i else 0 := by
  by_cases h : i < N
  · simp [List.getD_eq_getElem?_getD, h]
  · simp [List.getD_eq_getElem?_getD, h]
theorem overTab_get (T : List Int) (m n a b : Nat) (ha : a < n) (hb : b < n) (hn : n ≤ 24) : (overTab T m n).getD (a * 24 + b) 0 = ovr T m a b := by
  unfold overTab
  rw [getD_map_range, if_pos (by omega), show (a * 24 + b) / 24 = a by omega, show (a * 24 + b) % 24 = b by omega, if_pos ⟨ha, hb⟩]
theorem baseTab_length : baseTab.length = 576 := by simp [baseTab]
theorem linkStep_length (T : List Int) (l : S35) : (linkStep T l).length = T.length := by simp [linkStep]
theorem initTab_length (L : List S35) : (initTab L).length = 576 := by
  have : ∀ (L : List S35) (T : List Int), (L.foldl linkStep T).length = T.length := by
    intro L
    induction L with
    | nil => intro T; rfl
    | cons l L ih => intro T; rw [List.foldl_cons, ih, linkStep_length]
  rw [initTab, this, baseTab_length]
theorem initTab_snoc (L : List S35) (l : S35) : initTab (L ++ [l]) = linkStep (initTab L) l := by simp [initTab]

/-- Numbers that stay small. -/
def Small (B : Int) (T : List Int) : Prop := ∀ i, -B ≤ T.getD i 0 ∧ T.getD i 0 ≤ 1099511627776
theorem mn_le (a b : Int) : mn a b ≤ a ∧ mn a b ≤ b ∧ (mn a b = a ∨ mn a b = b) := by unfold mn; split <;> omega
theorem Small.set {B : Int} {T : List Int} {i : Nat} {v : Int} (h : Small B T) (h1 : -B ≤ v) (h2 : v ≤ 1099511627776) : Small B (T.set i v) := by
  intro j
  by_cases q : i = j
  · subst q
    by_cases c : i < T.length
    · rw [H.getD_set_eq c]; exact ⟨h1, h2⟩
    · rw [List.set_eq_of_length_le (by omega)]; exact h i
  · rw [H.getD_set_ne q]; exact h j
theorem Small.base {B : Int} (hB : 0 ≤ B) : Small B baseTab := by
  intro j
  unfold baseTab
  rw [getD_map_range]
  split
  · split <;> omega
  · omega
theorem Small.link {T : List Int} {l : S35} (h : Small 1000000 T) (h1 : l.f2.f0 ≤ l.f2.f1) (h2 : -1000000 ≤ l.f2.f0) (h3 : l.f2.f1 ≤ 1000000) : Small 1000000 (linkStep T l) := by
  have s1 : Small 1000000 (T.set (l.f0.toNat * 24 + l.f1.toNat) (mn (T.getD (l.f0.toNat * 24 + l.f1.toNat) 0) l.f2.f1)) := by
    have := mn_le (T.getD (l.f0.toNat * 24 + l.f1.toNat) 0) l.f2.f1
    have := h (l.f0.toNat * 24 + l.f1.toNat)
    exact h.set (by omega) (by omega)
  have := mn_le ((T.set (l.f0.toNat * 24 + l.f1.toNat) (mn (T.getD (l.f0.toNat * 24 + l.f1.toNat) 0) l.f2.f1)).getD (l.f1.toNat * 24 + l.f0.toNat) 0) (-l.f2.f0)
  have := s1 (l.f1.toNat * 24 + l.f0.toNat)
  exact s1.set (by omega) (by omega)
theorem Small.init {P : Int} (L : List S35) (h : ∀ l, l ∈ L → linkErr P l = 0) : Small 1000000 (initTab L) := by
  have : ∀ (L : List S35) (T : List Int), (∀ l, l ∈ L → linkErr P l = 0) → Small 1000000 T → Small 1000000 (L.foldl linkStep T) := by
    intro L
    induction L with
    | nil => intro T _ h; exact h
    | cons l L ih =>
      intro T h hT
      have hl := linkErr_ok (h l (by simp))
      exact ih _ (fun l' h' => h l' (by simp [h'])) (hT.link hl.2.2.2.2.2.1 hl.2.2.2.2.2.2.1 hl.2.2.2.2.2.2.2)
  exact this L _ h (Small.base (by omega))
theorem Small.over {B : Int} {T : List Int} {m n : Nat} (h : Small B T) (hB : 0 ≤ B) : Small (2 * B) (overTab T m n) := by
  intro j
  unfold overTab
  rw [getD_map_range]
  have h0 := h j
  split
  · split
    · unfold ovr
      have h1 := h (j / 24 * 24 + m)
      have h2 := h (m * 24 + j % 24)
      have h3 := h (j / 24 * 24 + j % 24)
      split <;> omega
    · omega
  · omega
theorem Small.mono {B C : Int} {T : List Int} (h : Small B T) (hBC : B ≤ C) : Small C T := fun i => by have := h i; omega
end Go.Proofs.Ytbcfphoheijmdaa.Print
end

section
/- tight: the table of a chain, and the error, as the Go function gives them. -/
namespace Go.Proofs.Ytbcfphoheijmdaa.Print
open Go.RowKit Go.Proofs.YtbcfphoheijmdaaW.PrintWords Go.Proofs.YtbcfphoheijmdaaW.PrintLast Go.Proofs.YtbcfphoheijmdaaW.PrintMore Go.Proofs.Ytbcfphoheijmdaa.H
attribute [local go_sem] max2_int min2_int max_two min_two max_three min_three max_four min_four
set_option linter.unusedVariables false
set_option linter.unusedSimpArgs false

/-- Two results, of which the first is a whole array in memory. -/
theorem results_row_tmp {P : Program} {fn : Func} {p q : Tmp} {ty : TypeId} (h : fn.results = #[.cell p ty, .tmp q]) (tmps : Array Value) (w : World) (g : Nat) (t : TypeId) (cs : Array Value) (fr : Nat × Nat) (d : TypeDesc)
    (hp : tmps.getD p undef = .pointer (some ⟨g, 0, none⟩)) (hg : w.heap[g]? = some (.cells cs t fr))
    (hu : P.underlying ty = some d) (hd : (match d with | .struct _ | .array _ _ => true | _ => false) = true) (hi : (P.info? ty).map (·.size) = some cs.size) :
    (results fn tmps).run P w = .ok (.tuple #[.agg cs, tmps.getD q undef]) w := by
  have hp' : tmps[p]?.getD undef = .pointer (some ⟨g, 0, none⟩) := by simpa using hp
  simp [results, h, hp', asAddr, run_loadVar_row w g t ty cs fr d hg hu hd hi]

theorem chainErr_ok {P : Int} {L : List S35} (h : chainErr P L = 0) : 1 ≤ P ∧ P ≤ 24 ∧ L.length ≤ 80 ∧ ∀ l, l ∈ L → linkErr P l = 0 := by
  unfold chainErr at h
  split at h
  · omega
  · split at h
    · omega
    · refine ⟨by omega, by omega, by omega, ?_⟩
      split at h
      · rename_i l hl
        have := List.find?_some hl
        simp [h] at this
      · rename_i hl
        intro l hm
        have := List.find?_eq_none.1 hl l hm
        simpa using this
theorem negDiag_true {n a : Nat} {T : List Int} (ha : a < n) (h : T.getD (a * 24 + a) 0 < 0) : negDiag n T = true := by
  unfold negDiag
  rw [List.any_eq_true]
  exact ⟨a, by simpa using ha, by simpa using h⟩
theorem negDiag_false {n : Nat} {T : List Int} (h : ∀ a, a < n → ¬ T.getD (a * 24 + a) 0 < 0) : negDiag n T = false := by
  unfold negDiag
  rw [List.any_eq_false]
  intro a ha
  simpa using h a (by simpa using ha)
theorem floyd_neg {n k m : Nat} {T : List Int} (h : negDiag n (overTab T m n) = true) : floyd n (k + 1) m T = (overTab T m n, 12) := by rw [floyd, if_pos h]
theorem floyd_next {n k m : Nat} {T : List Int} (h : negDiag n (overTab T m n) = false) : floyd n (k + 1) m T = floyd n k (m + 1) (overTab T m n) := by rw [floyd, if_neg (by rw [h]; simp)]
/-- How small the numbers of the table stay. -/
def bnd (m : Nat) : Int := 1000000 * 2 ^ m
theorem bnd_succ (m : Nat) : bnd (m + 1) = 2 * bnd m := by unfold bnd; rw [Int.pow_succ]; omega
theorem bnd_le (m : Nat) (h : m ≤ 24) : 0 ≤ bnd m ∧ bnd m ≤ 16777216000000 := by
  have : ∀ k : Nat, k ≤ 24 → bnd (24 - k) ≤ 16777216000000 ∧ 0 ≤ bnd (24 - k) := by
    intro k
    induction k with
    | zero => intro _; unfold bnd; decide
    | succ k ih =>
      intro hk
      have := ih (by omega)
      have e := bnd_succ (24 - (k + 1))
      rw [show 24 - (k + 1) + 1 = 24 - k by omega] at e
      omega
  have := this (24 - m) (by omega)
  rw [show 24 - (24 - m) = m by omega] at this
  exact ⟨this.2, this.1⟩
theorem Small.wide {B : Int} {T : List Int} (h : Small B T) (hB : B ≤ 16777216000000) : ∀ i, -4611686018427387904 ≤ T.getD i 0 ∧ T.getD i 0 ≤ 4611686018427387904 := fun i => by have := h i; omega
set_option maxHeartbeats 3200000 in
set_option maxRecDepth 100000 in
theorem tight_calls (P : Int) (A : Option Addr) (c : Nat) (L : List S35) (w : World) (hr : Kd.C k35 w A L.length L) (hc : L.length ≤ c) :
    Calls Try.prog 89 #[.agg #[.int .i64 P, .slice A L.length c]] w fun e w' => e = .returned (.tuple #[.agg (nums .i64 (tightOf P L).1).toArray, .int .i64 (tightOf P L).2]) ∧ Below w.heap.size w w' := by
  have HR := Aside0.mk hr
  have HM := Aside0.mk (Mem.start w)
  clear hr
  have hu27 := Try.underlying27
  have HCE := Aside0.mk (show mount_CheckChain.f P L = some (chainErr P L) from rfl)
  by_cases t1 : chainErr P L = 0
  rotate_left
  · have HF : Aside0 (tightOf P L = (List.replicate 576 0, chainErr P L)) := ⟨if_neg t1⟩
    rw [HF.out]
    generalize hE : chainErr P L = E at t1 HCE
    clear hE
    have t2 : (E != 0) = true := by simpa using t1
    generalize hZ : (nums .i64 (List.replicate 576 0)).toArray = Z
    have HZ := Aside0.mk hZ
    clear hZ t1
    go_enter Try.func89, Try.ntmps89
    go_wp2_with (first
      | ((with_reducible refine gate_dst (N := 1) rfl ?_); refine ev_box HM.out rfl 27 (.tmp 0) rfl (cs := #[.int .i64 P, .slice A L.length c]) rfl ?_; intro g1 w1 hm1 hq1; clear hq1; have HM1 := Aside0.mk hm1; clear hm1 HM)
      | ((with_reducible refine gate_dst (N := 2) rfl ?_); refine ev_new HM1.out rfl 125 rfl info125 ?_; intro g2 w2 hm2 hq1; clear hq1; have HM2 := Aside0.mk hm2; clear hm2 HM1)
      | ((with_reducible refine gate_dst (N := 4) rfl ?_); refine ev_new HM2.out rfl 125 rfl info125 ?_; intro g3 w3 hm3 hq1; clear hq1; have HM3 := Aside0.mk hm3; clear hm3 HM2; rw [zero_nums, HZ.out] at HM3)
      | ((with_reducible refine gate_dst (N := 12) rfl ?_); refine ev_load HM3.out.third rfl 27 (.tmp 1) rfl rfl _ Try.underlying27 rfl (n := 2) (by kernel_rfl) rfl ?_)
      | (go_at_call 53; refine (mount_CheckChain.calls _ _ _ _ _ _ (Kd.C_below HR.out HM3.out.below) hc HCE.out).mono ?_; rintro e w' ⟨rfl, hd⟩; have HM4 := Aside0.mk (HM3.out.step hd); clear hd HM3)
      | ((with_reducible refine gate_dst (N := 16) rfl ?_); refine ev_load HM4.out.head rfl 125 (.tmp 4) rfl rfl _ Try.underlying125 rfl size125 (by rw [← HZ.out]; exact size_nums (by simp)) ?_)
      | (refine ev_store HM4.out.swap rfl 125 (.tmp 2) (.tmp 16) rfl rfl rfl size125 (by rw [← HZ.out]; exact size_nums (by simp)) (by rw [← HZ.out]; exact size_nums (by simp)) (by rw [← HZ.out]; exact one_nums _) ?_; intro w5 hm5 hq1; clear hq1; have HM5 := Aside0.mk hm5; clear hm5 HM4))
    refine bodyPost_ret (results_row_tmp rfl _ _ _ _ _ _ _ rfl HM5.out.head Try.underlying125 rfl (by rw [size125, ← HZ.out, size_nums (n := 576) (by simp)])) rfl ⟨rfl, HM5.out.below⟩
  obtain ⟨n, rfl⟩ : ∃ n : Nat, P = n := ⟨P.toNat, by have := chainErr_ok t1; omega⟩
  have HOK := Aside0.mk (chainErr_ok t1)
  have hn1 : 1 ≤ n := by have := HOK.out.1; omega
  have hn2 : n ≤ 24 := by have := HOK.out.2.1; omega
  have hL : L.length ≤ 80 := HOK.out.2.2.1
  have HF : Aside0 (tightOf n L = floyd n n 0 (initTab L)) := ⟨if_pos t1⟩
  rw [t1] at HCE
  clear t1
  go_enter Try.func89, Try.ntmps89
  go_wp2_with (first
    | ((with_reducible refine gate_dst (N := 1) rfl ?_); refine ev_box HM.out rfl 27 (.tmp 0) rfl (cs := #[.int .i64 (n : Int), .slice A L.length c]) rfl ?_; intro g1 w1 hm1 hq1; clear hq1; have HM1 := Aside0.mk hm1; clear hm1 HM)
    | ((with_reducible refine gate_dst (N := 2) rfl ?_); refine ev_new HM1.out rfl 125 rfl info125 ?_; intro g2 w2 hm2 hq1; clear hq1; have HM2 := Aside0.mk hm2; clear hm2 HM1)
    | ((with_reducible refine gate_dst (N := 4) rfl ?_); refine ev_new HM2.out rfl 125 rfl info125 ?_; intro g3 w3 hm3 hq1; clear hq1; have HM3 := Aside0.mk hm3; clear hm3 HM2)
    | ((with_reducible refine gate_dst (N := 12) rfl ?_); refine ev_load HM3.out.third rfl 27 (.tmp 1) rfl rfl _ Try.underlying27 rfl (n := 2) (by kernel_rfl) rfl ?_)
    | (go_at_call 53; refine (mount_CheckChain.calls _ _ _ _ _ _ (Kd.C_below HR.out HM3.out.below) hc HCE.out).mono ?_; rintro e w' ⟨rfl, hd⟩; have HM4 := Aside0.mk (HM3.out.step hd); clear hd HM3))
  rw [zero_nums] at HM4
  -- the base
  go_loopg [18] 24 (fun k v18 w' => ∃ (a : Nat) (U : List Int), v18 = .int .i64 a ∧ Aside0 (a + k = 24) ∧ Aside0 (Is 576 U (fun i => if i < a * 24 then (if i / 24 = i % 24 then 0 else 1099511627776) else 0)) ∧ Aside0 (Mem w w' [(g3, (nums .i64 U).toArray, 125), (g2, (nums .i64 (List.replicate 576 0)).toArray, 125), (g1, #[.int .i64 (n : Int), .slice A L.length c], 27)]))
  case atStart => exact ⟨0, _, rfl, ⟨rfl⟩, ⟨(Is.zero 576).congr (fun j hj => (if_neg (by omega)).symm)⟩, HM4⟩
  case round =>
    clear HM4
    obtain ⟨a, U, rfl, HK, HU, HM⟩ := hrel
    by_cases ha : a < 24
    · go_wp2_with fail
      go_loopg [21] 24 (fun k v21 w' => ∃ (b : Nat) (U : List Int), v21 = .int .i64 b ∧ Aside0 (b + k = 24) ∧ Aside0 (Is 576 U (fun i => if i < a * 24 + b then (if i / 24 = i % 24 then 0 else 1099511627776) else 0)) ∧ Aside0 (Mem w w' [(g3, (nums .i64 U).toArray, 125), (g2, (nums .i64 (List.replicate 576 0)).toArray, 125), (g1, #[.int .i64 (n : Int), .slice A L.length c], 27)]))
      case atStart => exact ⟨0, U, rfl, ⟨by omega⟩, HU, HM⟩
      case round =>
        obtain ⟨b, V, rfl, HK2, HV, HN⟩ := hrel
        by_cases hb : b < 24
        · have c1 : wr.cell? ⟨g3, a * 24 + b, none⟩ = some (.int .i64 (V.getD (a * 24 + b) 0)) := by rw [HN.out.cell, get_nums _ _ (by rw [HV.out.1]; omega)]
          have f1 : wr.frozen? ⟨g3, a * 24 + b, none⟩ = false := HN.out.frozen _
          generalize hX : V.getD (a * 24 + b) 0 = X at c1
          have HX := Aside0.mk hX
          clear hX
          by_cases hab : a = b
          · have hab1 : ((a : Int) != (b : Int)) = false := by simp; omega
            have HAB := Aside0.mk hab
            clear hab
            go_wp2_with fail
            go_roundg (24 - (b + 1))
            case measure => have := HK2.out; omega
            case rel => exact ⟨b + 1, V, by go_num, ⟨by omega⟩, ⟨HV.out.congr (fun j hj => by
              by_cases q : j = a * 24 + b
              · subst q
                rw [if_neg (by omega), if_pos (by omega), if_pos (by have := HAB.out; omega)]
              · exact if_step q)⟩, HN⟩
          · have hab1 : ((a : Int) != (b : Int)) = true := by simp; omega
            have HAB := Aside0.mk hab
            clear hab
            go_wp2_with fail
            go_roundg (24 - (b + 1))
            case measure => have := HK2.out; omega
            case rel => exact ⟨b + 1, _, by go_num, ⟨by omega⟩, ⟨HV.out.set (by omega) ((if_pos (by omega)).trans (if_neg (by have := HAB.out; omega))) (fun j hj q => if_step q)⟩, ⟨HN.out.put _ _ (set_nums _ _ _)⟩⟩
        · go_wp2_with fail
          go_roundg (24 - (a + 1))
          case measure => have := HK.out; omega
          case rel => exact ⟨a + 1, V, by go_num, ⟨by omega⟩, ⟨HV.out.congr (fun j hj => by
            have := HK2.out
            by_cases q : j < a * 24 + b
            · rw [if_pos q, if_pos (show j < (a + 1) * 24 by omega)]
            · rw [if_neg q, if_neg (show ¬ j < (a + 1) * 24 by omega)])⟩, HN⟩
    · have HU2 : Aside0 (U = initTab []) := ⟨by rw [(HU.out.congr (g := fun i => if i / 24 = i % 24 then 0 else 1099511627776) (fun j hj => if_pos (by omega))).list]; rfl⟩
      have c1 : wr.cell? ⟨g1, 1, none⟩ = some (.slice A L.length c) := (blk_cell HM.out.third 1).trans rfl
      go_wp2_with fail
      clear c1
      -- the links
      go_loopg [36] L.length (fun k v36 w' => ∃ (i : Nat) (U : List Int), v36 = .int .i64 i ∧ Aside0 (i + k = L.length) ∧ Aside0 (U = initTab (L.take i)) ∧ Aside0 (Mem w w' [(g3, (nums .i64 U).toArray, 125), (g2, (nums .i64 (List.replicate 576 0)).toArray, 125), (g1, #[.int .i64 (n : Int), .slice A L.length c], 27)]))
      case atStart => exact ⟨0, U, rfl, ⟨by omega⟩, HU2, HM⟩
      case round =>
        obtain ⟨k, T, rfl, HK2, HT, HN⟩ := hrel
        by_cases hk : k < L.length
        · obtain ⟨ad, e0, x0, x1, x2, x3⟩ := at35 (Kd.C_below HR.out HN.out.below) k hk
          have HOKk := HOK.out.2.2.2 L[k] (List.getElem_mem hk)
          have HTn := Aside0.mk (show initTab (L.take (k + 1)) = linkStep T L[k] by rw [take_at _ _ hk, initTab_snoc, HT.out])
          generalize hX : L[k] = X at x0 x1 x2 x3 HOKk HTn
          clear hX
          cases e0
          have hk1 : (0 : Int) ≤ (k : Int) := by omega
          have hk2 : (k : Int) < (L.length : Int) := by omega
          obtain ⟨q1, q2, q3, q4, q5, q6, q7, q8⟩ := linkErr_ok HOKk
          clear HOKk
          go_wp2_with (first
            | ((with_reducible refine gate_dst (N := 9) rfl ?_); refine ev_new HN.out rfl 35 rfl info35 ?_; intro g4 w4 hm4 hq1; have HM5 := Aside0.mk hm4; clear hm4)
            | (refine ev_store HM5.out rfl 35 (.tmp 9) (.tmp 39) rfl rfl (cs := #[.int .i64 X.f0, .int .i64 X.f1, .int .i64 X.f2.f0, .int .i64 X.f2.f1]) rfl size35 rfl rfl (by simp [Value.oneCell']) ?_; intro w5 hm5 hq1; clear hq1; have HM6 := Aside0.mk hm5; clear hm5 HM5))
          have d0 : w5.cell? ⟨g4, 0, none⟩ = some (.int .i64 X.f0) := (HM6.out.cell 0).trans rfl
          have d1 : w5.cell? ⟨g4, 1, none⟩ = some (.int .i64 X.f1) := (HM6.out.cell 1).trans rfl
          have d2 : w5.cell? ⟨g4, 2, none⟩ = some (.int .i64 X.f2.f0) := (HM6.out.cell 2).trans rfl
          have d3 : w5.cell? ⟨g4, 3, none⟩ = some (.int .i64 X.f2.f1) := (HM6.out.cell 3).trans rfl
          obtain ⟨f, hf⟩ : ∃ f : Nat, X.f0 = f := ⟨X.f0.toNat, by omega⟩
          obtain ⟨t, ht⟩ : ∃ t : Nat, X.f1 = t := ⟨X.f1.toNat, by omega⟩
          generalize hlo : X.f2.f0 = lo at d2 q6 q7
          generalize hhi : X.f2.f1 = hi at d3 q6 q8
          have HLT := Aside0.mk (show T.length = 576 by rw [HT.out, initTab_length])
          have HTn2 : Aside0 (initTab (L.take (k + 1)) = (T.set (f * 24 + t) (mn (T.getD (f * 24 + t) 0) hi)).set (t * 24 + f) (mn ((T.set (f * 24 + t) (mn (T.getD (f * 24 + t) 0) hi)).getD (t * 24 + f) 0) (-lo))) := ⟨by rw [HTn.out]; unfold linkStep; simp only [hf, ht, hlo, hhi, Int.toNat_natCast]⟩
          have HCS : Aside0 (#[Value.int .i64 X.f0, .int .i64 X.f1, .int .i64 X.f2.f0, .int .i64 X.f2.f1] = #[Value.int .i64 (f : Int), .int .i64 (t : Int), .int .i64 lo, .int .i64 hi]) := ⟨by rw [hf, ht, hlo, hhi]⟩
          rw [HCS.out] at HM6
          rw [hf] at d0 q1 q2 q5
          rw [ht] at d1 q3 q4 q5
          clear HTn HCS x0 x1 x2 x3 hf ht hlo hhi
          have i1 : (0 : Int) ≤ (f : Int) := by omega
          have i2 : (f : Int) < 24 := by omega
          have i3 : (0 : Int) ≤ (t : Int) := by omega
          have i4 : (t : Int) < 24 := by omega
          have HNE := Aside0.mk q5
          clear q5 q1 q2 q3 q4
          have e1 : w5.cell? ⟨g3, f * 24 + t, none⟩ = some (.int .i64 (T.getD (f * 24 + t) 0)) := by rw [blk_cell HM6.out.second, get_nums _ _ (by rw [HLT.out]; omega)]
          have e2 : w5.frozen? ⟨g3, f * 24 + t, none⟩ = false := blk_frozen HM6.out.second _
          have HS1 := Aside0.mk (fun v => (HM6.out.swap.put (f * 24 + t) (.int .i64 v) (set_nums T (f * 24 + t) v)).swap.drew)
          generalize hY : T.getD (f * 24 + t) 0 = Y at e1 HTn2
          clear hY
          have HMN : Aside0 (mn Y hi = if hi < Y then hi else Y) := ⟨rfl⟩
          rw [HMN.out] at HTn2
          clear HMN
          have hnl : IntKind.i64.wrap (-lo) = -lo := IntWalk.i64_in _ (by omega)
          have HNL := Aside0.mk hnl
          clear hnl
          by_cases tm : hi < Y
          · rw [if_pos tm] at HTn2
            go_still_tail 17, (by kernel_rfl)
            go_wp2_with fail
            generalize hW : (w5.setCell ⟨g3, f * 24 + t, none⟩ (.int .i64 hi)).drew = W7
            have HM7 := HS1.out hi
            rw [hW] at HM7
            have hl7 : (T.set (f * 24 + t) hi).length = 576 := by rw [List.length_set]; exact HLT.out
            generalize T.set (f * 24 + t) hi = T1 at HM7 HTn2 hl7
            clear hW HS1 d0 d1 d2 d3 e1 e2 HM6
            have HM8 := Aside0.mk HM7
            have HL7 := Aside0.mk hl7
            clear HM7 hl7
            have d0 : W7.cell? ⟨g4, 0, none⟩ = some (.int .i64 (f : Int)) := (HM8.out.cell 0).trans rfl
            have d1 : W7.cell? ⟨g4, 1, none⟩ = some (.int .i64 (t : Int)) := (HM8.out.cell 1).trans rfl
            have d2 : W7.cell? ⟨g4, 2, none⟩ = some (.int .i64 lo) := (HM8.out.cell 2).trans rfl
            have e1 : W7.cell? ⟨g3, t * 24 + f, none⟩ = some (.int .i64 (T1.getD (t * 24 + f) 0)) := by rw [blk_cell HM8.out.second, get_nums _ _ (by rw [HL7.out]; omega)]
            have e2 : W7.frozen? ⟨g3, t * 24 + f, none⟩ = false := blk_frozen HM8.out.second _
            generalize hY2 : T1.getD (t * 24 + f) 0 = Y2 at e1 HTn2
            clear hY2
            have HMN : Aside0 (mn Y2 (-lo) = if -lo < Y2 then -lo else Y2) := ⟨rfl⟩
            rw [HMN.out] at HTn2
            clear HMN
            have HS2 := Aside0.mk (fun v => (HM8.out.swap.put (t * 24 + f) (.int .i64 v) (set_nums T1 (t * 24 + f) v)).swap.drop.drew)
            by_cases tm2 : -lo < Y2
            all_goals
              first | rw [if_pos tm2] at HTn2 | rw [if_neg tm2] at HTn2
              have hnl := HNL.out
              go_still_tail 18, (by kernel_rfl)
              clear hnl
              go_wp2_with fail
              go_roundg (L.length - (k + 1))
              case measure => have := HK2.out; omega
              case rel => exact ⟨k + 1, _, by go_num, ⟨by have := HK2.out; omega⟩, ⟨HTn2.out.symm⟩, ⟨HS2.out _⟩⟩
          · rw [if_neg tm] at HTn2
            go_still_tail 17, (by kernel_rfl)
            go_wp2_with fail
            generalize hW : (w5.setCell ⟨g3, f * 24 + t, none⟩ (.int .i64 Y)).drew = W7
            have HM7 := HS1.out Y
            rw [hW] at HM7
            have hl7 : (T.set (f * 24 + t) Y).length = 576 := by rw [List.length_set]; exact HLT.out
            generalize T.set (f * 24 + t) Y = T1 at HM7 HTn2 hl7
            clear hW HS1 d0 d1 d2 d3 e1 e2 HM6
            have HM8 := Aside0.mk HM7
            have HL7 := Aside0.mk hl7
            clear HM7 hl7
            have d0 : W7.cell? ⟨g4, 0, none⟩ = some (.int .i64 (f : Int)) := (HM8.out.cell 0).trans rfl
            have d1 : W7.cell? ⟨g4, 1, none⟩ = some (.int .i64 (t : Int)) := (HM8.out.cell 1).trans rfl
            have d2 : W7.cell? ⟨g4, 2, none⟩ = some (.int .i64 lo) := (HM8.out.cell 2).trans rfl
            have e1 : W7.cell? ⟨g3, t * 24 + f, none⟩ = some (.int .i64 (T1.getD (t * 24 + f) 0)) := by rw [blk_cell HM8.out.second, get_nums _ _ (by rw [HL7.out]; omega)]
            have e2 : W7.frozen? ⟨g3, t * 24 + f, none⟩ = false := blk_frozen HM8.out.second _
            generalize hY2 : T1.getD (t * 24 + f) 0 = Y2 at e1 HTn2
            clear hY2
            have HMN : Aside0 (mn Y2 (-lo) = if -lo < Y2 then -lo else Y2) := ⟨rfl⟩
            rw [HMN.out] at HTn2
            clear HMN
            have HS2 := Aside0.mk (fun v => (HM8.out.swap.put (t * 24 + f) (.int .i64 v) (set_nums T1 (t * 24 + f) v)).swap.drop.drew)
            by_cases tm2 : -lo < Y2
            all_goals
              first | rw [if_pos tm2] at HTn2 | rw [if_neg tm2] at HTn2
              have hnl := HNL.out
              go_still_tail 18, (by kernel_rfl)
              clear hnl
              go_wp2_with fail
              go_roundg (L.length - (k + 1))
              case measure => have := HK2.out; omega
              case rel => exact ⟨k + 1, _, by go_num, ⟨by have := HK2.out; omega⟩, ⟨HTn2.out.symm⟩, ⟨HS2.out _⟩⟩
        · have d0 : wr.cell? ⟨g1, 0, none⟩ = some (.int .i64 (n : Int)) := (blk_cell HN.out.third 0).trans rfl
          have HT2 : Aside0 (T = initTab L) := ⟨by rw [HT.out, List.take_of_length_le (by omega)]⟩
          have hp1 : (1 : Int) ≤ (n : Int) := by omega
          go_wp2_with fail
          clear d0
          -- the ways over ever more points
          go_loopg [78] n (fun k v78 w' => ∃ (m : Nat) (T : List Int), v78 = .int .i64 m ∧ Aside0 (m + k = n) ∧ Aside0 (T.length = 576 ∧ Small (bnd m) T ∧ floyd n (n - m) m T = floyd n n 0 (initTab L)) ∧ Aside0 (Mem w w' [(g3, (nums .i64 T).toArray, 125), (g2, (nums .i64 (List.replicate 576 0)).toArray, 125), (g1, #[.int .i64 (n : Int), .slice A L.length c], 27)]))
          case atStart => exact ⟨0, T, rfl, ⟨by omega⟩, ⟨by rw [HT2.out, initTab_length], by rw [HT2.out]; exact Small.init L HOK.out.2.2.2, by rw [HT2.out]; rfl⟩, HN⟩
          case round =>
            obtain ⟨m, T3, rfl, HK3, HT3, HN3⟩ := hrel
            by_cases hm : m < n
            · have hb3 := bnd_le m (by omega)
              have HOC := Aside0.mk (fun W => over_calls T3 m n HT3.out.1 (by omega) hn2 (HT3.out.2.1.wide (by omega)) W)
              have d0 : wr.cell? ⟨g1, 0, none⟩ = some (.int .i64 (n : Int)) := (blk_cell HN3.out.third 0).trans rfl
              go_wp2_with (first
                | ((with_reducible refine gate_dst (N := 81) rfl ?_); refine ev_load HN3.out.head rfl 125 (.tmp 4) rfl rfl _ Try.underlying125 rfl size125 (size_nums HT3.out.1) ?_)
                | (go_at_call 133; refine (HOC.out _).mono ?_; rintro e w6 ⟨U, hU, rfl, hd⟩; have HU5 := Aside0.mk hU; clear hU; have HM5 := Aside0.mk (HN3.out.step hd); clear hd)
                | (refine ev_store HM5.out rfl 125 (.tmp 4) (.tmp 85) rfl rfl rfl size125 (size_nums HT3.out.1) (size_nums HU5.out.1) (one_nums U) ?_; intro w7 hm7 hq1; clear hq1; have HM6 := Aside0.mk hm7; clear hm7 HM5; have d2 : w7.cell? ⟨g1, 0, none⟩ = some (.int .i64 (n : Int)) := (blk_cell HM6.out.third 0).trans rfl))
              have HUT := Aside0.mk (OvTo.tab HU5.out)
              have HUL := Aside0.mk HU5.out.1
              clear HU5 d0 d2
              go_loopg [88] n (fun k v88 w' => ∃ (a : Nat), v88 = .int .i64 a ∧ Aside0 (a + k = n) ∧ Aside0 (∀ x, x < a → ¬ U.getD (x * 24 + x) 0 < 0) ∧ Aside0 (Mem w w' [(g3, (nums .i64 U).toArray, 125), (g2, (nums .i64 (List.replicate 576 0)).toArray, 125), (g1, #[.int .i64 (n : Int), .slice A L.length c], 27)]))
              case atStart => exact ⟨0, rfl, ⟨by omega⟩, ⟨fun x hx => absurd hx (by omega)⟩, HM6⟩
              case round =>
                obtain ⟨a, rfl, HK4, HD, HN4⟩ := hrel
                by_cases ha : a < n
                · have e1 : wr.cell? ⟨g3, a * 24 + a, none⟩ = some (.int .i64 (U.getD (a * 24 + a) 0)) := by rw [HN4.out.cell, get_nums _ _ (by rw [HUL.out]; omega)]
                  generalize hV : U.getD (a * 24 + a) 0 = V at e1
                  have HV := Aside0.mk hV
                  clear hV
                  by_cases tv : V < 0
                  · have HFL : Aside0 (tightOf (n : Int) L = (U, 12)) := ⟨by
                      rw [HF.out, ← HT3.out.2.2, show n - m = (n - m - 1) + 1 by omega, floyd_neg (by rw [← HUT.out]; exact negDiag_true ha (by rw [HV.out]; exact tv)), ← HUT.out]⟩
                    go_wp2_with (first
                      | ((with_reducible refine gate_dst (N := 97) rfl ?_); refine ev_load HN4.out.head rfl 125 (.tmp 4) rfl rfl _ Try.underlying125 rfl size125 (size_nums HUL.out) ?_)
                      | (refine ev_store HN4.out.swap rfl 125 (.tmp 2) (.tmp 97) rfl rfl rfl size125 (size_nums (by simp)) (size_nums HUL.out) (one_nums U) ?_; intro w8 hm8 hq1; clear hq1; have HM8 := Aside0.mk hm8; clear hm8 HN4))
                    refine bodyPost_ret (results_row_tmp rfl _ _ _ _ _ _ _ rfl HM8.out.head Try.underlying125 rfl (by rw [size125, size_nums HUL.out])) rfl ⟨by rw [HFL.out]; rfl, HM8.out.below⟩
                  · have HD2 : Aside0 (∀ x, x < a + 1 → ¬ U.getD (x * 24 + x) 0 < 0) := ⟨fun x hx => by
                      by_cases q : x = a
                      · subst q; rw [HV.out]; exact tv
                      · exact HD.out x (by omega)⟩
                    go_wp2_with fail
                    go_roundg (n - (a + 1))
                    case measure => have := HK4.out; omega
                    case rel => exact ⟨a + 1, by go_num, ⟨by omega⟩, HD2, HN4⟩
                · have HNX : Aside0 (floyd n (n - (m + 1)) (m + 1) U = floyd n n 0 (initTab L)) := ⟨by
                    rw [← HT3.out.2.2, show n - m = (n - (m + 1)) + 1 by omega, floyd_next (by rw [← HUT.out]; exact negDiag_false (fun x hx => HD.out x (by omega))), ← HUT.out]⟩
                  go_wp2_with fail
                  go_roundg (n - (m + 1))
                  case measure => have := HK3.out; omega
                  case rel => exact ⟨m + 1, U, by go_num, ⟨by omega⟩, ⟨HUL.out, by rw [bnd_succ, HUT.out]; exact HT3.out.2.1.over (by omega), HNX.out⟩, HN4⟩
            · have HFL : Aside0 (tightOf (n : Int) L = (T3, 0)) := ⟨by rw [HF.out, ← HT3.out.2.2, show n - m = 0 by omega]; rfl⟩
              go_wp2_with (first
                | ((with_reducible refine gate_dst (N := 100) rfl ?_); refine ev_load HN3.out.head rfl 125 (.tmp 4) rfl rfl _ Try.underlying125 rfl size125 (size_nums HT3.out.1) ?_)
                | (refine ev_store HN3.out.swap rfl 125 (.tmp 2) (.tmp 100) rfl rfl rfl size125 (size_nums (by simp)) (size_nums HT3.out.1) (one_nums T3) ?_; intro w8 hm8 hq1; clear hq1; have HM8 := Aside0.mk hm8; clear hm8 HN3))
              refine bodyPost_ret (results_row_tmp rfl _ _ _ _ _ _ _ rfl HM8.out.head Try.underlying125 rfl (by rw [size125, size_nums HT3.out.1])) rfl ⟨by rw [HFL.out]; rfl, HM8.out.below⟩
end Go.Proofs.Ytbcfphoheijmdaa.Print
end

section
/- table.span: the range between two points that the Go method reads off a table. -/
namespace Go.Proofs.Ytbcfphoheijmdaa.Print
open Go.RowKit Go.Proofs.YtbcfphoheijmdaaW.PrintWords Go.Proofs.YtbcfphoheijmdaaW.PrintLast Go.Proofs.YtbcfphoheijmdaaW.PrintMore Go.Proofs.Ytbcfphoheijmdaa.H
set_option linter.unusedVariables false
set_option linter.unusedSimpArgs false

theorem info32a : (Try.prog.info? 32).map (fun i => (i.zero, i.size, i.bytes)) = some (some (.agg #[.int .i64 0, .int .i64 0]), 2, 16) := by kernel_rfl
theorem size32 : (Try.prog.info? 32).map (·.size) = some 2 := by kernel_rfl
/-- The tight range from a to b. -/
def spanOf (T : List Int) (a b : Nat) : S32 := ⟨-(T.getD (b * 24 + a) 0), T.getD (a * 24 + b) 0⟩
set_option maxHeartbeats 800000 in
set_option maxRecDepth 100000 in
theorem span_calls (T : List Int) (a b : Nat) (hT : T.length = 576) (ha : a < 24) (hb : b < 24) (hbd : ∀ i, -4611686018427387904 ≤ T.getD i 0 ∧ T.getD i 0 ≤ 4611686018427387904) (w : World) :
    Calls Try.prog 90 #[.agg (nums .i64 T).toArray, .int .i64 a, .int .i64 b] w fun e w' => e = .returned (.agg #[.int .i64 (spanOf T a b).f0, .int .i64 (spanOf T a b).f1]) ∧ Below w.heap.size w w' := by
  have HM := Aside0.mk (Mem.start w)
  have HT := Aside0.mk hT
  have hX1 := (hbd (b * 24 + a)).1
  have hX2 := (hbd (b * 24 + a)).2
  clear hT hbd
  have HC1 := Aside0.mk (get_nums T (b * 24 + a) (by rw [HT.out]; omega))
  have HC2 := Aside0.mk (get_nums T (a * 24 + b) (by rw [HT.out]; omega))
  unfold spanOf
  generalize hX : T.getD (b * 24 + a) 0 = X at hX1 hX2 HC1 ⊢
  generalize hY : T.getD (a * 24 + b) 0 = Y at HC2 ⊢
  clear hX hY
  have HS := Aside0.mk (size_nums HT.out)
  generalize (nums .i64 T).toArray = A at HC1 HC2 HS ⊢
  have i1 : (0 : Int) ≤ (a : Int) := by omega
  have i2 : (a : Int) < 24 := by omega
  have i3 : (0 : Int) ≤ (b : Int) := by omega
  have i4 : (b : Int) < 24 := by omega
  have hu32 := Try.underlying32
  go_enter Try.func90, Try.ntmps90
  go_wp2_with (first
    | ((with_reducible refine gate_dst (N := 3) rfl ?_); refine ev_box HM.out rfl 125 (.tmp 0) rfl (cs := A) rfl ?_; intro g1 w1 hm1 hq1; clear hq1; have HM1 := Aside0.mk hm1; clear hm1 HM)
    | ((with_reducible refine gate_dst (N := 6) rfl ?_); refine ev_new HM1.out rfl 32 rfl info32a ?_; intro g2 w2 hm2 hq1; clear hq1; have HM2 := Aside0.mk hm2; clear hm2 HM1))
  have c1 : w2.cell? ⟨g1, b * 24 + a, none⟩ = some (.int .i64 X) := by rw [blk_cell HM2.out.second]; exact HC1.out
  have c2 : w2.cell? ⟨g1, a * 24 + b, none⟩ = some (.int .i64 Y) := by rw [blk_cell HM2.out.second]; exact HC2.out
  have c3 : w2.cell? ⟨g2, 0, none⟩ = some (.int .i64 0) := (HM2.out.cell 0).trans rfl
  have c4 : w2.cell? ⟨g2, 1, none⟩ = some (.int .i64 0) := (HM2.out.cell 1).trans rfl
  have f3 : w2.frozen? ⟨g2, 0, none⟩ = false := HM2.out.frozen _
  have f4 : w2.frozen? ⟨g2, 1, none⟩ = false := HM2.out.frozen _
  have hn : IntKind.i64.wrap (-X) = -X := IntWalk.i64_in _ (by omega)
  go_still_tail 12, (by kernel_rfl)
  clear hn
  go_wp2_with fail
  have HM3 := ((HM2.out.put 0 (.int .i64 (-X)) rfl).put 1 (.int .i64 Y) rfl).drew
  exact bodyPost_ret (results_cell_row rfl _ _ _ _ _ _ _ rfl HM3.head Try.underlying32 rfl size32) rfl ⟨rfl, HM3.below⟩
end Go.Proofs.Ytbcfphoheijmdaa.Print
end

section
/- Rows of rows that a call makes itself: each inner row with blocks of its own, the outer row's block known whole. -/
namespace Go.Proofs.Ytbcfphoheijmdaa.H
open Go.RowKit Go.Proofs.YtbcfphoheijmdaaW.PrintWords Go.Proofs.YtbcfphoheijmdaaW.PrintLast Go.Proofs.YtbcfphoheijmdaaW.PrintMore
set_option linter.unusedVariables false
set_option linter.unusedSimpArgs false

/-- The rows xs (elements of type e, told by d) are held by the values vs; row j's blocks are those k with f k = j; none is go. -/
def RowsAt {α : Type} (d : Kd α) (e : Nat) (W : World) (base go : Nat) (f : Nat → Nat) (vs : List Value) (xs : List (List α)) : Prop :=
  vs.length = xs.length ∧ ∀ j, j < xs.length → d.R e W base (fun k => f k = j ∧ k ≠ go) (vs.getD j undef) (xs.getD j [])
namespace RowsAt
variable {α : Type} {d : Kd α} {e E2 : Nat} {W W1 : World} {base go : Nat} {f g : Nat → Nat} {vs : List Value} {xs : List (List α)}
theorem start (d : Kd α) (e : Nat) (W : World) (base go n : Nat) (f : Nat → Nat) : RowsAt d e W base go f (List.replicate n (.slice none 0 0)) (List.replicate n []) := by
  refine ⟨by simp, fun j hj => ?_⟩
  rw [List.length_replicate] at hj
  have h1 : (List.replicate n (Value.slice none 0 0)).getD j undef = .slice none 0 0 := by simp [List.getD_eq_getElem?_getD, hj]
  have h2 : (List.replicate n ([] : List α)).getD j [] = [] := by simp [List.getD_eq_getElem?_getD, hj]
  rw [h1, h2]
  exact Kd.R_nil _ _ _ _ _
theorem below (h : RowsAt d e W base go f vs xs) (hb : Below W.heap.size W W1) : RowsAt d e W1 base go f vs xs :=
  ⟨h.1, fun j hj => Kd.R_below (h.2 j hj) hb⟩
/-- Blocks that are not there yet may be given to whom one likes. -/
theorem owner (h : RowsAt d e W base go f vs xs) (hg : ∀ k, k < W.heap.size → g k = f k) : RowsAt d e W base go g vs xs :=
  ⟨h.1, fun j hj => Kd.R_mono (Kd.R_bound (h.2 j hj)) (fun k hk => ⟨by rw [hg k hk.2.2.1]; exact hk.1.1, hk.1.2⟩)⟩
/-- A cell of the outer row's block has been written. -/
theorem far (h : RowsAt d e W base go f vs xs) (i : Nat) (u : Value) : RowsAt d e (W.setCell ⟨go, i, none⟩ u) base go f vs xs :=
  ⟨h.1, fun j hj => Kd.R_far (p := ⟨go, i, none⟩) (h.2 j hj) (fun k hk => hk.2) u⟩
/-- Row a has been written (appended to): the others stand. -/
theorem put {a : Nat} {v v1 : Value} {x1 : List α} (h : RowsAt d e W base go f vs xs) (ha : a < xs.length) (hv : vs.getD a undef = v) (hg : W.grownBy W1 v.ownBlock)
    (h1 : d.R e W1 base (fun k => f k = a ∧ k ≠ go) v1 x1) : RowsAt d e W1 base go f (vs.set a v1) (xs.set a x1) := by
  refine ⟨by simp [h.1], fun j hj => ?_⟩
  rw [List.length_set] at hj
  by_cases q : j = a
  · subst q
    have e1 : (vs.set j v1).getD j undef = v1 := by simp [List.getD_eq_getElem?_getD, h.1, hj]
    have e2 : (xs.set j x1).getD j [] = x1 := by simp [List.getD_eq_getElem?_getD, hj]
    rw [e1, e2]
    exact h1
  · have e1 : (vs.set a v1).getD j undef = vs.getD j undef := by simp [List.getD_eq_getElem?_getD, List.getElem?_set, Ne.symm q]
    have e2 : (xs.set a x1).getD j [] = xs.getD j [] := by simp [List.getD_eq_getElem?_getD, List.getElem?_set, Ne.symm q]
    rw [e1, e2]
    refine Kd.R_grown (h.2 j hj) hg (fun k hk he => ?_)
    have := ((h.2 a ha).1 k (by rw [hv]; exact he.symm)).1
    exact q (hk.1.symm.trans this)
/-- The whole, as the print tells it. -/
theorem whole (h : RowsAt d e W base go f vs xs) (hb : W.heap[go]? = some (.cells vs.toArray E2 (0, 0))) (hgo : base ≤ go) (hn : xs.length ≤ maxLen) :
    Kd.S (Kd.slice e d) E2 W base (fun _ => True) (.slice (some ⟨go, 0, none⟩) xs.length xs.length) xs := by
  refine ⟨f, fun _ _ => trivial, vs, ?_, ?_⟩
  · refine ⟨by rw [List.length_zipIdx]; show _ = _ * 1; rw [h.1]; omega, .inr ⟨go, xs.length, vs.toArray, by rw [List.length_zipIdx], hgo, hb, by rw [List.length_zipIdx]; exact Nat.le_refl _, hn, ?_, ?_⟩⟩
    · show vs.toArray.size = xs.length * 1
      simp [h.1]
    · rw [List.length_zipIdx]
      show vs.toArray.toList.take (xs.length * 1) = vs
      rw [Nat.mul_one, ← h.1]
      simp
  · refine ⟨by rw [List.length_zipIdx]; show _ = _ * 1; rw [h.1]; omega, fun j p hj => ?_⟩
    rw [List.getElem?_zipIdx, Nat.zero_add] at hj
    obtain ⟨x, hx, rfl⟩ := Option.map_eq_some_iff.1 hj
    have hjl : j < xs.length := (List.getElem?_eq_some_iff.1 hx).1
    have hR := h.2 j hjl
    have e2 : xs.getD j [] = x := by rw [List.getD_eq_getElem?_getD, hx]; rfl
    rw [e2] at hR
    refine ⟨vs.getD j undef, ?_, Kd.R_mono hR (fun k hk => ⟨⟨trivial, fun he => hk.2 (by simpa [Value.ownBlock] using he)⟩, hk.1⟩)⟩
    show (vs.drop (j * 1)).take 1 = _
    rw [Nat.mul_one]
    have hv : j < vs.length := by rw [h.1]; exact hjl
    rw [List.drop_eq_getElem_cons hv, List.take_succ_cons, List.take_zero, List.getD_eq_getElem?_getD, List.getElem?_eq_getElem hv]
    rfl
end RowsAt
end Go.Proofs.Ytbcfphoheijmdaa.H
namespace Go.Proofs.Ytbcfphoheijmdaa.H
open Go.RowKit Go.Proofs.YtbcfphoheijmdaaW.PrintWords Go.Proofs.YtbcfphoheijmdaaW.PrintLast Go.Proofs.YtbcfphoheijmdaaW.PrintMore
theorem Mem.grownR {w W W1 : World} {l : List (Nat × Array Value × TypeId)} {α : Type} {d : Kd α} {e : Nat} {ok : Nat → Prop} {v : Value} {xs : List α} (h : Mem w W l) (hR : d.R e W w.heap.size ok v xs) (hg : W.grownBy W1 v.ownBlock) (ht : ∀ p, p ∈ l → e ≠ p.2.2) : Mem w W1 l :=
  h.grown hg (Kd.R_base hR) (fun p hp => Kd.R_ne hR (h.blk p hp) (ht p hp))
theorem made_one (z : Value) (hz : z.cells = #[z]) : ∀ n, (madeCells z.cells (n * 1)).toList = List.replicate n z := by
  intro n
  rw [hz, Nat.mul_one]
  exact toList_madeCells_one z n
section
variable {P : Program} {ops : Array Oper} {rest : List Oper} {o : Oper} {a : Act} {Q : Exit → Act → World → Prop} {w W : World} {l : List (Nat × Array Value × TypeId)}
/-- make([]T, n), T of one cell: a block of n zeros. -/
theorem ev_make (hm : Mem w W l) (hgd : o.guard = none) (t : TypeId) (x : Operand) (ho : o.op = .makeSlice t x x) (n : Nat) (hx : a.eval x = .int .i64 (n : Int)) (e : TypeId) (z : Value) (bytes : Nat)
    (ht : P.underlying t = some (.slice e)) (hi : (P.info? e).map (fun i => (i.zero, i.size, i.bytes)) = some (some z, 1, bytes)) (hz : z.cells = #[z]) (hb : bytes * n ≤ 281474976710656) (hn : n ≤ maxLen)
    (h : ∀ g W1, Mem w W1 ((g, (List.replicate n z).toArray, e) :: l) → Below W.heap.size W W1 → wpList P ops Q rest (a.put o.dst (.slice (some ⟨g, 0, none⟩) n n)) W1) : wpList P ops Q (o :: rest) a W := by
  obtain ⟨i, hi1, hi2, hi3, hi4⟩ := info_parts hi
  refine wpList_make_full W hgd x x t ho W.heap.size e i z 1 ht hi1 hi2 hi3 .i64 .i64 _ _ n hx hx rfl rfl (by rw [hi4]; exact hb) hn (Nat.le_refl _) ?_
  intro W1 hown hg
  have hbl : Below W.heap.size W W1 := ⟨hg.os, hg.tape, hg.output, hg.size, fun i hi => hg.block i hi (by simp)⟩
  rcases hown.2 with ⟨h1, _⟩ | ⟨g, cap, cur, h1, h2, h3, h4, h5, h6, h7⟩
  · cases h1
  · injection h1 with ha hn' hc
    injection ha with ha
    injection ha with ha
    subst ha
    subst hc
    rw [made_one z hz] at h7
    have hcur : cur = (List.replicate n z).toArray := by
      rw [← h7, List.take_of_length_le (by simp [h6])]
    rw [hcur] at h3
    exact h _ W1 (hm.new rfl h3 hbl) hbl
end
end Go.Proofs.Ytbcfphoheijmdaa.H
end

section
/- A region that draws its order and ends in stores: a load may be taken first although a store at the end writes its cell, since every such store waits for the load. By the pattern of the kit's laws on held regions. -/
namespace Go.Proofs.Ytbcfphoheijmdaa.H
open Go
set_option linter.unusedVariables false
section
variable {P : Program} {ops : Array Oper} {Q : Exit → Act → World → Prop} {md : Region.Mode} {S : World → Prop} {T : Nat → Bool}

/-- Whatever order is picked: S holds behind every operation that is carried out before the first one of T. -/
def wpAnyT (P : Program) (md : Region.Mode) (ops : Array Oper) (Q : Exit → Act → World → Prop) (S : World → Prop) (T : Nat → Bool) : Nat → Array Bool → Act → World → Prop
  | 0, listed, a, w => Region.ready md ops listed = [] ∧ Q .normal a w
  | fuel + 1, listed, a, w =>
    (Region.ready md ops listed = [] → Q .normal a w) ∧
    ∀ i ∈ Region.ready md ops listed,
      (T i = true → wpOp P ops Q i (fun a' w' => wpAny P md ops Q fuel (listed.setIfInBounds i true) a' w') a w) ∧
      (T i = false → wpOp P ops Q i (fun a' w' => S w' ∧ wpAnyT P md ops Q S T fuel (listed.setIfInBounds i true) a' w') a w)
theorem wpAny_of_T : ∀ (fuel : Nat) (listed : Array Bool) (a : Act) (w : World), wpAnyT P md ops Q S T fuel listed a w → wpAny P md ops Q fuel listed a w
  | 0, _, _, _, h => h
  | fuel + 1, listed, a, w, h => ⟨h.1, fun i hi => by
    cases ht : T i with
    | true => exact (h.2 i hi).1 ht
    | false => exact wpOp_mono (fun a' w' h' => wpAny_of_T fuel _ a' w' h'.2) ((h.2 i hi).2 ht)⟩
theorem wpAnyT_first {i : Nat} {oi : Oper} {v : Value} (hi : ops[i]? = some oi) (hTi : T i = false) (hsel : ∀ (j : Nat) (o : Oper) cs b, ops[j]? = some o → o.op ≠ .select cs b)
    (hQ : ∀ c a w, Q (.panic c) (a.put oi.dst v) w → Q (.panic c) a w) :
    ∀ (fuel : Nat) (listed : Array Bool) (a : Act) (w : World),
      (∀ j oj, ops[j]? = some oj → j ≠ i → listed.getD j true = false → (∀ e ∈ oj.after, Region.binds md e = true → e.on ≠ i) → oi.apart ops oj = true) →
      (∀ j oj, T j = true → ops[j]? = some oj → ∃ e, e ∈ oj.after ∧ Region.binds md e = true ∧ (e.on = i ∨ (listed.getD e.on true = false ∧ ∃ ou, ops[e.on]? = some ou ∧ ∃ e2, e2 ∈ ou.after ∧ Region.binds md e2 = true ∧ e2.on = i))) →
      i ∈ Region.ready md ops listed → YieldsIf P ops S oi v a → S w →
      wpAnyT P md ops Q S T fuel (listed.setIfInBounds i true) (a.put oi.dst v) w → wpAnyT P md ops Q S T (fuel + 1) listed a w := by
  intro fuel
  induction fuel with
  | zero =>
    intro listed a w _ _ hr hy hS H
    refine ⟨fun h => (by rw [h] at hr; cases hr), fun j hj => ?_⟩
    by_cases hji : j = i
    · subst hji; exact ⟨fun q => absurd (hTi.symm.trans q) (by decide), fun _ => hy.wpOp hi hS ⟨hS, H⟩⟩
    · have := ready_mono hj hji
      rw [H.1] at this
      cases this
  | succ fuel ih =>
    intro listed a w hfree hT hr hy hS H
    refine ⟨fun h => (by rw [h] at hr; cases hr), fun j hj => ?_⟩
    by_cases hji : j = i
    · subst hji; exact ⟨fun q => absurd (hTi.symm.trans q) (by decide), fun _ => hy.wpOp hi hS ⟨hS, H⟩⟩
    · obtain ⟨hjun, oj, hoj, hall⟩ := mem_ready.1 hj
      have hnot : ∀ e ∈ oj.after, Region.binds md e = true → e.on ≠ i := fun e he hb heq => by
        have h1 := hall e he hb
        have h0 := (mem_ready.1 hr).1
        rw [heq] at h1
        rcases Nat.lt_or_ge i listed.size with h' | h'
        · simp [h'] at h0 h1; rw [h0] at h1; cases h1
        · simp [Array.getElem?_eq_none h'] at h1
      have hTj : T j = false := by
        cases q : T j with
        | false => rfl
        | true =>
          obtain ⟨e, he, hb, hon | ⟨hu, _⟩⟩ := hT j oj q hoj
          · exact absurd hon (hnot e he hb)
          · have h1 := hall e he hb
            rcases Nat.lt_or_ge e.on listed.size with h' | h'
            · simp [h'] at hu h1; rw [hu] at h1; cases h1
            · simp [Array.getElem?_eq_none h'] at hu
      refine ⟨fun q => absurd (hTj.symm.trans q) (by decide), fun _ => ?_⟩
      have h1 := (H.2 j (ready_mono hj hji)).2 hTj
      have h2 := wpOp_putIf hoj (hfree j oj hoj hji hjun hnot) (fun cs b => hsel i oi cs b hi) (fun cs b => hsel j oj cs b hoj) hQ hy h1
      have hfree' : ∀ k ok, ops[k]? = some ok → k ≠ i → (listed.setIfInBounds j true).getD k true = false →
          (∀ e ∈ ok.after, Region.binds md e = true → e.on ≠ i) → oi.apart ops ok = true := fun k ok hk hki hun hno => by
        refine hfree k ok hk hki ?_ hno
        by_cases hjk : j = k
        · subst hjk; exact hjun
        · rw [Go.getD_set_ne true hjk] at hun; exact hun
      have hT' : ∀ k ok, T k = true → ops[k]? = some ok → ∃ e, e ∈ ok.after ∧ Region.binds md e = true ∧ (e.on = i ∨ ((listed.setIfInBounds j true).getD e.on true = false ∧ ∃ ou, ops[e.on]? = some ou ∧ ∃ e2, e2 ∈ ou.after ∧ Region.binds md e2 = true ∧ e2.on = i)) := fun k ok hk ho => by
        obtain ⟨e, he, hb, hon | ⟨hu, ou, hou, e2, he2, hb2, hon2⟩⟩ := hT k ok hk ho
        · exact ⟨e, he, hb, .inl hon⟩
        · refine ⟨e, he, hb, .inr ⟨?_, ou, hou, e2, he2, hb2, hon2⟩⟩
          by_cases hje : j = e.on
          · subst hje
            rw [hou] at hoj
            cases hoj
            exact absurd hon2 (hnot e2 he2 hb2)
          · rw [Go.getD_set_ne true hje]; exact hu
      refine wpOp_mono (fun a' w' h3 => ⟨h3.2.1, ih (listed.setIfInBounds j true) a' w' hfree' hT' (ready_mono hr (Ne.symm hji)) h3.1 h3.2.1 ?_⟩) h2
      rw [Array.setIfInBounds_comm _ _ hji]
      exact h3.2.2
theorem yields_of {o : Oper} {v : Value} {a : Act} (h : YieldsIf P ops (fun _ => True) o v a) : Yields P ops o v a :=
  h.imp (fun ⟨hw, hv⟩ => ⟨hw, fun w => hv w trivial⟩) id
/-- What yields in whatever world may be taken first, whoever waits for it. -/
theorem wpAnyT_firstY {i : Nat} {oi : Oper} {v : Value} (hi : ops[i]? = some oi) (hTi : T i = false) (hsel : ∀ (j : Nat) (o : Oper) cs b, ops[j]? = some o → o.op ≠ .select cs b)
    (hQ : ∀ c a w, Q (.panic c) (a.put oi.dst v) w → Q (.panic c) a w) :
    ∀ (fuel : Nat) (listed : Array Bool) (a : Act) (w : World),
      (∀ j oj, ops[j]? = some oj → j ≠ i → listed.getD j true = false → (∀ e ∈ oj.after, Region.binds md e = true → e.on ≠ i) → oi.apart ops oj = true) →
      i ∈ Region.ready md ops listed → YieldsIf P ops (fun _ => True) oi v a → S w →
      wpAnyT P md ops Q S T fuel (listed.setIfInBounds i true) (a.put oi.dst v) w → wpAnyT P md ops Q S T (fuel + 1) listed a w := by
  intro fuel
  induction fuel with
  | zero =>
    intro listed a w _ hr hy hS H
    refine ⟨fun h => (by rw [h] at hr; cases hr), fun j hj => ?_⟩
    by_cases hji : j = i
    · subst hji; exact ⟨fun q => absurd (hTi.symm.trans q) (by decide), fun _ => hy.wpOp hi trivial ⟨hS, H⟩⟩
    · have := ready_mono hj hji
      rw [H.1] at this
      cases this
  | succ fuel ih =>
    intro listed a w hfree hr hy hS H
    refine ⟨fun h => (by rw [h] at hr; cases hr), fun j hj => ?_⟩
    by_cases hji : j = i
    · subst hji; exact ⟨fun q => absurd (hTi.symm.trans q) (by decide), fun _ => hy.wpOp hi trivial ⟨hS, H⟩⟩
    · obtain ⟨hjun, oj, hoj, hall⟩ := mem_ready.1 hj
      have hnot : ∀ e ∈ oj.after, Region.binds md e = true → e.on ≠ i := fun e he hb heq => by
        have h1 := hall e he hb
        have h0 := (mem_ready.1 hr).1
        rw [heq] at h1
        rcases Nat.lt_or_ge i listed.size with h' | h'
        · simp [h'] at h0 h1; rw [h0] at h1; cases h1
        · simp [Array.getElem?_eq_none h'] at h1
      have hfree' : ∀ k ok, ops[k]? = some ok → k ≠ i → (listed.setIfInBounds j true).getD k true = false →
          (∀ e ∈ ok.after, Region.binds md e = true → e.on ≠ i) → oi.apart ops ok = true := fun k ok hk hki hun hno => by
        refine hfree k ok hk hki ?_ hno
        by_cases hjk : j = k
        · subst hjk; exact hjun
        · rw [Go.getD_set_ne true hjk] at hun; exact hun
      refine ⟨fun hTj => ?_, fun hTj => ?_⟩
      · have h1 := (H.2 j (ready_mono hj hji)).1 hTj
        have h2 := wpOp_putIf hoj (hfree j oj hoj hji hjun hnot) (fun cs b => hsel i oi cs b hi) (fun cs b => hsel j oj cs b hoj) hQ hy h1
        refine wpOp_mono (fun a' w' h3 => wpAny_first hi hsel hQ fuel (listed.setIfInBounds j true) a' w' hfree' (ready_mono hr (Ne.symm hji)) (yields_of h3.1) ?_) h2
        rw [Array.setIfInBounds_comm _ _ hji]
        exact h3.2
      · have h1 := (H.2 j (ready_mono hj hji)).2 hTj
        have h2 := wpOp_putIf hoj (hfree j oj hoj hji hjun hnot) (fun cs b => hsel i oi cs b hi) (fun cs b => hsel j oj cs b hoj) hQ hy h1
        refine wpOp_mono (fun a' w' h3 => ⟨h3.2.1, ih (listed.setIfInBounds j true) a' w' hfree' (ready_mono hr (Ne.symm hji)) h3.1 h3.2.1 ?_⟩) h2
        rw [Array.setIfInBounds_comm _ _ hji]
        exact h3.2.2
/-- Do all of T wait for number i, or for one that has not come up and waits for it? -/
def waitsFor (md : Region.Mode) (ops : Array Oper) (ts : List Nat) (listed : Array Bool) (i : Nat) : Bool :=
  ts.all fun j => match ops[j]? with
    | some oj => oj.after.any fun e => Region.binds md e && (e.on == i || (!(listed.getD e.on true) && match ops[e.on]? with | some ou => ou.after.any fun e2 => Region.binds md e2 && e2.on == i | none => false))
    | none => true
theorem waitsFor_spec {ts : List Nat} {listed : Array Bool} {i : Nat} (h : waitsFor md ops ts listed i = true) : ∀ j oj, ts.contains j = true → ops[j]? = some oj → ∃ e, e ∈ oj.after ∧ Region.binds md e = true ∧ (e.on = i ∨ (listed.getD e.on true = false ∧ ∃ ou, ops[e.on]? = some ou ∧ ∃ e2, e2 ∈ ou.after ∧ Region.binds md e2 = true ∧ e2.on = i)) := by
  intro j oj hj ho
  unfold waitsFor at h
  rw [List.all_eq_true] at h
  have := h j (by simpa using hj)
  rw [ho] at this
  simp only [Array.any_eq_true] at this
  obtain ⟨k, hk, hb⟩ := this
  rw [Bool.and_eq_true, Bool.or_eq_true] at hb
  refine ⟨_, Array.getElem_mem hk, hb.1, ?_⟩
  rcases hb.2 with q | q
  · exact .inl (by simpa using q)
  · rw [Bool.and_eq_true] at q
    refine .inr ⟨by simpa using q.1, ?_⟩
    have q2 := q.2
    cases hu : ops[(oj.after[k]).on]? with
    | none => rw [hu] at q2; cases q2
    | some ou =>
      rw [hu] at q2
      simp only [Array.any_eq_true] at q2
      obtain ⟨m, hm, hc⟩ := q2
      rw [Bool.and_eq_true] at hc
      exact ⟨ou, rfl, _, Array.getElem_mem hm, hc.1, by simpa using hc.2⟩
theorem wpAnyT_take {i : Nat} {oi : Oper} {v : Value} {fuel : Nat} {ts : List Nat} {listed : Array Bool} {a : Act} {w : World} (hi : ops[i]? = some oi) (hTi : ts.contains i = false)
    (hs : Region.noSelect ops = true) (hf : Region.free md ops listed i = true) (hr : (Region.ready md ops listed).contains i = true) (hT : waitsFor md ops ts listed i = true)
    (hQ : ∀ c a w, Q (.panic c) (a.put oi.dst v) w → Q (.panic c) a w) (hy : YieldsIf P ops S oi v a) (hS : S w)
    (h : wpAnyT P md ops Q S ts.contains fuel (listed.setIfInBounds i true) (a.put oi.dst v) w) : wpAnyT P md ops Q S ts.contains (fuel + 1) listed a w :=
  wpAnyT_first hi hTi (Region.noSelect_spec hs) hQ fuel listed a w (Region.free_spec hi hf) (waitsFor_spec hT) (by simpa using hr) hy hS h
theorem wpAnyT_takeY {i : Nat} {oi : Oper} {v : Value} {fuel : Nat} {ts : List Nat} {listed : Array Bool} {a : Act} {w : World} (hi : ops[i]? = some oi) (hTi : ts.contains i = false)
    (hs : Region.noSelect ops = true) (hf : Region.free md ops listed i = true) (hr : (Region.ready md ops listed).contains i = true)
    (hQ : ∀ c a w, Q (.panic c) (a.put oi.dst v) w → Q (.panic c) a w) (hy : YieldsIf P ops (fun _ => True) oi v a) (hS : S w)
    (h : wpAnyT P md ops Q S ts.contains fuel (listed.setIfInBounds i true) (a.put oi.dst v) w) : wpAnyT P md ops Q S ts.contains (fuel + 1) listed a w :=
  wpAnyT_firstY hi hTi (Region.noSelect_spec hs) hQ fuel listed a w (Region.free_spec hi hf) (by simpa using hr) hy hS h
/-- Each of the operations that may come up comes up. -/
def AllT (P : Program) (md : Region.Mode) (ops : Array Oper) (Q : Exit → Act → World → Prop) (S : World → Prop) (T : Nat → Bool) (fuel : Nat) (listed : Array Bool) (a : Act) (w : World) (rs : List Nat) : Prop :=
  ∀ i ∈ rs, (T i = true → wpOp P ops Q i (fun a' w' => wpAny P md ops Q fuel (listed.setIfInBounds i true) a' w') a w) ∧
      (T i = false → wpOp P ops Q i (fun a' w' => S w' ∧ wpAnyT P md ops Q S T fuel (listed.setIfInBounds i true) a' w') a w)
theorem AllT.nil {fuel : Nat} {listed : Array Bool} {a : Act} {w : World} : AllT P md ops Q S T fuel listed a w [] := fun _ h => by cases h
theorem wpAnyT_ready {rs : List Nat} {fuel : Nat} {listed : Array Bool} {a : Act} {w : World} (hr : Region.ready md ops listed = rs) (hne : rs ≠ [])
    (h : AllT P md ops Q S T fuel listed a w rs) : wpAnyT P md ops Q S T (fuel + 1) listed a w := ⟨fun h0 => absurd (hr ▸ h0) hne, hr ▸ h⟩
theorem AllT.cons {fuel : Nat} {listed : Array Bool} {a : Act} {w : World} {i : Nat} {o : Oper} {rs : List Nat} (ho : ops[i]? = some o) (hTi : T i = false)
    (h : ∀ K' : Act → World → Prop, Shut (∀ a w, S w → (S w → wpAnyT P md ops Q S T fuel (listed.setIfInBounds i true) a w) → K' a w) → if Region.wanted o (yielded ops a.tmps) = true then Oper.wp P o a w K' Q else K' (a.put o.dst undef) w)
    (hs : AllT P md ops Q S T fuel listed a w rs) : AllT P md ops Q S T fuel listed a w (i :: rs) := fun j hj => by
  rcases List.mem_cons.1 hj with rfl | hj
  · exact ⟨fun q => absurd (hTi.symm.trans q) (by decide), fun _ => wpOp_step ho (fun K' hK => h K' (fun a w hS hW => hK a w ⟨hS, hW hS⟩))⟩
  · exact hs j hj
theorem AllT.last {fuel : Nat} {listed : Array Bool} {a : Act} {w : World} {i : Nat} {o : Oper} {rs : List Nat} (ho : ops[i]? = some o) (hTi : T i = true)
    (h : ∀ K' : Act → World → Prop, Shut (∀ a w, wpAny P md ops Q fuel (listed.setIfInBounds i true) a w → K' a w) → if Region.wanted o (yielded ops a.tmps) = true then Oper.wp P o a w K' Q else K' (a.put o.dst undef) w)
    (hs : AllT P md ops Q S T fuel listed a w rs) : AllT P md ops Q S T fuel listed a w (i :: rs) := fun j hj => by
  rcases List.mem_cons.1 hj with rfl | hj
  · exact ⟨fun _ => wpOp_step ho (fun K' hK => h K' (fun a w hW => hK a w hW)), fun q => absurd (hTi.symm.trans q) (by decide)⟩
  · exact hs j hj
theorem wp_region_T (ts : List Nat) {id : Nat} {a : Act} {w : World} (hm : P.follows .mixedOrders = true) (hS : S w.drew)
    (h : S w.drew → wpAnyT P .any ops Q S ts.contains ops.size (Array.replicate ops.size false) a w.drew) : (Code.region id ops true).wp P Q a w :=
  wp_region_any hm (wpAny_of_T _ _ _ _ (h hS))
end
end Go.Proofs.Ytbcfphoheijmdaa.H
end

section
/- Tight: the tight ranges of a chain, and that the Go function's call gives them. -/
namespace Go.Proofs.Ytbcfphoheijmdaa.Print
open Go.RowKit Go.Proofs.YtbcfphoheijmdaaW.PrintWords Go.Proofs.YtbcfphoheijmdaaW.PrintLast Go.Proofs.YtbcfphoheijmdaaW.PrintMore Go.Proofs.Ytbcfphoheijmdaa.H
attribute [local go_sem] max2_int min2_int max_two min_two max_three min_three max_four min_four
attribute [local go_sem ↓] Go.wp_at_zero Go.wp_at_succ
set_option linter.unusedVariables false
set_option linter.unusedSimpArgs false

/-- The tight ranges as rows. -/
def rowsOf (n : Nat) (T : List Int) : List (List S32) := (List.range n).map (fun a => (List.range n).map (fun b => spanOf T a b))
def tightRes (P : Int) (L : List S35) : List (List S32) × Int := if (tightOf P L).2 = 0 then (rowsOf P.toNat (tightOf P L).1, 0) else ([], (tightOf P L).2)
def mount_Tight.f (a0_0 : Int) (l0_1 : List (S35)) : Option ((List (List (S32))) × Int) := some (tightRes a0_0 l0_1)

theorem floyd_small {n : Nat} : ∀ (k m : Nat) (T : List Int), m + k ≤ 24 → Small (bnd m) T → T.length = 576 → Small (bnd 24) (floyd n k m T).1 ∧ (floyd n k m T).1.length = 576
  | 0, m, T, h, hs, hl => ⟨hs.mono (by
      have : ∀ j, m + j ≤ 24 → bnd m ≤ bnd (m + j) := by
        intro j
        induction j with
        | zero => intro _; exact Int.le_refl _
        | succ j ih => intro hj; have := ih (by omega); have e := bnd_succ (m + j); have := bnd_le (m + j) (by omega); rw [← Nat.add_assoc, e]; omega
      have := this (24 - m) (by omega)
      rwa [show m + (24 - m) = 24 by omega] at this), hl⟩
  | k + 1, m, T, h, hs, hl => by
    have hb := bnd_le m (by omega)
    have h1 : Small (bnd (m + 1)) (overTab T m n) := by rw [bnd_succ]; exact hs.over hb.1
    rw [floyd]
    split
    · exact floyd_small (n := n) 0 (m + 1) _ (by omega) h1 (overTab_length _ _ _)
    · exact floyd_small k (m + 1) _ (by omega) h1 (overTab_length _ _ _)
theorem tightOf_small {P : Int} {L : List S35} (h : (tightOf P L).2 = 0) : chainErr P L = 0 ∧ (tightOf P L).1.length = 576 ∧ Small (bnd 24) (tightOf P L).1 := by
  unfold tightOf at h ⊢
  split at h
  · rename_i hc
    rw [if_pos hc]
    have hok := chainErr_ok hc
    have := floyd_small (n := P.toNat) P.toNat 0 (initTab L) (by omega) (Small.init L hok.2.2.2) (initTab_length L)
    exact ⟨hc, this.2, this.1⟩
  · rename_i hc
    exact absurd h hc

/-- The rows on the way: those before a whole, of row a the first b ranges. -/
def rowsTo (n : Nat) (T : List Int) (a b : Nat) : List (List S32) := (List.range n).map (fun j => if j < a then (List.range n).map (fun b => spanOf T j b) else if j = a then (List.range b).map (fun b => spanOf T j b) else [])
theorem rowsTo_length (n : Nat) (T : List Int) (a b : Nat) : (rowsTo n T a b).length = n := by simp [rowsTo]
theorem rowsTo_start (n : Nat) (T : List Int) : rowsTo n T 0 0 = List.replicate n [] := by
  apply List.ext_getElem
  · simp [rowsTo]
  · intro i h1 h2
    simp [rowsTo]
theorem rowsTo_get (n : Nat) (T : List Int) (a b : Nat) (ha : a < n) : (rowsTo n T a b).getD a [] = (List.range b).map (fun b => spanOf T a b) := by
  simp [rowsTo, List.getD_eq_getElem?_getD, ha]
theorem rowsTo_next (n : Nat) (T : List Int) (a b : Nat) (hb : b = n) : rowsTo n T a b = rowsTo n T (a + 1) 0 := by
  subst hb
  apply List.ext_getElem
  · simp [rowsTo]
  · intro i h1 h2
    simp only [rowsTo, List.getElem_map, List.getElem_range]
    by_cases q : i < a
    · rw [if_pos q, if_pos (by omega)]
    · by_cases q2 : i = a
      · rw [if_neg q, if_pos q2, if_pos (by omega)]
      · rw [if_neg q, if_neg q2, if_neg (by omega)]
        by_cases q3 : i = a + 1
        · rw [if_pos q3]; rfl
        · rw [if_neg q3]
theorem rowsTo_done (n : Nat) (T : List Int) (a b : Nat) (ha : n ≤ a) : rowsTo n T a b = rowsOf n T := by
  apply List.ext_getElem
  · simp [rowsTo, rowsOf]
  · intro i h1 h2
    have hi : i < n := by simpa [rowsTo] using h1
    simp only [rowsTo, rowsOf, List.getElem_map, List.getElem_range]
    rw [if_pos (by omega)]
theorem rowsTo_set (n : Nat) (T : List Int) (a b : Nat) : (rowsTo n T a b).set a ((List.range b).map (fun b => spanOf T a b) ++ [spanOf T a b]) = rowsTo n T a (b + 1) := by
  apply List.ext_getElem
  · simp [rowsTo]
  · intro i h1 h2
    rw [List.getElem_set]
    simp only [rowsTo, List.getElem_map, List.getElem_range]
    by_cases q : a = i
    · subst q
      rw [if_pos rfl, if_neg (by omega), if_pos rfl, List.range_succ, List.map_append]
      rfl
    · rw [if_neg q]
      by_cases q2 : i < a
      · rw [if_pos q2, if_pos q2]
      · rw [if_neg q2, if_neg q2, if_neg (by omega), if_neg (by omega)]
theorem rangeAt_blk {W : World} {g : Nat} {T : List Value} {t : TypeId} (h : W.heap[g]? = some (.cells T.toArray t (0, 0))) : W.rangeAt g 0 T := fun j v hv => by
  rw [Nat.zero_add, blk_cell h j, List.getElem?_toArray]
  exact hv
set_option maxHeartbeats 3200000 in
set_option maxRecDepth 100000 in
theorem mount_Tight.calls (a0_0 : Int) (A0_1 : Option Addr) (c0_1 : Nat) (l0_1 : List (S35)) (r1 : List (List (S32))) (r2 : Int) (w : World) (hr0_1 : Kd.C k35 w A0_1 l0_1.length l0_1) (hc0_1 : l0_1.length ≤ c0_1) (h : mount_Tight.f a0_0 l0_1 = some (r1, r2)) :
    Calls Try.prog 24 #[.agg #[.int .i64 a0_0, .slice A0_1 l0_1.length c0_1]] w fun e w' => ∃ v0_ : Value, e = .returned (.tuple #[v0_, .int .i64 r2]) ∧ Kd.S (Kd.slice 32 k32) 45 w' w.heap.size (fun _ => True) v0_ r1 ∧ Below w.heap.size w w' := by
  have HF := Aside0.mk (Option.some.inj h)
  have HR := Aside0.mk hr0_1
  have HM := Aside0.mk (Mem.start w)
  clear h hr0_1
  have hu27 := Try.underlying27
  have HTC := Aside0.mk (fun W hW => tight_calls a0_0 A0_1 c0_1 l0_1 W hW hc0_1)
  have HLT : Aside0 ((tightOf a0_0 l0_1).1.length = 576) := ⟨by
    by_cases hc : chainErr a0_0 l0_1 = 0
    · unfold tightOf; rw [if_pos hc]; exact (floyd_small (n := a0_0.toNat) a0_0.toNat 0 (initTab l0_1) (by have := chainErr_ok hc; omega) (Small.init _ (chainErr_ok hc).2.2.2) (initTab_length _)).2
    · unfold tightOf; rw [if_neg hc]; simp⟩
  by_cases t1 : (tightOf a0_0 l0_1).2 = 0
  rotate_left
  · have HF2 : Aside0 (r1 = [] ∧ r2 = (tightOf a0_0 l0_1).2) := ⟨by have := HF.out; unfold tightRes at this; rw [if_neg t1] at this; exact ⟨(congrArg Prod.fst this).symm, (congrArg Prod.snd this).symm⟩⟩
    generalize (tightOf a0_0 l0_1).2 = E at t1 HTC HF2
    generalize (tightOf a0_0 l0_1).1 = T at HTC HLT
    have t2 : (E != 0) = true := by simpa using t1
    clear t1
    go_enter Try.func24, Try.ntmps24
    go_wp2_with (first
      | ((with_reducible refine gate_dst (N := 1) rfl ?_); refine ev_box HM.out rfl 27 (.tmp 0) rfl (cs := #[.int .i64 a0_0, .slice A0_1 l0_1.length c0_1]) rfl ?_; intro g1 w1 hm1 hq1; clear hq1; have HM1 := Aside0.mk hm1; clear hm1 HM)
      | ((with_reducible refine gate_dst (N := 10) rfl ?_); refine ev_load HM1.out.head rfl 27 (.tmp 1) rfl rfl _ Try.underlying27 rfl (n := 2) (by kernel_rfl) rfl ?_)
      | (go_at_call 89; refine (HTC.out _ (Kd.C_below HR.out HM1.out.below)).mono ?_; rintro e w' ⟨rfl, hd⟩; have HM2 := Aside0.mk (HM1.out.step hd); clear hd HM1)
      | ((with_reducible refine gate_dst (N := 4) rfl ?_); refine ev_new HM2.out rfl 125 rfl info125 ?_; intro g3 w3 hm3 hq1; clear hq1; have HM3 := Aside0.mk hm3; clear hm3 HM2)
      | (refine ev_store HM3.out rfl 125 (.tmp 4) (.tmp 12) rfl rfl rfl size125 (by simp) (size_nums HLT.out) (one_nums _) ?_; intro w5 hm5 hq1; clear hq1; have HM5 := Aside0.mk hm5; clear hm5 HM3))
    go_ret2
    exact ⟨.slice none 0 0, by rw [HF2.out.2]; rfl, by rw [HF2.out.1]; exact Kd.S_nil _ _ _ _ _, HM5.out.below⟩
  obtain ⟨hce, _, hsm⟩ := tightOf_small t1
  have HOK := Aside0.mk (chainErr_ok hce)
  have HF2 : Aside0 (r1 = rowsOf a0_0.toNat (tightOf a0_0 l0_1).1 ∧ r2 = 0) := ⟨by have := HF.out; unfold tightRes at this; rw [if_pos t1] at this; exact ⟨(congrArg Prod.fst this).symm, (congrArg Prod.snd this).symm⟩⟩
  rw [t1] at HTC
  have HBD := Aside0.mk (hsm.wide (bnd_le 24 (by omega)).2)
  clear t1 hce hsm HF
  generalize (tightOf a0_0 l0_1).1 = T at HTC HLT HF2 HBD
  obtain ⟨n, rfl⟩ : ∃ n : Nat, a0_0 = n := ⟨a0_0.toNat, by have := HOK.out; omega⟩
  have hn1 : 1 ≤ n := by have := HOK.out.1; omega
  have hn2 : n ≤ 24 := by have := HOK.out.2.1; omega
  clear HOK
  go_enter Try.func24, Try.ntmps24
  go_wp2_with (first
    | ((with_reducible refine gate_dst (N := 1) rfl ?_); refine ev_box HM.out rfl 27 (.tmp 0) rfl (cs := #[.int .i64 (n : Int), .slice A0_1 l0_1.length c0_1]) rfl ?_; intro g1 w1 hm1 hq1; clear hq1; have HM1 := Aside0.mk hm1; clear hm1 HM)
    | ((with_reducible refine gate_dst (N := 10) rfl ?_); refine ev_load HM1.out.head rfl 27 (.tmp 1) rfl rfl _ Try.underlying27 rfl (n := 2) (by kernel_rfl) rfl ?_)
    | (go_at_call 89; refine (HTC.out _ (Kd.C_below HR.out HM1.out.below)).mono ?_; rintro e w' ⟨rfl, hd⟩; have HM2 := Aside0.mk (HM1.out.step hd); clear hd HM1)
    | ((with_reducible refine gate_dst (N := 4) rfl ?_); refine ev_new HM2.out rfl 125 rfl info125 ?_; intro g3 w3 hm3 hq1; clear hq1; have HM3 := Aside0.mk hm3; clear hm3 HM2)
    | (refine ev_store HM3.out rfl 125 (.tmp 4) (.tmp 12) rfl rfl rfl size125 (by simp) (size_nums HLT.out) (one_nums _) ?_; intro w5 hm5 hq1; clear hq1; have HM5 := Aside0.mk hm5; clear hm5 HM3; have c0 : w5.cell? ⟨g1, 0, none⟩ = some (.int .i64 (n : Int)) := (blk_cell HM5.out.second 0).trans rfl)
    | ((with_reducible refine gate_dst (N := 19) rfl ?_); refine ev_make HM5.out rfl 36 (.tmp 18) rfl n rfl 45 (.slice none 0 0) 24 Try.underlying36 info45 rfl (by omega) (by unfold maxLen; omega) ?_; intro g6 w6 hm6 hq6; have HM6 := Aside0.mk hm6; clear hm6 HM5 hq6))
  have HRA : Aside0 (RowsAt k32 32 w6 w.heap.size g6 (fun _ => 0) (List.replicate n (.slice none 0 0)) (rowsTo n T 0 0)) := ⟨by rw [rowsTo_start]; exact RowsAt.start _ _ _ _ _ _ _⟩
  go_loopg [22] n (fun k v22 w' => ∃ (a : Nat) (f : Nat → Nat) (vs : List Value), v22 = .int .i64 a ∧ Aside0 (a + k = n) ∧ Aside0 (Mem w w' [(g6, vs.toArray, 45), (g3, (nums .i64 T).toArray, 125), (g1, #[.int .i64 (n : Int), .slice A0_1 l0_1.length c0_1], 27)]) ∧ Aside0 (RowsAt k32 32 w' w.heap.size g6 f vs (rowsTo n T a 0) ∧ ∀ k, w'.heap.size ≤ k → f k = a))
  case atStart => exact ⟨0, _, _, rfl, ⟨by omega⟩, HM6, ⟨HRA.out, fun _ _ => rfl⟩⟩
  case round =>
    clear HM6 HRA
    obtain ⟨a, f, vs, rfl, HK, HM, HRA⟩ := hrel
    by_cases ha : a < n
    · have d0 : wr.cell? ⟨g1, 0, none⟩ = some (.int .i64 (n : Int)) := (blk_cell HM.out.third 0).trans rfl
      go_wp2_with fail
      clear d0
      go_loopg [27] n (fun k v27 w' => ∃ (b : Nat) (f : Nat → Nat) (vs : List Value), v27 = .int .i64 b ∧ Aside0 (b + k = n) ∧ Aside0 (Mem w w' [(g6, vs.toArray, 45), (g3, (nums .i64 T).toArray, 125), (g1, #[.int .i64 (n : Int), .slice A0_1 l0_1.length c0_1], 27)]) ∧ Aside0 (RowsAt k32 32 w' w.heap.size g6 f vs (rowsTo n T a b) ∧ ∀ k, w'.heap.size ≤ k → f k = a))
      case atStart => exact ⟨0, f, vs, rfl, ⟨by omega⟩, HM, HRA⟩
      case round =>
        obtain ⟨b, f2, vs2, rfl, HK2, HN, HRB⟩ := hrel
        by_cases hb : b < n
        · have HRow := HRB.out.1.2 a (by rw [rowsTo_length]; exact ha)
          rw [rowsTo_get _ _ _ _ ha] at HRow
          have hvl : a < vs2.length := by rw [HRB.out.1.1, rowsTo_length]; exact ha
          have HVA := Aside0.mk (show vs2.toArray[a]? = some (vs2.getD a undef) by
            rw [List.getD_eq_getElem?_getD, List.getElem?_eq_getElem hvl]
            simp [hvl])
          have c1 : wr.cell? ⟨g6, a, none⟩ = some (vs2.getD a undef) := by rw [HN.out.cell]; exact HVA.out
          have f1 : wr.frozen? ⟨g6, a, none⟩ = false := HN.out.frozen _
          generalize hV : vs2.getD a undef = v at c1 HRow HVA
          have HV := Aside0.mk hV
          have HROW := Aside0.mk HRow
          clear hV HRow hvl
          have i1 : (0 : Int) ≤ (a : Int) := by omega
          have i2 : (a : Int) < (n : Int) := by omega
          have HSP := Aside0.mk (fun W => span_calls T a b HLT.out (by omega) (by omega) HBD.out W)
          go_wp2_with fail
          have hu125 := Try.underlying125
          have hi125 : (Try.prog.info? 125).map (·.size) = some (nums .i64 T).length := by rw [size125]; simp [nums, HLT.out]
          have hfr : ∀ k, wr.heap.size ≤ k → f2 k = a ∧ k ≠ g6 := fun k hk => ⟨HRB.out.2 k hk, by have := blk_lt HN.out.head; omega⟩
          have HFR := Aside0.mk hfr
          clear hfr
          have HLX := Aside0.mk (show ((List.range b).map (fun b => spanOf T a b)).length = b by simp)
          generalize hXS : (List.range b).map (fun b => spanOf T a b) = XS at HROW HLX
          have HXS := Aside0.mk hXS
          clear hXS
          refine wp_region_noPanic ?_
          refine H.wp_region_T [13] (S := fun w' => w'.cell? ⟨g6, a, none⟩ = some v ∧ w'.rangeAt g3 0 (nums .i64 T)) (by kernel_rfl) ⟨(HN.out.drew.cell a).trans HVA.out, rangeAt_blk HN.out.drew.second⟩ (fun hHeld => ?_)
          refine H.wpAnyT_takeY (i := 0) (v := .slice (some ⟨g6, 0, none⟩) n n) rfl (by decide) (by kernel_rfl) (by kernel_rfl) (by kernel_rfl) (fun _ _ _ h => h) (Or.inl ⟨by rfl, ?_⟩) hHeld ?_
          · (intro w_ hSw; go_simp; try rfl)
          try simp only [Act.put, List.setIfInBounds_toArray, List.set_cons_zero, List.set_cons_succ]
          refine H.wpAnyT_takeY (i := 1) (v := .int .i64 (a : Int)) rfl (by decide) (by kernel_rfl) (by kernel_rfl) (by kernel_rfl) (fun _ _ _ h => h) (Or.inl ⟨by rfl, ?_⟩) hHeld ?_
          · (intro w_ hSw; go_simp; try rfl)
          try simp only [Act.put, List.setIfInBounds_toArray, List.set_cons_zero, List.set_cons_succ]
          refine H.wpAnyT_takeY (i := 2) (v := .slice (some ⟨g6, 0, none⟩) n n) rfl (by decide) (by kernel_rfl) (by kernel_rfl) (by kernel_rfl) (fun _ _ _ h => h) (Or.inl ⟨by rfl, ?_⟩) hHeld ?_
          · (intro w_ hSw; go_simp; try rfl)
          try simp only [Act.put, List.setIfInBounds_toArray, List.set_cons_zero, List.set_cons_succ]
          refine H.wpAnyT_takeY (i := 3) (v := .int .i64 (a : Int)) rfl (by decide) (by kernel_rfl) (by kernel_rfl) (by kernel_rfl) (fun _ _ _ h => h) (Or.inl ⟨by rfl, ?_⟩) hHeld ?_
          · (intro w_ hSw; go_simp; try rfl)
          try simp only [Act.put, List.setIfInBounds_toArray, List.set_cons_zero, List.set_cons_succ]
          refine H.wpAnyT_takeY (i := 4) (v := .pointer (some ⟨g6, a, none⟩)) rfl (by decide) (by kernel_rfl) (by kernel_rfl) (by kernel_rfl) (fun _ _ _ h => h) (Or.inl ⟨by rfl, ?_⟩) hHeld ?_
          · (intro w_ hSw; go_simp; try rfl)
          try simp only [Act.put, List.setIfInBounds_toArray, List.set_cons_zero, List.set_cons_succ]
          refine H.wpAnyT_take (i := 5) (v := v) rfl (by decide) (by kernel_rfl) (by kernel_rfl) (by kernel_rfl) (by kernel_rfl) (fun _ _ _ h => h) (Or.inl ⟨by rfl, ?_⟩) hHeld ?_
          · (intro w_ hSw; (try dsimp only at hSw); obtain ⟨q1, q2⟩ := hSw; go_simp; try rfl)
          try simp only [Act.put, List.setIfInBounds_toArray, List.set_cons_zero, List.set_cons_succ]
          refine H.wpAnyT_take (i := 6) (v := .agg (nums .i64 T).toArray) rfl (by decide) (by kernel_rfl) (by kernel_rfl) (by kernel_rfl) (by kernel_rfl) (fun _ _ _ h => h) (yieldsIf_load_mid (by rfl) _ _ rfl _ _ rfl _ _ (fun w_ hSw => hSw.2) hu125 rfl hi125) hHeld ?_
          try simp only [Act.put, List.setIfInBounds_toArray, List.set_cons_zero, List.set_cons_succ]
          refine H.wpAnyT_takeY (i := 7) (v := .int .i64 (a : Int)) rfl (by decide) (by kernel_rfl) (by kernel_rfl) (by kernel_rfl) (fun _ _ _ h => h) (Or.inl ⟨by rfl, ?_⟩) hHeld ?_
          · (intro w_ hSw; go_simp; try rfl)
          try simp only [Act.put, List.setIfInBounds_toArray, List.set_cons_zero, List.set_cons_succ]
          refine H.wpAnyT_takeY (i := 8) (v := .int .i64 (b : Int)) rfl (by decide) (by kernel_rfl) (by kernel_rfl) (by kernel_rfl) (fun _ _ _ h => h) (Or.inl ⟨by rfl, ?_⟩) hHeld ?_
          · (intro w_ hSw; go_simp; try rfl)
          try simp only [Act.put, List.setIfInBounds_toArray, List.set_cons_zero, List.set_cons_succ]
          refine H.wpAnyT_ready (rs := [9]) (by kernel_rfl) (by simp) ?_
          refine H.AllT.cons (i := 9) rfl (by decide) (fun K hK => ?_) H.AllT.nil
          go_simp
          go_at_call 90
          refine (HSP.out _).mono ?_
          rintro e w7 ⟨rfl, hd7⟩
          have HM7 := Aside0.mk (HN.out.drew.step hd7)
          have HR7 := Aside0.mk (Kd.R_below (Kd.R_drew HROW.out) hd7)
          have HS7 := Aside0.mk hd7.size
          have HRB7 := Aside0.mk ((HRB.out.1.below (below_drew1 (Below.refl _ _))).below hd7)
          have c7 : w7.cell? ⟨g6, a, none⟩ = some v := (HM7.out.cell a).trans HVA.out
          have c7a : ∀ o, (w7.alloc o).cell? ⟨g6, a, none⟩ = some v := (fun o => ((HM7.out.alloc o).cell a).trans HVA.out)
          clear hd7
          refine hK.out _ _ (⟨c7, rangeAt_blk HM7.out.second⟩) (fun hHeld => ?_)
          clear hK K
          try simp only [Act.put, List.setIfInBounds_toArray, List.set_cons_zero, List.set_cons_succ]
          refine H.wpAnyT_ready (rs := [10]) (by kernel_rfl) (by simp) ?_
          refine H.AllT.cons (i := 10) rfl (by decide) (fun K hK => ?_) H.AllT.nil
          go_simp
          refine hK.out _ _ (⟨c7a _, rangeAt_blk (HM7.out.alloc _).second⟩) (fun hHeld => ?_)
          clear hK K
          try simp only [Act.put, List.setIfInBounds_toArray, List.set_cons_zero, List.set_cons_succ]
          refine H.wpAnyT_ready (rs := [11]) (by kernel_rfl) (by simp) ?_
          refine H.AllT.cons (i := 11) rfl (by decide) (fun K hK => ?_) H.AllT.nil
          refine Kd.R_append_step k32 (w0 := w) w.heap.size (by rfl) (.tmp 35) (.tmp 40) 45 32 (.agg #[.int .i64 0, .int .i64 0]) 16 rfl Try.underlying45 info32 rfl (by decide) (by omega) v XS (spanOf T a b) [.int .i64 (spanOf T a b).f0, .int .i64 (spanOf T a b).f1] (fun k => f2 k = a ∧ k ≠ g6) (fun _ => False) (by rfl) (by rfl) (k32_mkM _ _ _ _) (fun _ hk => hk.elim) (fun k hk => HFR.out k (Nat.le_trans HS7.out hk)) HR7.out HM7.out.below HM7.out.below.size (by rw [HLX.out]; omega) ?_
          intro v1 w8 hR8 hB8 hg8 hat8
          obtain ⟨A1, n1, he1⟩ := Kd.R_slice hR8
          subst he1
          rw [List.length_append, List.length_singleton] at hR8
          have HM8 := Aside0.mk (HM7.out.grownR HR7.out hg8 (by simp))
          have HR8 := Aside0.mk hR8
          have HG8 := Aside0.mk hg8
          have c8 : w8.cell? ⟨g6, a, none⟩ = some v := (HM8.out.cell a).trans HVA.out
          have f8 : w8.frozen? ⟨g6, a, none⟩ = false := HM8.out.frozen _
          clear hR8 hB8 hg8 hat8
          refine hK.out _ _ (⟨c8, rangeAt_blk HM8.out.second⟩) (fun hHeld => ?_)
          clear hK K
          try simp only [Act.put, List.setIfInBounds_toArray, List.set_cons_zero, List.set_cons_succ]
          refine H.wpAnyT_takeY (i := 12) (v := .pointer (some ⟨g6, a, none⟩)) rfl (by decide) (by kernel_rfl) (by kernel_rfl) (by kernel_rfl) (fun _ _ _ h => h) (Or.inl ⟨by rfl, ?_⟩) hHeld ?_
          · (intro w_ hSw; go_simp; try rfl)
          try simp only [Act.put, List.setIfInBounds_toArray, List.set_cons_zero, List.set_cons_succ]
          refine H.wpAnyT_ready (rs := [13]) (by kernel_rfl) (by simp) ?_
          refine H.AllT.last (i := 13) rfl (by decide) (fun K hK => ?_) H.AllT.nil
          go_simp
          refine hK.out _ _ ?_
          clear hK K
          try simp only [Act.put, List.setIfInBounds_toArray, List.set_cons_zero, List.set_cons_succ]
          refine wpAny_done (by kernel_rfl) ?_ _
          refine NoPanic.normal ?_
          (
            go_wp2_with fail
            go_roundg (n - (b + 1))
            case measure => have := HK2.out; omega
            case rel => exact ⟨b + 1, f2, vs2.set a (.slice A1 (XS.length + 1) n1), by go_num, ⟨by omega⟩, ⟨HM8.out.put a _ (by simp)⟩, ⟨by
              have := (HRB7.out.put (by rw [rowsTo_length]; exact ha) HV.out HG8.out HR8.out).far a (.slice A1 (XS.length + 1) n1)
              rwa [← HXS.out, rowsTo_set, HXS.out] at this, fun k hk => HRB.out.2 k (Nat.le_trans HS7.out (Nat.le_trans HG8.out.size (by rw [World.size_setCell] at hk; exact hk)))⟩⟩)
        · have HO2 : Aside0 (RowsAt k32 32 wr w.heap.size g6 (fun k => if k < wr.heap.size then f2 k else a + 1) vs2 (rowsTo n T (a + 1) 0) ∧ ∀ k, wr.heap.size ≤ k → (if k < wr.heap.size then f2 k else a + 1) = a + 1) := ⟨by rw [← rowsTo_next n T a b (by have := HK2.out; omega)]; exact HRB.out.1.owner (fun k hk => if_pos hk), fun k hk => if_neg (by omega)⟩
          go_wp2_with fail
          go_roundg (n - (a + 1))
          case measure => have := HK.out; omega
          case rel => exact ⟨a + 1, _, vs2, by go_num, ⟨by omega⟩, HN, HO2⟩
    · have HWH := HRA.out.1.whole HM.out.head HM.out.geh (by rw [rowsTo_length]; unfold maxLen; omega)
      rw [rowsTo_length, rowsTo_done n T a 0 (by omega)] at HWH
      have HW2 := Aside0.mk HWH
      clear HWH
      go_wp2_with fail
      go_ret2
      exact ⟨.slice (some ⟨g6, 0, none⟩) n n, by rw [HF2.out.2]; rfl, by rw [HF2.out.1]; exact HW2.out, HM.out.below⟩
end Go.Proofs.Ytbcfphoheijmdaa.Print
end

section
/- The ways over ever more points, in plain Lean: when no point comes behind itself, the table that is left bounds all positions, and each bound is reached by some. -/
namespace Go.Proofs.Ytbcfphoheijmdaa.Floyd

/-- What bounds nothing. -/
def far : Int := 1099511627776
/-- One step: the ways over m. -/
def ov (T : Nat → Nat → Int) (m : Nat) : Nat → Nat → Int := fun a b => if T a m < far ∧ T m b < far then min (T a b) (T a m + T m b) else T a b
/-- The table behind the ways over the first k points. -/
def st (E : Nat → Nat → Int) : Nat → Nat → Nat → Int
  | 0 => E
  | k + 1 => ov (st E k) k

theorem ov_le (T : Nat → Nat → Int) (m a b : Nat) : ov T m a b ≤ T a b := by unfold ov; split <;> omega
theorem ov_way (T : Nat → Nat → Int) (m a b : Nat) (h1 : T a m < far) (h2 : T m b < far) : ov T m a b ≤ T a m + T m b := by unfold ov; rw [if_pos ⟨h1, h2⟩]; omega
theorem ov_cases (T : Nat → Nat → Int) (m a b : Nat) : ov T m a b = T a b ∨ (T a m < far ∧ T m b < far ∧ ov T m a b = T a m + T m b) := by
  unfold ov
  split
  · rename_i h
    rcases Int.le_total (T a b) (T a m + T m b) with q | q
    · left; omega
    · right; exact ⟨h.1, h.2, by omega⟩
  · left; rfl
theorem st_succ (E : Nat → Nat → Int) (k a b : Nat) : st E (k + 1) a b = ov (st E k) k a b := rfl
theorem st_le (E : Nat → Nat → Int) (k a b : Nat) : st E k a b ≤ E a b := by
  induction k with
  | zero => exact Int.le_refl _
  | succ k ih => exact Int.le_trans (ov_le _ _ _ _) ih
/-- Positions that keep to a table. -/
def PKeeps (n : Nat) (E : Nat → Nat → Int) (x : Nat → Int) : Prop := ∀ a b, a < n → b < n → E a b < far → x b - x a ≤ E a b
theorem PKeeps.ov {n : Nat} {T : Nat → Nat → Int} {x : Nat → Int} (h : PKeeps n T x) (m : Nat) (hm : m < n) : PKeeps n (Floyd.ov T m) x := by
  intro a b ha hb hf
  rcases ov_cases T m a b with q | ⟨q1, q2, q3⟩
  · rw [q] at hf ⊢; exact h a b ha hb hf
  · rw [q3]; have := h a m ha hm q1; have := h m b hm hb q2; omega
theorem PKeeps.st {n : Nat} {E : Nat → Nat → Int} {x : Nat → Int} (h : PKeeps n E x) (k : Nat) (hk : k ≤ n) : PKeeps n (Floyd.st E k) x := by
  induction k with
  | zero => exact h
  | succ k ih => exact (ih (by omega)).ov k (by omega)

/-- Ways along edges; the list has the points between. -/
inductive PWay (E : Nat → Nat → Int) : List Nat → Nat → Nat → Int → Prop
  | edge (a b : Nat) : E a b < far → PWay E [] a b (E a b)
  | cons (a v b : Nat) (l : List Nat) (c : Int) : E a v < far → PWay E l v b c → PWay E (v :: l) a b (E a v + c)
theorem PWay.split {E : Nat → Nat → Int} : ∀ (l1 : List Nat) {l2 : List Nat} {m a b : Nat} {c : Int}, PWay E (l1 ++ m :: l2) a b c → ∃ c1 c2, PWay E l1 a m c1 ∧ PWay E l2 m b c2 ∧ c = c1 + c2
  | [], l2, m, a, b, c, h => by
    cases h with
    | cons _ _ _ _ c' hf hw => exact ⟨_, c', .edge _ _ hf, hw, rfl⟩
  | v :: l1, l2, m, a, b, c, h => by
    cases h with
    | cons _ _ _ _ c' hf hw =>
      obtain ⟨c1, c2, h1, h2, rfl⟩ := PWay.split l1 hw
      exact ⟨_, c2, .cons _ _ _ _ _ hf h1, h2, by omega⟩
theorem PWay.join {E : Nat → Nat → Int} : ∀ {l1 l2 : List Nat} {m a b : Nat} {c1 c2 : Int}, PWay E l1 a m c1 → PWay E l2 m b c2 → ∃ c, PWay E (l1 ++ m :: l2) a b c
  | [], l2, m, a, b, c1, c2, h1, h2 => by
    cases h1 with
    | edge _ _ hf => exact ⟨_, .cons _ _ _ _ _ hf h2⟩
  | v :: l1, l2, m, a, b, c1, c2, h1, h2 => by
    cases h1 with
    | cons _ _ _ _ c' hf hw =>
      obtain ⟨c, h⟩ := PWay.join hw h2
      exact ⟨_, .cons _ _ _ _ _ hf h⟩
theorem PWay.bound {E : Nat → Nat → Int} {n : Nat} {M : Int} (hM : ∀ a b, a < n → b < n → E a b < far → E a b ≤ M) : ∀ {l : List Nat} {a b : Nat} {c : Int}, PWay E l a b c → a < n → b < n → (∀ v, v ∈ l → v < n) → c ≤ ((l.length : Int) + 1) * M
  | [], a, b, c, h, ha, hb, _ => by
    cases h with
    | edge _ _ hf => have := hM a b ha hb hf; simpa using this
  | v :: l, a, b, c, h, ha, hb, hl => by
    cases h with
    | cons _ _ _ _ c' hf hw =>
      have h1 := hM a v ha (hl v (by simp)) hf
      have h2 := PWay.bound hM hw (hl v (by simp)) hb (fun x hx => hl x (by simp [hx]))
      have : ((((v :: l).length : Nat) : Int) + 1) * M = M + ((l.length : Int) + 1) * M := by
        rw [List.length_cons]
        have : (((l.length + 1 : Nat) : Int) + 1) = 1 + ((l.length : Int) + 1) := by omega
        rw [this, Int.add_mul, Int.one_mul]
      omega
theorem PWay.short {E : Nat → Nat → Int} : ∀ {l : List Nat} {a b : Nat} {c : Int}, PWay E l a b c → ∃ l' c', PWay E l' a b c' ∧ l'.Nodup ∧ ∀ v, v ∈ l' → v ∈ l
  | [], a, b, c, h => ⟨[], c, h, by simp, by simp⟩
  | v :: l, a, b, c, h => by
    cases h with
    | cons _ _ _ _ c' hf hw =>
      obtain ⟨l', c2, h1, h2, h3⟩ := PWay.short hw
      by_cases q : v ∈ l'
      · obtain ⟨x, y, rfl⟩ := List.append_of_mem q
        obtain ⟨d1, d2, g1, g2, _⟩ := PWay.split x h1
        rw [List.nodup_append] at h2
        refine ⟨v :: y, _, .cons _ _ _ _ _ hf g2, h2.2.1, ?_⟩
        intro u hu
        rcases List.mem_cons.1 hu with r | r
        · rw [r]; simp
        · exact List.mem_cons_of_mem _ (h3 u (by simp [r]))
      · exact ⟨v :: l', _, .cons _ _ _ _ _ hf h1, List.nodup_cons.2 ⟨q, h2⟩, fun u hu => by
          rcases List.mem_cons.1 hu with r | r
          · rw [r]; simp
          · exact List.mem_cons_of_mem _ (h3 u r)⟩
theorem len_le : ∀ (k : Nat) (l : List Nat), l.Nodup → (∀ v, v ∈ l → v < k) → l.length ≤ k
  | 0, l, _, h => by
    cases l with
    | nil => simp
    | cons v l => exact absurd (h v (by simp)) (by omega)
  | k + 1, l, hn, h => by
    by_cases q : k ∈ l
    · obtain ⟨x, y, rfl⟩ := List.append_of_mem q
      rw [List.nodup_append] at hn
      have hy := List.nodup_cons.1 hn.2.1
      have : (x ++ y).length ≤ k := by
        apply len_le k
        · rw [List.nodup_append]
          exact ⟨hn.1, hy.2, fun a ha b hb => hn.2.2 a ha b (by simp [hb])⟩
        · intro v hv
          have h1 : v < k + 1 := h v (by simp at hv ⊢; rcases hv with r | r <;> simp [r])
          have h2 : v ≠ k := by
            rintro rfl
            rcases List.mem_append.1 hv with r | r
            · exact hn.2.2 v r v (by simp) rfl
            · exact hy.1 r
          omega
      simp at this ⊢
      omega
    · have := len_le k l hn (fun v hv => by
        have h1 := h v hv
        have h2 : v ≠ k := by rintro rfl; exact q hv
        omega)
      omega

/-- What the first table of a chain is like. -/
structure TFine (n : Nat) (E : Nat → Nat → Int) : Prop where
  small : n ≤ 24
  diag : ∀ a, a < n → E a a = 0
  top : ∀ a b, E a b ≤ far
  most : ∀ a b, a < n → b < n → E a b < far → E a b ≤ 1000000

theorem mul_small {k n : Nat} (h : k ≤ n) (hn : n ≤ 24) : ((k : Int) + 1) * 1000000 ≤ 25000000 := by omega
/-- A short way bounds the table. -/
theorem TFine.complete {n : Nat} {E : Nat → Nat → Int} (F : TFine n E) : ∀ (k : Nat), k ≤ n → ∀ {l : List Nat} {a b : Nat} {c : Int}, PWay E l a b c → a < n → b < n → l.Nodup → (∀ v, v ∈ l → v < k) → st E k a b ≤ c
  | 0, _, l, a, b, c, h, _, _, _, hl => by
    cases h with
    | edge _ _ _ => exact Int.le_refl _
    | cons _ v _ _ _ _ _ => exact absurd (hl v (by simp)) (by omega)
  | k + 1, hk, l, a, b, c, h, ha, hb, hn, hl => by
    by_cases q : k ∈ l
    · obtain ⟨x, y, rfl⟩ := List.append_of_mem q
      obtain ⟨c1, c2, g1, g2, rfl⟩ := PWay.split x h
      rw [List.nodup_append] at hn
      have hy := List.nodup_cons.1 hn.2.1
      have hx1 : ∀ v, v ∈ x → v < k := fun v hv => by
        have h1 := hl v (by simp [hv])
        have h2 : v ≠ k := by rintro rfl; exact hn.2.2 v hv v (by simp) rfl
        omega
      have hy1 : ∀ v, v ∈ y → v < k := fun v hv => by
        have h1 := hl v (by simp [hv])
        have h2 : v ≠ k := by rintro rfl; exact hy.1 hv
        omega
      have i1 := F.complete k (by omega) g1 ha (by omega) hn.1 hx1
      have i2 := F.complete k (by omega) g2 (by omega) hb hy.2 hy1
      have b1 := PWay.bound F.most g1 ha (by omega) (fun v hv => by have := hx1 v hv; omega)
      have b2 := PWay.bound F.most g2 (by omega) hb (fun v hv => by have := hy1 v hv; omega)
      have l1 := len_le k x hn.1 hx1
      have l2 := len_le k y hy.2 hy1
      have m1 := mul_small (k := x.length) (n := n) (by omega) F.small
      have m2 := mul_small (k := y.length) (n := n) (by omega) F.small
      have := ov_way (st E k) k a b (by unfold far; omega) (by unfold far; omega)
      rw [st_succ]
      omega
    · have := F.complete k (by omega) h ha hb hn (fun v hv => by
        have h1 := hl v hv
        have h2 : v ≠ k := by rintro rfl; exact q hv
        omega)
      exact Int.le_trans (ov_le _ _ _ _) this
theorem st_way {E : Nat → Nat → Int} : ∀ (k : Nat) {a b : Nat}, st E k a b < far → ∃ l c, PWay E l a b c ∧ ∀ v, v ∈ l → v < k
  | 0, a, b, h => ⟨[], _, .edge a b h, by simp⟩
  | k + 1, a, b, h => by
    rw [st_succ] at h
    rcases ov_cases (st E k) k a b with q | ⟨q1, q2, _⟩
    · rw [q] at h
      obtain ⟨l, c, h1, h2⟩ := st_way k h
      exact ⟨l, c, h1, fun v hv => by have := h2 v hv; omega⟩
    · obtain ⟨l1, c1, h1, h2⟩ := st_way k q1
      obtain ⟨l2, c2, g1, g2⟩ := st_way k q2
      obtain ⟨c, hc⟩ := PWay.join h1 g1
      refine ⟨_, c, hc, fun v hv => ?_⟩
      rcases List.mem_append.1 hv with r | r
      · have := h2 v r; omega
      · rcases List.mem_cons.1 r with r | r
        · omega
        · have := g2 v r; omega
theorem TFine.upper {n : Nat} {E : Nat → Nat → Int} (F : TFine n E) {k a b : Nat} (hk : k ≤ n) (ha : a < n) (hb : b < n) (h : st E k a b < far) : st E k a b ≤ 25000000 := by
  obtain ⟨l, c, h1, h2⟩ := st_way k h
  obtain ⟨l', c', g1, g2, g3⟩ := h1.short
  have h4 : ∀ v, v ∈ l' → v < k := fun v hv => h2 v (g3 v hv)
  have i := F.complete k hk g1 ha hb g2 h4
  have b1 := PWay.bound F.most g1 ha hb (fun v hv => by have := h4 v hv; omega)
  have l1 := len_le k l' g2 h4
  have m1 := mul_small (k := l'.length) (n := n) (by omega) F.small
  omega
/-- No point has come behind itself in the first k steps. -/
def PCalm (n : Nat) (E : Nat → Nat → Int) (k : Nat) : Prop := ∀ j, j < k → ∀ a, a < n → 0 ≤ st E (j + 1) a a
theorem TFine.self {n : Nat} {E : Nat → Nat → Int} (F : TFine n E) : ∀ {k : Nat}, PCalm n E k → ∀ a, a < n → st E k a a = 0
  | 0, _, a, ha => F.diag a ha
  | k + 1, h, a, ha => by
    have h1 := h k (by omega) a ha
    have h2 := st_le E (k + 1) a a
    rw [F.diag a ha] at h2
    omega
theorem TFine.closed {n : Nat} {E : Nat → Nat → Int} (F : TFine n E) : ∀ {k : Nat}, k ≤ n → PCalm n E k → ∀ a b j, a < n → b < n → j < k → st E k a j < far → st E k j b < far → st E k a b ≤ st E k a j + st E k j b
  | 0, _, _, a, b, j, _, _, hj, _, _ => absurd hj (by omega)
  | k + 1, hk, hc, a, b, j, ha, hb, hj, h1, h2 => by
    have hck : PCalm n E k := fun i hi => hc i (by omega)
    have hself := F.self hck k (by omega)
    have IH := F.closed (k := k) (by omega) hck
    -- row and column k stay
    have hrow : ∀ v, st E (k + 1) k v = st E k k v := fun v => by
      rw [st_succ]
      rcases ov_cases (st E k) k k v with q | ⟨q1, q2, q3⟩
      · exact q
      · rw [q3, hself]; omega
    have hcol : ∀ v, st E (k + 1) v k = st E k v k := fun v => by
      rw [st_succ]
      rcases ov_cases (st E k) k v k with q | ⟨q1, q2, q3⟩
      · exact q
      · rw [q3, hself]; omega
    by_cases q : j = k
    · subst q
      rw [hcol] at h1 ⊢
      rw [hrow] at h2 ⊢
      exact ov_way _ _ _ _ h1 h2
    · have hj' : j < k := by omega
      have hjn : j < n := by omega
      have up : ∀ {x y : Nat}, x < n → y < n → st E k x y < far → st E k x y ≤ 25000000 := fun hx hy h => F.upper (by omega) hx hy h
      rw [st_succ] at h1 h2 ⊢
      rw [st_succ E k a j, st_succ E k j b]
      have hkn : k < n := by omega
      rcases ov_cases (st E k) k a j with p | ⟨p1, p2, p3⟩ <;> rcases ov_cases (st E k) k j b with r | ⟨r1, r2, r3⟩
      · rw [p] at h1 ⊢; rw [r] at h2 ⊢
        exact Int.le_trans (ov_le _ _ _ _) (IH a b j ha hb hj' h1 h2)
      · rw [p] at h1 ⊢; rw [r3]
        have u1 := up ha hjn h1; have u2 := up hjn hkn r1
        have c1 := IH a k j ha hkn hj' h1 r1
        have := ov_way (st E k) k a b (by unfold far; omega) r2
        omega
      · rw [p3]; rw [r] at h2 ⊢
        have u1 := up hkn hjn p2; have u2 := up hjn hb h2
        have c1 := IH k b j hkn hb hj' p2 h2
        have := ov_way (st E k) k a b p1 (by unfold far; omega)
        omega
      · rw [p3, r3]
        have c1 := IH k k j hkn hkn hj' p2 r1
        rw [hself] at c1
        have := ov_way (st E k) k a b p1 r2
        omega
/-- The bounds are reached: the positions from a point on keep to the first table. -/
theorem TFine.reached {n : Nat} {E : Nat → Nat → Int} (F : TFine n E) (hc : PCalm n E n) (hall : ∀ a b, a < n → b < n → st E n a b < far) (a : Nat) (ha : a < n) : PKeeps n E (fun b => st E n a b) := by
  intro i j hi hj hf
  have h1 := F.closed (Nat.le_refl _) hc a j i ha hj hi (hall a i ha hi) (hall i j hi hj)
  have h2 := st_le E n i j
  show st E n a j - st E n a i ≤ E i j
  omega
theorem TFine.whole {n : Nat} {E : Nat → Nat → Int} (F : TFine n E) {l : List Nat} {a b : Nat} {c : Int} (h : PWay E l a b c) (ha : a < n) (hb : b < n) (hl : ∀ v, v ∈ l → v < n) : st E n a b < far := by
  obtain ⟨l', c', g1, g2, g3⟩ := h.short
  have h4 : ∀ v, v ∈ l' → v < n := fun v hv => hl v (g3 v hv)
  have i := F.complete n (Nat.le_refl _) g1 ha hb g2 h4
  have b1 := PWay.bound F.most g1 ha hb h4
  have l1 := len_le n l' g2 h4
  have m1 := mul_small (k := l'.length) (n := n) l1 F.small
  unfold far
  omega
/-- A clash: nothing keeps to the table. -/
theorem clash_none {n : Nat} {E : Nat → Nat → Int} {k a : Nat} (hk : k ≤ n) (ha : a < n) (h : st E k a a < 0) (x : Nat → Int) : ¬ PKeeps n E x := fun hx => by
  have := hx.st k hk a a ha ha (by unfold far; omega)
  omega
end Go.Proofs.Ytbcfphoheijmdaa.Floyd
end

section
/- What a tight table says of positions: each range is that of all positions that keep to the links, and both its ends are reached. -/
namespace Go.Proofs.Ytbcfphoheijmdaa.Print
open Go.RowKit Go.Proofs.YtbcfphoheijmdaaW.PrintWords Go.Proofs.YtbcfphoheijmdaaW.PrintLast Go.Proofs.YtbcfphoheijmdaaW.PrintMore Go.Proofs.Ytbcfphoheijmdaa Go.Proofs.Ytbcfphoheijmdaa.H
set_option linter.unusedVariables false
set_option linter.unusedSimpArgs false

theorem getD_map_range24 {i : Nat} (hi : i < 24) : ((List.range 24).map (fun (i : Nat) => (i : Int))).getD i 0 = i := by
  simp [List.getD_eq_getElem?_getD, hi]
open Floyd

def tf (T : List Int) : Nat → Nat → Int := fun a b => T.getD (a * 24 + b) 0
/-- Positions (of points by number) that keep to links. -/
def FitsL (L : List S35) (x : Nat → Int) : Prop := ∀ l, l ∈ L → l.f2.f0 ≤ x l.f1.toNat - x l.f0.toNat ∧ x l.f1.toNat - x l.f0.toNat ≤ l.f2.f1

theorem linkStep_tf {T : List Int} {l : S35} (hT : T.length = 576) {P : Int} (hP : P ≤ 24) (hl : linkErr P l = 0) {a b : Nat} (ha : a < 24) (hb : b < 24) :
    tf (linkStep T l) a b = if a = l.f0.toNat ∧ b = l.f1.toNat then mn (tf T a b) l.f2.f1 else if a = l.f1.toNat ∧ b = l.f0.toNat then mn (tf T a b) (-l.f2.f0) else tf T a b := by
  obtain ⟨h1, h2, h3, h4, h5, h6, h7, h8⟩ := linkErr_ok hl
  generalize hf : l.f0.toNat = f
  generalize ht : l.f1.toNat = t
  have hf2 : f < 24 := by omega
  have ht2 : t < 24 := by omega
  have hne : f ≠ t := by omega
  unfold linkStep tf
  simp only [hf, ht]
  by_cases q1 : a = f ∧ b = t
  · obtain ⟨rfl, rfl⟩ := q1
    rw [if_pos ⟨rfl, rfl⟩, H.getD_set_ne (by omega), H.getD_set_eq (by omega)]
  · rw [if_neg q1]
    by_cases q2 : a = t ∧ b = f
    · obtain ⟨rfl, rfl⟩ := q2
      rw [if_pos ⟨rfl, rfl⟩, H.getD_set_eq (by rw [List.length_set]; omega), H.getD_set_ne (by omega)]
    · rw [if_neg q2, H.getD_set_ne (by omega), H.getD_set_ne (by omega)]
theorem linkStep_le {T : List Int} {l : S35} (hT : T.length = 576) {P : Int} (hP : P ≤ 24) (hl : linkErr P l = 0) {a b : Nat} (ha : a < 24) (hb : b < 24) : tf (linkStep T l) a b ≤ tf T a b := by
  rw [linkStep_tf hT hP hl ha hb]
  have := mn_le (tf T a b) l.f2.f1
  have := mn_le (tf T a b) (-l.f2.f0)
  repeat' split
  all_goals omega
theorem links_le {P : Int} (hP : P ≤ 24) {a b : Nat} (ha : a < 24) (hb : b < 24) : ∀ (L : List S35) (T : List Int), T.length = 576 → (∀ l, l ∈ L → linkErr P l = 0) → tf (L.foldl linkStep T) a b ≤ tf T a b
  | [], T, _, _ => Int.le_refl _
  | l :: L, T, hT, h => Int.le_trans (links_le hP ha hb L _ (by rw [linkStep_length]; exact hT) (fun l' h' => h l' (by simp [h']))) (linkStep_le hT hP (h l (by simp)) ha hb)
theorem links_edge {P : Int} (hP : P ≤ 24) : ∀ (L : List S35) (T : List Int), T.length = 576 → (∀ l, l ∈ L → linkErr P l = 0) → ∀ l, l ∈ L → tf (L.foldl linkStep T) l.f0.toNat l.f1.toNat ≤ l.f2.f1 ∧ tf (L.foldl linkStep T) l.f1.toNat l.f0.toNat ≤ -l.f2.f0
  | [], _, _, _, l, hl => by simp at hl
  | l' :: L, T, hT, h, l, hl => by
    have hT' : (linkStep T l').length = 576 := by rw [linkStep_length]; exact hT
    have hL : ∀ l, l ∈ L → linkErr P l = 0 := fun l' h' => h l' (by simp [h'])
    rcases List.mem_cons.1 hl with rfl | hm
    · have hok := linkErr_ok (h l (by simp))
      have a1 : l.f0.toNat < 24 := by omega
      have a2 : l.f1.toNat < 24 := by omega
      have e1 := links_le hP a1 a2 L _ hT' hL
      have e2 := links_le hP a2 a1 L _ hT' hL
      rw [linkStep_tf hT hP (h l (by simp)) a1 a2, if_pos ⟨rfl, rfl⟩] at e1
      rw [linkStep_tf hT hP (h l (by simp)) a2 a1, if_neg (by omega), if_pos ⟨rfl, rfl⟩] at e2
      have := mn_le (tf T l.f0.toNat l.f1.toNat) l.f2.f1
      have := mn_le (tf T l.f1.toNat l.f0.toNat) (-l.f2.f0)
      rw [List.foldl_cons]
      omega
    · rw [List.foldl_cons]
      exact links_edge hP L _ hT' hL l hm
theorem links_fine {P : Int} (hP : P ≤ 24) : ∀ (L : List S35) (T : List Int), T.length = 576 → (∀ l, l ∈ L → linkErr P l = 0) → ((∀ a, a < 24 → tf T a a = 0) ∧ (∀ a b, a < 24 → b < 24 → tf T a b < far → tf T a b ≤ 1000000)) →
    (∀ a, a < 24 → tf (L.foldl linkStep T) a a = 0) ∧ (∀ a b, a < 24 → b < 24 → tf (L.foldl linkStep T) a b < far → tf (L.foldl linkStep T) a b ≤ 1000000)
  | [], T, _, _, h => h
  | l :: L, T, hT, h, hh => by
    rw [List.foldl_cons]
    apply links_fine hP L _ (by rw [linkStep_length]; exact hT) (fun l' h' => h l' (by simp [h']))
    have hl := h l (by simp)
    have hok := linkErr_ok hl
    constructor
    · intro a ha
      rw [linkStep_tf hT hP hl ha ha, if_neg (by omega), if_neg (by omega)]
      exact hh.1 a ha
    · intro a b ha hb
      rw [linkStep_tf hT hP hl ha hb]
      have h1 := hh.2 a b ha hb
      have := mn_le (tf T a b) l.f2.f1
      have := mn_le (tf T a b) (-l.f2.f0)
      repeat' split
      · intro q; omega
      · intro q; omega
      · exact h1
theorem links_keep {P : Int} {n : Nat} (hP : P = n) (hn : n ≤ 24) (x : Nat → Int) : ∀ (L : List S35) (T : List Int), T.length = 576 → (∀ l, l ∈ L → linkErr P l = 0) → (PKeeps n (tf (L.foldl linkStep T)) x ↔ PKeeps n (tf T) x ∧ FitsL L x)
  | [], T, _, _ => ⟨fun h => ⟨h, fun l hl => by simp at hl⟩, fun h => h.1⟩
  | l :: L, T, hT, h => by
    have hl := h l (by simp)
    have hok := linkErr_ok hl
    have hP' : P ≤ 24 := by omega
    rw [List.foldl_cons, links_keep hP hn x L _ (by rw [linkStep_length]; exact hT) (fun l' h' => h l' (by simp [h']))]
    have hf : l.f0.toNat < n := by omega
    have ht : l.f1.toNat < n := by omega
    have key : PKeeps n (tf (linkStep T l)) x ↔ PKeeps n (tf T) x ∧ (l.f2.f0 ≤ x l.f1.toNat - x l.f0.toNat ∧ x l.f1.toNat - x l.f0.toNat ≤ l.f2.f1) := by
      constructor
      · intro hk
        refine ⟨fun a b ha hb hfar => ?_, ?_⟩
        · have h1 := linkStep_le hT hP' hl (a := a) (b := b) (by omega) (by omega)
          have := hk a b ha hb (by omega)
          omega
        · have e1 := linkStep_tf hT hP' hl (a := l.f0.toNat) (b := l.f1.toNat) (by omega) (by omega)
          have e2 := linkStep_tf hT hP' hl (a := l.f1.toNat) (b := l.f0.toNat) (by omega) (by omega)
          rw [if_pos ⟨rfl, rfl⟩] at e1
          rw [if_neg (by omega), if_pos ⟨rfl, rfl⟩] at e2
          have m1 := mn_le (tf T l.f0.toNat l.f1.toNat) l.f2.f1
          have m2 := mn_le (tf T l.f1.toNat l.f0.toNat) (-l.f2.f0)
          have k1 := hk _ _ hf ht (by unfold far; omega)
          have k2 := hk _ _ ht hf (by unfold far; omega)
          omega
      · rintro ⟨hk, hg⟩ a b ha hb
        rw [linkStep_tf hT hP' hl (by omega) (by omega)]
        have h1 := hk a b ha hb
        have m1 := mn_le (tf T a b) l.f2.f1
        have m2 := mn_le (tf T a b) (-l.f2.f0)
        split
        · rename_i q
          obtain ⟨rfl, rfl⟩ := q
          intro hfar
          rcases m1.2.2 with r | r
          · rw [r] at hfar ⊢; exact h1 hfar
          · rw [r]; omega
        · split
          · rename_i q
            obtain ⟨rfl, rfl⟩ := q
            intro hfar
            rcases m2.2.2 with r | r
            · rw [r] at hfar ⊢; exact h1 hfar
            · rw [r]; omega
          · exact h1
    rw [key]
    unfold FitsL
    constructor
    · rintro ⟨⟨h1, h2⟩, h3⟩
      refine ⟨h1, fun l' hl' => ?_⟩
      rcases List.mem_cons.1 hl' with rfl | hm
      · exact h2
      · exact h3 l' hm
    · rintro ⟨h1, h2⟩
      exact ⟨⟨h1, h2 l (by simp)⟩, fun l' hl' => h2 l' (by simp [hl'])⟩
theorem base_tf {a b : Nat} (ha : a < 24) (hb : b < 24) : tf baseTab a b = if a = b then 0 else far := by
  unfold tf baseTab far
  rw [getD_map_range, if_pos (by omega)]
  have h1 : (a * 24 + b) / 24 = a := by omega
  have h2 : (a * 24 + b) % 24 = b := by omega
  rw [h1, h2]
/-- The first table of a valid chain. -/
theorem init_fine {n : Nat} {L : List S35} (hn : n ≤ 24) (h : ∀ l, l ∈ L → linkErr n l = 0) : TFine n (tf (initTab L)) := by
  have := links_fine (P := n) (by omega) L baseTab baseTab_length h ⟨fun a ha => by rw [base_tf ha ha, if_pos rfl], fun a b ha hb => by
    rw [base_tf ha hb]; unfold far; split <;> intro q <;> omega⟩
  refine ⟨hn, fun a ha => this.1 a (by omega), fun a b => ?_, fun a b ha hb => this.2 a b (by omega) (by omega)⟩
  have := (Small.init (P := n) L h) (a * 24 + b)
  unfold far tf
  exact this.2
theorem init_keep {n : Nat} {L : List S35} (hn : n ≤ 24) (h : ∀ l, l ∈ L → linkErr n l = 0) (x : Nat → Int) : PKeeps n (tf (initTab L)) x ↔ FitsL L x := by
  unfold initTab
  rw [links_keep rfl hn x L baseTab baseTab_length h]
  constructor
  · exact fun h => h.2
  · refine fun h => ⟨fun a b ha hb => ?_, h⟩
    rw [base_tf (by omega) (by omega)]
    split
    · rename_i q; subst q; intro _; omega
    · intro q; omega

/-- There is a way by links. -/
def Lk (n : Nat) (E : Nat → Nat → Int) (a b : Nat) : Prop := ∃ l c, PWay E l a b c ∧ ∀ v, v ∈ l → v < n
theorem Lk.trans {n : Nat} {E : Nat → Nat → Int} {a m b : Nat} (hm : m < n) (h1 : Lk n E a m) (h2 : Lk n E m b) : Lk n E a b := by
  obtain ⟨l1, c1, p1, p2⟩ := h1
  obtain ⟨l2, c2, q1, q2⟩ := h2
  obtain ⟨c, hc⟩ := PWay.join p1 q1
  refine ⟨_, c, hc, fun v hv => ?_⟩
  rcases List.mem_append.1 hv with r | r
  · exact p2 v r
  · rcases List.mem_cons.1 r with r | r
    · omega
    · exact q2 v r
theorem rootStep_get {R : List Int} {l : S35} {i : Nat} (hi : i < R.length) : (rootStep R l).getD i 0 = rootVal (R.getD l.f0.toNat 0) (R.getD l.f1.toNat 0) (R.getD i 0) := by
  simp [rootStep, List.getD_eq_getElem?_getD, hi]
theorem roots_lk {n : Nat} {E : Nat → Nat → Int} (hn : n ≤ 24) (hE : ∀ a, a < 24 → Lk n E a a) : ∀ (L : List S35) (R : List Int), R.length = 24 → (∀ l, l ∈ L → l.f0.toNat < n ∧ l.f1.toNat < n ∧ Lk n E l.f0.toNat l.f1.toNat ∧ Lk n E l.f1.toNat l.f0.toNat) →
    (∀ i j, i < 24 → j < 24 → R.getD i 0 = R.getD j 0 → Lk n E i j) → ∀ i j, i < 24 → j < 24 → (L.foldl rootStep R).getD i 0 = (L.foldl rootStep R).getD j 0 → Lk n E i j
  | [], R, _, _, h => h
  | l :: L, R, hR, hL, h => by
    rw [List.foldl_cons]
    apply roots_lk hn hE L _ (by simp [rootStep, hR]) (fun l' h' => hL l' (by simp [h']))
    intro i j hi hj e
    rw [rootStep_get (by omega), rootStep_get (by omega)] at e
    obtain ⟨hf, ht, hft, htf⟩ := hL l (by simp)
    have m := mn_le (R.getD l.f0.toNat 0) (R.getD l.f1.toNat 0)
    have to1 : ∀ k, k < 24 → (R.getD k 0 = R.getD l.f0.toNat 0 ∨ R.getD k 0 = R.getD l.f1.toNat 0) → Lk n E k l.f0.toNat := fun k hk q => by
      rcases q with q | q
      · exact h k _ hk (by omega) q
      · exact (h k _ hk (by omega) q).trans ht htf
    have fro1 : ∀ k, k < 24 → (R.getD k 0 = R.getD l.f0.toNat 0 ∨ R.getD k 0 = R.getD l.f1.toNat 0) → Lk n E l.f0.toNat k := fun k hk q => by
      rcases q with q | q
      · exact h _ k (by omega) hk q.symm
      · exact hft.trans ht (h _ k (by omega) hk q.symm)
    unfold rootVal at e
    split at e
    · rename_i q1
      split at e
      · rename_i q2
        exact (to1 i hi q1).trans hf (fro1 j hj q2)
      · rename_i q2
        exact absurd (by omega) q2
    · rename_i q1
      split at e
      · exact absurd (by omega) q1
      · exact h i j hi hj e
theorem chain_roots {n : Nat} {L : List S35} (h : chainErr n L = 0) : ∀ i, i < n → (rootsOf L).getD i 0 = 0 := by
  obtain ⟨h1, h2, h3, h4⟩ := chainErr_ok h
  have hroots : ((rootsOf L).take n).all (· == 0) = true := by
    unfold chainErr at h
    rw [if_neg (by omega), if_neg (by omega)] at h
    split at h
    · rename_i l hl
      have := h4 l (List.mem_of_find?_eq_some hl)
      have := List.find?_some hl
      simp_all
    · split at h
      · rename_i q; rwa [Int.toNat_natCast] at q
      · omega
  have hz : ∀ i, i < n → (rootsOf L).getD i 0 = 0 := fun i hi => by
    have hlen := rootsOf_length L
    have := List.all_eq_true.1 hroots ((rootsOf L)[i]) (List.mem_iff_getElem.2 ⟨i, by rw [List.length_take]; omega, by rw [List.getElem_take]⟩)
    rw [List.getD_eq_getElem?_getD, List.getElem?_eq_getElem (by omega)]
    simpa using this
  exact hz
theorem chain_lk {n : Nat} {L : List S35} (h : chainErr n L = 0) : ∀ i j, i < n → j < n → Lk n (tf (initTab L)) i j := by
  obtain ⟨h1, h2, h3, h4⟩ := chainErr_ok h
  have hn : n ≤ 24 := by omega
  have F := links_fine (P := n) (by omega) L baseTab baseTab_length h4 ⟨fun a ha => by rw [base_tf ha ha, if_pos rfl], fun a b ha hb => by
    rw [base_tf ha hb]; unfold far; split <;> intro q <;> omega⟩
  have hz := chain_roots h
  intro i j hi hj
  refine roots_lk (n := n) (E := tf (initTab L)) hn (fun a ha => ⟨[], _, .edge a a (by show tf (initTab L) a a < far; rw [show tf (initTab L) a a = 0 from F.1 a ha]; decide), by simp⟩) L ((List.range 24).map (fun (i : Nat) => (i : Int))) (by simp) (fun l hl => ?_) (fun i j hi hj e => ?_) i j (by omega) (by omega) ((hz i hi).trans (hz j hj).symm)
  · have hok := linkErr_ok (h4 l hl)
    have he := links_edge (P := n) (by omega) L baseTab baseTab_length h4 l hl
    refine ⟨by omega, by omega, ⟨[], _, .edge _ _ ?_, by simp⟩, ⟨[], _, .edge _ _ ?_, by simp⟩⟩
    · unfold far; show tf (L.foldl linkStep baseTab) _ _ < _; omega
    · unfold far; show tf (L.foldl linkStep baseTab) _ _ < _; omega
  · rw [getD_map_range24 hi, getD_map_range24 hj] at e
    have : i = j := by omega
    subst this
    exact ⟨[], _, .edge i i (by show tf (initTab L) i i < far; rw [show tf (initTab L) i i = 0 from F.1 i hi]; decide), by simp⟩

theorem over_tf {T : List Int} {m n a b : Nat} (ha : a < n) (hb : b < n) (hn : n ≤ 24) : tf (overTab T m n) a b = ov (tf T) m a b := by
  unfold tf ov
  rw [overTab_get T m n a b ha hb hn]
  rfl
theorem floyd_st {n : Nat} {E : Nat → Nat → Int} (hn : n ≤ 24) : ∀ (k m : Nat) (T : List Int), m + k = n → (∀ a b, a < n → b < n → tf T a b = st E m a b) →
    ((floyd n k m T).2 = 0 ∧ (∀ a b, a < n → b < n → tf (floyd n k m T).1 a b = st E n a b) ∧ ∀ j, m ≤ j → j < n → ∀ a, a < n → 0 ≤ st E (j + 1) a a) ∨ ((floyd n k m T).2 = 12 ∧ ∃ j, j < n ∧ ∃ a, a < n ∧ st E (j + 1) a a < 0)
  | 0, m, T, hm, h => by
    left
    have : m = n := by omega
    subst this
    exact ⟨rfl, h, fun j h1 h2 => by omega⟩
  | k + 1, m, T, hm, h => by
    have hov : ∀ a b, a < n → b < n → tf (overTab T m n) a b = st E (m + 1) a b := fun a b ha hb => by
      rw [over_tf ha hb hn, st_succ]
      unfold ov
      rw [h a m ha (by omega), h m b (by omega) hb, h a b ha hb]
    by_cases q : negDiag n (overTab T m n) = true
    · right
      rw [floyd_neg q]
      unfold negDiag at q
      rw [List.any_eq_true] at q
      obtain ⟨a, ha, hq⟩ := q
      have ha' : a < n := by simpa using ha
      refine ⟨rfl, m, by omega, a, ha', ?_⟩
      rw [← hov a a ha' ha']
      simpa [tf] using hq
    · have q' : negDiag n (overTab T m n) = false := by simpa using q
      rw [floyd_next q']
      rcases floyd_st hn k (m + 1) (overTab T m n) (by omega) hov with ⟨h1, h2, h3⟩ | h1
      · left
        refine ⟨h1, h2, fun j hj1 hj2 a ha => ?_⟩
        by_cases e : j = m
        · subst e
          rw [← hov a a ha ha]
          unfold negDiag at q'
          rw [List.any_eq_false] at q'
          have := q' a (by simpa using ha)
          unfold tf
          simpa using this
        · exact h3 j (by omega) hj2 a ha
      · right; exact h1
/-- What a tight table says. -/
structure TightIs (n : Nat) (L : List S35) (T : List Int) : Prop where
  bound : ∀ x, FitsL L x → ∀ a b, a < n → b < n → x b - x a ≤ tf T a b
  reach : ∀ a, a < n → FitsL L (tf T a)
  self : ∀ a, a < n → tf T a a = 0
theorem tight_sem {n : Nat} {L : List S35} (h : chainErr n L = 0) : ((tightOf n L).2 = 0 ∧ TightIs n L (tightOf n L).1) ∨ ((tightOf n L).2 = 12 ∧ ∀ x, ¬ FitsL L x) := by
  obtain ⟨h1, h2, h3, h4⟩ := chainErr_ok h
  have hn : n ≤ 24 := by omega
  have F := init_fine hn h4
  unfold tightOf
  rw [if_pos h, Int.toNat_natCast]
  rcases floyd_st hn n 0 (initTab L) (by omega) (fun a b _ _ => rfl) with ⟨g1, g2, g3⟩ | ⟨g1, j, hj, a, ha, hneg⟩
  · left
    have hcalm : PCalm n (tf (initTab L)) n := fun j hj a ha => g3 j (by omega) hj a ha
    have hall : ∀ a b, a < n → b < n → st (tf (initTab L)) n a b < far := fun a b ha hb => by
      obtain ⟨l, c, hw, hl⟩ := chain_lk h a b ha hb
      exact F.whole hw ha hb hl
    refine ⟨g1, ⟨fun x hx a b ha hb => ?_, fun a ha => ?_, fun a ha => ?_⟩⟩
    · rw [g2 a b ha hb]
      exact ((init_keep hn h4 x).2 hx).st n (Nat.le_refl _) a b ha hb (hall a b ha hb)
    · have := (init_keep hn h4 _).1 (F.reached hcalm hall a ha)
      intro l hl
      have hok := linkErr_ok (h4 l hl)
      rw [g2 a _ ha (by omega), g2 a _ ha (by omega)]
      exact this l hl
    · rw [g2 a a ha ha]
      exact F.self hcalm a ha
  · right
    refine ⟨g1, fun x hx => ?_⟩
    exact clash_none (k := j + 1) (by omega) ha hneg x ((init_keep hn h4 x).2 hx)
theorem TightIs.tri {n : Nat} {L : List S35} {T : List Int} (h : TightIs n L T) {a m b : Nat} (ha : a < n) (hm : m < n) (hb : b < n) : tf T a b ≤ tf T a m + tf T m b := by
  have := h.bound _ (h.reach a ha) m b hm hb
  omega
theorem TightIs.edge {n : Nat} {L : List S35} {T : List Int} (h : TightIs n L T) {l : S35} (hl : l ∈ L) (h1 : l.f0.toNat < n) (h2 : l.f1.toNat < n) : tf T l.f0.toNat l.f1.toNat ≤ l.f2.f1 ∧ tf T l.f1.toNat l.f0.toNat ≤ -l.f2.f0 := by
  have a1 := h.reach _ h1 l hl
  have a2 := h.reach _ h2 l hl
  have s1 := h.self _ h1
  have s2 := h.self _ h2
  omega
/-- The near positions. -/
theorem TightIs.near {n : Nat} {L : List S35} {T : List Int} (h : TightIs n L T) (hL : ∀ l, l ∈ L → l.f0.toNat < n ∧ l.f1.toNat < n) {a : Nat} (ha : a < n) : FitsL L (fun i => -(tf T i a)) := by
  intro l hl
  obtain ⟨h1, h2⟩ := hL l hl
  have e := h.edge hl h1 h2
  have t1 := h.tri h1 h2 ha
  have t2 := h.tri h2 h1 ha
  simp only []
  omega
theorem FitsL.low {L : List S35} {x y : Nat → Int} (hx : FitsL L x) (hy : FitsL L y) : FitsL L (fun i => min (x i) (y i)) := by
  intro l hl
  have := hx l hl
  have := hy l hl
  simp only []
  omega
theorem TightIs.order {n : Nat} {L : List S35} {T : List Int} (h : TightIs n L T) {a b : Nat} (ha : a < n) (hb : b < n) : -(tf T b a) ≤ tf T a b := by
  have := h.tri ha hb ha
  have := h.self a ha
  omega
theorem TightIs.mono {n : Nat} {L M : List S35} {T U : List Int} (h : TightIs n L T) (g : TightIs n M U) (hs : ∀ x, FitsL M x → FitsL L x) {a b : Nat} (ha : a < n) (hb : b < n) : tf U a b ≤ tf T a b := by
  have := h.bound _ (hs _ (g.reach a ha)) a b ha hb
  have := g.self a ha
  omega
theorem FitsL.snoc {L : List S35} {l : S35} {x : Nat → Int} : FitsL (L ++ [l]) x ↔ FitsL L x ∧ (l.f2.f0 ≤ x l.f1.toNat - x l.f0.toNat ∧ x l.f1.toNat - x l.f0.toNat ≤ l.f2.f1) := by
  unfold FitsL
  constructor
  · intro h
    exact ⟨fun l' hl' => h l' (by simp [hl']), h l (by simp)⟩
  · rintro ⟨h1, h2⟩ l' hl'
    rcases List.mem_append.1 hl' with q | q
    · exact h1 l' q
    · have : l' = l := by simpa using q
      rw [this]; exact h2
end Go.Proofs.Ytbcfphoheijmdaa.Print
end

section
/- What the Go function thermionkit_Dice_Upto does, as a Lean function, and that its call does so. Printed by a program of this work out of the translation. -/
namespace Go.Proofs.Ytbcfphoheijmdaa.Print
open Go.RowKit Go.Proofs.YtbcfphoheijmdaaW.PrintWords Go.Proofs.YtbcfphoheijmdaaW.PrintLast Go.Proofs.YtbcfphoheijmdaaW.PrintMore
attribute [local go_sem] max2_int min2_int max_two min_two max_three min_three max_four min_four
set_option linter.unusedVariables false
set_option linter.unusedSimpArgs false

/-! ### thermionkit_Dice_Upto: function 43 -/
def thermionkit_Dice_Upto.f (s0_0 : Int) (a1 : Int) : Option (Int × Int) := (thermionkit_Dice_next.f s0_0).bind fun bt101 => (if a1 < 1 then (some (0, bt101.2)) else (if (IntKind.u64.wrap (a1)) = 0 then (none) else (some (wrap64 (Int.tmod bt101.1 (IntKind.u64.wrap (a1))), bt101.2))))
set_option maxHeartbeats 8000000 in
set_option maxRecDepth 100000 in
theorem thermionkit_Dice_Upto.calls (g : Nat) (s0_0 : Int) (a1 : Int) (r1 : Int) (r2 : Int) (w0 w : World) (hI : IsS118 w0 w g s0_0) (hB : Below w0.heap.size w0 w) (h : thermionkit_Dice_Upto.f s0_0 a1 = some (r1, r2)) :
  Calls Try.prog 43 #[.pointer (some ⟨g, 0, none⟩), .int .i64 a1] w fun e w' => e = .returned (.int .i64 r1) ∧ IsS118 w0 w' g r2 ∧ Below w0.heap.size w0 w' ∧ KeepBut w w' g none := by
 have HI0 := Aside0.mk hI
 have HK := Aside0.mk (KeepBut.refl w g none)
 have HL := Aside0.mk hB.size
 clear hI
 have HW0 := Aside0.mk hB.size
 have HB := Aside0.mk hB
 clear hB
 have H : ((thermionkit_Dice_next.f s0_0).bind fun bt101 => (if a1 < 1 then (some (0, bt101.2)) else (if (IntKind.u64.wrap (a1)) = 0 then (none) else (some (wrap64 (Int.tmod bt101.1 (IntKind.u64.wrap (a1))), bt101.2))))) = some (r1, r2) := h
 clear h
 replace H := Option.bind_eq_some_iff.mp H
 obtain ⟨⟨t101, t102⟩, A30, H⟩ := H
 replace H : (if a1 < 1 then (some (0, t102)) else (if (IntKind.u64.wrap (a1)) = 0 then (none) else (some (wrap64 (Int.tmod t101 (IntKind.u64.wrap (a1))), t102)))) = some (r1, r2) := H
 have A3 := Aside0.mk A30
 clear A30
 by_cases c4 : a1 < 1
 ·rw [if_pos c4] at H
  have c4b0 : decide (a1 < 1) = true := decide_eq_true c4
  clear c4
  simp only [Option.some.injEq, Prod.mk.injEq] at H
  obtain ⟨rfl, rfl⟩ := H
  go_enter Try.func43, Try.ntmps43
  go_wp2_with (first | ((with_reducible refine gate_callee (f := 85) rfl ?_); refine goesL_ (some 7) rfl rfl Try.func85 (by kernel_rfl) rfl #[.pointer (some ⟨g, 0, none⟩)] rfl (by (try simp only [List.map_toArray, List.map_cons, List.map_nil]); first | done | rfl | (simp only [List.length_drop, List.length_take]; rfl)) ?_; (with_reducible refine (thermionkit_Dice_next.calls g s0_0 t101 t102 w0 _ ?side1 ?side2 A3.out).mono ?_); (case side1 => repeat (first | (with_reducible first | exact HI0.out | apply IsS118.alloc | apply IsS118.drewN | apply IsS118.drew | apply IsS118.set_0) | exact HI0.out)); (case side2 => repeat (first | (with_reducible first | exact HB.out | apply below_alloc | apply pw_below_drewN | apply below_drew1 | refine below_set ?_ (IsS118.ge HI0.out)) | exact HB.out)); rintro e w5 ⟨rfl, hi, hb, hk⟩; refine ⟨_, rfl, ?_⟩; have n0_ := Aside0.mk (KeepBut.trans (by repeat (first | (with_reducible first | exact HK.out | apply KeepBut.set_ | apply keep_drewN | apply keep_drew | apply keep_alloc) | exact HK.out)) hk (.inl rfl)); have n1_ := Aside0.mk (hb); have n2_ := Aside0.mk (hi); clear HK; clear HB; clear HI0; have HK := n0_; have HB := n1_; have HI0 := n2_; clear n0_ n1_ n2_; (try clear hb); (try clear hb2); (try clear hk); (try clear hi)))
  go_ret
  exact ⟨by first | rfl | (simp [errW_none, errW_some] <;> rfl) | (simp [*, errW_none, errW_some] <;> rfl), by repeat (first | (with_reducible first | exact HI0.out | apply IsS118.alloc | apply IsS118.drewN | apply IsS118.drew | apply IsS118.set_0) | exact HI0.out), by repeat (first | (with_reducible first | exact HB.out | apply below_alloc | apply pw_below_drewN | apply below_drew1 | refine below_set ?_ (IsS118.ge HI0.out)) | exact HB.out), by repeat (first | (with_reducible first | exact HK.out | apply KeepBut.set_ | apply keep_drewN | apply keep_drew | apply keep_alloc) | exact HK.out)⟩
 ·rw [if_neg c4] at H
  have c4b0 : decide (a1 < 1) = false := decide_eq_false c4
  clear c4
  by_cases c6 : (IntKind.u64.wrap (a1)) = 0
  ·rw [if_pos c6] at H
   exact absurd H (by simp)
  ·rw [if_neg c6] at H
   have c6b0 : ((IntKind.u64.wrap (a1)) == 0) = false := beq_eq_false_iff_ne.mpr c6
   have c6b1 : ((IntKind.u64.wrap (a1)) != 0) = true := bne_iff_ne.mpr c6
   simp only [Option.some.injEq, Prod.mk.injEq] at H
   obtain ⟨rfl, rfl⟩ := H
   go_enter Try.func43, Try.ntmps43
   go_wp2_with (first | ((with_reducible refine gate_callee (f := 85) rfl ?_); refine goesL_ (some 7) rfl rfl Try.func85 (by kernel_rfl) rfl #[.pointer (some ⟨g, 0, none⟩)] rfl (by (try simp only [List.map_toArray, List.map_cons, List.map_nil]); first | done | rfl | (simp only [List.length_drop, List.length_take]; rfl)) ?_; (with_reducible refine (thermionkit_Dice_next.calls g s0_0 t101 t102 w0 _ ?side1 ?side2 A3.out).mono ?_); (case side1 => repeat (first | (with_reducible first | exact HI0.out | apply IsS118.alloc | apply IsS118.drewN | apply IsS118.drew | apply IsS118.set_0) | exact HI0.out)); (case side2 => repeat (first | (with_reducible first | exact HB.out | apply below_alloc | apply pw_below_drewN | apply below_drew1 | refine below_set ?_ (IsS118.ge HI0.out)) | exact HB.out)); rintro e w7 ⟨rfl, hi, hb, hk⟩; refine ⟨_, rfl, ?_⟩; have n0_ := Aside0.mk (KeepBut.trans (by repeat (first | (with_reducible first | exact HK.out | apply KeepBut.set_ | apply keep_drewN | apply keep_drew | apply keep_alloc) | exact HK.out)) hk (.inl rfl)); have n1_ := Aside0.mk (hb); have n2_ := Aside0.mk (hi); clear HK; clear HB; clear HI0; have HK := n0_; have HB := n1_; have HI0 := n2_; clear n0_ n1_ n2_; (try clear hb); (try clear hb2); (try clear hk); (try clear hi)))
   go_ret
   exact ⟨by first | rfl | (simp [errW_none, errW_some] <;> rfl) | (simp [*, errW_none, errW_some] <;> rfl), by repeat (first | (with_reducible first | exact HI0.out | apply IsS118.alloc | apply IsS118.drewN | apply IsS118.drew | apply IsS118.set_0) | exact HI0.out), by repeat (first | (with_reducible first | exact HB.out | apply below_alloc | apply pw_below_drewN | apply below_drew1 | refine below_set ?_ (IsS118.ge HI0.out)) | exact HB.out), by repeat (first | (with_reducible first | exact HK.out | apply KeepBut.set_ | apply keep_drewN | apply keep_drew | apply keep_alloc) | exact HK.out)⟩

end Go.Proofs.Ytbcfphoheijmdaa.Print
end

section
/- What the Go function thermionkit_Dice_One does, as a Lean function, and that its call does so. Printed by a program of this work out of the translation. -/
namespace Go.Proofs.Ytbcfphoheijmdaa.Print
open Go.RowKit Go.Proofs.YtbcfphoheijmdaaW.PrintWords Go.Proofs.YtbcfphoheijmdaaW.PrintLast Go.Proofs.YtbcfphoheijmdaaW.PrintMore
attribute [local go_sem] max2_int min2_int max_two min_two max_three min_three max_four min_four
set_option linter.unusedVariables false
set_option linter.unusedSimpArgs false

/-! ### thermionkit_Dice_One: function 35 -/
def thermionkit_Dice_One.f (s0_0 : Int) (a1 : Int) : Option (Bool × Int) := (thermionkit_Dice_Upto.f s0_0 a1).bind fun bt103 => (some ((bt103.1 == 0), bt103.2))
set_option maxHeartbeats 8000000 in
set_option maxRecDepth 100000 in
theorem thermionkit_Dice_One.calls (g : Nat) (s0_0 : Int) (a1 : Int) (r1 : Bool) (r2 : Int) (w0 w : World) (hI : IsS118 w0 w g s0_0) (hB : Below w0.heap.size w0 w) (h : thermionkit_Dice_One.f s0_0 a1 = some (r1, r2)) :
  Calls Try.prog 35 #[.pointer (some ⟨g, 0, none⟩), .int .i64 a1] w fun e w' => e = .returned (.bool r1) ∧ IsS118 w0 w' g r2 ∧ Below w0.heap.size w0 w' ∧ KeepBut w w' g none := by
 have HI0 := Aside0.mk hI
 have HK := Aside0.mk (KeepBut.refl w g none)
 have HL := Aside0.mk hB.size
 clear hI
 have HW0 := Aside0.mk hB.size
 have HB := Aside0.mk hB
 clear hB
 have H : ((thermionkit_Dice_Upto.f s0_0 a1).bind fun bt103 => (some ((bt103.1 == 0), bt103.2))) = some (r1, r2) := h
 clear h
 replace H := Option.bind_eq_some_iff.mp H
 obtain ⟨⟨t103, t104⟩, A30, H⟩ := H
 replace H : (some ((t103 == 0), t104)) = some (r1, r2) := H
 have A3 := Aside0.mk A30
 clear A30
 simp only [Option.some.injEq, Prod.mk.injEq] at H
 obtain ⟨rfl, rfl⟩ := H
 go_enter Try.func35, Try.ntmps35
 go_wp2_with (first | ((with_reducible refine gate_callee (f := 43) rfl ?_); refine goesL_ (some 7) rfl rfl Try.func43 (by kernel_rfl) rfl #[.pointer (some ⟨g, 0, none⟩), .int .i64 a1] rfl (by (try simp only [List.map_toArray, List.map_cons, List.map_nil]); first | done | rfl | (simp only [List.length_drop, List.length_take]; rfl)) ?_; (with_reducible refine (thermionkit_Dice_Upto.calls g s0_0 a1 t103 t104 w0 _ ?side1 ?side2 A3.out).mono ?_); (case side1 => repeat (first | (with_reducible first | exact HI0.out | apply IsS118.alloc | apply IsS118.drewN | apply IsS118.drew | apply IsS118.set_0) | exact HI0.out)); (case side2 => repeat (first | (with_reducible first | exact HB.out | apply below_alloc | apply pw_below_drewN | apply below_drew1 | refine below_set ?_ (IsS118.ge HI0.out)) | exact HB.out)); rintro e w4 ⟨rfl, hi, hb, hk⟩; refine ⟨_, rfl, ?_⟩; have n0_ := Aside0.mk (KeepBut.trans (by repeat (first | (with_reducible first | exact HK.out | apply KeepBut.set_ | apply keep_drewN | apply keep_drew | apply keep_alloc) | exact HK.out)) hk (.inl rfl)); have n1_ := Aside0.mk (hb); have n2_ := Aside0.mk (hi); clear HK; clear HB; clear HI0; have HK := n0_; have HB := n1_; have HI0 := n2_; clear n0_ n1_ n2_; (try clear hb); (try clear hb2); (try clear hk); (try clear hi)))
 go_ret
 exact ⟨by first | rfl | (simp [errW_none, errW_some] <;> rfl) | (simp [*, errW_none, errW_some] <;> rfl), by repeat (first | (with_reducible first | exact HI0.out | apply IsS118.alloc | apply IsS118.drewN | apply IsS118.drew | apply IsS118.set_0) | exact HI0.out), by repeat (first | (with_reducible first | exact HB.out | apply below_alloc | apply pw_below_drewN | apply below_drew1 | refine below_set ?_ (IsS118.ge HI0.out)) | exact HB.out), by repeat (first | (with_reducible first | exact HK.out | apply KeepBut.set_ | apply keep_drewN | apply keep_drew | apply keep_alloc) | exact HK.out)⟩

end Go.Proofs.Ytbcfphoheijmdaa.Print
end

section
/- What the Go function thermionkit_Dice_Between does, as a Lean function, and that its call does so. Printed by a program of this work out of the translation. -/
namespace Go.Proofs.Ytbcfphoheijmdaa.Print
open Go.RowKit Go.Proofs.YtbcfphoheijmdaaW.PrintWords Go.Proofs.YtbcfphoheijmdaaW.PrintLast Go.Proofs.YtbcfphoheijmdaaW.PrintMore
attribute [local go_sem] max2_int min2_int max_two min_two max_three min_three max_four min_four
set_option linter.unusedVariables false
set_option linter.unusedSimpArgs false

/-! ### thermionkit_Dice_Between: function 84 -/
def thermionkit_Dice_Between.f (s0_0 : Int) (a1 : Int) (a2 : Int) : Option (Int × Int) := (thermionkit_Dice_Upto.f s0_0 (wrap64 ((wrap64 (a2 - a1)) + 1))).bind fun bt105 => (some (wrap64 (a1 + bt105.1), bt105.2))
set_option maxHeartbeats 8000000 in
set_option maxRecDepth 100000 in
theorem thermionkit_Dice_Between.calls (g : Nat) (s0_0 : Int) (a1 : Int) (a2 : Int) (r1 : Int) (r2 : Int) (w0 w : World) (hI : IsS118 w0 w g s0_0) (hB : Below w0.heap.size w0 w) (h : thermionkit_Dice_Between.f s0_0 a1 a2 = some (r1, r2)) :
  Calls Try.prog 84 #[.pointer (some ⟨g, 0, none⟩), .int .i64 a1, .int .i64 a2] w fun e w' => e = .returned (.int .i64 r1) ∧ IsS118 w0 w' g r2 ∧ Below w0.heap.size w0 w' ∧ KeepBut w w' g none := by
 have HI0 := Aside0.mk hI
 have HK := Aside0.mk (KeepBut.refl w g none)
 have HL := Aside0.mk hB.size
 clear hI
 have HW0 := Aside0.mk hB.size
 have HB := Aside0.mk hB
 clear hB
 have H : ((thermionkit_Dice_Upto.f s0_0 (wrap64 ((wrap64 (a2 - a1)) + 1))).bind fun bt105 => (some (wrap64 (a1 + bt105.1), bt105.2))) = some (r1, r2) := h
 clear h
 replace H := Option.bind_eq_some_iff.mp H
 obtain ⟨⟨t105, t106⟩, A40, H⟩ := H
 replace H : (some (wrap64 (a1 + t105), t106)) = some (r1, r2) := H
 have A4 := Aside0.mk A40
 clear A40
 simp only [Option.some.injEq, Prod.mk.injEq] at H
 obtain ⟨rfl, rfl⟩ := H
 go_enter Try.func84, Try.ntmps84
 go_wp2_with (first | ((with_reducible refine gate_callee (f := 43) rfl ?_); refine goesL_ (some 13) rfl rfl Try.func43 (by kernel_rfl) rfl #[.pointer (some ⟨g, 0, none⟩), .int .i64 (wrap64 ((wrap64 (a2 - a1)) + 1))] rfl (by (try simp only [List.map_toArray, List.map_cons, List.map_nil]); first | done | rfl | (simp only [List.length_drop, List.length_take]; rfl)) ?_; (with_reducible refine (thermionkit_Dice_Upto.calls g s0_0 (wrap64 ((wrap64 (a2 - a1)) + 1)) t105 t106 w0 _ ?side1 ?side2 A4.out).mono ?_); (case side1 => repeat (first | (with_reducible first | exact HI0.out | apply IsS118.alloc | apply IsS118.drewN | apply IsS118.drew | apply IsS118.set_0) | exact HI0.out)); (case side2 => repeat (first | (with_reducible first | exact HB.out | apply below_alloc | apply pw_below_drewN | apply below_drew1 | refine below_set ?_ (IsS118.ge HI0.out)) | exact HB.out)); rintro e w5 ⟨rfl, hi, hb, hk⟩; refine ⟨_, rfl, ?_⟩; have n0_ := Aside0.mk (KeepBut.trans (by repeat (first | (with_reducible first | exact HK.out | apply KeepBut.set_ | apply keep_drewN | apply keep_drew | apply keep_alloc) | exact HK.out)) hk (.inl rfl)); have n1_ := Aside0.mk (hb); have n2_ := Aside0.mk (hi); clear HK; clear HB; clear HI0; have HK := n0_; have HB := n1_; have HI0 := n2_; clear n0_ n1_ n2_; (try clear hb); (try clear hb2); (try clear hk); (try clear hi)))
 go_ret
 exact ⟨by first | rfl | (simp [errW_none, errW_some] <;> rfl) | (simp [*, errW_none, errW_some] <;> rfl), by repeat (first | (with_reducible first | exact HI0.out | apply IsS118.alloc | apply IsS118.drewN | apply IsS118.drew | apply IsS118.set_0) | exact HI0.out), by repeat (first | (with_reducible first | exact HB.out | apply below_alloc | apply pw_below_drewN | apply below_drew1 | refine below_set ?_ (IsS118.ge HI0.out)) | exact HB.out), by repeat (first | (with_reducible first | exact HK.out | apply KeepBut.set_ | apply keep_drewN | apply keep_drew | apply keep_alloc) | exact HK.out)⟩

end Go.Proofs.Ytbcfphoheijmdaa.Print
end

section
/- Plain laws: what the dice deal. -/
namespace Go.Proofs.Ytbcfphoheijmdaa.Print
open Go.RowKit Go.Proofs.YtbcfphoheijmdaaW.PrintWords Go.Proofs.YtbcfphoheijmdaaW.PrintLast Go.Proofs.YtbcfphoheijmdaaW.PrintMore Go.Proofs.Ytbcfphoheijmdaa.H
set_option linter.unusedVariables false
set_option linter.unusedSimpArgs false

theorem u64_nonneg (x : Int) : 0 ≤ IntKind.u64.wrap x := by
  simp only [IntKind.wrap, IntKind.signed, IntKind.bits]
  simp
  omega
theorem next_two (s : Int) : ∃ v, thermionkit_Dice_next.f s = some (v, nextWord s) ∧ 0 ≤ v := ⟨_, rfl, by unfold Go.bits; exact u64_nonneg _⟩
theorem upto_eq (s n : Int) (h1 : 1 ≤ n) (h2 : n ≤ 9223372036854775807) : ∃ r, thermionkit_Dice_Upto.f s n = some (r, nextWord s) ∧ 0 ≤ r ∧ r < n := by
  obtain ⟨v, hv, h0⟩ := next_two s
  have hw : IntKind.u64.wrap n = n := by
    simp only [IntKind.wrap, IntKind.signed, IntKind.bits]
    simp
    omega
  have ht : Int.tmod v n = v % n := Int.tmod_eq_emod_of_nonneg h0
  have hm0 := Int.emod_nonneg v (show n ≠ 0 by omega)
  have hm1 := Int.emod_lt_of_pos v (show 0 < n by omega)
  refine ⟨v % n, ?_, hm0, hm1⟩
  unfold thermionkit_Dice_Upto.f
  rw [hv]
  simp only [Option.bind_some]
  rw [if_neg (by omega), hw, if_neg (by omega), ht, IntWalk.wrap64_in _ (by omega)]
theorem one_eq (s n : Int) (h1 : 1 ≤ n) (h2 : n ≤ 9223372036854775807) : ∃ b, thermionkit_Dice_One.f s n = some (b, nextWord s) := by
  obtain ⟨r, hr, _, _⟩ := upto_eq s n h1 h2
  unfold thermionkit_Dice_One.f
  rw [hr]
  exact ⟨_, rfl⟩
theorem between_eq (s a b : Int) (h : a ≤ b) (h1 : -4611686018427387904 ≤ a) (h2 : b ≤ 4611686018427387902) : ∃ r, thermionkit_Dice_Between.f s a b = some (r, nextWord s) ∧ a ≤ r ∧ r ≤ b := by
  unfold thermionkit_Dice_Between.f
  rw [IntWalk.wrap64_in (b - a) (by omega), IntWalk.wrap64_in (b - a + 1) (by omega)]
  obtain ⟨r, hr, h3, h4⟩ := upto_eq s (b - a + 1) (by omega) (by omega)
  rw [hr]
  refine ⟨a + r, ?_, by omega, by omega⟩
  simp only [Option.bind_some]
  rw [IntWalk.wrap64_in _ (by omega)]
end Go.Proofs.Ytbcfphoheijmdaa.Print
end

section
/- ChainOf as a Lean function; it makes valid chains. -/
namespace Go.Proofs.Ytbcfphoheijmdaa.Print
open Go.RowKit Go.Proofs.YtbcfphoheijmdaaW.PrintWords Go.Proofs.YtbcfphoheijmdaaW.PrintLast Go.Proofs.YtbcfphoheijmdaaW.PrintMore Go.Proofs.Ytbcfphoheijmdaa.H
set_option linter.unusedVariables false
set_option linter.unusedSimpArgs false

@[irreducible] def upV (s n : Int) : Int := ((thermionkit_Dice_Upto.f s n).getD (0, 0)).1
@[irreducible] def betV (s a b : Int) : Int := ((thermionkit_Dice_Between.f s a b).getD (0, 0)).1
@[irreducible] def oneV (s n : Int) : Bool := ((thermionkit_Dice_One.f s n).getD (false, 0)).1
theorem up_eq (s n : Int) (h1 : 1 ≤ n) (h2 : n ≤ 9223372036854775807) : thermionkit_Dice_Upto.f s n = some (upV s n, nextWord s) ∧ 0 ≤ upV s n ∧ upV s n < n := by
  obtain ⟨r, hr, h3, h4⟩ := upto_eq s n h1 h2
  have e : upV s n = r := by unfold upV; rw [hr]; rfl
  rw [e]
  exact ⟨hr, h3, h4⟩
theorem bet_eq (s a b : Int) (h : a ≤ b) (h1 : -4611686018427387904 ≤ a) (h2 : b ≤ 4611686018427387902) : thermionkit_Dice_Between.f s a b = some (betV s a b, nextWord s) ∧ a ≤ betV s a b ∧ betV s a b ≤ b := by
  obtain ⟨r, hr, h3, h4⟩ := between_eq s a b h h1 h2
  have e : betV s a b = r := by unfold betV; rw [hr]; rfl
  rw [e]
  exact ⟨hr, h3, h4⟩
theorem one_eq2 (s n : Int) (h1 : 1 ≤ n) (h2 : n ≤ 9223372036854775807) : thermionkit_Dice_One.f s n = some (oneV s n, nextWord s) := by
  obtain ⟨r, hr⟩ := one_eq s n h1 h2
  have e : oneV s n = r := by unfold oneV; rw [hr]; rfl
  rw [e]
  exact hr

/-- Where the first points stand, and the dice's word behind them. -/
def atsTo (s : Int) : Nat → List Int × Int
  | 0 => ([0], s)
  | i + 1 => ((atsTo s i).1 ++ [betV (atsTo s i).2 (-30) 30], nextWord (atsTo s i).2)
def next3 (s : Int) : Int := nextWord (nextWord (nextWord s))
def addRange (gap wide s : Int) : S32 :=
  if oneV (nextWord (nextWord s)) 40 = true then ⟨gap + 1, gap + 2⟩ else ⟨gap - upV s (wide + 1), max (gap - upV s (wide + 1) + wide - upV (nextWord s) (wide + 1)) gap⟩
def addLink (A : List Int) (wide s a b : Int) : S35 := ⟨a, b, addRange (A.getD b.toNat 0 - A.getD a.toNat 0) wide s⟩
/-- The links of the first points, each to one before it. -/
def treeTo (A : List Int) (wide s : Int) : Nat → List S35 × Int
  | 0 => ([], s)
  | i + 1 => ((treeTo A wide s i).1 ++ [if oneV (nextWord (treeTo A wide s i).2) 2 = true then addLink A wide (nextWord (nextWord (treeTo A wide s i).2)) (upV (treeTo A wide s i).2 (i + 1 : Nat)) (i + 1 : Nat) else addLink A wide (nextWord (nextWord (treeTo A wide s i).2)) (i + 1 : Nat) (upV (treeTo A wide s i).2 (i + 1 : Nat))], next3 (nextWord (nextWord (treeTo A wide s i).2)))
/-- Further links. -/
def moreTo (A : List Int) (wide P s : Int) : Nat → List S35 × Int
  | 0 => ([], s)
  | j + 1 => ((moreTo A wide P s j).1 ++ [addLink A wide (nextWord (nextWord (moreTo A wide P s j).2)) (upV (moreTo A wide P s j).2 P) (Int.tmod (upV (moreTo A wide P s j).2 P + betV (nextWord (moreTo A wide P s j).2) 1 (P - 1)) P)], next3 (nextWord (nextWord (moreTo A wide P s j).2)))
def chPoints (s points : Int) : Int := betV s 1 points
def chAts (s points : Int) : List Int × Int := atsTo (nextWord s) ((chPoints s points).toNat - 1)
def chTree (s points wide : Int) : List S35 × Int := treeTo (chAts s points).1 wide (chAts s points).2 ((chPoints s points).toNat - 1)
def chMany (s points wide : Int) : Nat := if 1 < chPoints s points then (upV (chTree s points wide).2 4).toNat else 0
def chMore (s points wide : Int) : List S35 × Int := moreTo (chAts s points).1 wide (chPoints s points) (nextWord (chTree s points wide).2) (chMany s points wide)
def thermionkit_ChainOf.f (s0_0 : Int) (a1 : Int) (a2 : Int) : Option (Int × (List (S35)) × Int) :=
  if 1 ≤ a1 ∧ a1 ≤ 24 ∧ 0 ≤ a2 ∧ a2 ≤ 1000 then some (chPoints s0_0 a1, (chTree s0_0 a1 a2).1 ++ (chMore s0_0 a1 a2).1, (chMore s0_0 a1 a2).2) else none

theorem atsTo_length (s : Int) : ∀ i, (atsTo s i).1.length = i + 1
  | 0 => rfl
  | i + 1 => by rw [atsTo]; simp [atsTo_length s i]
theorem small_snoc {A : List Int} {z : Int} (hb : -30 ≤ z ∧ z ≤ 30) (h : ∀ j, -30 ≤ A.getD j 0 ∧ A.getD j 0 ≤ 30) (j : Nat) : -30 ≤ (A ++ [z]).getD j 0 ∧ (A ++ [z]).getD j 0 ≤ 30 := by
  rw [List.getD_eq_getElem?_getD, List.getElem?_append]
  split
  · rw [← List.getD_eq_getElem?_getD]; exact h j
  · by_cases q : j - A.length = 0
    · rw [q]; simpa using hb
    · rw [List.getElem?_eq_none (by simp; omega)]; simp
theorem atsTo_small (s : Int) (i : Nat) : ∀ j, -30 ≤ (atsTo s i).1.getD j 0 ∧ (atsTo s i).1.getD j 0 ≤ 30 := by
  induction i with
  | zero =>
    intro j
    rw [atsTo]
    cases j with
    | zero => simp
    | succ j => simp
  | succ i ih =>
    rw [atsTo]
    exact small_snoc (bet_eq (atsTo s i).2 (-30) 30 (by omega) (by omega) (by omega)).2 ih
theorem treeTo_length (A : List Int) (wide s : Int) : ∀ i, (treeTo A wide s i).1.length = i
  | 0 => rfl
  | i + 1 => by rw [treeTo]; simp [treeTo_length A wide s i]
theorem moreTo_length (A : List Int) (wide P s : Int) : ∀ i, (moreTo A wide P s i).1.length = i
  | 0 => rfl
  | i + 1 => by rw [moreTo]; simp [moreTo_length A wide P s i]
theorem more_root {R : List Int} {l : S35} (hR : R.length = 24) (hf : l.f0.toNat < 24) (ht : l.f1.toNat < 24) (h1 : R.getD l.f0.toNat 0 = 0) (h2 : R.getD l.f1.toNat 0 = 0) : ∀ j, j < 24 → (rootStep R l).getD j 0 = R.getD j 0 := by
  intro j hj
  rw [rootStep_get (by omega), h1, h2]
  unfold rootVal
  have := mn_le 0 0
  split <;> omega
end Go.Proofs.Ytbcfphoheijmdaa.Print
end

section
/- CheckKit: which error a kit has, and that the Go function's call gives it. -/
namespace Go.Proofs.Ytbcfphoheijmdaa.Print
open Go.RowKit Go.Proofs.YtbcfphoheijmdaaW.PrintWords Go.Proofs.YtbcfphoheijmdaaW.PrintLast Go.Proofs.YtbcfphoheijmdaaW.PrintMore Go.Proofs.Ytbcfphoheijmdaa.H
attribute [local go_sem] max2_int min2_int max_two min_two max_three min_three max_four min_four
set_option linter.unusedVariables false
set_option linter.unusedSimpArgs false

/-- The first error of n places. -/
def firstErr (e : Nat → Int) (n : Nat) : Int := match (List.range n).find? (fun i => e i != 0) with | some i => e i | none => 0
theorem firstErr_ok {e : Nat → Int} {n : Nat} (h : ∀ i, i < n → e i = 0) : firstErr e n = 0 := by
  unfold firstErr
  have : (List.range n).find? (fun i => e i != 0) = none := by
    rw [List.find?_eq_none]
    intro i hi
    simp [h i (List.mem_range.1 hi)]
  rw [this]
theorem range_split {n i : Nat} (hi : i < n) : List.range n = List.range i ++ i :: (List.range (n - i - 1)).map (fun j => i + 1 + j) := by
  apply List.ext_getElem
  · simp; omega
  · intro k h1 h2
    simp only [List.getElem_range]
    by_cases q : k < i
    · rw [List.getElem_append_left (by simpa using q)]; simp
    · rw [List.getElem_append_right (by simpa using q)]
      simp only [List.length_range]
      by_cases q2 : k = i
      · subst q2; simp
      · obtain ⟨d, hd⟩ : ∃ d, k = i + 1 + d := ⟨k - i - 1, by omega⟩
        subst hd
        have e1 : i + 1 + d - i = d + 1 := by omega
        simp only [e1, List.getElem_cons_succ, List.getElem_map, List.getElem_range]
theorem firstErr_at {e : Nat → Int} {n i : Nat} (hi : i < n) (h : ∀ j, j < i → e j = 0) (hx : e i ≠ 0) : firstErr e n = e i := by
  unfold firstErr
  rw [range_split hi, find_split (fun i => e i != 0) _ _ i (fun l hl => by simp [h l (List.mem_range.1 hl)]) (by simpa using hx)]
theorem firstErr_zero {e : Nat → Int} {n : Nat} (h : firstErr e n = 0) : ∀ i, i < n → e i = 0 := by
  intro i hi
  induction i using Nat.strongRecOn with
  | _ i ih =>
    by_cases q : e i = 0
    · exact q
    · rw [firstErr_at hi (fun j hj => ih j hj (by omega)) q] at h
      exact h
/-- The error of place i of a list of other parts, of the part own of n. -/
def otherErr (n own : Int) (l : List Int) (i : Nat) : Int :=
  if l.getD i 0 < 0 ∨ n - 1 < l.getD i 0 then 7 else if l.getD i 0 = own then 9 else if 0 < i ∧ l.getD i 0 ≤ l.getD (i - 1) 0 then 11 else 0
def othersErr (n own : Int) (l : List Int) : Int := firstErr (otherErr n own l) l.length
/-- The lists of a part. -/
def listOf (p : S57) (i : Nat) : List Int := if i = 0 then p.f0 else p.f1
def partErr (n own : Int) (p : S57) : Int :=
  if firstErr (fun i => othersErr n own (listOf p i)) 2 ≠ 0 then firstErr (fun i => othersErr n own (listOf p i)) 2 else if p.f2 < 0 ∨ 8 < p.f2 ∨ p.f3 < 0 ∨ 10000 < p.f3 then 2 else 0
def kitErr (L : List S57) (c : Int) : Int :=
  if 14 < L.length then 8 else if c < 0 ∨ 10000 < c then 2 else firstErr (fun i => partErr L.length i (L.getD i z57)) L.length
/-- No list of a part is longer than any list that a computer holds. -/
def Holds (L : List S57) : Prop := ∀ p, p ∈ L → p.f0.length ≤ 1000000 ∧ p.f1.length ≤ 1000000
instance (L : List S57) : Decidable (Holds L) := by unfold Holds; infer_instance
def mount_CheckKit.f (l0_0 : List (S57)) (a0_1 : Int) : Option (Int) := if Holds l0_0 then some (kitErr l0_0 a0_1) else none
theorem size22 : (Try.prog.info? 22).map (·.size) = some 1 := by kernel_rfl
theorem size57 : (Try.prog.info? 57).map (·.size) = some 4 := by kernel_rfl
theorem at57 {w : World} {A : Option Addr} {xs : List S57} (h : Kd.C k57 w A xs.length xs) (i : Nat) (hi : i < xs.length) : ∃ ad A0 c0 A1 c1, A = some ad ∧ w.cell? (ad.add (i * 4)) = some (.slice A0 (xs.getD i z57).f0.length c0) ∧ w.cell? ⟨(ad.add (i * 4)).block, (ad.add (i * 4)).off + 1, none⟩ = some (.slice A1 (xs.getD i z57).f1.length c1) ∧ w.cell? ⟨(ad.add (i * 4)).block, (ad.add (i * 4)).off + 2, none⟩ = some (.int .i64 (xs.getD i z57).f2) ∧ w.cell? ⟨(ad.add (i * 4)).block, (ad.add (i * 4)).off + 3, none⟩ = some (.int .i64 (xs.getD i z57).f3) ∧ (xs.getD i z57).f0.length ≤ c0 ∧ (Kd.int .i64).C w A0 (xs.getD i z57).f0.length (xs.getD i z57).f0 ∧ (xs.getD i z57).f1.length ≤ c1 ∧ (Kd.int .i64).C w A1 (xs.getD i z57).f1.length (xs.getD i z57).f1 := by
  have := at_T57 h (i : Int) (by omega) (by omega)
  unfold rd_T57 at this
  rw [Int.toNat_natCast] at this
  exact this
theorem cell_later {w W : World} (h : Below w.heap.size w W) {a : Addr} {v : Value} (hc : w.cell? a = some v) : W.cell? a = some v := (h.cell (World.block_lt_of_cell? _ _ hc)).trans hc
theorem in_eq (a b c : Int) : mount_in.f a b c = some (decide (b ≤ a ∧ a ≤ c)) := by
  unfold mount_in.f
  by_cases h : b ≤ a
  · rw [if_pos h]; simp [h]
  · rw [if_neg h]; simp [h]
theorem cell_int {w : World} {A : Option Addr} {xs : List Int} (h : (Kd.int .i64).C w A xs.length xs) (i : Nat) (hi : i < xs.length) : ∃ ad, A = some ad ∧ w.cell? (ad.add i) = some (.int .i64 (xs.getD i 0)) := by
  have := Kd.at_int h (i : Int) (by omega) (by omega)
  unfold rd at this
  rw [Int.toNat_natCast] at this
  exact this
set_option maxHeartbeats 3200000 in
set_option maxRecDepth 100000 in
theorem mount_CheckKit.calls (A0_0 : Option Addr) (c0_0 : Nat) (l0_0 : List (S57)) (a0_1 : Int) (r : Int) (w : World) (hr0_0 : Kd.C k57 w A0_0 l0_0.length l0_0) (hc0_0 : l0_0.length ≤ c0_0) (h : mount_CheckKit.f l0_0 a0_1 = some r) :
    Calls Try.prog 40 #[.agg #[.slice A0_0 l0_0.length c0_0, .int .i64 a0_1]] w fun e w' => e = .returned (.int .i64 r) ∧ Below w.heap.size w w' := by
  have HH : Aside0 (Holds l0_0) := ⟨by
    unfold mount_CheckKit.f at h
    split at h
    · assumption
    · exact absurd h (by simp)⟩
  have HF : Aside0 (kitErr l0_0 a0_1 = r) := ⟨by unfold mount_CheckKit.f at h; rw [if_pos HH.out] at h; exact Option.some.inj h⟩
  have HR := Aside0.mk hr0_0
  have HM := Aside0.mk (Mem.start w)
  clear h hr0_0
  have hu49 := Try.underlying49
  have hu57 := Try.underlying57
  by_cases t1 : 14 < l0_0.length
  · have HF2 : Aside0 (r = 8) := ⟨by rw [← HF.out]; unfold kitErr; rw [if_pos t1]⟩
    have t1' : decide ((l0_0.length : Int) > 14) = true := decide_eq_true (by omega)
    have t1'' : decide (14 < l0_0.length) = true := decide_eq_true t1
    go_enter Try.func40, Try.ntmps40
    go_wp2_with (first
      | ((with_reducible refine gate_dst (N := 1) rfl ?_); refine ev_box HM.out rfl 49 (.tmp 0) rfl (cs := #[.slice A0_0 l0_0.length c0_0, .int .i64 a0_1]) rfl ?_; intro g1 w1 hm1 hq1; clear hq1; have HM1 := Aside0.mk hm1; clear hm1 HM; have c1 : w1.cell? ⟨g1, 0, none⟩ = some (.slice A0_0 l0_0.length c0_0) := (HM1.out.cell 0).trans rfl; have c2 : w1.cell? ⟨g1, 1, none⟩ = some (.int .i64 a0_1) := (HM1.out.cell 1).trans rfl))
    go_ret
    exact ⟨by rw [HF2.out]; rfl, HM1.out.below⟩
  have t1' : decide ((l0_0.length : Int) > 14) = false := decide_eq_false (by omega)
  have t1'' : decide (14 < l0_0.length) = false := decide_eq_false t1
  by_cases t2 : 0 ≤ a0_1 ∧ a0_1 ≤ 10000
  rotate_left
  · have HF2 : Aside0 (r = 2) := ⟨by rw [← HF.out]; unfold kitErr; rw [if_neg t1, if_pos (by omega)]⟩
    have e1 : mount_in.f a0_1 0 10000 = some false := by rw [in_eq, decide_eq_false t2]
    go_enter Try.func40, Try.ntmps40
    go_wp2_with (first
      | ((with_reducible refine gate_dst (N := 1) rfl ?_); refine ev_box HM.out rfl 49 (.tmp 0) rfl (cs := #[.slice A0_0 l0_0.length c0_0, .int .i64 a0_1]) rfl ?_; intro g1 w1 hm1 hq1; clear hq1; have HM1 := Aside0.mk hm1; clear hm1 HM; have c1 : w1.cell? ⟨g1, 0, none⟩ = some (.slice A0_0 l0_0.length c0_0) := (HM1.out.cell 0).trans rfl; have c2 : w1.cell? ⟨g1, 1, none⟩ = some (.int .i64 a0_1) := (HM1.out.cell 1).trans rfl)
      | (go_at_call 102; refine (mount_in.calls _ _ _ _ _ e1).mono ?_; rintro e w' ⟨rfl, hd⟩; have HB2 := Aside0.mk hd.below; clear hd))
    go_ret
    exact ⟨by rw [HF2.out]; rfl, below_step HM1.out.below HB2.out⟩
  have e1 : mount_in.f a0_1 0 10000 = some true := by rw [in_eq, decide_eq_true t2]
  have HF3 : Aside0 (r = firstErr (fun i => partErr l0_0.length i (l0_0.getD i z57)) l0_0.length) := ⟨by rw [← HF.out]; unfold kitErr; rw [if_neg t1, if_neg (by omega)]⟩
  clear HF t2
  go_enter Try.func40, Try.ntmps40
  go_wp2_with (first
    | ((with_reducible refine gate_dst (N := 1) rfl ?_); refine ev_box HM.out rfl 49 (.tmp 0) rfl (cs := #[.slice A0_0 l0_0.length c0_0, .int .i64 a0_1]) rfl ?_; intro g1 w1 hm1 hq1; clear hq1; have HM1 := Aside0.mk hm1; clear hm1 HM; have c1 : w1.cell? ⟨g1, 0, none⟩ = some (.slice A0_0 l0_0.length c0_0) := (HM1.out.cell 0).trans rfl; have c2 : w1.cell? ⟨g1, 1, none⟩ = some (.int .i64 a0_1) := (HM1.out.cell 1).trans rfl)
    | (go_at_call 102; refine (mount_in.calls _ _ _ _ _ e1).mono ?_; rintro e w' ⟨rfl, hd⟩; have HM2 := Aside0.mk (HM1.out.step hd.below); clear hd HM1 c1 c2; have c1 : w'.cell? ⟨g1, 0, none⟩ = some (.slice A0_0 l0_0.length c0_0) := (HM2.out.cell 0).trans rfl))
  clear c1
  go_loopg [22] l0_0.length (fun k v22 w' => ∃ (i : Nat), v22 = .int .i64 i ∧ Aside0 (i + k = l0_0.length) ∧ Aside0 (∀ j, j < i → partErr l0_0.length j (l0_0.getD j z57) = 0) ∧ Aside0 (Mem w w' [(g1, #[.slice A0_0 l0_0.length c0_0, .int .i64 a0_1], 49)]))
  case atStart => exact ⟨0, rfl, ⟨by omega⟩, ⟨fun j hj => absurd hj (by omega)⟩, HM2⟩
  case round =>
    clear HM2
    obtain ⟨i, rfl, HK, HP, HM⟩ := hrel
    by_cases hi : i < l0_0.length
    · obtain ⟨ad, A0, c0, A1, c1, e0, x0, x1, x2, x3, b0, h0, b1, h1⟩ := at57 HR.out i hi
      cases e0
      generalize hX : l0_0.getD i z57 = X at x0 x1 x2 x3 b0 h0 b1 h1
      have HXX := Aside0.mk hX
      have H0 := Aside0.mk h0
      have H1 := Aside0.mk h1
      clear hX h0 h1
      replace x0 := cell_later HM.out.below x0
      replace x1 := cell_later HM.out.below x1
      replace x2 := cell_later HM.out.below x2
      replace x3 := cell_later HM.out.below x3
      have hk1 : (0 : Int) ≤ (i : Int) := by omega
      have hk2 : (i : Int) < (l0_0.length : Int) := by omega
      have HIX : ∀ q, q < 2 → ∃ A c, Aside0 ((Kd.int .i64).C w A (listOf X q).length (listOf X q)) ∧ (#[Value.slice A0 X.f0.length c0, .slice A1 X.f1.length c1])[q]? = some (.slice A (listOf X q).length c) := by
        intro q hq
        rcases (by omega : q = 0 ∨ q = 1) with rfl | rfl
        · exact ⟨A0, c0, H0, rfl⟩
        · exact ⟨A1, c1, H1, rfl⟩
      have HIX := Aside0.mk HIX
      go_wp2_with (first
        | ((with_reducible refine gate_dst (N := 4) rfl ?_); refine ev_new HM.out rfl 57 rfl info57 ?_; intro g3 w3 hm3 hq1; have HM6 := Aside0.mk hm3; clear hm3 HM)
        | (refine ev_store HM6.out rfl 57 (.tmp 4) (.tmp 26) rfl rfl (cs := #[.slice A0 X.f0.length c0, .slice A1 X.f1.length c1, .int .i64 X.f2, .int .i64 X.f3]) rfl size57 rfl rfl (by simp [Value.oneCell']) ?_; intro w4 hm4 hq2; have HM7 := Aside0.mk hm4; clear hm4 HM6; have d0 : w4.cell? ⟨g3, 0, none⟩ = some (.slice A0 X.f0.length c0) := (HM7.out.cell 0).trans rfl; have d1 : w4.cell? ⟨g3, 1, none⟩ = some (.slice A1 X.f1.length c1) := (HM7.out.cell 1).trans rfl))
      go_loopg [32] 2 (fun k v32 w' => ∃ (q : Nat), v32 = .int .i64 q ∧ Aside0 (q + k = 2) ∧ Aside0 (∀ j, j < q → othersErr l0_0.length i (listOf X j) = 0) ∧ Aside0 (Mem w w' [(g3, #[.slice A0 X.f0.length c0, .slice A1 X.f1.length c1, .int .i64 X.f2, .int .i64 X.f3], 57), (g1, #[.slice (some ad) l0_0.length c0_0, .int .i64 a0_1], 49)]))
      case atStart => exact ⟨0, rfl, ⟨by omega⟩, ⟨fun j hj => absurd hj (by omega)⟩, HM7⟩
      case round =>
        obtain ⟨q, rfl, HK2, HQ, HM8⟩ := hrel
        by_cases hq : q < 2
        · obtain ⟨A, c, HC, hcell⟩ := HIX.out q hq
          have hq1 : (0 : Int) ≤ (q : Int) := by omega
          have hq2 : (q : Int) < 2 := by omega
          have hix := run_index_one (P := Try.prog) 142 22 2 #[Value.slice A0 X.f0.length c0, .slice A1 X.f1.length c1] q _ _ Try.underlying142 Try.underlying22 rfl size22 hq hcell
          clear hcell
          have HLQ := Aside0.mk (show listOf X q = listOf X q from rfl)
          generalize hL : listOf X q = L at hix HC
          have HL := Aside0.mk hL
          clear hL HLQ
          have hll : L.length ≤ 1000000 := by
            have := HH.out X (by rw [← HXX.out, List.getD_eq_getElem?_getD, List.getElem?_eq_getElem hi]; exact List.getElem_mem _)
            rw [← HL.out]; unfold listOf; split <;> omega
          go_wp2_with fail
          go_loopg [37] L.length (fun k v37 w' => ∃ (z : Nat), v37 = .int .i64 z ∧ Aside0 (z + k = L.length) ∧ Aside0 (∀ j, j < z → otherErr l0_0.length i L j = 0) ∧ Aside0 (Mem w w' [(g3, #[.slice A0 X.f0.length c0, .slice A1 X.f1.length c1, .int .i64 X.f2, .int .i64 X.f3], 57), (g1, #[.slice (some ad) l0_0.length c0_0, .int .i64 a0_1], 49)]))
          case atStart => exact ⟨0, rfl, ⟨by omega⟩, ⟨fun j hj => absurd hj (by omega)⟩, HM8⟩
          case round =>
            obtain ⟨z, rfl, HK3, HZ, HM9⟩ := hrel
            by_cases hz : z < L.length
            · obtain ⟨ad2, e2, y0⟩ := cell_int HC.out z hz
              cases e2
              replace y0 := cell_later HM9.out.below y0
              have d0 : wr.cell? ⟨g1, 0, none⟩ = some (.slice (some ad) l0_0.length c0_0) := (blk_cell HM9.out.second 0).trans rfl
              have z1 : (0 : Int) ≤ (z : Int) := by omega
              have z2 : (z : Int) < (L.length : Int) := by omega
              have HOE := Aside0.mk (show otherErr l0_0.length i L z = if L.getD z 0 < 0 ∨ (l0_0.length : Int) - 1 < L.getD z 0 then 7 else if L.getD z 0 = i then 9 else if 0 < z ∧ L.getD z 0 ≤ L.getD (z - 1) 0 then 11 else 0 from rfl)
              have HRES : Aside0 (otherErr l0_0.length i L z ≠ 0 → r = otherErr l0_0.length i L z) := ⟨fun hne => by
                have e1 : othersErr l0_0.length i L = otherErr l0_0.length i L z := firstErr_at hz HZ.out hne
                have e2 : firstErr (fun j => othersErr l0_0.length i (listOf X j)) 2 = otherErr l0_0.length i L z := by
                  rw [firstErr_at (e := fun j => othersErr l0_0.length i (listOf X j)) hq HQ.out (by rw [HL.out, e1]; exact hne), HL.out, e1]
                have e3 : partErr l0_0.length i (l0_0.getD i z57) = otherErr l0_0.length i L z := by
                  rw [HXX.out]; unfold partErr; rw [e2, if_pos hne]
                rw [HF3.out, firstErr_at (e := fun i => partErr l0_0.length i (l0_0.getD i z57)) hi HP.out (by rw [e3]; exact hne), e3]⟩
              generalize hY : L.getD z 0 = Y at y0 HOE
              have HY := Aside0.mk hY
              clear hY
              have w1 : IntKind.i64.wrap ((l0_0.length : Int) - 1) = (l0_0.length : Int) - 1 := IntWalk.i64_in _ (by omega)
              by_cases tin : 0 ≤ Y ∧ Y ≤ (l0_0.length : Int) - 1
              rotate_left
              · have e1 : mount_in.f Y 0 ((l0_0.length : Int) - 1) = some false := by rw [in_eq, decide_eq_false tin]
                have HV : Aside0 (r = 7) := ⟨by
                  have e : otherErr l0_0.length i L z = 7 := by rw [HOE.out, if_pos (by omega)]
                  rw [HRES.out (by rw [e]; decide), e]⟩
                clear tin HOE HRES
                go_wp2_with (first
                  | (go_at_call 102; refine (mount_in.calls _ _ _ _ _ e1).mono ?_; rintro e w' ⟨rfl, hd⟩; have HM2 := Aside0.mk (HM9.out.step hd.below); clear hd HM9))
                go_ret
                exact ⟨by rw [HV.out]; rfl, HM2.out.below⟩
              have e1 : mount_in.f Y 0 ((l0_0.length : Int) - 1) = some true := by rw [in_eq, decide_eq_true tin]
              rw [if_neg (by omega)] at HOE
              clear tin
              by_cases town : Y = (i : Int)
              · have town1 : (Y == (i : Int)) = true := by simpa using town
                have HV : Aside0 (r = 9) := ⟨by
                  have e : otherErr l0_0.length i L z = 9 := by rw [HOE.out, if_pos town]
                  rw [HRES.out (by rw [e]; decide), e]⟩
                clear town HOE HRES
                go_wp2_with (first
                  | (go_at_call 102; refine (mount_in.calls _ _ _ _ _ e1).mono ?_; rintro e w' ⟨rfl, hd⟩; have HM2 := Aside0.mk (HM9.out.step hd.below); clear hd HM9))
                go_ret
                exact ⟨by rw [HV.out]; rfl, HM2.out.below⟩
              have town1 : (Y == (i : Int)) = false := by simpa using town
              rw [if_neg town] at HOE
              clear town
              by_cases tz : 0 < z
              · have tz1 : decide ((z : Int) > 0) = true := decide_eq_true (by omega)
                have tz2 : decide (0 < z) = true := decide_eq_true tz
                obtain ⟨ad3, e3, y1⟩ := cell_int HC.out (z - 1) (by omega)
                cases e3
                replace y1 := cell_later HM9.out.below y1
                generalize hY1 : L.getD (z - 1) 0 = Y1 at y1 HOE
                have HY1 := Aside0.mk hY1
                clear hY1
                have w2 : IntKind.i64.wrap ((z : Int) - 1) = ((z - 1 : Nat) : Int) := (IntWalk.i64_in _ (by omega)).trans (by omega)
                have w3 : (0 : Int) ≤ ((z - 1 : Nat) : Int) := by omega
                have w4 : ((z - 1 : Nat) : Int) < (L.length : Int) := by omega
                by_cases tle : Y ≤ Y1
                · have to1 : decide (Y ≤ Y1) = true := decide_eq_true tle
                  have HV : Aside0 (r = 11) := ⟨by
                    have e : otherErr l0_0.length i L z = 11 := by rw [HOE.out, if_pos ⟨tz, tle⟩]
                    rw [HRES.out (by rw [e]; decide), e]⟩
                  clear tle HOE HRES
                  go_wp2_with (first
                    | (go_at_call 102; refine (mount_in.calls _ _ _ _ _ e1).mono ?_; rintro e w' ⟨rfl, hd⟩; have HM2 := Aside0.mk (HM9.out.step hd.below); replace y1 := cell_later hd.below y1; clear hd HM9))
                  go_ret
                  exact ⟨by rw [HV.out]; rfl, HM2.out.below⟩
                · have to1 : decide (Y ≤ Y1) = false := decide_eq_false tle
                  have HV : Aside0 (otherErr l0_0.length i L z = 0) := ⟨by rw [HOE.out, if_neg (fun q => tle q.2)]⟩
                  clear tle HOE HRES
                  go_wp2_with (first
                    | (go_at_call 102; refine (mount_in.calls _ _ _ _ _ e1).mono ?_; rintro e w' ⟨rfl, hd⟩; have HM2 := Aside0.mk (HM9.out.step hd.below); replace y1 := cell_later hd.below y1; clear hd HM9))
                  go_roundg (L.length - (z + 1))
                  case measure => have := HK3.out; omega
                  case rel => exact ⟨z + 1, by go_num, ⟨by omega⟩, ⟨fun j hj => by
                    by_cases qq : j = z
                    · subst qq; exact HV.out
                    · exact HZ.out j (by omega)⟩, HM2⟩
              · have tz1 : decide ((z : Int) > 0) = false := decide_eq_false (by omega)
                have tz2 : decide (0 < z) = false := decide_eq_false tz
                have HV : Aside0 (otherErr l0_0.length i L z = 0) := ⟨by rw [HOE.out, if_neg (fun q => tz q.1)]⟩
                clear HOE HRES
                go_wp2_with (first
                  | (go_at_call 102; refine (mount_in.calls _ _ _ _ _ e1).mono ?_; rintro e w' ⟨rfl, hd⟩; have HM2 := Aside0.mk (HM9.out.step hd.below); clear hd HM9))
                go_roundg (L.length - (z + 1))
                case measure => have := HK3.out; omega
                case rel => exact ⟨z + 1, by go_num, ⟨by omega⟩, ⟨fun j hj => by
                  by_cases qq : j = z
                  · subst qq; exact HV.out
                  · exact HZ.out j (by omega)⟩, HM2⟩
            · have HV : Aside0 (othersErr l0_0.length i (listOf X q) = 0) := ⟨by rw [HL.out]; exact firstErr_ok (fun j hj => HZ.out j (by omega))⟩
              go_wp2_with fail
              go_roundg (2 - (q + 1))
              case measure => have := HK2.out; omega
              case rel => exact ⟨q + 1, by go_num, ⟨by omega⟩, ⟨fun j hj => by
                by_cases qq : j = q
                · subst qq; exact HV.out
                · exact HQ.out j (by omega)⟩, HM9⟩
        · have d2 : wr.cell? ⟨g3, 2, none⟩ = some (.int .i64 X.f2) := (HM8.out.cell 2).trans rfl
          have d3 : wr.cell? ⟨g3, 3, none⟩ = some (.int .i64 X.f3) := (HM8.out.cell 3).trans rfl
          have HPE : Aside0 (partErr l0_0.length i (l0_0.getD i z57) = if X.f2 < 0 ∨ 8 < X.f2 ∨ X.f3 < 0 ∨ 10000 < X.f3 then 2 else 0) := ⟨by
            rw [HXX.out]; unfold partErr; rw [firstErr_ok (fun j hj => HQ.out j (by omega)), if_neg (by decide)]⟩
          have HRES : Aside0 (partErr l0_0.length i (l0_0.getD i z57) ≠ 0 → r = partErr l0_0.length i (l0_0.getD i z57)) := ⟨fun hne => by
            rw [HF3.out, firstErr_at (e := fun i => partErr l0_0.length i (l0_0.getD i z57)) hi HP.out hne]⟩
          generalize X.f2 = J at d2 HPE
          generalize X.f3 = T at d3 HPE
          by_cases tj : 0 ≤ J ∧ J ≤ 8
          · have ej : mount_in.f J 0 8 = some true := by rw [in_eq, decide_eq_true tj]
            by_cases tt : 0 ≤ T ∧ T ≤ 10000
            · have et : mount_in.f T 0 10000 = some true := by rw [in_eq, decide_eq_true tt]
              have HV : Aside0 (partErr l0_0.length i (l0_0.getD i z57) = 0) := ⟨by rw [HPE.out, if_neg (by omega)]⟩
              clear tj tt HPE HRES
              go_wp2_with (first
                | (go_at_call 102; refine (mount_in.calls _ _ _ _ _ ej).mono ?_; rintro e w' ⟨rfl, hd⟩; have HM2 := Aside0.mk (HM8.out.step hd.below); replace d3 := cell_later hd.below d3; clear hd HM8 ej)
                | (go_at_call 102; refine (mount_in.calls _ _ _ _ _ et).mono ?_; rintro e w' ⟨rfl, hd⟩; have HM3 := Aside0.mk (HM2.out.step hd.below); clear hd HM2))
              go_roundg (l0_0.length - (i + 1))
              case measure => have := HK.out; omega
              case rel => exact ⟨i + 1, by go_num, ⟨by omega⟩, ⟨fun j hj => by
                by_cases qq : j = i
                · subst qq; exact HV.out
                · exact HP.out j (by omega)⟩, ⟨HM3.out.drop⟩⟩
            · have et : mount_in.f T 0 10000 = some false := by rw [in_eq, decide_eq_false tt]
              have HV : Aside0 (r = 2) := ⟨by
                have e : partErr l0_0.length i (l0_0.getD i z57) = 2 := by rw [HPE.out, if_pos (by omega)]
                rw [HRES.out (by rw [e]; decide), e]⟩
              clear tj tt HPE HRES
              go_wp2_with (first
                | (go_at_call 102; refine (mount_in.calls _ _ _ _ _ ej).mono ?_; rintro e w' ⟨rfl, hd⟩; have HM2 := Aside0.mk (HM8.out.step hd.below); replace d3 := cell_later hd.below d3; clear hd HM8 ej)
                | (go_at_call 102; refine (mount_in.calls _ _ _ _ _ et).mono ?_; rintro e w' ⟨rfl, hd⟩; have HM3 := Aside0.mk (HM2.out.step hd.below); clear hd HM2))
              go_ret
              exact ⟨by rw [HV.out]; rfl, HM3.out.below⟩
          · have ej : mount_in.f J 0 8 = some false := by rw [in_eq, decide_eq_false tj]
            have HV : Aside0 (r = 2) := ⟨by
              have e : partErr l0_0.length i (l0_0.getD i z57) = 2 := by rw [HPE.out, if_pos (by omega)]
              rw [HRES.out (by rw [e]; decide), e]⟩
            clear tj HPE HRES
            go_wp2_with (first
              | (go_at_call 102; refine (mount_in.calls _ _ _ _ _ ej).mono ?_; rintro e w' ⟨rfl, hd⟩; have HM2 := Aside0.mk (HM8.out.step hd.below); clear hd HM8))
            go_ret
            exact ⟨by rw [HV.out]; rfl, HM2.out.below⟩
    · have HF4 : Aside0 (r = 0) := ⟨by rw [HF3.out]; exact firstErr_ok (fun j hj => HP.out j (by omega))⟩
      go_wp2_with fail
      go_ret
      exact ⟨by rw [HF4.out]; rfl, HM.out.below⟩
end Go.Proofs.Ytbcfphoheijmdaa.Print
end

section
/- ChainOf's inner function: the link that it adds. -/
namespace Go.Proofs.Ytbcfphoheijmdaa.Print
open Go.RowKit Go.Proofs.YtbcfphoheijmdaaW.PrintWords Go.Proofs.YtbcfphoheijmdaaW.PrintLast Go.Proofs.YtbcfphoheijmdaaW.PrintMore Go.Proofs.Ytbcfphoheijmdaa.H
attribute [local go_sem] max2_int min2_int max_two min_two max_three min_three max_four min_four
attribute [local go_sem ↓] Go.wp_at_zero Go.wp_at_succ
set_option linter.unusedVariables false
set_option linter.unusedSimpArgs false

/-- ChainOf's variables: the chain, the positions, how wide, the dice; what else it holds. -/
structure CO (w0 w W : World) (g ga gd gw gc : Nat) (s : Int) (A : List Int) (wide P : Int) (va vl : Value) (L : List S35) (l : List (Nat × Array Value × TypeId)) : Prop where
  mem : Mem w0 W ((gc, #[.int .i64 P, vl], 27) :: (ga, #[va], 22) :: (gw, #[.int .i64 wide], 3) :: (gd, #[.pointer (some ⟨g, 0, none⟩)], 23) :: (g, #[.int .u64 s], 118) :: l)
  keep : KeepBut w W g none
  base : w0.heap.size ≤ w.heap.size
  glt : g < w.heap.size
  big : w.heap.size ≤ gc ∧ w.heap.size ≤ ga ∧ w.heap.size ≤ gw ∧ w.heap.size ≤ gd
  ra : (Kd.int .i64).R 3 W w.heap.size (fun k => k ≠ gw) va A
  rl : k35.R 35 W w.heap.size (fun _ => True) vl L
  types : ∀ p, p ∈ l → p.2.2 ≠ 35 ∧ p.2.2 ≠ 3 ∧ w.heap.size ≤ p.1
theorem e35 {q : Nat} (hq : q ∈ 35 :: k35.E) : q = 35 := by
  have : k35.E = [] := rfl
  rw [this] at hq
  simpa using hq
namespace CO
variable {w0 w W W1 : World} {g ga gd gw gc : Nat} {s s1 : Int} {A : List Int} {wide P x : Int} {va vl v1 : Value} {L : List S35} {y : S35} {l : List (Nat × Array Value × TypeId)}
theorem later (h : CO w0 w W g ga gd gw gc s A wide P va vl L l) (hb : Below W.heap.size W W1) : CO w0 w W1 g ga gd gw gc s A wide P va vl L l :=
  ⟨h.mem.step hb, h.keep.trans (KeepBut.of_below hb g none) (.inl rfl), h.base, h.glt, h.big, Kd.R_below h.ra hb, Kd.R_below h.rl hb, h.types⟩
theorem drewN (h : CO w0 w W g ga gd gw gc s A wide P va vl L l) (n : Nat) : CO w0 w (W.drewN n) g ga gd gw gc s A wide P va vl L l := h.later (pw_below_drewN (Below.refl _ _) n)
theorem drew (h : CO w0 w W g ga gd gw gc s A wide P va vl L l) : CO w0 w W.drew g ga gd gw gc s A wide P va vl L l := h.later (below_drew1 (Below.refl _ _))
theorem cellL (h : CO w0 w W g ga gd gw gc s A wide P va vl L l) : W.cell? ⟨gc, 1, none⟩ = some vl := (h.mem.cell 1).trans rfl
theorem cellP (h : CO w0 w W g ga gd gw gc s A wide P va vl L l) : W.cell? ⟨gc, 0, none⟩ = some (.int .i64 P) := (h.mem.cell 0).trans rfl
theorem cellA (h : CO w0 w W g ga gd gw gc s A wide P va vl L l) : W.cell? ⟨ga, 0, none⟩ = some va := (blk_cell h.mem.second 0).trans rfl
theorem cellW (h : CO w0 w W g ga gd gw gc s A wide P va vl L l) : W.cell? ⟨gw, 0, none⟩ = some (.int .i64 wide) := (blk_cell h.mem.third 0).trans rfl
theorem cellD (h : CO w0 w W g ga gd gw gc s A wide P va vl L l) : W.cell? ⟨gd, 0, none⟩ = some (.pointer (some ⟨g, 0, none⟩)) := (blk_cell (h.mem.blk (gd, #[.pointer (some ⟨g, 0, none⟩)], 23) (by simp)) 0).trans rfl
theorem below (h : CO w0 w W g ga gd gw gc s A wide P va vl L l) : Below w0.heap.size w0 W := h.mem.below
theorem isS (h : CO w0 w W g ga gd gw gc s A wide P va vl L l) : IsS118 w0 W g s := ⟨h.mem.blk (g, #[.int .u64 s], 118) (by simp), h.mem.ge (g, #[.int .u64 s], 118) (by simp)⟩
theorem dice (h : CO w0 w W g ga gd gw gc s A wide P va vl L l) (hI : IsS118 w0 W1 g s1) (hB : Below w0.heap.size w0 W1) (hK : KeepBut W W1 g none) : CO w0 w W1 g ga gd gw gc s1 A wide P va vl L l := by
  have ha := h.mem.apart
  have hother : ∀ p, p ∈ ((gc, #[.int .i64 P, vl], 27) :: (ga, #[va], 22) :: (gw, #[.int .i64 wide], 3) :: (gd, #[.pointer (some ⟨g, 0, none⟩)], 23) :: (g, #[.int .u64 s], 118) :: l : List (Nat × Array Value × TypeId)) → p.1 ≠ g → W1.heap[p.1]? = some (.cells p.2.1 p.2.2 (0, 0)) := fun p hp hne => by
    have hb := h.mem.blk p hp
    exact (hK.2 p.1 (blk_lt hb) hne (by simp)).trans hb
  simp only [List.pairwise_cons, List.mem_cons, forall_eq_or_imp] at ha
  obtain ⟨⟨n1, n2, n3, n4, n5⟩, ⟨m1, m2, m3, m4⟩, ⟨k1, k2, k3⟩, ⟨j1, j2⟩, i1, i2⟩ := ha
  refine ⟨⟨hB, fun p hp => ?_, fun p hp => ?_, ?_⟩, h.keep.trans hK (.inl rfl), h.base, h.glt, h.big, ?_, ?_, h.types⟩
  · simp only [List.mem_cons] at hp
    rcases hp with rfl | rfl | rfl | rfl | rfl | hp
    · exact hother (gc, #[.int .i64 P, vl], 27) (by simp) n4
    · exact hother (ga, #[va], 22) (by simp) m3
    · exact hother (gw, #[.int .i64 wide], 3) (by simp) k2
    · exact hother (gd, #[.pointer (some ⟨g, 0, none⟩)], 23) (by simp) j1
    · exact hI.1
    · exact hother p (by simp [hp]) (fun e => i1 p hp e.symm)
  · simp only [List.mem_cons] at hp
    rcases hp with rfl | rfl | rfl | rfl | rfl | hp
    · exact h.mem.ge (gc, #[.int .i64 P, vl], 27) (by simp)
    · exact h.mem.ge (ga, #[va], 22) (by simp)
    · exact h.mem.ge (gw, #[.int .i64 wide], 3) (by simp)
    · exact h.mem.ge (gd, #[.pointer (some ⟨g, 0, none⟩)], 23) (by simp)
    · exact hI.2
    · exact h.mem.ge p (by simp [hp])
  · simp only [List.pairwise_cons, List.mem_cons, forall_eq_or_imp]
    exact ⟨⟨n1, n2, n3, n4, n5⟩, ⟨m1, m2, m3, m4⟩, ⟨k1, k2, k3⟩, ⟨j1, j2⟩, i1, i2⟩
  · exact Kd.R_mono (Kd.R_keep (Kd.R_bound h.ra) hK (fun k hk => by have := h.glt; have := hk.2.1; omega)) (fun _ hk => hk.1)
  · exact Kd.R_mono (Kd.R_keep (Kd.R_bound h.rl) hK (fun k hk => by have := h.glt; have := hk.2.1; omega)) (fun _ hk => hk.1)
theorem keep_set {w W : World} {g gc i : Nat} {v : Value} (h : KeepBut w W g none) (hc : w.heap.size ≤ gc) : KeepBut w (W.setCell ⟨gc, i, none⟩ v) g none :=
  ⟨by rw [World.size_setCell]; exact h.1, fun k hk h1 h2 => (Below.heap_setCell W ⟨gc, i, none⟩ v k (by show k ≠ gc; omega)).trans (h.2 k hk h1 h2)⟩
theorem grownMem (h : CO w0 w W g ga gd gw gc s A wide P va vl L l) (hg : W.grownBy W1 vl.ownBlock) : Mem w0 W1 ((gc, #[.int .i64 P, vl], 27) :: (ga, #[va], 22) :: (gw, #[.int .i64 wide], 3) :: (gd, #[.pointer (some ⟨g, 0, none⟩)], 23) :: (g, #[.int .u64 s], 118) :: l) :=
  h.mem.grown hg (fun k hk => Nat.le_trans h.base (Kd.R_base h.rl k hk)) (fun p hp => by
    refine Kd.R_ne h.rl (h.mem.blk p hp) ?_
    simp only [List.mem_cons] at hp
    rcases hp with rfl | rfl | rfl | rfl | rfl | hp
    · show (35 : Nat) ≠ 27; decide
    · show (35 : Nat) ≠ 22; decide
    · show (35 : Nat) ≠ 3; decide
    · show (35 : Nat) ≠ 23; decide
    · show (35 : Nat) ≠ 118; decide
    · exact (h.types p hp).1.symm)
theorem push (h : CO w0 w W g ga gd gw gc s A wide P va vl L l) (hg : W.grownBy W1 vl.ownBlock) (hR : k35.R 35 W1 w.heap.size (fun _ => True) v1 (L ++ [y])) : CO w0 w (W1.setCell ⟨gc, 1, none⟩ v1) g ga gd gw gc s A wide P va v1 (L ++ [y]) l := by
  have hm := h.grownMem hg
  have hk : KeepBut w W1 g none := by
    refine ⟨Nat.le_trans h.keep.1 hg.size, fun i hi h1 h2 => ?_⟩
    have := h.keep.2 i hi h1 h2
    rw [← this]
    refine hg.block i (Nat.lt_of_lt_of_le hi h.keep.1) (fun e => ?_)
    have := Kd.R_base h.rl i e.symm
    omega
  have hra := Kd.R_mono (Kd.R_grown (Kd.R_bound h.ra) hg (fun k hk => by
    obtain ⟨_, _, _, q, hq, cells, hc⟩ := hk
    have : q = 3 := by simpa [Kd.int, Kd.scalar] using hq
    subst this
    exact Kd.R_ne h.rl hc (by decide))) (fun _ hk => hk.1)
  refine ⟨hm.put 1 v1 rfl, keep_set hk h.big.1, h.base, h.glt, h.big, Kd.R_set hra hm.head (fun q hq => ?_) 1 v1, Kd.R_set hR hm.head (fun q hq => ?_) 1 v1, h.types⟩
  · have : q = 3 := by simpa [Kd.int, Kd.scalar] using hq
    subst this
    decide
  · have : q = 35 := e35 hq
    subst this
    decide
theorem grownMemA (h : CO w0 w W g ga gd gw gc s A wide P va vl L l) (hg : W.grownBy W1 va.ownBlock) : Mem w0 W1 ((gc, #[.int .i64 P, vl], 27) :: (ga, #[va], 22) :: (gw, #[.int .i64 wide], 3) :: (gd, #[.pointer (some ⟨g, 0, none⟩)], 23) :: (g, #[.int .u64 s], 118) :: l) :=
  h.mem.grown hg (fun k hk => Nat.le_trans h.base (Kd.R_base h.ra k hk)) (fun p hp => by
    by_cases e : p.1 = gw
    · intro q
      exact h.ra.1 p.1 q.symm e
    refine Kd.R_ne h.ra (h.mem.blk p hp) ?_
    simp only [List.mem_cons] at hp
    rcases hp with rfl | rfl | rfl | rfl | rfl | hp
    · show (3 : Nat) ≠ 27; decide
    · show (3 : Nat) ≠ 22; decide
    · exact absurd rfl e
    · show (3 : Nat) ≠ 23; decide
    · show (3 : Nat) ≠ 118; decide
    · exact (h.types p hp).2.1.symm)
theorem pushA (h : CO w0 w W g ga gd gw gc s A wide P va vl L l) (hg : W.grownBy W1 va.ownBlock) (hR : (Kd.int .i64).R 3 W1 w.heap.size (fun k => k ≠ gw) v1 (A ++ [x])) : CO w0 w (W1.setCell ⟨ga, 0, none⟩ v1) g ga gd gw gc s (A ++ [x]) wide P v1 vl L l := by
  have hm := h.grownMemA hg
  have hk : KeepBut w W1 g none := by
    refine ⟨Nat.le_trans h.keep.1 hg.size, fun i hi h1 h2 => ?_⟩
    have := h.keep.2 i hi h1 h2
    rw [← this]
    refine hg.block i (Nat.lt_of_lt_of_le hi h.keep.1) (fun e => ?_)
    have := Kd.R_base h.ra i e.symm
    omega
  have hrl := Kd.R_mono (Kd.R_grown (Kd.R_bound h.rl) hg (fun k hk => by
    obtain ⟨_, _, _, q, hq, cells, hc⟩ := hk
    have : q = 35 := e35 hq
    subst this
    exact Kd.R_ne h.ra hc (by decide))) (fun _ hk => hk.1)
  have hsw := (hm.swap.put 0 v1 (cs' := #[v1]) rfl).swap
  refine ⟨hsw, keep_set hk h.big.2.1, h.base, h.glt, h.big, Kd.R_set hR hm.second (fun q hq => ?_) 0 v1, Kd.R_set hrl hm.second (fun q hq => ?_) 0 v1, h.types⟩
  · have : q = 3 := by simpa [Kd.int, Kd.scalar] using hq
    subst this
    decide
  · have : q = 35 := e35 hq
    subst this
    decide
theorem perm {w W : World} {l l' : List (Nat × Array Value × TypeId)} (h : Mem w W l) (hp : l.Perm l') : Mem w W l' :=
  ⟨h.below, fun p hq => h.blk p (hp.mem_iff.2 hq), fun p hq => h.ge p (hp.mem_iff.2 hq), (hp.pairwise_iff (fun hab => Ne.symm hab)).1 h.apart⟩
theorem addl (h : CO w0 w W g ga gd gw gc s A wide P va vl L l) {g5 t : Nat} {cs : Array Value} (hm : Mem W W1 [(g5, cs, t)]) (ht : t ≠ 35 ∧ t ≠ 3) : CO w0 w W1 g ga gd gw gc s A wide P va vl L ((g5, cs, t) :: l) := by
  have hl := h.later hm.below
  have h5 := hm.geh
  refine ⟨?_, hl.keep, h.base, h.glt, h.big, hl.ra, hl.rl, fun p hp => ?_⟩
  · have hall : Mem w0 W1 ((g5, cs, t) :: (gc, #[.int .i64 P, vl], 27) :: (ga, #[va], 22) :: (gw, #[.int .i64 wide], 3) :: (gd, #[.pointer (some ⟨g, 0, none⟩)], 23) :: (g, #[.int .u64 s], 118) :: l) := by
      refine ⟨hl.mem.below, fun p hp => ?_, fun p hp => ?_, .cons (fun p hp => ?_) hl.mem.apart⟩
      · rcases List.mem_cons.1 hp with rfl | hp
        · exact hm.head
        · exact hl.mem.blk p hp
      · rcases List.mem_cons.1 hp with rfl | hp
        · exact Nat.le_trans h.mem.below.size h5
        · exact hl.mem.ge p hp
      · have := blk_lt (h.mem.blk p hp)
        show g5 ≠ p.1
        omega
    refine perm hall ?_
    exact (List.perm_middle (l₁ := ([(gc, #[Value.int .i64 P, vl], 27), (ga, #[va], 22), (gw, #[Value.int .i64 wide], 3), (gd, #[Value.pointer (some ⟨g, 0, none⟩)], 23), (g, #[Value.int .u64 s], 118)] : List (Nat × Array Value × TypeId)))).symm
  · rcases List.mem_cons.1 hp with rfl | hp
    · exact ⟨ht.1, ht.2, Nat.le_trans h.keep.1 h5⟩
    · exact h.types p hp
theorem headl {p : Nat × Array Value × TypeId} (h : CO w0 w W g ga gd gw gc s A wide P va vl L (p :: l)) : Mem w0 W (p :: (gc, #[.int .i64 P, vl], 27) :: (ga, #[va], 22) :: (gw, #[.int .i64 wide], 3) :: (gd, #[.pointer (some ⟨g, 0, none⟩)], 23) :: (g, #[.int .u64 s], 118) :: l) :=
  perm h.mem (List.perm_middle (l₁ := ([(gc, #[Value.int .i64 P, vl], 27), (ga, #[va], 22), (gw, #[Value.int .i64 wide], 3), (gd, #[Value.pointer (some ⟨g, 0, none⟩)], 23), (g, #[Value.int .u64 s], 118)] : List (Nat × Array Value × TypeId))))
theorem dropl {p : Nat × Array Value × TypeId} (h : CO w0 w W g ga gd gw gc s A wide P va vl L (p :: l)) : CO w0 w W g ga gd gw gc s A wide P va vl L l :=
  ⟨h.headl.drop, h.keep, h.base, h.glt, h.big, h.ra, h.rl, fun q hq => h.types q (List.mem_cons_of_mem _ hq)⟩
/-- The block at the list's head is written. -/
theorem setl {g5 t : Nat} {cs cs' : Array Value} (h : CO w0 w W g ga gd gw gc s A wide P va vl L ((g5, cs, t) :: l)) (hm : Mem w0 W1 ((g5, cs', t) :: (gc, #[.int .i64 P, vl], 27) :: (ga, #[va], 22) :: (gw, #[.int .i64 wide], 3) :: (gd, #[.pointer (some ⟨g, 0, none⟩)], 23) :: (g, #[.int .u64 s], 118) :: l)) (hs : W1.heap.size = W.heap.size) (hk : ∀ k, k ≠ g5 → W1.heap[k]? = W.heap[k]?) :
    CO w0 w W1 g ga gd gw gc s A wide P va vl L ((g5, cs', t) :: l) := by
  have ht := h.types (g5, cs, t) (by simp)
  refine ⟨perm hm (List.perm_middle (l₁ := ([(gc, #[Value.int .i64 P, vl], 27), (ga, #[va], 22), (gw, #[Value.int .i64 wide], 3), (gd, #[Value.pointer (some ⟨g, 0, none⟩)], 23), (g, #[Value.int .u64 s], 118)] : List (Nat × Array Value × TypeId)))).symm, ⟨by rw [hs]; exact h.keep.1, fun i hi h1 h2 => (hk i (by have := ht.2.2; show i ≠ g5; omega)).trans (h.keep.2 i hi h1 h2)⟩, h.base, h.glt, h.big, ?_, ?_, fun p hp => ?_⟩
  · refine Kd.R_mono (Kd.R_step (Kd.R_types h.ra h.headl.head (fun q hq => ?_)) (fun k hk2 _ => hk k hk2.2)) (fun _ hk => hk.1)
    have : q = 3 := by simpa [Kd.int, Kd.scalar] using hq
    subst this
    exact ht.2.1.symm
  · refine Kd.R_mono (Kd.R_step (Kd.R_types h.rl h.headl.head (fun q hq => ?_)) (fun k hk2 _ => hk k hk2.2)) (fun _ hk => hk.1)
    have : q = 35 := e35 hq
    subst this
    exact ht.1.symm
  · rcases List.mem_cons.1 hp with rfl | hp
    · exact ht
    · exact h.types p (List.mem_cons_of_mem _ hp)
theorem putl {g5 t i : Nat} {cs cs' : Array Value} {v : Value} (h : CO w0 w W g ga gd gw gc s A wide P va vl L ((g5, cs, t) :: l)) (e : cs.setIfInBounds i v = cs') : CO w0 w (W.setCell ⟨g5, i, none⟩ v) g ga gd gw gc s A wide P va vl L ((g5, cs', t) :: l) :=
  h.setl (h.headl.put i v e) (World.size_setCell _ _ _) (fun k hk => Below.heap_setCell W ⟨g5, i, none⟩ v k hk)
end CO
section
variable {P : Program} {ops : Array Oper} {rest : List Oper} {o : Oper} {a : Act} {Q : Exit → Act → World → Prop} {w W : World} {l : List (Nat × Array Value × TypeId)}
/-- A whole struct is stored; the world behind it is named. -/
theorem ev_storeW {g : Nat} {old cs : Array Value} {t : TypeId} (hm : Mem w W ((g, old, t) :: l)) (hgd : o.guard = none) (ty : TypeId) (x y : Operand) (ho : o.op = .store ty x y)
    (hx : a.eval x = .pointer (some ⟨g, 0, none⟩)) (hy : a.eval y = .agg cs) {n : Nat} (hi : (P.info? ty).map (·.size) = some n) (hold : old.size = n) (hs : cs.size = n) (h1 : cs.all (·.oneCell') = true)
    (h : Mem w (W.setRow g cs) ((g, cs, t) :: l) → wpList P ops Q rest (a.put o.dst undef) (W.setRow g cs)) : wpList P ops Q (o :: rest) a W :=
  wpList_plain hgd fun _ hK => wp_store_row ty x y ho g cs hx hy t old hm.head (by rw [hi, hs]) (by rw [hold, hs]) h1 (hK _ _ (h (hm.row cs)))
end
set_option maxHeartbeats 3200000 in
set_option maxRecDepth 100000 in
theorem add_calls {w0 w W : World} {g ga gd gw gc : Nat} {s : Int} {A : List Int} {wide P : Int} {va vl : Value} {L : List S35} {l : List (Nat × Array Value × TypeId)} (h : CO w0 w W g ga gd gw gc s A wide P va vl L l) (hA : ∀ j, -30 ≤ A.getD j 0 ∧ A.getD j 0 ≤ 30) (hw : 0 ≤ wide ∧ wide ≤ 1000) (a b : Nat) (ha : a < A.length) (hb : b < A.length) (hL : L.length ≤ 1000) :
    Calls Try.prog 86 #[.int .i64 a, .int .i64 b, .pointer (some ⟨ga, 0, none⟩), .pointer (some ⟨gd, 0, none⟩), .pointer (some ⟨gw, 0, none⟩), .pointer (some ⟨gc, 0, none⟩)] W fun e W' => e = .returned (.tuple #[]) ∧ ∃ vl', CO w0 w W' g ga gd gw gc (next3 s) A wide P va vl' (L ++ [addLink A wide s a b]) l := by
  obtain ⟨Aa, na, rfl, hna, hCA⟩ := Kd.R_reads h.ra
  obtain ⟨ad, e0, x1⟩ := cell_int hCA b hb
  obtain ⟨_, e1, x0⟩ := cell_int hCA a ha
  cases e0
  cases e1
  have HH := Aside0.mk h
  have hX := hA b
  have hY := hA a
  have HAL : Aside0 (addLink A wide s a b = ⟨(a : Int), (b : Int), addRange (A.getD b 0 - A.getD a 0) wide s⟩) := ⟨by unfold addLink; rw [Int.toNat_natCast, Int.toNat_natCast]⟩
  generalize A.getD b 0 = X at x1 hX HAL
  generalize A.getD a 0 = Y at x0 hY HAL
  have cA := h.cellA
  have cW := h.cellW
  have cD := h.cellD
  clear h hCA hA
  have hu1 := up_eq s (wide + 1) (by omega) (by omega)
  have hu2 := up_eq (nextWord s) (wide + 1) (by omega) (by omega)
  have ho := one_eq2 (nextWord (nextWord s)) 40 (by omega) (by omega)
  have HAR : Aside0 (addRange (X - Y) wide s = if oneV (nextWord (nextWord s)) 40 = true then ⟨X - Y + 1, X - Y + 2⟩ else ⟨X - Y - upV s (wide + 1), max (X - Y - upV s (wide + 1) + wide - upV (nextWord s) (wide + 1)) (X - Y)⟩) := ⟨rfl⟩
  generalize upV s (wide + 1) = u1 at hu1 HAR
  generalize upV (nextWord s) (wide + 1) = u2 at hu2 HAR
  generalize oneV (nextWord (nextWord s)) 40 = on at ho HAR
  have HU1 := Aside0.mk hu1.1
  have HU2 := Aside0.mk hu2.1
  have HON := Aside0.mk ho
  have hb1 := hu1.2
  have hb2 := hu2.2
  clear hu1 hu2 ho
  have i1 : (0 : Int) ≤ (a : Int) := by omega
  have i2 : (a : Int) < (A.length : Int) := by omega
  have i3 : (0 : Int) ≤ (b : Int) := by omega
  have i4 : (b : Int) < (A.length : Int) := by omega
  have n1 : IntKind.i64.wrap (X - Y) = X - Y := IntWalk.i64_in _ (by omega)
  have n2 : IntKind.i64.wrap (wide + 1) = wide + 1 := IntWalk.i64_in _ (by omega)
  have n3 : IntKind.i64.wrap (X - Y - u1) = X - Y - u1 := IntWalk.i64_in _ (by omega)
  have n4 : IntKind.i64.wrap (X - Y - u1 + wide) = X - Y - u1 + wide := IntWalk.i64_in _ (by omega)
  have n5 : IntKind.i64.wrap (X - Y - u1 + wide - u2) = X - Y - u1 + wide - u2 := IntWalk.i64_in _ (by omega)
  have n6 : IntKind.i64.wrap (X - Y + 1) = X - Y + 1 := IntWalk.i64_in _ (by omega)
  have n7 : IntKind.i64.wrap (X - Y + 2) = X - Y + 2 := IntWalk.i64_in _ (by omega)
  have hu32 := Try.underlying32
  go_enter Try.func86, Try.ntmps86
  go_wp2_with fail
  go_quiet (fail)
  clear x0 x1 cA
  have HH1 := Aside0.mk (HH.out.drewN nq)
  have dW := HH1.out.cellW
  have dD := HH1.out.cellD
  go_wp2_with (first
    | (go_at_call 43; refine (thermionkit_Dice_Upto.calls g s (wide + 1) u1 (nextWord s) w0 _ HH1.out.isS HH1.out.below HU1.out).mono ?_; rintro e w2 ⟨rfl, hI2, hB2, hK2⟩; have HH2 := Aside0.mk (HH1.out.dice hI2 hB2 hK2); have HN2 := Aside0.mk (Mem.start w2); have d2W := HH2.out.cellW; have d2D := HH2.out.cellD; clear hI2 hB2 hK2 HH1 dW dD HU1)
    | ((with_reducible refine gate_dst (N := 10) rfl ?_); refine ev_new HN2.out rfl 32 rfl info32a ?_; intro g5 w3 hm3 hq1; clear hq1; have HN3 := Aside0.mk hm3; clear hm3 HN2 d2W)
    | (refine ev_store HN3.out rfl 32 (.tmp 10) (.tmp 30) rfl rfl (cs := #[.int .i64 (X - Y - u1), .int .i64 (X - Y - u1 + wide)]) rfl size32 rfl rfl (by simp [Value.oneCell']) ?_; intro w4 hm4 hq1; clear hq1; have HN4 := Aside0.mk hm4; clear hm4 HN3))
  have HH4 := Aside0.mk ((HH2.out.addl HN4.out ⟨by decide, by decide⟩).drew)
  clear HH2 HN4 d2D
  refine wp_region_noPanic ?_
  refine H.wp_region_T [10] (S := fun w' => w'.cell? ⟨g5, 1, none⟩ = some (.int .i64 (X - Y - u1 + wide)) ∧ w'.cell? ⟨gd, 0, none⟩ = some (.pointer (some ⟨g, 0, none⟩)) ∧ w'.cell? ⟨gw, 0, none⟩ = some (.int .i64 wide)) (by kernel_rfl) ⟨(HH4.out.headl.cell 1).trans rfl, HH4.out.cellD, HH4.out.cellW⟩ (fun hHeld => ?_)
  refine H.wpAnyT_takeY (i := 0) (v := .pointer (some ⟨g5, 1, none⟩)) rfl (by decide) (by kernel_rfl) (by kernel_rfl) (by kernel_rfl) (fun _ _ _ h => h) (Or.inl ⟨by rfl, ?_⟩) hHeld ?_
  · (intro w_ hSw; go_simp; try rfl)
  try simp only [Act.put, List.setIfInBounds_toArray, List.set_cons_zero, List.set_cons_succ]
  refine H.wpAnyT_take (i := 1) (v := .int .i64 (X - Y - u1 + wide)) rfl (by decide) (by kernel_rfl) (by kernel_rfl) (by kernel_rfl) (by kernel_rfl) (fun _ _ _ h => h) (Or.inl ⟨by rfl, ?_⟩) hHeld ?_
  · (intro w_ hSw; (try dsimp only at hSw); obtain ⟨q1, q2, q3⟩ := hSw; go_simp; try rfl)
  try simp only [Act.put, List.setIfInBounds_toArray, List.set_cons_zero, List.set_cons_succ]
  refine H.wpAnyT_take (i := 2) (v := .pointer (some ⟨g, 0, none⟩)) rfl (by decide) (by kernel_rfl) (by kernel_rfl) (by kernel_rfl) (by kernel_rfl) (fun _ _ _ h => h) (Or.inl ⟨by rfl, ?_⟩) hHeld ?_
  · (intro w_ hSw; (try dsimp only at hSw); obtain ⟨q1, q2, q3⟩ := hSw; go_simp; try rfl)
  try simp only [Act.put, List.setIfInBounds_toArray, List.set_cons_zero, List.set_cons_succ]
  refine H.wpAnyT_take (i := 3) (v := .int .i64 wide) rfl (by decide) (by kernel_rfl) (by kernel_rfl) (by kernel_rfl) (by kernel_rfl) (fun _ _ _ h => h) (Or.inl ⟨by rfl, ?_⟩) hHeld ?_
  · (intro w_ hSw; (try dsimp only at hSw); obtain ⟨q1, q2, q3⟩ := hSw; go_simp; try rfl)
  try simp only [Act.put, List.setIfInBounds_toArray, List.set_cons_zero, List.set_cons_succ]
  refine H.wpAnyT_takeY (i := 4) (v := .int .i64 (wide + 1)) rfl (by decide) (by kernel_rfl) (by kernel_rfl) (by kernel_rfl) (fun _ _ _ h => h) (Or.inl ⟨by rfl, ?_⟩) hHeld ?_
  · (intro w_ hSw; go_simp; try rfl)
  try simp only [Act.put, List.setIfInBounds_toArray, List.set_cons_zero, List.set_cons_succ]
  refine H.wpAnyT_takeY (i := 7) (v := .int .i64 (X - Y)) rfl (by decide) (by kernel_rfl) (by kernel_rfl) (by kernel_rfl) (fun _ _ _ h => h) (Or.inl ⟨by rfl, ?_⟩) hHeld ?_
  · (intro w_ hSw; go_simp; try rfl)
  try simp only [Act.put, List.setIfInBounds_toArray, List.set_cons_zero, List.set_cons_succ]
  refine H.wpAnyT_ready (rs := [5]) (by kernel_rfl) (by simp) ?_
  refine H.AllT.cons (i := 5) rfl (by decide) (fun K hK => ?_) H.AllT.nil
  go_simp
  go_at_call 43
  refine (thermionkit_Dice_Upto.calls g (nextWord s) (wide + 1) u2 (nextWord (nextWord s)) w0 _ HH4.out.isS HH4.out.below HU2.out).mono ?_
  rintro e w5 ⟨rfl, hI5, hB5, hK5⟩
  have HH5 := Aside0.mk (HH4.out.dice hI5 hB5 hK5)
  clear hI5 hB5 hK5
  refine hK.out _ _ ⟨(HH5.out.headl.cell 1).trans rfl, HH5.out.cellD, HH5.out.cellW⟩ (fun hHeld => ?_)
  clear hK K
  try simp only [Act.put, List.setIfInBounds_toArray, List.set_cons_zero, List.set_cons_succ]
  refine H.wpAnyT_takeY (i := 6) (v := .int .i64 (X - Y - u1 + wide - u2)) rfl (by decide) (by kernel_rfl) (by kernel_rfl) (by kernel_rfl) (fun _ _ _ h => h) (Or.inl ⟨by rfl, ?_⟩) hHeld ?_
  · (intro w_ hSw; go_simp; try rfl)
  try simp only [Act.put, List.setIfInBounds_toArray, List.set_cons_zero, List.set_cons_succ]
  refine H.wpAnyT_takeY (i := 8) (v := .int .i64 (if X - Y - u1 + wide - u2 < X - Y then X - Y else X - Y - u1 + wide - u2)) rfl (by decide) (by kernel_rfl) (by kernel_rfl) (by kernel_rfl) (fun _ _ _ h => h) (Or.inl ⟨by rfl, ?_⟩) hHeld ?_
  · (intro w_ hSw; go_simp; try rfl)
  try simp only [Act.put, List.setIfInBounds_toArray, List.set_cons_zero, List.set_cons_succ]
  refine H.wpAnyT_takeY (i := 9) (v := .pointer (some ⟨g5, 1, none⟩)) rfl (by decide) (by kernel_rfl) (by kernel_rfl) (by kernel_rfl) (fun _ _ _ h => h) (Or.inl ⟨by rfl, ?_⟩) hHeld ?_
  · (intro w_ hSw; go_simp; try rfl)
  try simp only [Act.put, List.setIfInBounds_toArray, List.set_cons_zero, List.set_cons_succ]
  have s5 := hHeld.1
  have f5 : w5.frozen? ⟨g5, 1, none⟩ = false := HH5.out.headl.frozen 1
  refine H.wpAnyT_ready (rs := [10]) (by kernel_rfl) (by simp) ?_
  refine H.AllT.last (i := 10) rfl (by decide) (fun K hK => ?_) H.AllT.nil
  go_simp
  refine hK.out _ _ ?_
  clear hK K s5 f5 hHeld
  try simp only [Act.put, List.setIfInBounds_toArray, List.set_cons_zero, List.set_cons_succ]
  refine wpAny_done (by kernel_rfl) ?_ _
  refine NoPanic.normal ?_
  have HMX : Aside0 ((if X - Y - u1 + wide - u2 < X - Y then X - Y else X - Y - u1 + wide - u2) = max (X - Y - u1 + wide - u2) (X - Y)) := ⟨by split <;> omega⟩
  generalize (if X - Y - u1 + wide - u2 < X - Y then X - Y else X - Y - u1 + wide - u2) = M at HMX ⊢
  have HH6 : Aside0 (CO w0 w (w5.setCell ⟨g5, 1, none⟩ (.int .i64 M)) g ga gd gw gc (nextWord (nextWord s)) A wide P (.slice (some ad) A.length na) vl L ((g5, #[.int .i64 (X - Y - u1), .int .i64 M], 32) :: l)) := ⟨HH5.out.putl rfl⟩
  clear HH5 HH4
  generalize (w5.setCell ⟨g5, 1, none⟩ (.int .i64 M)) = w6 at HH6 ⊢
  have d6 := HH6.out.cellD
  cases on with
  | false =>
    have HAL2 : Aside0 (addLink A wide s a b = ⟨(a : Int), (b : Int), ⟨X - Y - u1, M⟩⟩) := ⟨by rw [HAL.out, HAR.out, if_neg (by simp), HMX.out]⟩
    clear HAL HAR HMX
    go_wp2_with (first
      | (go_at_call 35; refine (thermionkit_Dice_One.calls g (nextWord (nextWord s)) 40 false (nextWord (nextWord (nextWord s))) w0 _ HH6.out.isS HH6.out.below HON.out).mono ?_; rintro e w7 ⟨rfl, hI7, hB7, hK7⟩; have HH8 := Aside0.mk (HH6.out.dice hI7 hB7 hK7); have d8 := HH8.out.cellL; clear hI7 hB7 hK7 HH6 d6 HON)
      | ((with_reducible refine gate_dst (N := 52) rfl ?_); refine ev_load HH8.out.headl.head rfl 32 (.tmp 10) rfl rfl _ Try.underlying32 rfl size32 rfl ?_)
      | ((with_reducible refine gate_dst (N := 55) rfl ?_); refine Kd.R_append k35 (w0 := w7) w.heap.size rfl (.tmp 49) (.tmp 54) 25 35 _ _ rfl Try.underlying25 info35 rfl (by decide) (by omega) vl L ⟨(a : Int), (b : Int), ⟨X - Y - u1, M⟩⟩ [.int .i64 (a : Int), .int .i64 (b : Int), .int .i64 (X - Y - u1), .int .i64 M] (fun _ => True) (fun _ => False) rfl rfl (k35_mkM _ _ _ _) (fun _ hk => hk.elim) (fun _ _ => trivial) HH8.out.rl (Below.refl _ _) HH8.out.keep.1 (by omega) ?_; intro v1 w9 hR9 hB9 hg9 hat9; obtain ⟨A1, n1, he1⟩ := Kd.R_slice hR9; subst he1; rw [List.length_append, List.length_singleton] at hR9; have HH9 := Aside0.mk (HH8.out.push hg9 hR9); have s9 : w9.cell? ⟨gc, 1, none⟩ = some vl := (blk_cell (HH8.out.grownMem hg9).head 1).trans rfl; have f9 : w9.frozen? ⟨gc, 1, none⟩ = false := blk_frozen (HH8.out.grownMem hg9).head 1; clear hR9 hB9 hg9 hat9))
    refine bodyPost_end (results_none rfl _ _ _) rfl ⟨rfl, .slice A1 (L.length + 1) n1, ?_⟩
    rw [HAL2.out]
    exact HH9.out.dropl
  | true =>
    have HAL2 : Aside0 (addLink A wide s a b = ⟨(a : Int), (b : Int), ⟨X - Y + 1, X - Y + 2⟩⟩) := ⟨by rw [HAL.out, HAR.out, if_pos rfl]⟩
    clear HAL HAR HMX
    go_wp2_with (first
      | (go_at_call 35; refine (thermionkit_Dice_One.calls g (nextWord (nextWord s)) 40 true (nextWord (nextWord (nextWord s))) w0 _ HH6.out.isS HH6.out.below HON.out).mono ?_; rintro e w7 ⟨rfl, hI7, hB7, hK7⟩; have HH8 := Aside0.mk (HH6.out.dice hI7 hB7 hK7); have HH7 := Aside0.mk HH8.out; clear HH8 hI7 hB7 hK7 HH6 d6 HON)
      | (refine ev_storeW HH7.out.headl rfl 32 (.tmp 10) (.tmp 47) rfl rfl (cs := #[.int .i64 (X - Y + 1), .int .i64 (X - Y + 2)]) rfl size32 rfl rfl (by simp [Value.oneCell']) ?_; intro hm7; have HH8 := Aside0.mk (HH7.out.setl hm7 (size_setRow _ _ _) (fun k hk => setRow_other _ _ _ _ hk)); clear hm7 HH7; generalize (w7.setRow g5 #[.int .i64 (X - Y + 1), .int .i64 (X - Y + 2)]) = w8 at HH8 ⊢; have d8 := HH8.out.cellL)
      | ((with_reducible refine gate_dst (N := 52) rfl ?_); refine ev_load HH8.out.headl.head rfl 32 (.tmp 10) rfl rfl _ Try.underlying32 rfl size32 rfl ?_)
      | ((with_reducible refine gate_dst (N := 55) rfl ?_); refine Kd.R_append k35 (w0 := w8) w.heap.size rfl (.tmp 49) (.tmp 54) 25 35 _ _ rfl Try.underlying25 info35 rfl (by decide) (by omega) vl L ⟨(a : Int), (b : Int), ⟨X - Y + 1, X - Y + 2⟩⟩ [.int .i64 (a : Int), .int .i64 (b : Int), .int .i64 (X - Y + 1), .int .i64 (X - Y + 2)] (fun _ => True) (fun _ => False) rfl rfl (k35_mkM _ _ _ _) (fun _ hk => hk.elim) (fun _ _ => trivial) HH8.out.rl (Below.refl _ _) HH8.out.keep.1 (by omega) ?_; intro v1 w9 hR9 hB9 hg9 hat9; obtain ⟨A1, n1, he1⟩ := Kd.R_slice hR9; subst he1; rw [List.length_append, List.length_singleton] at hR9; have HH9 := Aside0.mk (HH8.out.push hg9 hR9); have s9 : w9.cell? ⟨gc, 1, none⟩ = some vl := (blk_cell (HH8.out.grownMem hg9).head 1).trans rfl; have f9 : w9.frozen? ⟨gc, 1, none⟩ = false := blk_frozen (HH8.out.grownMem hg9).head 1; clear hR9 hB9 hg9 hat9))
    refine bodyPost_end (results_none rfl _ _ _) rfl ⟨rfl, .slice A1 (L.length + 1) n1, ?_⟩
    rw [HAL2.out]
    exact HH9.out.dropl
end Go.Proofs.Ytbcfphoheijmdaa.Print
end
