/- Part 4 of the texts of a claim about Ytndkkjpgnmahbaa, put together by a program of this work: what the Go functions do, and that their calls do so. -/
import Derived.Test.YtndkkjpgnmahbaaFS2
import Derived.Test.YtndkkjpgnmahbaaFS3
set_option linter.unusedVariables false
set_option linter.unusedSimpArgs false
set_option maxRecDepth 100000
set_option maxHeartbeats 64000000
attribute [local go_sem] Go.Proofs.YtndkkjpgnmahbaaW.PrintMore.max2_int Go.Proofs.YtndkkjpgnmahbaaW.PrintMore.min2_int Go.Proofs.YtndkkjpgnmahbaaW.PrintMore.max_two Go.Proofs.YtndkkjpgnmahbaaW.PrintMore.min_two Go.Proofs.YtndkkjpgnmahbaaW.PrintMore.max_three Go.Proofs.YtndkkjpgnmahbaaW.PrintMore.min_three Go.Proofs.YtndkkjpgnmahbaaW.PrintMore.max_four Go.Proofs.YtndkkjpgnmahbaaW.PrintMore.min_four
section
namespace Go.Proofs.Ytndkkjpgnmahbaa.Print
open Go.RowKit YtndkkjpgnmahbaaW.PrintWords YtndkkjpgnmahbaaW.PrintLast YtndkkjpgnmahbaaW.PrintMore Ytndkkjpgnmahbaa.H Proofs.Field
def planF.T9 : Bool × List (List Nat × List Nat) := (true, [([], []), ([0], [0]), ([], []), ([2], [2]), ([3], [3]), ([4], [4]), ([5], [5]), ([1, 0, 1, 2, 3, 4, 5, 6], [1]), ([7, 6, 0, 1, 2, 3, 4, 5, 6], [6, 7])])
def planF.B9 : List Nat := [0, 1, 0, 4, 12, 28, 60, 127, 255]
theorem planF.tab9 : rtab .any (opsOf Try.f22 9) = planF.T9 := by kernel_rfl
theorem planF.bits9 : waitsOk planF.T9.2 planF.B9 = true := by kernel_rfl
structure PS (w0 w W : World) (g : Nat) (s : Int) (g6 : Nat) : Prop where
 dice : IsS79 w0 W g s
 old : Below w0.heap.size w0 W
 kb : KeepBut w W g none
 z : W.heap[g6]? = some (.cells #[.int .i64 0, .int .i64 0, .bool false, .slice none 0 0] 24 (0, 0))
 g60 : w.heap.size ≤ g6
 gw : g < w.heap.size
 ww : w0.heap.size ≤ w.heap.size
theorem PS.call {w0 w W W1 : World} {g : Nat} {s s1 : Int} {g6 : Nat} (h : PS w0 w W g s g6) (h1 : IsS79 w0 W1 g s1) (h2 : Below w0.heap.size w0 W1) (h3 : KeepBut W W1 g none) : PS w0 w W1 g s1 g6 :=
 ⟨h1, h2, h.kb.trans h3 (.inl rfl), h3.blk h.z (by have := h.gw; have := h.g60; omega) (by simp), h.g60, h.gw, h.ww⟩
theorem PS.below {w0 w W W1 : World} {g : Nat} {s : Int} {g6 : Nat} (h : PS w0 w W g s g6) (hb : Below W.heap.size W W1) : PS w0 w W1 g s g6 :=
 ⟨h.dice.below hb, below_step h.old hb, h.kb.trans (KeepBut.of_below hb g none) (.inl rfl), blk_below h.z hb, h.g60, h.gw, h.ww⟩
structure PT (w0 w W : World) (g : Nat) (s : Int) (g6 g7 : Nat) (a b : Value) (r : Bool) (v : Value) (D : List Int) : Prop where
 ps : PS w0 w W g s g6
 pl : W.heap[g7]? = some (.cells #[a, b, .bool r, v] 24 (0, 0))
 r : Kd.R (Kd.int .i64) 3 W w.heap.size (fun _ => True) v D
 g70 : w.heap.size ≤ g7
 ne : g6 ≠ g7
namespace PT
variable {w0 w W W1 : World} {g : Nat} {s s1 : Int} {g6 g7 : Nat} {a b : Value} {r : Bool} {v : Value} {D : List Int}
theorem call (h : PT w0 w W g s g6 g7 a b r v D) (h1 : IsS79 w0 W1 g s1) (h2 : Below w0.heap.size w0 W1) (h3 : KeepBut W W1 g none) : PT w0 w W1 g s1 g6 g7 a b r v D := by
 have hgw := h.ps.gw
 refine ⟨h.ps.call h1 h2 h3, h3.blk h.pl (by have := h.g70; omega) (by simp), ?_, h.g70, h.ne⟩
 have hb := Kd.R_base h.r
 have h4 : Kd.R (Kd.int .i64) 3 W w.heap.size (fun k => True ∧ k ≠ g) v D := Kd.R_types h.r h.ps.dice.1 (by decide)
 exact Kd.R_mono (Kd.R_keep h4 h3 (fun k hk => hk.2)) (fun _ _ => trivial)
theorem below (h : PT w0 w W g s g6 g7 a b r v D) (hb : Below W.heap.size W W1) : PT w0 w W1 g s g6 g7 a b r v D :=
 ⟨h.ps.below hb, blk_below h.pl hb, Kd.R_below h.r hb, h.g70, h.ne⟩
theorem set0 {gv c : Nat} (h : PT w0 w W g s g6 g7 a b r (.slice (some ⟨gv, 0, none⟩) D.length c) D) (m : Int) : PT w0 w (W.setCell ⟨gv, 0, none⟩ (.int .i64 m)) g s g6 g7 a b r (.slice (some ⟨gv, 0, none⟩) D.length c) (D.set 0 m) := by
 obtain ⟨h1, h2⟩ := Kd.R_put h.r (0 : Int) m
 rw [show (0 : Int).toNat = 0 from rfl] at h1 h2
 have n1 := Kd.R_ne h.r h.ps.dice.1 (by decide)
 have n2 := Kd.R_ne h.r h.ps.z (by decide)
 have n3 := Kd.R_ne h.r h.pl (by decide)
 have hb := Kd.R_base h.r gv rfl
 have hww := h.ps.ww
 exact ⟨⟨h.ps.dice.grown h2 n1, h.ps.old.grown h2 h.ps.old.size (fun k e => by cases e; omega), h.ps.kb.trans (KeepBut.of_grown h2 g) (.inr ⟨gv, rfl, hb⟩), blk_grown h.ps.z h2 n2, h.ps.g60, h.ps.gw, hww⟩, blk_grown h.pl h2 n3, h1, h.g70, h.ne⟩
theorem put (h : PT w0 w W g s g6 g7 a b r v D) {v1 : Value} {D1 : List Int} (hg : W.grownBy W1 v.ownBlock) (hR : Kd.R (Kd.int .i64) 3 W1 w.heap.size (fun _ => True) v1 D1) : PT w0 w (W1.setCell ⟨g7, 3, none⟩ v1) g s g6 g7 a b r v1 D1 := by
 have n1 := Kd.R_ne h.r h.ps.dice.1 (by decide)
 have n2 := Kd.R_ne h.r h.ps.z (by decide)
 have n3 := Kd.R_ne h.r h.pl (by decide)
 have d1 := h.ps.dice.grown hg n1
 have z1 := blk_grown h.ps.z hg n2
 have p1 := blk_grown h.pl hg n3
 have hb := Kd.R_base h.r
 have o1 : Below w0.heap.size w0 W1 := h.ps.old.grown hg h.ps.old.size (fun k e => by have := hb k e; have := h.ps.ww; omega)
 have k1 : KeepBut w W1 g none := h.ps.kb.trans (KeepBut.of_grown hg g) (by
  cases e : v.ownBlock with
  | none => exact .inl rfl
  | some k => exact .inr ⟨k, rfl, hb k e⟩)
 have hgw := h.ps.gw
 have h7 := h.g70
 have hww := h.ps.ww
 exact ⟨⟨⟨blk_far (p := ⟨g7, 3, none⟩) d1.1 (show g ≠ g7 by omega) _, d1.2⟩, below_set o1 (by omega), keep_far k1 h7 _, blk_far (p := ⟨g7, 3, none⟩) z1 h.ne _, h.ps.g60, hgw, hww⟩, by rw [blk_set p1 3]; rfl, Kd.R_set hR p1 (by decide) 3 v1, h7, h.ne⟩
end PT
theorem thermionkit_PlanOf.calls (g : Nat) (s0_0 : Int) (a1 : Int) (a2 : Int) (r1 : Int) (r2 : Int) (r3 : Bool) (r4 : List Int) (r5 : Int) (w0 w : World) (hI : IsS79 w0 w g s0_0) (hB : Below w0.heap.size w0 w) (h : thermionkit_PlanOf.f s0_0 a1 a2 = some (r1, r2, r3, r4, r5)) :
  Calls Try.prog 22 #[.pointer (some ⟨g, 0, none⟩), .int .i64 a1, .int .i64 a2] w fun e w' => ∃ v3_ : Value, e = .returned (.agg #[.int .i64 r1, .int .i64 r2, .bool r3, v3_]) ∧ Kd.R (Kd.int .i64) 3 w' w.heap.size (fun _ => True) v3_ r4 ∧ IsS79 w0 w' g r5 ∧ Below w0.heap.size w0 w' ∧ KeepBut w w' g none := by
 unfold thermionkit_PlanOf.f at h
 by_cases q : 1 ≤ a1 ∧ a1 ≤ 16 ∧ 1 ≤ a2 ∧ a2 ≤ 16
 rotate_left
 ·rw [if_neg q] at h; exact absurd h (by simp)
 rw [if_pos q] at h
 simp only [Option.some.injEq, Prod.mk.injEq] at h
 obtain ⟨e1, e2, e3, e4, e5⟩ := h
 have hW := dBtw_eq s0_0 1 a1 q.1 (by omega) (by omega)
 have hH := dBtw_eq (dBtw s0_0 1 a1).2 1 a2 q.2.2.1 (by omega) (by omega)
 have hR := dOne_eq (dBtw (dBtw s0_0 1 a1).2 1 a2).2 2 (by omega) (by omega)
 rw [e1] at hW e4 e5
 rw [e2] at hH e4 e5
 rw [e3] at hR
 generalize (dBtw s0_0 1 a1).2 = s1 at *
 generalize (dBtw s1 1 a2).2 = s2 at *
 generalize (dOne s2 2).2 = s3 at *
 have HW := Aside0.mk hW
 have HH := Aside0.mk hH
 have HR := Aside0.mk hR
 obtain ⟨W', rfl⟩ : ∃ W' : Nat, r1 = W' := ⟨r1.toNat, by omega⟩
 obtain ⟨H', rfl⟩ : ∃ H' : Nat, r2 = H' := ⟨r2.toNat, by omega⟩
 rw [Int.toNat_natCast, Int.toNat_natCast] at e4 e5
 obtain ⟨N, hN⟩ : ∃ N, W' * H' = N := ⟨_, rfl⟩
 rw [hN] at e4 e5
 have HX : Aside0 (W' * H' = N ∧ 0 < W' ∧ 0 < N ∧ N ≤ 256) := ⟨hN, by omega, by rw [← hN]; exact Nat.mul_pos (by omega) (by omega), by have := Nat.mul_le_mul (show W' ≤ 16 by omega) (show H' ≤ 16 by omega); omega⟩
 have nm : IntKind.i64.wrap ((W' : Int) * (H' : Int)) = (N : Int) := by rw [← Int.natCast_mul, hN]; exact IntWalk.i64_in _ (by have := HX.out; omega)
 have HE := Aside0.mk (And.intro e4 e5)
 have HI := Aside0.mk hI
 have HB := Aside0.mk hB
 have HM := Aside0.mk (Mem.start w)
 have HGW := Aside0.mk (blk_lt hI.1)
 have hu24 := Try.underlying24
 have hu22 := Try.underlying22
 clear e1 e2 e3 e4 e5 hW hH hR hN hI hB q
 go_enter Try.func22, Try.ntmps22
 go_wp2_with (first
  | ((with_reducible refine gate_dst (N := 6) rfl ?_); refine ev_new HM.out rfl 24 rfl info24 ?_; intro g6 wa hm1 hq1; have HP := Aside0.mk (PS.mk (HI.out.below hq1) (below_step HB.out hq1) (KeepBut.of_below hq1 g none) hm1.head hm1.geh HGW.out HB.out.size); clear hm1 hq1 HM)
  | (go_at_call 32; refine (thermionkit_Dice_Between.calls g s0_0 1 a1 _ _ w0 _ HP.out.dice HP.out.old HW.out.1).mono ?_; rintro e wb ⟨rfl, hd, ho, hk⟩; have HP2 := Aside0.mk (HP.out.call hd ho hk); clear hd ho hk HP)
  | (go_at_call 32; refine (thermionkit_Dice_Between.calls g s1 1 a2 _ _ w0 _ HP2.out.dice HP2.out.old HH.out.1).mono ?_; rintro e wb2 ⟨rfl, hd, ho, hk⟩; have HP3 := Aside0.mk (HP2.out.call hd ho hk); clear hd ho hk HP2)
  | (go_at_call 66; refine (thermionkit_Dice_One.calls g s2 2 _ _ w0 _ HP3.out.dice HP3.out.old HR.out).mono ?_; rintro e wc ⟨rfl, hd, ho, hk⟩; have HP4 := Aside0.mk (HP3.out.call hd ho hk); have HM4 := Aside0.mk (Mem.start wc); clear hd ho hk HP3)
  | ((with_reducible refine gate_dst (N := 7) rfl ?_); refine ev_new HM4.out rfl 24 rfl info24 ?_; intro g7 wd hm1 hq1; have HM5 := Aside0.mk hm1; have HNE : Aside0 (g6 ≠ g7 ∧ w.heap.size ≤ g7) := ⟨by have h1 := blk_lt HP4.out.z; have h2 := hm1.geh; omega, Nat.le_trans HP4.out.kb.1 hm1.geh⟩; clear hm1 hq1 HM4)
  | ((with_reducible refine gate_store (t := 24) (p := 7) rfl ?_); refine ev_store HM5.out rfl 24 (.tmp 7) (.tmp 18) rfl rfl (cs := #[.int .i64 (W' : Int), .int .i64 (H' : Int), .bool r3, .slice none 0 0]) rfl size24 rfl rfl (by simp [Value.oneCell']) ?_; intro we hm2 hq2; clear hq2; have HT0 : Aside0 (PT w0 w we g s3 g6 g7 (.int .i64 (W' : Int)) (.int .i64 (H' : Int)) r3 (.slice none 0 0) []) := ⟨⟨HP4.out.below hm2.below, hm2.head, Kd.R_nil _ _ _ _ _, HNE.out.2, HNE.out.1⟩⟩; clear hm2 HM5 HP4))
 go_loopg [8] N (fun k v8 w' => ∃ (i : Nat) (v : Value), v8 = .int .i64 (i : Int) ∧ Aside0 (i + k = N) ∧ Aside0 (PT w0 w w' g (cellsTo s3 i).2 g6 g7 (.int .i64 (W' : Int)) (.int .i64 (H' : Int)) r3 v (cellsTo s3 i).1))
 case atStart => exact ⟨0, _, rfl, ⟨by omega⟩, HT0⟩
 case round =>
  clear HT0
  obtain ⟨i, v, rfl, HK, HT⟩ := hrel
  have c0 : wr.cell? ⟨g7, 0, none⟩ = some (.int .i64 (W' : Int)) := (blk_cell HT.out.pl 0).trans rfl
  have c1 : wr.cell? ⟨g7, 1, none⟩ = some (.int .i64 (H' : Int)) := (blk_cell HT.out.pl 1).trans rfl
  by_cases hi : i < N
  ·have hlt : decide (i < N) = true := decide_eq_true hi
   have HI2 := Aside0.mk hi
   have i2 : i < 256 := by have := HX.out; omega
   have HLD : Aside0 ((cellsTo s3 i).1.length = i) := ⟨cellsTo_length s3 i⟩
   have HST : Aside0 (cellsTo s3 (i + 1) = ((cellsTo s3 i).1 ++ [(cellStep (cellsTo s3 i).2).1], (cellStep (cellsTo s3 i).2).2)) := ⟨rfl⟩
   generalize (cellsTo s3 i).2 = s at HT HST
   generalize (cellsTo s3 i).1 = D at HT HST HLD
   have HO := Aside0.mk (dOne_eq s 3 (by omega) (by omega))
   have HCS : Aside0 (cellStep s = if (dOne s 3).1 = true then dBtw (dOne s 3).2 1 3 else (0, (dOne s 3).2)) := ⟨rfl⟩
   have HBW := Aside0.mk (dBtw_eq (dOne s 3).2 1 3 (by omega) (by omega) (by omega)).1
   generalize dOne s 3 = o at HO HCS HBW
   obtain ⟨ob, os⟩ := o
   generalize dBtw os 1 3 = p at HCS HBW
   obtain ⟨pn, ps⟩ := p
   clear hi
   cases ob
   ·have HST2 : Aside0 (cellsTo s3 (i + 1) = (D ++ [0], os)) := ⟨by rw [HST.out, HCS.out]; rfl⟩
    clear HST HCS HBW
    go_wp2_with (first
     | (go_at_call 66; refine (thermionkit_Dice_One.calls g s 3 _ _ w0 _ HT.out.ps.dice HT.out.ps.old HO.out).mono ?_; rintro e wb ⟨rfl, hd, ho, hk⟩; have HT2 := Aside0.mk (HT.out.call hd ho hk); clear hd ho hk HT c0 c1; have c3 : wb.cell? ⟨g7, 3, none⟩ = some v := (blk_cell HT2.out.pl 3).trans rfl; have f3 := blk_frozen HT2.out.pl 3)
     | ((with_reducible refine gate_dst (N := 36) rfl ?_); refine Kd.R_append (Kd.int .i64) (w0 := wb) w.heap.size rfl (.tmp 33) (.tmp 35) 22 3 (.int .i64 0) 8 rfl Try.underlying22 info3 rfl (by decide) (by omega) v D 0 [.int .i64 0] (fun _ => True) (fun _ => False) rfl rfl rfl (fun _ hk => hk.elim) (fun _ _ => trivial) HT2.out.r (Below.refl _ _) HT2.out.ps.kb.1 (by have := HLD.out; omega) ?_; intro v1 w5 hR5 hB5 hg5 hat5; have HT3 := Aside0.mk (HT2.out.put hg5 hR5); have c4 : w5.cell? ⟨g7, 3, none⟩ = some v := (blk_cell (blk_grown HT2.out.pl hg5 (Kd.R_ne HT2.out.r HT2.out.pl (by decide))) 3).trans rfl; have f4 : w5.frozen? ⟨g7, 3, none⟩ = false := blk_frozen (blk_grown HT2.out.pl hg5 (Kd.R_ne HT2.out.r HT2.out.pl (by decide))) 3; obtain ⟨A5, c5, e5⟩ := Kd.R_slice hR5; rw [List.length_append, List.length_singleton] at e5; subst e5; clear hR5 hB5 hg5 hat5 c3 f3 HT2))
    go_roundg (N - (i + 1))
    case measure => have := HK.out; have := HI2.out; omega
    case rel => exact ⟨i + 1, _, by go_num, ⟨by have := HI2.out; omega⟩, ⟨by rw [HST2.out]; exact HT3.out⟩⟩
   ·have HST2 : Aside0 (cellsTo s3 (i + 1) = (D ++ [pn], ps)) := ⟨by rw [HST.out, HCS.out]; rfl⟩
    clear HST HCS
    go_wp2_with (first
     | (go_at_call 66; refine (thermionkit_Dice_One.calls g s 3 _ _ w0 _ HT.out.ps.dice HT.out.ps.old HO.out).mono ?_; rintro e wb1 ⟨rfl, hd, ho, hk⟩; have HT1 := Aside0.mk (HT.out.call hd ho hk); clear hd ho hk HT c0 c1)
     | (go_at_call 32; refine (thermionkit_Dice_Between.calls g os 1 3 _ _ w0 _ HT1.out.ps.dice HT1.out.ps.old HBW.out).mono ?_; rintro e wb ⟨rfl, hd, ho, hk⟩; have HT2 := Aside0.mk (HT1.out.call hd ho hk); clear hd ho hk HT1; have c3 : wb.cell? ⟨g7, 3, none⟩ = some v := (blk_cell HT2.out.pl 3).trans rfl; have f3 := blk_frozen HT2.out.pl 3)
     | ((with_reducible refine gate_dst (N := 36) rfl ?_); refine Kd.R_append (Kd.int .i64) (w0 := wb) w.heap.size rfl (.tmp 33) (.tmp 35) 22 3 (.int .i64 0) 8 rfl Try.underlying22 info3 rfl (by decide) (by omega) v D pn [.int .i64 pn] (fun _ => True) (fun _ => False) rfl rfl rfl (fun _ hk => hk.elim) (fun _ _ => trivial) HT2.out.r (Below.refl _ _) HT2.out.ps.kb.1 (by have := HLD.out; omega) ?_; intro v1 w5 hR5 hB5 hg5 hat5; have HT3 := Aside0.mk (HT2.out.put hg5 hR5); have c4 : w5.cell? ⟨g7, 3, none⟩ = some v := (blk_cell (blk_grown HT2.out.pl hg5 (Kd.R_ne HT2.out.r HT2.out.pl (by decide))) 3).trans rfl; have f4 : w5.frozen? ⟨g7, 3, none⟩ = false := blk_frozen (blk_grown HT2.out.pl hg5 (Kd.R_ne HT2.out.r HT2.out.pl (by decide))) 3; obtain ⟨A5, c5, e5⟩ := Kd.R_slice hR5; rw [List.length_append, List.length_singleton] at e5; subst e5; clear hR5 hB5 hg5 hat5 c3 f3 HT2))
    go_roundg (N - (i + 1))
    case measure => have := HK.out; have := HI2.out; omega
    case rel => exact ⟨i + 1, _, by go_num, ⟨by have := HI2.out; omega⟩, ⟨by rw [HST2.out]; exact HT3.out⟩⟩
  ·obtain rfl : i = N := by have := HK.out; omega
   have hlt : decide (i < i) = false := decide_eq_false (Nat.lt_irrefl _)
   clear hi
   have hlD := cellsTo_length s3 i
   obtain ⟨gv, cv, ev, hgv, _, _⟩ := Kd.R_form HT.out.r (by rw [hlD]; exact HX.out.2.2.1)
   subst ev
   have HHE : Aside0 (opened W' (firstOne (cellsTo s3 i).1) = r4 ∧ (cellsTo s3 i).2 = r5) := HE
   generalize (cellsTo s3 i).1 = D at HT HHE hlD hgv
   generalize (cellsTo s3 i).2 = sz at HT HHE
   have HLD := Aside0.mk hlD
   have l1 : (0 : Int) < (D.length : Int) := by have := HX.out; omega
   have l2 : 0 < D.length := by have := HX.out; omega
   clear hlD HE
   have cX : wr.cell? ⟨gv, 0, none⟩ = some (.int .i64 (D.getD 0 0)) := by
    have h1 := (Kd.R_cell (0 : Int) HT.out.r 0 (by omega) l1).1
    rw [show (0 : Int).toNat = 0 from rfl] at h1
    rw [h1]
    rfl
   have HFO : Aside0 (firstOne D = D.set 0 (if 1 < D.getD 0 0 then D.getD 0 0 else 1)) := ⟨by
    unfold firstOne
    rw [show max 1 (D.getD 0 0) = if 1 < D.getD 0 0 then D.getD 0 0 else 1 by split <;> omega]⟩
   generalize D.getD 0 0 = X at cX HFO
   have c3 : wr.cell? ⟨g7, 3, none⟩ = some (.slice (some ⟨gv, 0, none⟩) D.length cv) := (blk_cell HT.out.pl 3).trans rfl
   go_upto_region 9 with (fail)
   clear c0 c1 nm hlt
   have HBd := Aside0.mk (below_drew1 (Below.refl wr.heap.size wr))
   refine start_ (n := 9) (S := fun w' => w'.cell? ⟨g7, 3, none⟩ = some (.slice (some ⟨gv, 0, none⟩) D.length cv) ∧ w'.cell? ⟨gv, 0, none⟩ = some (.int .i64 X)) (ds := [8]) #[false, false, false, false, false, false, false, false, false] (by kernel_rfl) rfl rfl ⟨c3, cX⟩ (fun hHeld => ?_); refine with_tabW planF.tab9 planF.bits9 (fun HT_ HW_ => ?_)
   generalize wr.drew = wd at HBd hHeld  ⊢
   refine pu_ 0 38 (bS 9 1) HT_ ?_
   refine pu_ 2 40 (bS 9 5) HT_ ?_
   refine ta_ 1 39 (bS 9 7) HT_ HW_ hHeld ?_
   refine ta_ 3 41 (bS 9 15) HT_ HW_ hHeld ?_
   refine pu_ 4 42 (bS 9 31) HT_ ?_
   refine ta_ 5 43 (bS 9 63) HT_ HW_ hHeld ?_
   refine pu_ 6 44 (bS 9 127) HT_ ?_
   refine pu_ 7 45 (bS 9 255) HT_ ?_
   obtain ⟨m, hm⟩ : ∃ m, (if 1 < X then X else (1 : Int)) = m := ⟨_, rfl⟩
   rw [hm] at HFO ⊢
   clear hm
   have HT2 := Aside0.mk (HT.out.below HBd.out)
   have cX2 : wd.cell? ⟨gv, 0, none⟩ = some (.int .i64 X) := hHeld.2
   have fX2 : wd.frozen? ⟨gv, 0, none⟩ = false := (Kd.R_cell (0 : Int) HT2.out.r 0 (by omega) l1).2
   clear HT HBd cX c3 hHeld
   refine la_ 8 (bS 9 511) (fun K hK => ?_)
   go_simp
   refine hK.out _ _ ?_
   refine done_ (by kernel_rfl) ?_
   clear hK K HT_ HW_ cX2 fX2
   have HT3 := Aside0.mk (HT2.out.set0 m)
   rw [← HFO.out] at HT3
   clear HT2
   generalize wd.setCell ⟨gv, 0, none⟩ (.int .i64 m) = w8 at HT3 ⊢
   have HLF : Aside0 ((firstOne D).length = D.length) := ⟨by unfold firstOne; rw [List.length_set]⟩
   have HCALL : Aside0 (Calls Try.prog 67 #[.agg (planV (W' : Int) (H' : Int) r3 (some ⟨gv, 0, none⟩) D.length cv)] w8 fun e w' => e = .returned (.agg (planV (W' : Int) (H' : Int) r3 (some ⟨gv, 0, none⟩) D.length cv)) ∧ Kd.R (Kd.int .i64) 3 w' w.heap.size (fun _ => True) (.slice (some ⟨gv, 0, none⟩) D.length cv) r4 ∧ w8.grownBy w' (some gv)) := ⟨by
    have h1 := opened_calls W' H' r3 gv cv w.heap.size (fun _ => True) (firstOne D) w8 (by rw [HLF.out]; exact HT3.out.r) (by rw [HLF.out, HLD.out, HX.out.1]) (by have := HX.out; have := HLF.out; have := HLD.out; omega) (by rw [HLF.out]; exact l2) HX.out.2.1
    rw [HHE.out.1, show r4.length = (firstOne D).length by rw [← HHE.out.1]; exact openTo_length _ _ _, HLF.out] at h1
    exact h1⟩
   go_wp2_with (first
    | ((with_reducible refine gate_dst (N := 46) rfl ?_); refine ev_load HT3.out.pl rfl 24 (.tmp 7) rfl rfl _ Try.underlying24 rfl size24 rfl ?_)
    | (go_at_call 67; refine HCALL.out.mono ?_; rintro e w9 ⟨rfl, hR9, hg9⟩; have HR9 := Aside0.mk hR9; have HG9 := Aside0.mk hg9; have hz9 := blk_grown HT3.out.ps.z hg9 (fun e => by have h2 := Kd.R_ne HT3.out.r HT3.out.ps.z (by decide); exact h2 e); have HZ9 := Aside0.mk hz9; clear hR9 hg9 hz9 HCALL)
    | ((with_reducible refine gate_store (t := 24) (p := 6) rfl ?_); refine ev_storeB HZ9.out rfl 24 (.tmp 6) (.tmp 47) rfl rfl rfl size24 rfl rfl (by simp [Value.oneCell']) ?_))
   (try simp only [Exit.inBlock, Exit.then])
   have n1 := Kd.R_ne HT3.out.r HT3.out.ps.dice.1 (by decide)
   have d9 := HT3.out.ps.dice.grown HG9.out n1
   have o9 : Below w0.heap.size w0 w9 := HT3.out.ps.old.grown HG9.out HT3.out.ps.old.size (fun k e => by cases e; have := HT3.out.ps.ww; omega)
   have k9 : KeepBut w w9 g none := HT3.out.ps.kb.trans (KeepBut.of_grown HG9.out g) (.inr ⟨gv, rfl, hgv⟩)
   have h6 := HT3.out.ps.g60
   have hgw := HT3.out.ps.gw
   have hww := HT3.out.ps.ww
   refine bodyPost_ret (results_cell_row rfl _ _ g6 24 _ (0, 0) _ rfl (setRow_heap _ _ _ _ _ _ HZ9.out) hu24 rfl (by rw [size24]; rfl)) rfl ⟨_, rfl, Kd.R_mono (Kd.R_step (Kd.R_types HR9.out HZ9.out (by decide)) (fun k hk _ => setRow_other _ _ _ _ hk.2)) (fun _ _ => trivial), ?_, below_row o9 (by omega), ?_⟩
   ·rw [← HHE.out.2]
    exact ⟨(setRow_other _ _ _ _ (show g ≠ g6 by omega)).trans d9.1, d9.2⟩
   ·exact ⟨by rw [size_setRow]; exact k9.1, fun k hk hne hr => by rw [setRow_other _ _ _ _ (show k ≠ g6 by omega)]; exact k9.2 k hk hne hr⟩
end Go.Proofs.Ytndkkjpgnmahbaa.Print
end

section
namespace Go.Proofs.Ytndkkjpgnmahbaa.Print
open Go.RowKit YtndkkjpgnmahbaaW.PrintWords YtndkkjpgnmahbaaW.PrintLast YtndkkjpgnmahbaaW.PrintMore Ytndkkjpgnmahbaa.H Proofs.Field
def thermionkit_Greatest.l0 : Nat → Int → Int → Int → Int → Bool → List Int → Option (Int)
 | 0, _, _, _, _, _, _ => none
 | k + 1, x3, x4, x336000, x336001, x336002, x336003 => if x4 < (x336003.length : Int) then (if 0 ≤ x4 then (thermionkit_Greatest.l0 k (mx x3 (rd x336003 x4)) (wrap64 (x4 + 1)) x336000 x336001 x336002 x336003) else (none)) else (some x3)
def thermionkit_Greatest.f (k : Nat) (a0_0 : Int) (a0_1 : Int) (a0_2 : Bool) (l0_3 : List Int) : Option (Int) := thermionkit_Greatest.l0 k 0 0 a0_0 a0_1 a0_2 l0_3
def thermionkit_VoltsOf.l0 : Nat → List Int → Int → Int → Option (List Int × Int)
 | 0, _, _, _ => none
 | k + 1, x5, x6, x1000 => if x6 < (x5.length : Int) then ((thermionkit_Dice_Between.f x1000 (-100) 100).bind fun bt342 => ((thermionkit_Dice_Between.f bt342.2 (-1000000) 1000000).bind fun bt344 => ((some (([0, bt342.1, bt344.1, 1000000] : List Int) : List Int)).bind fun y346 => ((thermionkit_Dice_Upto.f bt344.2 4).bind fun bt349 => (if 0 ≤ bt349.1 then (if bt349.1 < (y346.length : Int) then (if 0 ≤ x6 then (thermionkit_VoltsOf.l0 k (x5.set (x6 : Int).toNat (rd y346 bt349.1)) (wrap64 (x6 + 1)) bt349.2) else (none)) else (none)) else (none)))))) else (some (x5, x1000))
def thermionkit_VoltsOf.f (k : Nat) (s0_0 : Int) (a1_0 : Int) (a1_1 : Int) (a1_2 : Bool) (l1_3 : List Int) : Option (List Int × Int) := (thermionkit_Greatest.f k a1_0 a1_1 a1_2 l1_3).bind fun t338 => (if 0 ≤ (mn 8 t338) then (if (mn 8 t338 : Int).toNat ≤ 35184372088832 then (thermionkit_VoltsOf.l0 k (List.replicate (mn 8 t338 : Int).toNat 0) 0 s0_0) else (none)) else (none))
def thermionkit_Mod.f (a0 : Int) (a1 : Int) : Option (Int) := if a1 < 1 then (some 0) else (if a1 = 0 then (none) else (if (Int.tmod a0 a1) < 0 then (some (wrap64 ((Int.tmod a0 a1) + a1))) else (some (Int.tmod a0 a1))))
theorem thermionkit_Mod.calls (a0 : Int) (a1 : Int) (r : Int) (w : World) (h : thermionkit_Mod.f a0 a1 = some r) :
  Calls Try.prog 28 #[.int .i64 a0, .int .i64 a1] w fun e w' => e = .returned (.int .i64 r) ∧ Drawn0 w w' := by
 have H : (if a1 < 1 then (some 0) else (if a1 = 0 then (none) else (if (Int.tmod a0 a1) < 0 then (some (wrap64 ((Int.tmod a0 a1) + a1))) else (some (Int.tmod a0 a1))))) = some r := h
 clear h
 by_cases c3 : a1 < 1
 ·rw [if_pos c3] at H
  have c3b0 := decide_eq_true c3
  clear c3
  obtain rfl := Option.some.inj H
  go_enter Try.func28, Try.ntmps28
  go_wp2
  go_ret
  exact ⟨by first | rfl | (simp; done) | (simp [*]; done), by repeat (first | exact Drawn0.refl _ | apply Drawn0.step)⟩
 ·rw [if_neg c3] at H
  have c3b0 := decide_eq_false c3
  clear c3
  by_cases c4 : a1 = 0
  ·rw [if_pos c4] at H
   exact absurd H (by simp)
  ·rw [if_neg c4] at H
   obtain ⟨c4b0, c4b1⟩ := aNe c4
   by_cases c5 : (Int.tmod a0 a1) < 0
   ·rw [if_pos c5] at H
    have c5b0 := decide_eq_true c5
    clear c5
    obtain rfl := Option.some.inj H
    go_enter Try.func28, Try.ntmps28
    go_wp2
    go_ret
    exact ⟨by first | rfl | (simp; done) | (simp [*]; done), by repeat (first | exact Drawn0.refl _ | apply Drawn0.step)⟩
   ·rw [if_neg c5] at H
    have c5b0 := decide_eq_false c5
    clear c5
    obtain rfl := Option.some.inj H
    go_enter Try.func28, Try.ntmps28
    go_wp2
    go_ret
    exact ⟨by first | rfl | (simp; done) | (simp [*]; done), by repeat (first | exact Drawn0.refl _ | apply Drawn0.step)⟩
def thermionkit_Same.l0 : Nat → List Int → List Int → Int → Option (Bool)
 | 0, _, _, _ => none
 | k + 1, x0, x1, x5 => if x5 < (x0.length : Int) then (if 0 ≤ x5 then (if x5 < (x1.length : Int) then (if (rd x0 x5) = (rd x1 x5) then (thermionkit_Same.l0 k x0 x1 (wrap64 (x5 + 1))) else (some false)) else (none)) else (none)) else (some true)
def thermionkit_Same.f (k : Nat) (l0 : List Int) (l1 : List Int) : Option (Bool) := if (l0.length : Int) = (l1.length : Int) then (thermionkit_Same.l0 k l0 l1 0) else (some false)
theorem thermionkit_Same.calls (k : Nat) (A0 : Option Addr) (c0 : Nat) (l0 : List Int) (A1 : Option Addr) (c1 : Nat) (l1 : List Int) (r : Bool) (w : World) (hr0 : Kd.C (Kd.int .i64) w A0 l0.length l0) (hc0 : l0.length ≤ c0) (hr1 : Kd.C (Kd.int .i64) w A1 l1.length l1) (hc1 : l1.length ≤ c1) (h : thermionkit_Same.f k l0 l1 = some r) :
  Calls Try.prog 43 #[.slice A0 l0.length c0, .slice A1 l1.length c1] w fun e w' => e = .returned (.bool r) ∧ Drawn0 w w' := by
 have HR0 := Aside0.mk hr0
 have HC0 := Aside0.mk hc0
 clear hr0 hc0
 have HR1 := Aside0.mk hr1
 have HC1 := Aside0.mk hc1
 clear hr1 hc1
 have H : (if (l0.length : Int) = (l1.length : Int) then (thermionkit_Same.l0 k l0 l1 0) else (some false)) = some r := h
 clear h
 by_cases c3 : (l0.length : Int) = (l1.length : Int)
 ·rw [if_pos c3] at H
  obtain ⟨c3b0, c3b1⟩ := aEq c3
  have c3b2 : (l0.length == l1.length) = true := by first | simpa using c3 | (simp at c3 ⊢; omega)
  clear c3
  have H' := Aside0.mk H
  clear H
  go_enter Try.func43, Try.ntmps43
  go_wp2
  repeat (go_quiet (fail); try go_wp2)
  go_loopg [5] k (fun kq v5 w' => ∃ (x5_1 : Int), v5 = .int .i64 x5_1 ∧ Aside0 (thermionkit_Same.l0 kq l0 l1 x5_1 = some r) ∧ Aside0 (kq ≤ k) ∧ Drawn0 w w')
  case atStart => exact ⟨(0), aR, H', ⟨Nat.le_refl _⟩, by repeat (first | exact Drawn0.refl _ | apply Drawn0.step)⟩
  case round =>
   clear H'
   try clear c1; try clear c3; try clear c3b0; try clear c3b1; try clear c3b2
   obtain ⟨x5_1, rfl, HA, HK1, ⟨m1, rfl⟩⟩ := hrel
   cases gk with
   | zero => exact absurd HA.out (by simp [thermionkit_Same.l0])
   | succ k1 =>
    have H := HA.out
    clear HA
    simp only [thermionkit_Same.l0] at H
    by_cases c4 : x5_1 < (l0.length : Int)
    ·rw [if_pos c4] at H
     have c4b0 := decide_eq_true c4
     clear c4
     by_cases c5 : 0 ≤ x5_1
     ·rw [if_pos c5] at H
      have c5b0 := decide_eq_true c5
      clear c5
      by_cases c6 : x5_1 < (l1.length : Int)
      ·rw [if_pos c6] at H
       have c6b0 := decide_eq_true c6
       clear c6
       by_cases c7 : (rd l0 x5_1) = (rd l1 x5_1)
       ·rw [if_pos c7] at H
        obtain ⟨c7b0, c7b1⟩ := aEq c7
        clear c7
        have H' := Aside0.mk H
        clear H
        have p117 : 0 ≤ (x5_1 : Int) := aD
        have q117 : x5_1 < (l0.length : Int) := aD
        obtain ⟨ad117, e117, hx117_0⟩ := Kd.at_int HR0.out x5_1 p117 q117
        cases e117
        replace p117 := eq_true p117
        replace q117 := eq_true q117
        have p118 : 0 ≤ (x5_1 : Int) := aD
        have q118 : x5_1 < (l1.length : Int) := aD
        obtain ⟨ad118, e118, hx118_0⟩ := Kd.at_int HR1.out x5_1 p118 q118
        cases e118
        replace p118 := eq_true p118
        replace q118 := eq_true q118
        go_wp2
        repeat (go_quiet (fail); try go_wp2)
        go_roundg k1
        case measure => have := HK1.out; omega
        case rel => exact ⟨(wrap64 (x5_1 + 1)), aR, H', ⟨by have := HK1.out; omega⟩, by repeat (first | exact Drawn0.refl _ | apply Drawn0.step)⟩
       ·rw [if_neg c7] at H
        obtain ⟨c7b0, c7b1⟩ := aNe c7
        obtain rfl := Option.some.inj H
        have p117 : 0 ≤ (x5_1 : Int) := aD
        have q117 : x5_1 < (l0.length : Int) := aD
        obtain ⟨ad117, e117, hx117_0⟩ := Kd.at_int HR0.out x5_1 p117 q117
        cases e117
        replace p117 := eq_true p117
        replace q117 := eq_true q117
        have p118 : 0 ≤ (x5_1 : Int) := aD
        have q118 : x5_1 < (l1.length : Int) := aD
        obtain ⟨ad118, e118, hx118_0⟩ := Kd.at_int HR1.out x5_1 p118 q118
        cases e118
        replace p118 := eq_true p118
        replace q118 := eq_true q118
        go_wp2
        repeat (go_quiet (fail); try go_wp2)
        go_ret
        exact ⟨by first | rfl | (simp; done) | (simp [*]; done), by repeat (first | exact Drawn0.refl _ | apply Drawn0.step)⟩
      ·rw [if_neg c6] at H
       exact absurd H (by simp)
     ·rw [if_neg c5] at H
      exact absurd H (by simp)
    ·rw [if_neg c4] at H
     have c4b0 := decide_eq_false c4
     clear c4
     obtain rfl := Option.some.inj H
     go_wp2
     repeat (go_quiet (fail); try go_wp2)
     go_ret
     exact ⟨by first | rfl | (simp; done) | (simp [*]; done), by repeat (first | exact Drawn0.refl _ | apply Drawn0.step)⟩
 ·rw [if_neg c3] at H
  obtain ⟨c3b0, c3b1⟩ := aNe c3
  have c3b2 : (l0.length == l1.length) = false := by first | simpa using c3 | (simp at c3 ⊢; omega)
  obtain rfl := Option.some.inj H
  go_enter Try.func43, Try.ntmps43
  go_wp2
  repeat (go_quiet (fail); try go_wp2)
  go_ret
  exact ⟨by first | rfl | (simp; done) | (simp [*]; done), by repeat (first | exact Drawn0.refl _ | apply Drawn0.step)⟩

theorem mx_max (x y : Int) : mx x y = max x y := by unfold mx; split <;> omega
theorem foldl_max_zero {C : List Int} (h : ∀ e, e ∈ C → 0 ≤ e) (hne : C ≠ []) : C.foldl max 0 = maxOf C := by
 cases C with
 | nil => exact absurd rfl hne
 | cons x l =>
  rw [List.foldl_cons]
  have := h x List.mem_cons_self
  rw [show max 0 x = x by omega]
  rfl
theorem obind {α β : Type} {o : Option α} {a : α} {f : α → Option β} (h : o = some a) : o.bind f = f a := by rw [h]; rfl
theorem eqA42 (d : Nat) (w : World) (x0 y0 : Int) (x1 y1 : Int) :
  (Op.equalIn (d + 2) 42 (.agg #[.int .i64 x0, .int .i64 x1]) (.agg #[.int .i64 y0, .int .i64 y1])).run Try.prog w = .ok (x0 == y0 && (x1 == y1)) w := by
 refine eqA_of Try.underlying42 (by kernel_rfl) ?_
 refine eqf_cons (by rfl) (by go_simp; rfl) (by go_simp; rfl) (by go_simp) ?_
 exact eqf_last (by rfl) (by go_simp; rfl) (by go_simp; rfl) (by go_simp)
def thermionlaw01_line.f  : Option (Int × Int × Bool × List Int) := some (5, 1, false, (([1, 0, 0, 0, 2] : List Int)))
theorem thermionlaw01_line.calls  (r1 : Int) (r2 : Int) (r3 : Bool) (r4 : List Int) (w : World) (h : thermionlaw01_line.f  = some (r1, r2, r3, r4)) :
  Calls Try.prog 62 #[] w fun e w' => ∃ v3_ : Value, e = .returned (.agg #[.int .i64 r1, .int .i64 r2, .bool r3, v3_]) ∧ Kd.R (Kd.int .i64) 3 w' w.heap.size (fun _ => True) v3_ r4 ∧ Below w.heap.size w w' := by
 have hu24 := Try.underlying24
 have HB := Aside0.mk (Below.refl w.heap.size w)
 have H : (some (5, 1, false, (([1, 0, 0, 0, 2] : List Int)))) = some (r1, r2, r3, r4) := h
 clear h
 obtain ⟨y120, hy120⟩ : ∃ y_ : List Int, y_ = (([1, 0, 0, 0, 2] : List Int)) := ⟨_, rfl⟩
 replace H : (some (5, 1, false, y120)) = some (r1, r2, r3, r4) := by first | (rw [hy120]; with_reducible exact H) | (have H2_ := (Option.bind_some _ _).symm.trans H; rw [hy120]; with_reducible exact H2_) | (have H2_ := (Option.bind_some _ _).symm.trans H; with_reducible exact H2_) | with_reducible exact H | (rw [hy120]; exact H) | exact H
 have Ny120 := Aside0.mk hy120
 clear hy120
 simp only [Option.some.injEq, Prod.mk.injEq] at H
 obtain ⟨rfl, rfl, rfl, rfl⟩ := H
 go_enter Try.func62, Try.ntmps62
 go_wp2_with (first | ((with_reducible refine gate_dst (N := 0) rfl ?_); refine aBox 0 #[.int .i64 0, .int .i64 0, .bool false, .slice none 0 0] 24 ?_; intro gb119 hg w1 hbox hb; have BK119 := Aside0.mk (hbox); have GW119 := aGe hg HB; have GE119 := aGe hg HB; replace HB := aBs HB hb; clear hb hbox hg) | ((with_reducible refine gate_dst (N := 1) rfl ?_); refine Kd.R_lit (Kd.int .i64) _ 3 ?hg (N := 1) ?hd (xs := ([1, 0, 0, 0, 2] : List Int)) (inner := [.int .i64 1, .int .i64 0, .int .i64 0, .int .i64 0, .int .i64 2]) (ok := fun _ => True) (okp := fun _ => True) ?hr ?hp (fun _ hk => hk) trivial (Below.refl _ _) (Nat.le_refl _) (by simp) ?_; (case hd => rfl); (case hg => rfl); (case hr => first | (go_simp; done) | (go_simp; rfl)); (case hp => exact (Reps.one (show Kd.M (Kd.int .i64) _ _ _ 1 [.int .i64 1] from rfl) (Reps.one (show Kd.M (Kd.int .i64) _ _ _ 0 [.int .i64 0] from rfl) (Reps.one (show Kd.M (Kd.int .i64) _ _ _ 0 [.int .i64 0] from rfl) (Reps.one (show Kd.M (Kd.int .i64) _ _ _ 0 [.int .i64 0] from rfl) (Reps.one (show Kd.M (Kd.int .i64) _ _ _ 2 [.int .i64 2] from rfl) (Reps.none _ _))))))); intro v121 w2 ho3 hb hg_ hnew_; clear hg_ hnew_; (first | rw [← Ny120.out] at ho3 | (simp only [Int.reduceToNat] at ho3; rw [← Ny120.out] at ho3)); have HO122 := Aside0.mk (Kd.R_lower ho3 (below_size (aBl HB).out)); replace BK119 := aBb BK119 hb; replace HB := aBs HB hb; clear hb ho3; obtain ⟨Ao4, co4, eo4⟩ := Kd.R_slice HO122.out; subst eo4; obtain ⟨⟨hcz5_0, hcz5_1, hcz5_2, hcz5_3⟩, hfz5_0, hfz5_1, hfz5_2, hfz5_3⟩ := aC4 BK119))
 refine bodyPost_ret (results_cell_row rfl _ _ gb119 24 #[.int .i64 5, .int .i64 1, .bool false, .slice Ao4 y120.length co4] (0, 0) _ rfl (by (with_reducible repeat (first | refine blk_drewN ?_ _ | refine blk_drew ?_ | refine blk_alloc ?_ _)); refine blk_put (cs := #[.int .i64 5, .int .i64 1, .bool false, .slice none 0 0]) ?_ 3 _ rfl; (with_reducible repeat (first | refine blk_drewN ?_ _ | refine blk_drew ?_ | refine blk_alloc ?_ _)); refine blk_put (cs := #[.int .i64 5, .int .i64 1, .bool false, .slice none 0 0]) ?_ 2 _ rfl; (with_reducible repeat (first | refine blk_drewN ?_ _ | refine blk_drew ?_ | refine blk_alloc ?_ _)); refine blk_put (cs := #[.int .i64 5, .int .i64 0, .bool false, .slice none 0 0]) ?_ 1 _ rfl; (with_reducible repeat (first | refine blk_drewN ?_ _ | refine blk_drew ?_ | refine blk_alloc ?_ _)); refine blk_put (cs := #[.int .i64 0, .int .i64 0, .bool false, .slice none 0 0]) ?_ 0 _ rfl; (with_reducible repeat (first | refine blk_drewN ?_ _ | refine blk_drew ?_ | refine blk_alloc ?_ _)); exact BK119.out) Try.underlying24 rfl (by kernel_rfl)) rfl ?_
 exact ⟨_, by first | rfl | (simp [errW_none, errW_some] <;> rfl) | (simp [*, errW_none, errW_some] <;> rfl), by (with_reducible repeat (first | apply Kd.R_alloc | apply Kd.R_drewN | apply Kd.R_drew)); exact Kd.R_mono (Kd.R_far (p := ⟨gb119, 3, none⟩) (Kd.R_far (p := ⟨gb119, 2, none⟩) (Kd.R_far (p := ⟨gb119, 1, none⟩) (Kd.R_far (p := ⟨gb119, 0, none⟩) (Kd.R_types HO122.out BK119.out (by decide)) (fun _ hk => hk.2) (.int .i64 5)) (fun _ hk => hk.2) (.int .i64 1)) (fun _ hk => hk.2) (.bool false)) (fun _ hk => hk.2) (.slice Ao4 y120.length co4)) (fun _ hk => trivial), (aBl HB).out⟩
def thermionlaw01_ring.f : Option (Int × Int × Bool × List Int) := (thermionlaw01_line.f).bind fun bt124 => (some (bt124.1, bt124.2.1, true, bt124.2.2.2))
theorem thermionlaw01_ring.calls (r1 : Int) (r2 : Int) (r3 : Bool) (r4 : List Int) (w : World) (h : thermionlaw01_ring.f = some (r1, r2, r3, r4)) :
 Calls Try.prog 64 #[] w fun e w' => ∃ v3_ : Value, e = .returned (.agg #[.int .i64 r1, .int .i64 r2, .bool r3, v3_]) ∧ Kd.R (Kd.int .i64) 3 w' w.heap.size (fun _ => True) v3_ r4 ∧ Below w.heap.size w w' := by
 have HM := Aside0.mk (Mem.start w)
 have hu24 := Try.underlying24
 obtain ⟨⟨t1, t2, t3, t4⟩, hl, hh⟩ := Option.bind_eq_some_iff.1 h
 simp only [Option.some.injEq, Prod.mk.injEq] at hh
 obtain ⟨rfl, rfl, rfl, rfl⟩ := hh
 have HL := Aside0.mk hl
 clear h hl
 have HCL : Aside0 (∀ V : World, Calls Try.prog 62 #[] V fun e w' => ∃ v3_ : Value, e = .returned (.agg #[.int .i64 t1, .int .i64 t2, .bool t3, v3_]) ∧ Kd.R (Kd.int .i64) 3 w' V.heap.size (fun _ => True) v3_ t4 ∧ Below V.heap.size V w') := ⟨fun V => thermionlaw01_line.calls t1 t2 t3 t4 V HL.out⟩
 clear HL
 go_enter Try.func64, Try.ntmps64
 go_upto_region 3 with (first
  | ((with_reducible refine gate_dst (N := 0) rfl ?_); refine ev_new HM.out rfl 24 rfl info24 ?_; intro g0 w1 hm1 hq1; clear hq1; have HM1 := Aside0.mk hm1; clear hm1 HM)
  | (go_at_call 62; refine (HCL.out _).mono ?_; rintro e w2 ⟨v3, rfl, hv, hb⟩; obtain ⟨A7, c7, rfl⟩ := Kd.R_slice hv; have HV := Aside0.mk (Kd.R_lower hv HM1.out.below.size); have HM2 := Aside0.mk (HM1.out.step hb); clear hv hb HM1)
  | ((with_reducible refine gate_dst (N := 1) rfl ?_); refine ev_new HM2.out rfl 24 rfl info24 ?_; intro g1 w3 hm3 hq3; have HV2 := Aside0.mk (Kd.R_below HV.out hq3); clear hq3 HV; have HM3 := Aside0.mk hm3; clear hm3 HM2)
  | ((with_reducible refine gate_store (t := 24) (p := 1) rfl ?_); refine ev_storeB HM3.out.head rfl 24 (.tmp 1) (.tmp 2) rfl rfl (cs := #[.int .i64 t1, .int .i64 t2, .bool t3, .slice A7 t4.length c7]) rfl size24 rfl rfl (by simp [Value.oneCell']) ?_; have HM4 := Aside0.mk (HM3.out.row #[.int .i64 t1, .int .i64 t2, .bool t3, .slice A7 t4.length c7]); have HV3 := Aside0.mk (Kd.R_mono (Kd.R_step (Kd.R_types HV2.out HM3.out.head (by decide)) (w1 := w3.setRow g1 #[.int .i64 t1, .int .i64 t2, .bool t3, .slice A7 t4.length c7]) (fun k hk _ => setRow_other _ _ _ _ hk.2)) (fun _ hk => hk.1)); clear HM3 HV2; generalize w3.setRow g1 _ = w4 at HM4 HV3 ⊢; have c2 : w4.cell? ⟨g1, 2, none⟩ = some (.bool t3) := (HM4.out.cell 2).trans rfl; have f2 := HM4.out.frozen 2))
 have HM5 := Aside0.mk (HM4.out.put 2 (.bool true) (cs' := #[.int .i64 t1, .int .i64 t2, .bool true, .slice A7 t4.length c7]) rfl)
 have HV4 := Aside0.mk (Kd.R_set HV3.out HM4.out.head (by decide) 2 (.bool true))
 clear HM4 HV3 c2 f2
 generalize w4.setCell ⟨g1, 2, none⟩ (.bool true) = w5 at HM5 HV4 ⊢
 go_wp2_with (first
  | ((with_reducible refine gate_dst (N := 4) rfl ?_); refine ev_load HM5.out.head rfl 24 (.tmp 1) rfl rfl _ Try.underlying24 rfl size24 rfl ?_)
  | ((with_reducible refine gate_store (t := 24) (p := 0) rfl ?_); refine ev_storeB HM5.out.second rfl 24 (.tmp 0) (.tmp 4) rfl rfl rfl size24 rfl rfl (by simp [Value.oneCell']) ?_))
 (try simp only [Exit.inBlock, Exit.then])
 refine bodyPost_ret (results_cell_row rfl _ _ g0 24 _ (0, 0) _ rfl (setRow_heap _ _ _ _ _ _ HM5.out.second) hu24 rfl (by rw [size24]; rfl)) rfl ⟨_, rfl, Kd.R_mono (Kd.R_step (Kd.R_types HV4.out HM5.out.second (by decide)) (fun k hk _ => setRow_other _ _ _ _ hk.2)) (fun _ _ => trivial), ?_⟩
 have hb := HM5.out.below
 exact ⟨hb.os, hb.tape, hb.output, by rw [size_setRow]; exact hb.size, fun i hi => by rw [setRow_other _ g0 i _ (by have := HM5.out.drop.geh; omega)]; exact hb.block i hi⟩
end Go.Proofs.Ytndkkjpgnmahbaa.Print
end

section
namespace Go.Proofs.Ytndkkjpgnmahbaa.H
open Go.RowKit YtndkkjpgnmahbaaW.PrintWords YtndkkjpgnmahbaaW.PrintLast YtndkkjpgnmahbaaW.PrintMore Go.Proofs.Ytndkkjpgnmahbaa.Print
namespace Mem
variable {w W W1 : World} {l : List (Nat × Array Value × TypeId)} {g g1 g2 : Nat} {cs c1 c2 : Array Value} {t t1 t2 : TypeId}
theorem add (h : Mem w W l) (hb : Below W.heap.size W W1) (hg : W1.heap[g]? = some (.cells cs t (0, 0))) (hge : W.heap.size ≤ g) : Mem w W1 ((g, cs, t) :: l) := by
 have h1 := h.step hb
 refine ⟨h1.below, fun p hp => ?_, fun p hp => ?_, .cons (fun p hp => ?_) h.apart⟩
 ·rcases List.mem_cons.1 hp with rfl | hp
  ·exact hg
  ·exact h1.blk p hp
 ·rcases List.mem_cons.1 hp with rfl | hp
  ·exact Nat.le_trans h.below.size hge
  ·exact h.ge p hp
 ·have := blk_lt (h.blk p hp)
  show g ≠ p.1
  omega
theorem add2 (h : Mem w W l) (hb : Below W.heap.size W W1) (hg1 : W1.heap[g1]? = some (.cells c1 t1 (0, 0))) (hge1 : W.heap.size ≤ g1) (hg2 : W1.heap[g2]? = some (.cells c2 t2 (0, 0))) (hge2 : W.heap.size ≤ g2) (hne : g2 ≠ g1) : Mem w W1 ((g2, c2, t2) :: (g1, c1, t1) :: l) := by
 have h1 := h.add hb hg1 hge1
 refine ⟨h1.below, fun p hp => ?_, fun p hp => ?_, .cons (fun p hp => ?_) h1.apart⟩
 ·rcases List.mem_cons.1 hp with rfl | hp
  ·exact hg2
  ·exact h1.blk p hp
 ·rcases List.mem_cons.1 hp with rfl | hp
  ·exact Nat.le_trans h.below.size hge2
  ·exact h1.ge p hp
 ·rcases List.mem_cons.1 hp with rfl | hp
  ·exact hne
  ·have := blk_lt (h.blk p hp)
   show g2 ≠ p.1
   omega
theorem bring {p : Nat × Array Value × TypeId} {l' : List (Nat × Array Value × TypeId)} (h : Mem w W l) (hp : l.Perm (p :: l')) : Mem w W (p :: l') :=
 ⟨h.below, fun q hq => h.blk q (hp.mem_iff.2 hq), fun q hq => h.ge q (hp.mem_iff.2 hq), h.apart.perm hp (fun a => Ne.symm a)⟩
theorem third3 {q r s : Nat × Array Value × TypeId} (h : Mem w W (q :: r :: s :: l)) : Mem w W (s :: q :: r :: l) := h.bring (by
 refine (List.Perm.cons q (List.Perm.swap s r l)).trans ?_
 exact List.Perm.swap s q (r :: l))
theorem fourth4 {q r s u : Nat × Array Value × TypeId} (h : Mem w W (q :: r :: s :: u :: l)) : Mem w W (u :: q :: r :: s :: l) := h.bring (by
 refine (List.Perm.cons q (List.Perm.cons r (List.Perm.swap u s l))).trans ?_
 refine (List.Perm.cons q (List.Perm.swap u r (s :: l))).trans ?_
 exact List.Perm.swap u q (r :: s :: l))
theorem blk4 {p1 p2 p3 : Nat × Array Value × TypeId} (h : Mem w W (p1 :: p2 :: p3 :: (g, cs, t) :: l)) : W.heap[g]? = some (.cells cs t (0, 0)) := h.blk (g, cs, t) (by simp)
theorem blk5 {p1 p2 p3 p4 : Nat × Array Value × TypeId} (h : Mem w W (p1 :: p2 :: p3 :: p4 :: (g, cs, t) :: l)) : W.heap[g]? = some (.cells cs t (0, 0)) := h.blk (g, cs, t) (by simp)
theorem blk7 {p1 p2 p3 p4 p5 p6 : Nat × Array Value × TypeId} (h : Mem w W (p1 :: p2 :: p3 :: p4 :: p5 :: p6 :: (g, cs, t) :: l)) : W.heap[g]? = some (.cells cs t (0, 0)) := h.blk (g, cs, t) (by simp)
end Mem
end Go.Proofs.Ytndkkjpgnmahbaa.H
namespace Go.Proofs.Ytndkkjpgnmahbaa.Print
open Go.RowKit YtndkkjpgnmahbaaW.PrintWords YtndkkjpgnmahbaaW.PrintLast YtndkkjpgnmahbaaW.PrintMore Ytndkkjpgnmahbaa.H Proofs.Field
def IsNums (cur : Array Value) (l : List Int) : Prop := l.length ≤ 9223372036854775807 ∧ ∀ i, i < l.length → cur[i]? = some (.int .i64 (fn l i))
theorem R_mem {W : World} {base : Nat} {ok : Nat → Prop} {v : Value} {l : List Int} (h : Kd.R (Kd.int .i64) 3 W base ok v l) (hp : 0 < l.length) :
  ∃ g c cur, v = .slice (some ⟨g, 0, none⟩) l.length c ∧ l.length ≤ c ∧ W.heap[g]? = some (.cells cur 3 (0, 0)) ∧ base ≤ g ∧ ok g ∧ IsNums cur l := by
 obtain ⟨h0, inner, ⟨hl, ho⟩, hr⟩ := h
 rcases ho with ⟨rfl, hn⟩ | ⟨g, c, cur, rfl, hg, hh, hc, hm, hs, ht⟩
 ·omega
 ·refine ⟨g, c, cur, rfl, hc, hh, hg, h0 g rfl, by unfold maxLen at hm; omega, fun i hi => ?_⟩
  have h1 := hr.2 i (fn l i) (by
   unfold fn
   rw [List.getD_eq_getElem?_getD, List.getElem?_eq_getElem hi]
   rfl)
  have h2 : (inner.drop (i * 1)).take 1 = [Value.int .i64 (fn l i)] := h1
  have h3 : inner[i]? = some (Value.int .i64 (fn l i)) := by
   have h4 : ((inner.drop (i * 1)).take 1)[0]? = some (Value.int .i64 (fn l i)) := by rw [h2]; rfl
   rw [List.getElem?_take_of_lt (by omega), List.getElem?_drop] at h4
   simpa using h4
  rw [← ht, List.getElem?_take_of_lt (by show i < l.length * 1; omega), Array.getElem?_toList] at h3
  exact h3
theorem C_mem {W : World} {g : Nat} {cur : Array Value} {l : List Int} {t : TypeId} (hb : W.heap[g]? = some (.cells cur t (0, 0))) (hn : IsNums cur l) : Kd.C (Kd.int .i64) W (some ⟨g, 0, none⟩) l.length l := by
 refine Kd.C_of_reads (d := (0 : Int)) (h1 := fun _ => rfl) ⟨rfl, hn.1, fun _ => ⟨_, rfl, fun j hj => ?_⟩⟩
 have h1 := (blk_cell hb j).trans (hn.2 j hj)
 rw [show (⟨g, 0, none⟩ : Addr).add j = ⟨g, j, none⟩ by unfold Addr.add; split <;> simp_all]
 rw [h1]
 rfl
theorem IsNums.set {cur : Array Value} {l : List Int} (h : IsNums cur l) (i : Nat) (x : Int) : IsNums (cur.setIfInBounds i (.int .i64 x)) (l.set i x) := by
 refine ⟨by rw [List.length_set]; exact h.1, fun j hj => ?_⟩
 rw [List.length_set] at hj
 have h1 := h.2 j hj
 have hs : j < cur.size := (Array.getElem?_eq_some_iff.1 h1).1
 by_cases q : i = j
 ·subst q
  rw [Array.getElem?_setIfInBounds_self_of_lt hs, fn_set hj, if_pos rfl]
 ·rw [Array.getElem?_setIfInBounds_ne q, h1]
  congr 2
  unfold fn
  rw [List.getD_eq_getElem?_getD, List.getD_eq_getElem?_getD, List.getElem?_set_ne q]
theorem two_mem {W W1 : World} {w : World} {l : List (Nat × Array Value × TypeId)} {v0 v1 : Value} {r1 r2 : List Int} (hm : H.Mem w W l) (hb : Below W.heap.size W W1)
  (h1 : Kd.R (Kd.int .i64) 3 W1 W.heap.size (fun k => some k ≠ v1.ownBlock) v0 r1) (h2 : Kd.R (Kd.int .i64) 3 W1 W.heap.size (fun k => some k ≠ v0.ownBlock) v1 r2) (hp1 : 0 < r1.length) (hp2 : 0 < r2.length) :
  ∃ g1 c1 cur1 g2 c2 cur2, v0 = .slice (some ⟨g1, 0, none⟩) r1.length c1 ∧ v1 = .slice (some ⟨g2, 0, none⟩) r2.length c2 ∧ r1.length ≤ c1 ∧ r2.length ≤ c2 ∧ IsNums cur1 r1 ∧ IsNums cur2 r2 ∧ H.Mem w W1 ((g2, cur2, 3) :: (g1, cur1, 3) :: l) := by
 obtain ⟨g1, c1, cur1, rfl, a1, a2, a3, a4, a5⟩ := R_mem h1 hp1
 obtain ⟨g2, c2, cur2, rfl, b1, b2, b3, b4, b5⟩ := R_mem h2 hp2
 exact ⟨g1, c1, cur1, g2, c2, cur2, rfl, rfl, a1, b1, a5, b5, hm.add2 hb a2 a3 b2 b3 (fun e => b4 (by subst e; rfl))⟩
theorem one_mem {W W1 : World} {w : World} {l : List (Nat × Array Value × TypeId)} {v : Value} {ok : Nat → Prop} {r : List Int} (hm : H.Mem w W l) (hb : Below W.heap.size W W1) (h : Kd.R (Kd.int .i64) 3 W1 W.heap.size ok v r) (hp : 0 < r.length) :
  ∃ g c cur, v = .slice (some ⟨g, 0, none⟩) r.length c ∧ r.length ≤ c ∧ IsNums cur r ∧ H.Mem w W1 ((g, cur, 3) :: l) := by
 obtain ⟨g, c, cur, rfl, a1, a2, a3, a4, a5⟩ := R_mem h hp
 exact ⟨g, c, cur, rfl, a1, a5, hm.add hb a2 a3⟩
section
variable {P : Program} {ops : Array Oper} {rest : List Oper} {o : Oper} {a : Act} {Q : Exit → Act → World → Prop} {w W : World} {l : List (Nat × Array Value × TypeId)}
theorem ev_lit (hm : Mem w W l) (hgd : o.guard = none) (inner : List Value) (n : Nat) (e : TypeId)
  (hrun : (execOp a.eval o).run P W = .ok (.value (.slice (some ⟨W.heap.size, 0, none⟩) n n)) (W.alloc (.cells inner.toArray e)))
  (h : ∀ g W1, Mem w W1 ((g, inner.toArray, e) :: l) → Below W.heap.size W W1 → wpList P ops Q rest (a.put o.dst (.slice (some ⟨g, 0, none⟩) n n)) W1) : wpList P ops Q (o :: rest) a W :=
 Kd.event_run hgd hrun (h _ _ (hm.new rfl (blk_new W _) (below_alloc (Below.refl _ _) _)) (below_alloc (Below.refl _ _) _))
end
theorem isnums_map (l : List Int) (h : l.length ≤ 9223372036854775807) : IsNums (l.map (Value.int .i64)).toArray l := by
 refine ⟨h, fun i hi => ?_⟩
 rw [List.getElem?_toArray, List.getElem?_map, List.getElem?_eq_getElem hi]
 unfold fn
 rw [List.getD_eq_getElem?_getD, List.getElem?_eq_getElem hi]
 rfl
end Go.Proofs.Ytndkkjpgnmahbaa.Print
end

section
namespace Go.Proofs.Ytndkkjpgnmahbaa.Print
open Go.RowKit YtndkkjpgnmahbaaW.PrintWords YtndkkjpgnmahbaaW.PrintLast YtndkkjpgnmahbaaW.PrintMore Ytndkkjpgnmahbaa.H Proofs.Field
attribute [local go_sem high] eqA42
def thermionlaw01_awake.f (k : Nat) : Option (Bool) := some true
theorem awake_solve : field_Solve.f 5 1 false ([1, 0, 0, 0, 2] : List Int) ([0, 100] : List Int) 1 = some (([0, 0, 0, 50, 100] : List Int), ([0, 50, 75, 88, 100] : List Int), 1, false, 0) := by kernel_rfl
theorem awake_charge : field_Charge.f 5 1 false ([1, 0, 0, 0, 2] : List Int) ([0, 100] : List Int) 1 2 = some (12, 50, 0) := by kernel_rfl
theorem awake_weight : field_Weight.f 5 1 true ([1, 0, 0, 0, 2] : List Int) 3 4 = some 8 := by kernel_rfl
theorem awake_same1 : thermionkit_Same.f 10 ([0, 0, 0, 50, 100] : List Int) ([0, 0, 0, 50, 100] : List Int) = some true := by kernel_rfl
theorem awake_same2 : thermionkit_Same.f 10 ([0, 50, 75, 88, 100] : List Int) ([0, 50, 75, 88, 100] : List Int) = some true := by kernel_rfl
theorem thermionlaw01_awake.calls (k : Nat)  (r : Bool) (w : World) (h : thermionlaw01_awake.f k  = some r) :
 Calls Try.prog 20 #[] w fun e w' => e = .returned (.bool r) ∧ Below w.heap.size w w' := by
 obtain rfl : true = r := Option.some.inj h
 have HM := Aside0.mk (Mem.start w)
 have hu24 := Try.underlying24
 have hu22 := Try.underlying22
 have hu33 := Try.underlying33
 have hu42 := Try.underlying42
 clear h
 go_enter Try.func20, Try.ntmps20
 go_wp2_with (first
  | (go_at_call 62; refine (thermionlaw01_line.calls 5 1 false ([1, 0, 0, 0, 2] : List Int) _ rfl).mono ?_; rintro e1 w1 ⟨v0, rfl, hR, hb⟩; obtain ⟨ga, cga, cuga, rfl, hc1, hn1, hm1⟩ := one_mem HM.out hb hR (by decide); have HNga := Aside0.mk (And.intro hn1 hc1); have HM1 := Aside0.mk hm1; clear hR hb hc1 hn1 hm1 HM)
  | ((with_reducible refine gate_dst (N := 7) rfl ?_); refine ev_lit HM1.out rfl [.int .i64 0, .int .i64 100] 2 3 ?hrl ?_; (case hrl => first | (go_simp; done) | (go_simp; rfl)); intro gb w2 hm1 hq1; have HM2 := Aside0.mk hm1; clear hm1 hq1 HM1)
  | (go_at_call 25; refine (field_Solve.calls 5 1 false (some ⟨ga, 0, none⟩) cga ([1, 0, 0, 0, 2] : List Int) (some ⟨gb, 0, none⟩) 2 ([0, 100] : List Int) 1 ([0, 0, 0, 50, 100] : List Int) ([0, 50, 75, 88, 100] : List Int) 1 false 0 _ (C_mem (HM2.out.second) HNga.out.1) HNga.out.2 (C_mem (HM2.out.head) (isnums_map [0, 100] (by decide))) (by decide) awake_solve).mono ?_; rintro e1 w3 ⟨v0, v1, rfl, hR1, hR2, hb⟩; obtain ⟨g1, c1, cu1, g2, c2, cu2, rfl, rfl, hc1, hc2, hn1, hn2, hm1⟩ := two_mem HM2.out hb hR1 hR2 (by decide) (by decide); have HNS := Aside0.mk (And.intro (And.intro hn1 hc1) (And.intro hn2 hc2)); have HM3 := Aside0.mk hm1; clear hR1 hR2 hb hc1 hc2 hn1 hn2 hm1 HNga HM2)
  | ((with_reducible refine gate_dst (N := 1) rfl ?_); refine ev_new HM3.out rfl 33 rfl info33 ?_; intro gf w4 hm1 hq1; have HM4 := Aside0.mk hm1; clear hm1 hq1 HM3)
  | ((with_reducible refine gate_store (t := 33) (p := 1) rfl ?_); refine ev_store HM4.out rfl 33 (.tmp 1) (.tmp 9) rfl rfl (cs := #[.slice (some ⟨g1, 0, none⟩) 5 c1, .slice (some ⟨g2, 0, none⟩) 5 c2, .int .i64 1, .bool false]) rfl size33 rfl rfl (by simp [Value.oneCell']) ?_; intro w5 hm1 hq1; have HM5 := Aside0.mk hm1; clear hm1 hq1 HM4)
  | (go_at_call 62; refine (thermionlaw01_line.calls 5 1 false ([1, 0, 0, 0, 2] : List Int) _ rfl).mono ?_; rintro e1 w6 ⟨v0, rfl, hR, hb⟩; obtain ⟨gc, cgc, cugc, rfl, hc1, hn1, hm1⟩ := one_mem HM5.out hb hR (by decide); have HNgc := Aside0.mk (And.intro hn1 hc1); have HM6 := Aside0.mk hm1; clear hR hb hc1 hn1 hm1 HM5)
  | ((with_reducible refine gate_dst (N := 13) rfl ?_); refine ev_lit HM6.out rfl [.int .i64 0, .int .i64 100] 2 3 ?hrl ?_; (case hrl => first | (go_simp; done) | (go_simp; rfl)); intro gd w7 hm1 hq1; have HM7 := Aside0.mk hm1; clear hm1 hq1 HM6)
  | (go_at_call 30; refine (field_Charge.calls 5 1 false (some ⟨gc, 0, none⟩) cgc ([1, 0, 0, 0, 2] : List Int) (some ⟨gd, 0, none⟩) 2 ([0, 100] : List Int) 1 2 12 50 0 _ (C_mem (HM7.out.second) HNgc.out.1) HNgc.out.2 (C_mem (HM7.out.head) (isnums_map [0, 100] (by decide))) (by decide) awake_charge).mono ?_; rintro e8 w8 ⟨rfl, hb⟩; have HM8 := Aside0.mk (HM7.out.step hb); clear hb HM7 HNgc)
  | ((with_reducible refine gate_dst (N := 3) rfl ?_); refine ev_new HM8.out rfl 42 rfl info42 ?_; intro gr w9 hm1 hq1; have HM9 := Aside0.mk hm1; clear hm1 hq1 HM8)
  | ((with_reducible refine gate_store (t := 42) (p := 3) rfl ?_); refine ev_store HM9.out rfl 42 (.tmp 3) (.tmp 15) rfl rfl (cs := #[.int .i64 12, .int .i64 50]) rfl size42 rfl rfl (by simp [Value.oneCell']) ?_; intro w10 hm1 hq1; have HM10 := Aside0.mk hm1; clear hm1 hq1 HM9; have q0 := (blk_cell HM10.out.blk4 0).trans rfl; have q1 := (blk_cell HM10.out.blk4 1).trans rfl)
  | ((with_reducible refine gate_dst (N := 26) rfl ?_); (try (refine gate_guard (by rfl) ?_; dsimp only)); refine ev_lit HM10.out rfl [.int .i64 0, .int .i64 0, .int .i64 0, .int .i64 50, .int .i64 100] 5 3 ?hrl ?_; (case hrl => first | (go_simp; done) | (go_simp; rfl)); intro ge w11 hm1 hq1; have HM11 := Aside0.mk hm1; clear hm1 hq1 HM10 q0 q1)
  | (go_at_call 43; refine (thermionkit_Same.calls 10 (some ⟨g1, 0, none⟩) c1 ([0, 0, 0, 50, 100] : List Int) (some ⟨ge, 0, none⟩) 5 ([0, 0, 0, 50, 100] : List Int) true _ (C_mem (HM11.out.blk7) HNS.out.1.1) HNS.out.1.2 (C_mem (HM11.out.head) (isnums_map ([0, 0, 0, 50, 100] : List Int) (by decide))) (by decide) awake_same1).mono ?_; rintro e12 w12 ⟨rfl, hb⟩; have HM12 := Aside0.mk (HM11.out.step hb.below); clear hb HM11 ; have HNT := Aside0.mk HNS.out.2; clear HNS; have q1 := (blk_cell HM12.out.blk5 1).trans rfl)
  | ((with_reducible refine gate_dst (N := 32) rfl ?_); (try (refine gate_guard (by rfl) ?_; dsimp only)); refine ev_lit HM12.out rfl [.int .i64 0, .int .i64 50, .int .i64 75, .int .i64 88, .int .i64 100] 5 3 ?hrl ?_; (case hrl => first | (go_simp; done) | (go_simp; rfl)); intro gg w13 hm1 hq1; have HM13 := Aside0.mk hm1; clear hm1 hq1 HM12 q1)
  | (go_at_call 43; refine (thermionkit_Same.calls 10 (some ⟨g2, 0, none⟩) c2 ([0, 50, 75, 88, 100] : List Int) (some ⟨gg, 0, none⟩) 5 ([0, 50, 75, 88, 100] : List Int) true _ (C_mem (HM13.out.blk7) HNT.out.1) HNT.out.2 (C_mem (HM13.out.head) (isnums_map ([0, 50, 75, 88, 100] : List Int) (by decide))) (by decide) awake_same2).mono ?_; rintro e14 w14 ⟨rfl, hb⟩; have HM14 := Aside0.mk (HM13.out.step hb.below); clear hb HM13 ; clear HNT; have q0 := (blk_cell HM14.out.third 0).trans rfl; have q1 := (blk_cell HM14.out.third 1).trans rfl)
  | (go_at_call 64; refine (thermionlaw01_ring.calls 5 1 true ([1, 0, 0, 0, 2] : List Int) _ rfl).mono ?_; rintro e1 w15 ⟨v0, rfl, hR, hb⟩; obtain ⟨gh, ch, ch2, rfl, hc1, hn1, hm1⟩ := one_mem HM14.out hb hR (by decide); have HNh := Aside0.mk (And.intro hn1 hc1); have HM15 := Aside0.mk hm1; clear hR hb hc1 hn1 hm1 q0 q1 HM14)
  | (go_at_call 63; refine (field_Weight.calls 5 1 true (some ⟨gh, 0, none⟩) ch ([1, 0, 0, 0, 2] : List Int) 3 4 8 _ (C_mem (HM15.out.head) HNh.out.1) HNh.out.2 awake_weight).mono ?_; rintro e16 w16 ⟨rfl, hb⟩; have HM16 := Aside0.mk (HM15.out.step hb); clear hb HM15 ))
 go_ret
 exact ⟨rfl, HM16.out.below⟩
end Go.Proofs.Ytndkkjpgnmahbaa.Print
end

section
namespace Go.Proofs.Ytndkkjpgnmahbaa.Print
open Go.RowKit YtndkkjpgnmahbaaW.PrintWords YtndkkjpgnmahbaaW.PrintLast YtndkkjpgnmahbaaW.PrintMore Ytndkkjpgnmahbaa.H Proofs.Field
theorem awake_true : thermionlaw01_awake.f 10 = some true := by kernel_rfl
theorem mod_eq (a m : Int) (h1 : 1 ≤ m) (h2 : m ≤ 4611686018427387904) : ∃ r : Nat, thermionkit_Mod.f a m = some (r : Int) ∧ (r : Int) < m := by
 have hb : Int.tmod a m < m := Int.tmod_lt_of_pos a (by omega)
 have hl : -m < Int.tmod a m := by
  rcases Int.le_total 0 a with q | q
  ·have := Int.tmod_nonneg m q; omega
  ·have e : Int.tmod a m = - Int.tmod (-a) m := by rw [Int.neg_tmod]; omega
   have := Int.tmod_lt_of_pos (-a) (show 0 < m by omega)
   omega
 unfold thermionkit_Mod.f
 rw [if_neg (by omega), if_neg (by omega)]
 obtain ⟨t, ht⟩ : ∃ t, Int.tmod a m = t := ⟨_, rfl⟩
 rw [ht] at hb hl ⊢
 by_cases q : t < 0
 ·rw [if_pos q, IntWalk.wrap64_in _ (by omega)]
  exact ⟨(t + m).toNat, by rw [show ((t + m).toNat : Int) = t + m by omega], by omega⟩
 ·rw [if_neg q]
  exact ⟨t.toNat, by rw [show (t.toNat : Int) = t by omega], by omega⟩
theorem dealt_plan (s a1 a2 : Int) (h1 : 1 ≤ a1 ∧ a1 ≤ 16) (h2 : 1 ≤ a2 ∧ a2 ≤ 16) : ∃ (W H : Nat) (R : Bool) (C : List Int) (s1 : Int), thermionkit_PlanOf.f s a1 a2 = some ((W : Int), (H : Int), R, C, s1) ∧ 1 ≤ W ∧ (W : Int) ≤ a1 ∧ 1 ≤ H ∧ (H : Int) ≤ a2 ∧ C.length = W * H ∧ C.length ≤ 256 ∧ (∀ e, e ∈ C → 0 ≤ e ∧ e ≤ 3) ∧ checkErr W H R C = 0 := by
 have h : ∃ W H R C r, thermionkit_PlanOf.f s a1 a2 = some (W, H, R, C, r) := by
  unfold thermionkit_PlanOf.f
  rw [if_pos ⟨h1.1, h1.2, h2.1, h2.2⟩]
  exact ⟨_, _, _, _, _, rfl⟩
 obtain ⟨W, H, R, C, r, h⟩ := h
 obtain ⟨a, b, c, d, e, f, g, i, j⟩ := planOf_fine h
 obtain ⟨W', rfl⟩ : ∃ W' : Nat, W = W' := ⟨W.toNat, by omega⟩
 obtain ⟨H', rfl⟩ : ∃ H' : Nat, H = H' := ⟨H.toNat, by omega⟩
 have hl : C.length = W' * H' := by rw [← Int.natCast_mul] at g; omega
 have h256 : C.length ≤ 256 := by have := Nat.mul_le_mul (show W' ≤ 16 by omega) (show H' ≤ 16 by omega); omega
 exact ⟨W', H', R, C, r, h, by omega, by omega, by omega, by omega, hl, h256, i, j⟩
structure Dealt (s a1 a2 : Int) (W H : Nat) (R : Bool) (C v : List Int) (s1 s2 : Int) : Prop where
 plan : thermionkit_PlanOf.f s a1 a2 = some ((W : Int), (H : Int), R, C, s1)
 volts : ∃ K, ∀ k, K ≤ k → thermionkit_VoltsOf.f k s1 (W : Int) (H : Int) R C = some (v, s2)
 W1 : 1 ≤ W
 W2 : (W : Int) ≤ a1
 H1 : 1 ≤ H
 H2 : (H : Int) ≤ a2
 W16 : W ≤ 16
 H16 : H ≤ 16
 len : C.length = W * H
 small : C.length ≤ 256
 cells : ∀ e, e ∈ C → 0 ≤ e ∧ e ≤ 3
 check : checkErr W H R C = 0
 verr : voltErr W H R C v = 0
 volted : Volted W H R C v
 vlen : v.length ≤ 3
theorem solve_eq {W H : Nat} {R : Bool} {C v : List Int} {n : Nat} (hv : voltErr W H R C v = 0) (hn : n ≤ 200) :
  field_Solve.f W H R C v n = some ((solveN W H R C v 256 n).1.take C.length, (solveN W H R C v 256 n).2.1.take C.length, ((solveN W H R C v 256 n).2.2.1 : Int), (solveN W H R C v 256 n).2.2.2, 0) := by
 unfold field_Solve.f
 rw [if_neg (by rw [hv]; simp), if_neg (by omega), Int.toNat_natCast, Int.toNat_natCast, Int.toNat_natCast]
theorem bounds_len {W H : Nat} {R : Bool} {C v : List Int} (hV : Volted W H R C v) (h : C.length ≤ 256) (n : Nat) : ((solveN W H R C v 256 n).1.take C.length).length = C.length ∧ ((solveN W H R C v 256 n).2.1.take C.length).length = C.length := by
 have hp := solve_pair hV h n
 have h1 := hp.low.1.len
 have h2 := hp.high.1.len
 rw [List.length_take, List.length_take]
 omega
theorem rd_fn (b : List Int) (i : Nat) (h : i < b.length) : rd b (i : Int) = fn b i := by
 rw [rd_natc b i h]
 unfold fn
 rw [List.getD_eq_getElem?_getD, List.getElem?_eq_getElem h]
 rfl
end Go.Proofs.Ytndkkjpgnmahbaa.Print
end

section
namespace Go.Proofs.Ytndkkjpgnmahbaa.Print
open Go.RowKit YtndkkjpgnmahbaaW.PrintWords YtndkkjpgnmahbaaW.PrintLast YtndkkjpgnmahbaaW.PrintMore Ytndkkjpgnmahbaa.H Proofs.Field
structure PW (w W : World) (g : Nat) (s : Int) (A : Option Addr) (c : Nat) (C : List Int) : Prop where
 old : Below w.heap.size w W
 dice : IsS79 w W g s
 row : Kd.R (Kd.int .i64) 3 W w.heap.size (fun k => k ≠ g) (.slice A C.length c) C
theorem PW.make {w W : World} {g base : Nat} {s : Int} {A : Option Addr} {c : Nat} {C : List Int} (hI : IsS79 w W g s) (hB : Below w.heap.size w W) (hR : Kd.R (Kd.int .i64) 3 W base (fun _ => True) (.slice A C.length c) C) (hb : w.heap.size ≤ base) : PW w W g s A c C :=
 ⟨hB, hI, Kd.R_mono (Kd.R_types (Kd.R_lower hR hb) hI.1 (by decide)) (fun k hk => hk.2)⟩
namespace PW
variable {w W W1 : World} {g : Nat} {s s1 : Int} {A : Option Addr} {c : Nat} {C : List Int}
theorem below (h : PW w W g s A c C) (hb : Below W.heap.size W W1) : PW w W1 g s A c C := ⟨below_step h.old hb, h.dice.below hb, Kd.R_below h.row hb⟩
theorem reads (h : PW w W g s A c C) : Kd.C (Kd.int .i64) W A C.length C := (Kd.R_reads' h.row).2.2
theorem cap (h : PW w W g s A c C) : C.length ≤ c := (Kd.R_reads' h.row).2.1
theorem far (h : PW w W g s A c C) : ∀ ad, A = some ad → 0 < C.length → ad.block ≠ g := fun ad e hp => by
 subst e
 obtain ⟨b, rfl⟩ := Kd.R_head h.row
 exact h.row.1 b rfl
end PW
structure LB (w W : World) (g6 : Nat) (Wd Hd : Int) (R : Bool) (A : Option Addr) (c : Nat) (C : List Int) (B : Option Addr) (d : Nat) (v : List Int) : Prop where
 old : Below w.heap.size w W
 plan : W.heap[g6]? = some (.cells (planV Wd Hd R A C.length c) 24 (0, 0))
 rc : Kd.C (Kd.int .i64) W A C.length C
 hc : C.length ≤ c
 rv : Kd.C (Kd.int .i64) W B v.length v
 hv : v.length ≤ d
theorem LB.make {w w2 W3 W : World} {g g6 base : Nat} {s : Int} {Wd Hd : Int} {R : Bool} {A : Option Addr} {c : Nat} {C : List Int} {B : Option Addr} {d : Nat} {v : List Int} (hp : PW w W3 g s A c C) (hm : Mem w2 W3 [(g6, planV Wd Hd R A C.length c, 24)])
  (hR : Kd.R (Kd.int .i64) 3 W base (fun _ => True) (.slice B v.length d) v) (hB : Below w.heap.size w W) (hK : KeepBut W3 W g none) : LB w W g6 Wd Hd R A c C B d v := by
 have h1 := Kd.R_reads' (Kd.R_keep hp.row hK (fun k hk => hk))
 have h2 := Kd.R_reads' hR
 exact ⟨hB, hK.blk hm.head (blk_ne hm.head hp.dice.1 (by decide)) (by simp), h1.2.2, h1.2.1, h2.2.2, h2.2.1⟩
namespace LB
variable {w W W1 : World} {g6 : Nat} {Wd Hd : Int} {R : Bool} {A : Option Addr} {c : Nat} {C : List Int} {B : Option Addr} {d : Nat} {v : List Int}
end LB
end Go.Proofs.Ytndkkjpgnmahbaa.Print
end

section
namespace Go.Proofs.Ytndkkjpgnmahbaa.Print
open Go.RowKit YtndkkjpgnmahbaaW.PrintWords YtndkkjpgnmahbaaW.PrintLast YtndkkjpgnmahbaaW.PrintMore Ytndkkjpgnmahbaa.H Proofs.Field
theorem C_of_cells {V : World} {g : Nat} {b : List Int} {t : TypeId} (hV : V.heap[g]? = some (.cells (numsA b) t (0, 0))) (hb : b.length ≤ 1000000) : Kd.C (Kd.int .i64) V (some ⟨g, 0, none⟩) b.length b := by
 refine Kd.C_of_reads (d := (0 : Int)) (h1 := fun _ => rfl) ⟨rfl, by omega, fun _ => ⟨_, rfl, fun j hj => ?_⟩⟩
 have h1 := (blk_cell hV j).trans (numsA_get hj)
 rw [show (⟨g, 0, none⟩ : Addr).add j = ⟨g, j, none⟩ by unfold Addr.add; split <;> simp_all]
 rw [h1]
 rfl
theorem at_row {w : World} {A : Option Addr} {xs : List Int} (h : Kd.C (Kd.int .i64) w A xs.length xs) (i : Nat) (h1 : i < xs.length) : ∃ ad, A = some ad ∧ w.cell? (ad.add i) = some (.int .i64 (fn xs i)) := at_nat h i h1
structure Rows (W : World) (rs : List (Option Addr × List Int)) : Prop where
 all : ∀ p, p ∈ rs → Kd.C (Kd.int .i64) W p.1 p.2.length p.2
namespace Rows
variable {W W1 : World} {rs : List (Option Addr × List Int)}
theorem nil (W : World) : Rows W [] := ⟨fun p hp => by simp at hp⟩
theorem below (h : Rows W rs) (hb : Below W.heap.size W W1) : Rows W1 rs := ⟨fun p hp => Kd.C_below (h.all p hp) hb⟩
theorem cons (h : Rows W rs) {A : Option Addr} {l : List Int} (hC : Kd.C (Kd.int .i64) W A l.length l) : Rows W ((A, l) :: rs) := ⟨fun p hp => by
 rcases List.mem_cons.1 hp with rfl | hp
 ·exact hC
 ·exact h.all p hp⟩
end Rows
theorem mem_join {w W W1 : World} {l l2 : List (Nat × Array Value × TypeId)} (h : Mem w W l) (h2 : Mem W W1 l2) : Mem w W1 (l2 ++ l) := by
 have h1 := h.step h2.below
 refine ⟨h1.below, fun p hp => ?_, fun p hp => ?_, List.pairwise_append.2 ⟨h2.apart, h.apart, fun p hp q hq => ?_⟩⟩
 ·rcases List.mem_append.1 hp with hp | hp
  ·exact h2.blk p hp
  ·exact h1.blk p hp
 ·rcases List.mem_append.1 hp with hp | hp
  ·exact Nat.le_trans h.below.size (h2.ge p hp)
  ·exact h.ge p hp
 ·have a1 := h2.ge p hp
  have a2 := blk_lt (h.blk q hq)
  omega
end Go.Proofs.Ytndkkjpgnmahbaa.Print
end

section
namespace Go.Proofs.Ytndkkjpgnmahbaa.Print
open Go.RowKit YtndkkjpgnmahbaaW.PrintWords YtndkkjpgnmahbaaW.PrintLast YtndkkjpgnmahbaaW.PrintMore Ytndkkjpgnmahbaa.H Proofs.Field
def thermionref01_has.l0 : Nat → Int → Int → Int → Int → Bool → List Int → Option (Bool)
 | 0, _, _, _, _, _, _ => none
 | k + 1, x1, x5, x291000, x291001, x291002, x291003 => if x5 < (x291003.length : Int) then (if x1 > 0 then (if 0 ≤ x5 then (if (rd x291003 x5) = x1 then (some true) else (thermionref01_has.l0 k x1 (wrap64 (x5 + 1)) x291000 x291001 x291002 x291003)) else (none)) else (thermionref01_has.l0 k x1 (wrap64 (x5 + 1)) x291000 x291001 x291002 x291003)) else (some false)
def thermionref01_has.f (k : Nat) (a0_0 : Int) (a0_1 : Int) (a0_2 : Bool) (l0_3 : List Int) (a1 : Int) : Option (Bool) := thermionref01_has.l0 k a1 0 a0_0 a0_1 a0_2 l0_3
theorem thermionref01_has.calls (k : Nat) (a0_0 : Int) (a0_1 : Int) (a0_2 : Bool) (A0_3 : Option Addr) (c0_3 : Nat) (l0_3 : List Int) (a1 : Int) (r : Bool) (w : World) (hr0_3 : Kd.C (Kd.int .i64) w A0_3 l0_3.length l0_3) (hc0_3 : l0_3.length ≤ c0_3) (h : thermionref01_has.f k a0_0 a0_1 a0_2 l0_3 a1 = some r) :
  Calls Try.prog 79 #[.agg #[.int .i64 a0_0, .int .i64 a0_1, .bool a0_2, .slice A0_3 l0_3.length c0_3], .int .i64 a1] w fun e w' => e = .returned (.bool r) ∧ Below w.heap.size w w' := by
 have hu24 := Try.underlying24
 have HR0_3 := Aside0.mk hr0_3
 have HC0_3 := Aside0.mk hc0_3
 clear hr0_3 hc0_3
 have HB := Aside0.mk (Below.refl w.heap.size w)
 have H : (thermionref01_has.l0 k a1 0 a0_0 a0_1 a0_2 l0_3) = some r := h
 clear h
 have H' := Aside0.mk H
 clear H
 go_enter Try.func79, Try.ntmps79
 go_wp2_with (first | ((with_reducible refine gate_dst (N := 2) rfl ?_); refine aBox 2 #[.int .i64 a0_0, .int .i64 a0_1, .bool a0_2, .slice A0_3 l0_3.length c0_3] 24 ?_; intro gb290 hg w3 hbox hb; have BK290 := Aside0.mk (hbox); have GW290 := aGe hg HB; have GE290 := aGe hg HB; replace HB := aBs HB hb; clear hb hbox hg))
 go_loopg [5] k (fun kq v5 w' => ∃ (x5_1 : Int), v5 = .int .i64 x5_1 ∧ Aside0 (thermionref01_has.l0 kq a1 x5_1 a0_0 a0_1 a0_2 l0_3 = some r) ∧ Aside0 (kq ≤ k) ∧ Aside0 (w'.heap[gb290]? = some (.cells #[.int .i64 a0_0, .int .i64 a0_1, .bool a0_2, (.slice A0_3 l0_3.length c0_3)] 24 (0, 0))) ∧ Aside0 (Below w.heap.size w w'))
 case atStart => exact ⟨(0), aR, H', ⟨Nat.le_refl _⟩, aBk BK290, aBl HB⟩
 case round =>
  clear H'
  obtain ⟨x5_1, rfl, HA, HK1, BK290, HB⟩ := hrel
  cases gk with
  | zero => exact absurd HA.out (by simp [thermionref01_has.l0])
  | succ k1 =>
   have H := HA.out
   clear HA
   simp only [thermionref01_has.l0] at H
   by_cases c4 : x5_1 < (l0_3.length : Int)
   ·rw [if_pos c4] at H
    have c4b0 := decide_eq_true c4
    clear c4
    by_cases c5 : a1 > 0
    ·rw [if_pos c5] at H
     have c5b0 := decide_eq_true c5
     clear c5
     by_cases c6 : 0 ≤ x5_1
     ·rw [if_pos c6] at H
      have c6b0 := decide_eq_true c6
      clear c6
      by_cases c7 : (rd l0_3 x5_1) = a1
      ·rw [if_pos c7] at H
       obtain ⟨c7b0, c7b1⟩ := aEq c7
       clear c7
       obtain rfl := Option.some.inj H
       obtain ⟨⟨hcz8_0, hcz8_1, hcz8_2, hcz8_3⟩, hfz8_0, hfz8_1, hfz8_2, hfz8_3⟩ := aC4 BK290
       have p291 : 0 ≤ (x5_1 : Int) := aD
       have q291 : x5_1 < (l0_3.length : Int) := aD
       obtain ⟨ad291, e291, hx291_0⟩ := Kd.at_int HR0_3.out x5_1 p291 q291
       cases e291
       replace hx291_0 := (HB.out.cell (World.block_lt_of_cell? w _ hx291_0)).trans hx291_0
       replace p291 := eq_true p291
       replace q291 := eq_true q291
       go_wp2
       go_ret
       exact ⟨by first | rfl | (simp [errW_none, errW_some] <;> rfl) | (simp [*, errW_none, errW_some] <;> rfl), (aBl HB).out⟩
      ·rw [if_neg c7] at H
       obtain ⟨c7b0, c7b1⟩ := aNe c7
       have H' := Aside0.mk H
       clear H
       obtain ⟨⟨hcz9_0, hcz9_1, hcz9_2, hcz9_3⟩, hfz9_0, hfz9_1, hfz9_2, hfz9_3⟩ := aC4 BK290
       have p291 : 0 ≤ (x5_1 : Int) := aD
       have q291 : x5_1 < (l0_3.length : Int) := aD
       obtain ⟨ad291, e291, hx291_0⟩ := Kd.at_int HR0_3.out x5_1 p291 q291
       cases e291
       replace hx291_0 := (HB.out.cell (World.block_lt_of_cell? w _ hx291_0)).trans hx291_0
       replace p291 := eq_true p291
       replace q291 := eq_true q291
       go_wp2
       go_roundg k1
       case measure => have := HK1.out; omega
       case rel => exact ⟨(wrap64 (x5_1 + 1)), aR, H', ⟨by have := HK1.out; omega⟩, aBk BK290, aBl HB⟩
     ·rw [if_neg c6] at H
      exact absurd H (by simp)
    ·rw [if_neg c5] at H
     have c5b0 := decide_eq_false c5
     clear c5
     have H' := Aside0.mk H
     clear H
     obtain ⟨⟨hcz10_0, hcz10_1, hcz10_2, hcz10_3⟩, hfz10_0, hfz10_1, hfz10_2, hfz10_3⟩ := aC4 BK290
     go_wp2
     go_roundg k1
     case measure => have := HK1.out; omega
     case rel => exact ⟨(wrap64 (x5_1 + 1)), aR, H', ⟨by have := HK1.out; omega⟩, aBk BK290, aBl HB⟩
   ·rw [if_neg c4] at H
    have c4b0 := decide_eq_false c4
    clear c4
    obtain rfl := Option.some.inj H
    obtain ⟨⟨hcz11_0, hcz11_1, hcz11_2, hcz11_3⟩, hfz11_0, hfz11_1, hfz11_2, hfz11_3⟩ := aC4 BK290
    go_wp2
    go_ret
    exact ⟨by first | rfl | (simp [errW_none, errW_some] <;> rfl) | (simp [*, errW_none, errW_some] <;> rfl), (aBl HB).out⟩
def thermionref01_beyond.f (a0 : Int) (a1 : Int) (a2 : Int) : Option (Bool) := if a0 < a1 then (some true) else (some (decide (a0 > a2)))
theorem thermionref01_beyond.calls (a0 : Int) (a1 : Int) (a2 : Int) (r : Bool) (w : World) (h : thermionref01_beyond.f a0 a1 a2 = some r) :
  Calls Try.prog 73 #[.int .i64 a0, .int .i64 a1, .int .i64 a2] w fun e w' => e = .returned (.bool r) ∧ Drawn0 w w' := by
 have H : (if a0 < a1 then (some true) else (some (decide (a0 > a2)))) = some r := h
 clear h
 by_cases c4 : a0 < a1
 ·rw [if_pos c4] at H
  have c4b0 := decide_eq_true c4
  clear c4
  obtain rfl := Option.some.inj H
  go_enter Try.func73, Try.ntmps73
  go_wp2
  go_ret
  exact ⟨by first | rfl | (simp; done) | (simp [*]; done), by repeat (first | exact Drawn0.refl _ | apply Drawn0.step)⟩
 ·rw [if_neg c4] at H
  have c4b0 := decide_eq_false c4
  clear c4
  obtain rfl := Option.some.inj H
  go_enter Try.func73, Try.ntmps73
  go_wp2
  go_ret
  exact ⟨by first | rfl | (simp; done) | (simp [*]; done), by repeat (first | exact Drawn0.refl _ | apply Drawn0.step)⟩
mutual
def thermionref01_weight.j0 : Nat → Int → Int → Bool → Int → Int → Bool → List Int → Option (Int)
 | 0, _, _, _, _, _, _, _ => none
 | k + 1, x1, x2, x23, x245000, x245001, x245002, x245003 => if x23 = true then (some 0) else (if x245000 = 0 then (none) else (if (mx x1 x2) = (wrap64 ((mn x1 x2) + 1)) then (thermionref01_weight.j1 k (mn x1 x2) (mx x1 x2) (Int.tmod (mn x1 x2) x245000) (decide ((Int.tmod (mx x1 x2) x245000) > 0)) x245000 x245001 x245002 x245003) else (thermionref01_weight.j1 k (mn x1 x2) (mx x1 x2) (Int.tmod (mn x1 x2) x245000) false x245000 x245001 x245002 x245003)))
def thermionref01_weight.j1 : Nat → Int → Int → Int → Bool → Int → Int → Bool → List Int → Option (Int)
 | 0, _, _, _, _, _, _, _, _ => none
 | k + 1, x1, x2, x8, x34, x245000, x245001, x245002, x245003 => if x34 = true then (if x245002 = true then (some (wrap64 (2 * (wrap64 (x8 + 1))))) else (some 1)) else (if x2 = (wrap64 (x1 + x245000)) then (if x245002 = true then (some (wrap64 ((wrap64 (2 * x8)) + 1))) else (some 1)) else (some 0))
end
def thermionref01_weight.f (k : Nat) (a0_0 : Int) (a0_1 : Int) (a0_2 : Bool) (l0_3 : List Int) (a1 : Int) (a2 : Int) : Option (Int) := (thermionref01_beyond.f a1 0 (wrap64 ((wrap64 (a0_0 * a0_1)) - 1))).bind fun t245 => (if t245 = true then (thermionref01_weight.j0 k a1 a2 true a0_0 a0_1 a0_2 l0_3) else ((thermionref01_beyond.f a2 0 (wrap64 ((wrap64 (a0_0 * a0_1)) - 1))).bind fun t246 => (thermionref01_weight.j0 k a1 a2 t246 a0_0 a0_1 a0_2 l0_3)))
theorem thermionref01_weight.calls (k : Nat) (a0_0 : Int) (a0_1 : Int) (a0_2 : Bool) (A0_3 : Option Addr) (c0_3 : Nat) (l0_3 : List Int) (a1 : Int) (a2 : Int) (r : Int) (w : World) (hr0_3 : Kd.C (Kd.int .i64) w A0_3 l0_3.length l0_3) (hc0_3 : l0_3.length ≤ c0_3) (h : thermionref01_weight.f k a0_0 a0_1 a0_2 l0_3 a1 a2 = some r) :
  Calls Try.prog 81 #[.agg #[.int .i64 a0_0, .int .i64 a0_1, .bool a0_2, .slice A0_3 l0_3.length c0_3], .int .i64 a1, .int .i64 a2] w fun e w' => e = .returned (.int .i64 r) ∧ Below w.heap.size w w' := by
 have hu24 := Try.underlying24
 have HR0_3 := Aside0.mk hr0_3
 have HC0_3 := Aside0.mk hc0_3
 clear hr0_3 hc0_3
 have HB := Aside0.mk (Below.refl w.heap.size w)
 have H : ((thermionref01_beyond.f a1 0 (wrap64 ((wrap64 (a0_0 * a0_1)) - 1))).bind fun t245 => (if t245 = true then (thermionref01_weight.j0 k a1 a2 true a0_0 a0_1 a0_2 l0_3) else ((thermionref01_beyond.f a2 0 (wrap64 ((wrap64 (a0_0 * a0_1)) - 1))).bind fun t246 => (thermionref01_weight.j0 k a1 a2 t246 a0_0 a0_1 a0_2 l0_3)))) = some r := h
 clear h
 have HC4 := Aside0.mk H
 clear H
 go_enter Try.func81, Try.ntmps81
 go_upto_region 2 with (first | ((with_reducible refine gate_dst (N := 3) rfl ?_); refine aBox 3 #[.int .i64 a0_0, .int .i64 a0_1, .bool a0_2, .slice A0_3 l0_3.length c0_3] 24 ?_; intro gb244 hg w5 hbox hb; have BK244 := Aside0.mk (hbox); have GW244 := aGe hg HB; have GE244 := aGe hg HB; replace HB := aBs HB hb; clear hb hbox hg; obtain ⟨⟨hcz6_0, hcz6_1, hcz6_2, hcz6_3⟩, hfz6_0, hfz6_1, hfz6_2, hfz6_3⟩ := aC4 BK244))
 (try simp only [Act.put, List.setIfInBounds_toArray, List.set_cons_zero, List.set_cons_succ])
 go_cut [23] (fun v23 wc => ∃ (kq : Nat) (x23_3 : Bool), v23 = .bool x23_3 ∧ Aside0 (thermionref01_weight.j0 kq a1 a2 x23_3 a0_0 a0_1 a0_2 l0_3 = some r) ∧ Aside0 (kq ≤ k) ∧ Aside0 (wc.heap[gb244]? = some (.cells #[.int .i64 a0_0, .int .i64 a0_1, .bool a0_2, (.slice A0_3 l0_3.length c0_3)] 24 (0, 0))) ∧ Aside0 (Below w.heap.size w wc))
 case first =>
  have H := HC4.out
  clear HC4
  obtain ⟨t245, A70, H⟩ := Option.bind_eq_some_iff.mp H
  have A7 := Aside0.mk A70
  clear A70
  by_cases c8 : t245 = true
  ·subst c8
   have H1 : (thermionref01_weight.j0 k a1 a2 true a0_0 a0_1 a0_2 l0_3) = some r := by rw [if_pos rfl] at H; exact H
   clear H
   have H := H1
   clear H1
   have H' := Aside0.mk H
   clear H
   go_wp2_with (first | ((with_reducible refine gate_callee (f := 73) rfl ?_); refine goesL_ (some 17) rfl rfl Try.func73 (by kernel_rfl) rfl #[.int .i64 a1, .int .i64 0, .int .i64 (wrap64 ((wrap64 (a0_0 * a0_1)) - 1))] rfl aA ?_; (with_reducible refine (thermionref01_beyond.calls a1 0 (wrap64 ((wrap64 (a0_0 * a0_1)) - 1)) true _ A7.out).mono ?_); rintro e w' ⟨rfl, ⟨nd, rfl⟩⟩; refine ⟨_, rfl, ?_⟩))
   go_meet
   case rel => exact ⟨_, (true), aR, H', ⟨by first | omega | exact Nat.le_refl _⟩, aBk BK244, aBl HB⟩
  ·replace c8 := Bool.eq_false_iff.mpr c8
   subst c8
   have H1 : ((thermionref01_beyond.f a2 0 (wrap64 ((wrap64 (a0_0 * a0_1)) - 1))).bind fun t246 => (thermionref01_weight.j0 k a1 a2 t246 a0_0 a0_1 a0_2 l0_3)) = some r := by rw [if_neg (show ¬ (false = true) by decide)] at H; exact H
   clear H
   have H := H1
   clear H1
   obtain ⟨t246, A90, H⟩ := Option.bind_eq_some_iff.mp H
   have A9 := Aside0.mk A90
   clear A90
   have H' := Aside0.mk H
   clear H
   go_wp2_with (first | ((with_reducible refine gate_callee (f := 73) rfl ?_); refine goesL_ (some 17) rfl rfl Try.func73 (by kernel_rfl) rfl #[.int .i64 a1, .int .i64 0, .int .i64 (wrap64 ((wrap64 (a0_0 * a0_1)) - 1))] rfl aA ?_; (with_reducible refine (thermionref01_beyond.calls a1 0 (wrap64 ((wrap64 (a0_0 * a0_1)) - 1)) false _ A7.out).mono ?_); rintro e w' ⟨rfl, ⟨nd, rfl⟩⟩; refine ⟨_, rfl, ?_⟩) | (go_at_call 73; (with_reducible refine (thermionref01_beyond.calls a2 0 (wrap64 ((wrap64 (a0_0 * a0_1)) - 1)) t246 _ A9.out).mono ?_); rintro e w' ⟨rfl, ⟨nd, rfl⟩⟩))
   go_meet
   case rel => exact ⟨_, (t246), aR, H', ⟨by first | omega | exact Nat.le_refl _⟩, aBk BK244, aBl HB⟩
 case rest =>
  clear HC4
  try clear c8; try clear hcz6_0; try clear hcz6_1; try clear hcz6_2; try clear hcz6_3; try clear hfz6_0; try clear hfz6_1; try clear hfz6_2; try clear hfz6_3
  obtain ⟨kq, x23_3, rfl, HA, HJ3, BK244, HB⟩ := hcut
  cases kq with
  | zero => exact absurd HA.out (by simp [thermionref01_weight.j0])
  | succ kj3 =>
   have H := HA.out
   clear HA
   simp only [thermionref01_weight.j0] at H
   by_cases c10 : x23_3 = true
   ·subst c10
    have H1 : (some 0) = some r := by rw [if_pos rfl] at H; exact H
    clear H
    have H := H1
    clear H1
    obtain rfl := Option.some.inj H
    go_wp2
    go_ret
    exact ⟨by first | rfl | (simp [*] <;> rfl), (aBl HB).out⟩
   ·replace c10 := Bool.eq_false_iff.mpr c10
    subst c10
    have H1 : (if a0_0 = 0 then (none) else (if (mx a1 a2) = (wrap64 ((mn a1 a2) + 1)) then (thermionref01_weight.j1 kj3 (mn a1 a2) (mx a1 a2) (Int.tmod (mn a1 a2) a0_0) (decide ((Int.tmod (mx a1 a2) a0_0) > 0)) a0_0 a0_1 a0_2 l0_3) else (thermionref01_weight.j1 kj3 (mn a1 a2) (mx a1 a2) (Int.tmod (mn a1 a2) a0_0) false a0_0 a0_1 a0_2 l0_3))) = some r := by rw [if_neg (show ¬ (false = true) by decide)] at H; exact H
    clear H
    have H := H1
    clear H1
    obtain ⟨ji11, hji11⟩ : ∃ j_ : Int, (mn a1 a2) = j_ := ⟨_, rfl⟩
    replace H : (if a0_0 = 0 then (none) else (if (mx a1 a2) = (wrap64 ((ji11) + 1)) then (thermionref01_weight.j1 kj3 ji11 (mx a1 a2) (Int.tmod (ji11) a0_0) (decide ((Int.tmod (mx a1 a2) a0_0) > 0)) a0_0 a0_1 a0_2 l0_3) else (thermionref01_weight.j1 kj3 ji11 (mx a1 a2) (Int.tmod (ji11) a0_0) false a0_0 a0_1 a0_2 l0_3))) = some r := by first | (rw [hji11] at H; exact H) | (simp only [hji11] at H ⊢; exact H)
    have hji11_ : (if a2 < a1 then a2 else a1) = ji11 := hji11
    obtain ⟨ji12, hji12⟩ : ∃ j_ : Int, (mx a1 a2) = j_ := ⟨_, rfl⟩
    replace H : (if a0_0 = 0 then (none) else (if (ji12) = (wrap64 ((ji11) + 1)) then (thermionref01_weight.j1 kj3 ji11 ji12 (Int.tmod (ji11) a0_0) (decide ((Int.tmod (ji12) a0_0) > 0)) a0_0 a0_1 a0_2 l0_3) else (thermionref01_weight.j1 kj3 ji11 ji12 (Int.tmod (ji11) a0_0) false a0_0 a0_1 a0_2 l0_3))) = some r := by first | (rw [hji12] at H; exact H) | (simp only [hji12] at H ⊢; exact H)
    have hji12_ : (if a1 < a2 then a2 else a1) = ji12 := hji12
    by_cases c13 : a0_0 = 0
    ·rw [if_pos c13] at H
     exact absurd H (by simp)
    ·rw [if_neg c13] at H
     obtain ⟨c13b0, c13b1⟩ := aNe c13
     have HC14 := Aside0.mk H
     clear H
     obtain ⟨⟨hcz15_0, hcz15_1, hcz15_2, hcz15_3⟩, hfz15_0, hfz15_1, hfz15_2, hfz15_3⟩ := aC4 BK244
     go_upto_region 6 with (fail)
     go_cut [34] (fun v34 wc => ∃ (kq : Nat) (x34_13 : Bool), v34 = .bool x34_13 ∧ Aside0 (thermionref01_weight.j1 kq ji11 ji12 (Int.tmod (ji11) a0_0) x34_13 a0_0 a0_1 a0_2 l0_3 = some r) ∧ Aside0 (kq ≤ kj3) ∧ Aside0 (wc.heap[gb244]? = some (.cells #[.int .i64 a0_0, .int .i64 a0_1, .bool a0_2, (.slice A0_3 l0_3.length c0_3)] 24 (0, 0))) ∧ Aside0 (Below w.heap.size w wc))
     case first =>
      have H := HC14.out
      clear HC14
      by_cases c16 : (ji12) = (wrap64 ((ji11) + 1))
      ·rw [if_pos c16] at H
       obtain ⟨c16b0, c16b1⟩ := aEq c16
       clear c16
       (first | rw [c16b0] | (simp only [i64_w, i32_w]; rw [c16b0]) | skip)
       have H' := Aside0.mk H
       clear H
       obtain ⟨⟨hcz17_0, hcz17_1, hcz17_2, hcz17_3⟩, hfz17_0, hfz17_1, hfz17_2, hfz17_3⟩ := aC4 BK244
       go_wp2
       go_meet
       case rel => exact ⟨_, (decide ((Int.tmod (ji12) a0_0) > 0)), (by first | rfl | (simp; done) | (simp only [← hji12] <;> (first | rfl | simp)) | (simp [*]; done)), H', ⟨by have := HJ3.out; first | omega | exact Nat.le_refl _⟩, aBk BK244, aBl HB⟩
      ·rw [if_neg c16] at H
       obtain ⟨c16b0, c16b1⟩ := aNe c16
       (first | rw [c16b0] | (simp only [i64_w, i32_w]; rw [c16b0]) | skip)
       have H' := Aside0.mk H
       clear H
       go_wp2
       go_meet
       case rel => exact ⟨_, (false), aR, H', ⟨by have := HJ3.out; first | omega | exact Nat.le_refl _⟩, aBk BK244, aBl HB⟩
     case rest =>
      clear HC14
      try clear c8; try clear c10; try clear c13; try clear c13b0; try clear c13b1; try clear c16; try clear c16b0; try clear c16b1; try clear hcz15_0; try clear hcz15_1; try clear hcz15_2; try clear hcz15_3; try clear hcz17_0; try clear hcz17_1; try clear hcz17_2; try clear hcz17_3; try clear hcz6_0; try clear hcz6_1; try clear hcz6_2; try clear hcz6_3; try clear hfz15_0; try clear hfz15_1; try clear hfz15_2; try clear hfz15_3; try clear hfz17_0; try clear hfz17_1; try clear hfz17_2; try clear hfz17_3; try clear hfz6_0; try clear hfz6_1; try clear hfz6_2; try clear hfz6_3
      obtain ⟨kq, x34_13, rfl, HA, HJ13, BK244, HB⟩ := hcut
      cases kq with
      | zero => exact absurd HA.out (by simp [thermionref01_weight.j1])
      | succ kj13 =>
       have H := HA.out
       clear HA
       simp only [thermionref01_weight.j1] at H
       by_cases c18 : x34_13 = true
       ·subst c18
        have H1 : (if a0_2 = true then (some (wrap64 (2 * (wrap64 ((Int.tmod (ji11) a0_0) + 1))))) else (some 1)) = some r := by rw [if_pos rfl] at H; exact H
        clear H
        have H := H1
        clear H1
        by_cases c19 : a0_2 = true
        ·subst c19
         have H1 : (some (wrap64 (2 * (wrap64 ((Int.tmod (ji11) a0_0) + 1))))) = some r := by rw [if_pos rfl] at H; exact H
         clear H
         have H := H1
         clear H1
         obtain rfl := Option.some.inj H
         obtain ⟨⟨hcz20_0, hcz20_1, hcz20_2, hcz20_3⟩, hfz20_0, hfz20_1, hfz20_2, hfz20_3⟩ := aC4 BK244
         go_wp2
         go_ret
         exact ⟨by first | rfl | (simp [errW_none, errW_some] <;> rfl) | (simp only [← hji11, ← hji12]; first | rfl | (simp [errW_none, errW_some] <;> rfl)) | (simp [*, errW_none, errW_some] <;> rfl), (aBl HB).out⟩
        ·replace c19 := Bool.eq_false_iff.mpr c19
         subst c19
         have H1 : (some 1) = some r := by rw [if_neg (show ¬ (false = true) by decide)] at H; exact H
         clear H
         have H := H1
         clear H1
         obtain rfl := Option.some.inj H
         obtain ⟨⟨hcz21_0, hcz21_1, hcz21_2, hcz21_3⟩, hfz21_0, hfz21_1, hfz21_2, hfz21_3⟩ := aC4 BK244
         go_wp2
         go_ret
         exact ⟨by first | rfl | (simp [errW_none, errW_some] <;> rfl) | (simp only [← hji11, ← hji12]; first | rfl | (simp [errW_none, errW_some] <;> rfl)) | (simp [*, errW_none, errW_some] <;> rfl), (aBl HB).out⟩
       ·replace c18 := Bool.eq_false_iff.mpr c18
        subst c18
        have H1 : (if ji12 = (wrap64 (ji11 + a0_0)) then (if a0_2 = true then (some (wrap64 ((wrap64 (2 * (Int.tmod (ji11) a0_0))) + 1))) else (some 1)) else (some 0)) = some r := by rw [if_neg (show ¬ (false = true) by decide)] at H; exact H
        clear H
        have H := H1
        clear H1
        by_cases c22 : ji12 = (wrap64 (ji11 + a0_0))
        ·rw [if_pos c22] at H
         obtain ⟨c22b0, c22b1⟩ := aEq c22
         clear c22
         by_cases c23 : a0_2 = true
         ·subst c23
          have H1 : (some (wrap64 ((wrap64 (2 * (Int.tmod (ji11) a0_0))) + 1))) = some r := by rw [if_pos rfl] at H; exact H
          clear H
          have H := H1
          clear H1
          obtain rfl := Option.some.inj H
          obtain ⟨⟨hcz24_0, hcz24_1, hcz24_2, hcz24_3⟩, hfz24_0, hfz24_1, hfz24_2, hfz24_3⟩ := aC4 BK244
          go_wp2
          go_ret
          exact ⟨by first | rfl | (simp [errW_none, errW_some] <;> rfl) | (simp only [← hji11, ← hji12]; first | rfl | (simp [errW_none, errW_some] <;> rfl)) | (simp [*, errW_none, errW_some] <;> rfl), (aBl HB).out⟩
         ·replace c23 := Bool.eq_false_iff.mpr c23
          subst c23
          have H1 : (some 1) = some r := by rw [if_neg (show ¬ (false = true) by decide)] at H; exact H
          clear H
          have H := H1
          clear H1
          obtain rfl := Option.some.inj H
          obtain ⟨⟨hcz25_0, hcz25_1, hcz25_2, hcz25_3⟩, hfz25_0, hfz25_1, hfz25_2, hfz25_3⟩ := aC4 BK244
          go_wp2
          go_ret
          exact ⟨by first | rfl | (simp [errW_none, errW_some] <;> rfl) | (simp only [← hji11, ← hji12]; first | rfl | (simp [errW_none, errW_some] <;> rfl)) | (simp [*, errW_none, errW_some] <;> rfl), (aBl HB).out⟩
        ·rw [if_neg c22] at H
         obtain ⟨c22b0, c22b1⟩ := aNe c22
         obtain rfl := Option.some.inj H
         obtain ⟨⟨hcz26_0, hcz26_1, hcz26_2, hcz26_3⟩, hfz26_0, hfz26_1, hfz26_2, hfz26_3⟩ := aC4 BK244
         go_wp2
         go_ret
         exact ⟨by first | rfl | (simp [errW_none, errW_some] <;> rfl) | (simp only [← hji11, ← hji12]; first | rfl | (simp [errW_none, errW_some] <;> rfl)) | (simp [*, errW_none, errW_some] <;> rfl), (aBl HB).out⟩
mutual
def thermionref01_around.j0 : Nat → Int → List Int → Int → Int → Bool → List Int → Option (List Int)
 | 0, _, _, _, _, _, _ => none
 | k + 1, x1, x5, x248000, x248001, x248002, x248003 => thermionref01_around.l0 k x1 x5 ([] : List Int) 0 x248000 x248001 x248002 x248003
def thermionref01_around.l0 : Nat → Int → List Int → List Int → Int → Int → Int → Bool → List Int → Option (List Int)
 | 0, _, _, _, _, _, _, _, _ => none
 | k + 1, x1, x5, x6, x7, x248000, x248001, x248002, x248003 => if x7 < (x5.length : Int) then (if 0 ≤ x7 then ((thermionref01_weight.f k x248000 x248001 x248002 x248003 x1 (rd x5 x7)).bind fun t255 => (if t255 > 0 then (if x6.length < 17592186044416 then (thermionref01_around.l0 k x1 x5 (x6 ++ [rd x5 x7]) (wrap64 (x7 + 1)) x248000 x248001 x248002 x248003) else (none)) else (thermionref01_around.l0 k x1 x5 x6 (wrap64 (x7 + 1)) x248000 x248001 x248002 x248003))) else (none)) else (some x6)
end
def thermionref01_around.f (k : Nat) (a0_0 : Int) (a0_1 : Int) (a0_2 : Bool) (l0_3 : List Int) (a1 : Int) : Option (List Int) := if a0_0 = 1 then (thermionref01_around.j0 k a1 (([wrap64 (a1 - 1), wrap64 (a1 + 1)] : List Int)) a0_0 a0_1 a0_2 l0_3) else (thermionref01_around.j0 k a1 (([wrap64 (a1 - a0_0), wrap64 (a1 - 1), wrap64 (a1 + 1), wrap64 (a1 + a0_0)] : List Int)) a0_0 a0_1 a0_2 l0_3)
def thermionref01_around.T8 : Bool × List (List Nat × List Nat) := (true, [([], []), ([], []), ([], []), ([], []), ([2, 3], [2, 3]), ([4], [4]), ([0, 1, 5], [0, 1, 5]), ([6], [6])])
def thermionref01_around.B8 : List Nat := [0, 0, 0, 0, 12, 28, 63, 127]
theorem thermionref01_around.tab8 : rtab .any (opsOf Try.f100 8) = thermionref01_around.T8 := by kernel_rfl
theorem thermionref01_around.bits8 : waitsOk thermionref01_around.T8.2 thermionref01_around.B8 = true := by kernel_rfl
theorem thermionref01_around.calls (k : Nat) (a0_0 : Int) (a0_1 : Int) (a0_2 : Bool) (A0_3 : Option Addr) (c0_3 : Nat) (l0_3 : List Int) (a1 : Int) (r : List Int) (w : World) (hr0_3 : Kd.C (Kd.int .i64) w A0_3 l0_3.length l0_3) (hc0_3 : l0_3.length ≤ c0_3) (h : thermionref01_around.f k a0_0 a0_1 a0_2 l0_3 a1 = some r) :
  Calls Try.prog 100 #[.agg #[.int .i64 a0_0, .int .i64 a0_1, .bool a0_2, .slice A0_3 l0_3.length c0_3], .int .i64 a1] w fun e w' => ∃ v0_ : Value, e = .returned (v0_) ∧ Kd.R (Kd.int .i64) 3 w' w.heap.size (fun _ => True) v0_ r ∧ Below w.heap.size w w' := by
 have hu24 := Try.underlying24
 have HR0_3 := Aside0.mk hr0_3
 have HC0_3 := Aside0.mk hc0_3
 clear hr0_3 hc0_3
 have HB := Aside0.mk (Below.refl w.heap.size w)
 have H : (if a0_0 = 1 then (thermionref01_around.j0 k a1 (([wrap64 (a1 - 1), wrap64 (a1 + 1)] : List Int)) a0_0 a0_1 a0_2 l0_3) else (thermionref01_around.j0 k a1 (([wrap64 (a1 - a0_0), wrap64 (a1 - 1), wrap64 (a1 + 1), wrap64 (a1 + a0_0)] : List Int)) a0_0 a0_1 a0_2 l0_3)) = some r := h
 clear h
 obtain ⟨y248, hy248⟩ : ∃ y_ : List Int, y_ = (([wrap64 (a1 - a0_0), wrap64 (a1 - 1), wrap64 (a1 + 1), wrap64 (a1 + a0_0)] : List Int)) := ⟨_, rfl⟩
 replace H : (if a0_0 = 1 then (thermionref01_around.j0 k a1 (([wrap64 (a1 - 1), wrap64 (a1 + 1)] : List Int)) a0_0 a0_1 a0_2 l0_3) else (thermionref01_around.j0 k a1 y248 a0_0 a0_1 a0_2 l0_3)) = some r := by first | (rw [hy248]; with_reducible exact H) | (rw [hy248]; exact (Option.bind_some _ _).symm.trans H) | (rw [hy248]; exact H) | exact H
 have Ny248 := Aside0.mk hy248
 clear hy248
 have HC3 := Aside0.mk H
 clear H
 go_enter Try.func100, Try.ntmps100
 go_upto_if 23 with (first | ((with_reducible refine gate_dst (N := 2) rfl ?_); refine aBox 2 #[.int .i64 a0_0, .int .i64 a0_1, .bool a0_2, .slice A0_3 l0_3.length c0_3] 24 ?_; intro gb247 hg w4 hbox hb; have BK247 := Aside0.mk (hbox); have GW247 := aGe hg HB; have GE247 := aGe hg HB; replace HB := aBs HB hb; clear hb hbox hg; obtain ⟨⟨hcz5_0, hcz5_1, hcz5_2, hcz5_3⟩, hfz5_0, hfz5_1, hfz5_2, hfz5_3⟩ := aC4 BK247) | ((with_reducible refine gate_dst (N := 20) rfl ?_); refine Kd.R_lit (Kd.int .i64) _ 3 ?hg (N := 20) ?hd (xs := ([wrap64 (a1 - a0_0), wrap64 (a1 - 1), wrap64 (a1 + 1), wrap64 (a1 + a0_0)] : List Int)) (inner := [.int .i64 (wrap64 (a1 - a0_0)), .int .i64 (wrap64 (a1 - 1)), .int .i64 (wrap64 (a1 + 1)), .int .i64 (wrap64 (a1 + a0_0))]) (ok := fun _ => True) (okp := fun _ => True) ?hr ?hp (fun _ hk => hk) trivial (Below.refl _ _) (Nat.le_refl _) (by simp) ?_; (case hd => rfl); (case hg => rfl); (case hr => first | (go_simp; done) | (go_simp; rfl)); (case hp => exact (Reps.one (show Kd.M (Kd.int .i64) _ _ _ (wrap64 (a1 - a0_0)) [.int .i64 (wrap64 (a1 - a0_0))] from rfl) (Reps.one (show Kd.M (Kd.int .i64) _ _ _ (wrap64 (a1 - 1)) [.int .i64 (wrap64 (a1 - 1))] from rfl) (Reps.one (show Kd.M (Kd.int .i64) _ _ _ (wrap64 (a1 + 1)) [.int .i64 (wrap64 (a1 + 1))] from rfl) (Reps.one (show Kd.M (Kd.int .i64) _ _ _ (wrap64 (a1 + a0_0)) [.int .i64 (wrap64 (a1 + a0_0))] from rfl) (Reps.none _ _)))))); intro v249 w6 ho7 hb hg_ hnew_; clear hg_ hnew_; (first | rw [← Ny248.out] at ho7 | (simp only [Int.reduceToNat] at ho7; rw [← Ny248.out] at ho7)); have HO250 := Aside0.mk (Kd.R_lower ho7 (below_size (aBl HB).out)); replace BK247 := aBb BK247 hb; replace HB := aBs HB hb; clear hb ho7; obtain ⟨⟨hcz8_0, hcz8_1, hcz8_2, hcz8_3⟩, hfz8_0, hfz8_1, hfz8_2, hfz8_3⟩ := aC4 BK247))
 (try simp only [Act.put, List.setIfInBounds_toArray, List.set_cons_zero, List.set_cons_succ])
 go_cut [5] (fun v5 wc => ∃ (kq : Nat) (x5_2 : List Int), Aside0 (thermionref01_around.j0 kq a1 x5_2 a0_0 a0_1 a0_2 l0_3 = some r) ∧ Aside0 (kq ≤ k) ∧ Aside0 (Kd.R (Kd.int .i64) 3 wc w.heap.size (fun _ => True) v5 x5_2) ∧ Aside0 (wc.heap[gb247]? = some (.cells #[.int .i64 a0_0, .int .i64 a0_1, .bool a0_2, (.slice A0_3 l0_3.length c0_3)] 24 (0, 0))) ∧ Aside0 (Below w.heap.size w wc))
 case first =>
  have H := HC3.out
  clear HC3
  by_cases c9 : a0_0 = 1
  ·rw [if_pos c9] at H
   obtain ⟨c9b0, c9b1⟩ := aEq c9
   clear c9
   (first | rw [c9b0] | (simp only [i64_w, i32_w]; rw [c9b0]) | skip)
   obtain ⟨y251, hy251⟩ : ∃ y_ : List Int, y_ = (([wrap64 (a1 - 1), wrap64 (a1 + 1)] : List Int)) := ⟨_, rfl⟩
   replace H : (thermionref01_around.j0 k a1 y251 a0_0 a0_1 a0_2 l0_3) = some r := by first | (rw [hy251]; with_reducible exact H) | (rw [hy251]; exact (Option.bind_some _ _).symm.trans H) | (rw [hy251]; exact H) | exact H
   have Ny251 := Aside0.mk hy251
   clear hy251
   have H' := Aside0.mk H
   clear H
   go_wp2_with (first | ((with_reducible refine gate_dst (N := 28) rfl ?_); refine Kd.R_lit (Kd.int .i64) _ 3 ?hg (N := 28) ?hd (xs := ([wrap64 (a1 - 1), wrap64 (a1 + 1)] : List Int)) (inner := [.int .i64 (wrap64 (a1 - 1)), .int .i64 (wrap64 (a1 + 1))]) (ok := fun _ => True) (okp := fun _ => True) ?hr ?hp (fun _ hk => hk) trivial (Below.refl _ _) (Nat.le_refl _) (by simp) ?_; (case hd => rfl); (case hg => rfl); (case hr => first | (go_simp; done) | (go_simp; rfl)); (case hp => exact (Reps.one (show Kd.M (Kd.int .i64) _ _ _ (wrap64 (a1 - 1)) [.int .i64 (wrap64 (a1 - 1))] from rfl) (Reps.one (show Kd.M (Kd.int .i64) _ _ _ (wrap64 (a1 + 1)) [.int .i64 (wrap64 (a1 + 1))] from rfl) (Reps.none _ _)))); intro v252 w10 ho11 hb hg_ hnew_; clear hg_ hnew_; (first | rw [← Ny251.out] at ho11 | (simp only [Int.reduceToNat] at ho11; rw [← Ny251.out] at ho11)); have HO253 := Aside0.mk (Kd.R_lower (Kd.R_new' ho11 (Kd.R_lt (aRk HO250).out)) (below_size (aBl HB).out)); replace HO250 := Aside0.mk (Kd.R_elder' (aRk HO250).out (Kd.R_base ho11) hb); replace BK247 := aBb BK247 hb; replace HB := aBs HB hb; clear hb ho11))
   go_meet
   case rel => exact ⟨_, (y251), H', ⟨by first | omega | exact Nat.le_refl _⟩, ⟨by (with_reducible repeat (first | apply Kd.R_alloc | apply Kd.R_drewN | apply Kd.R_drew)); exact Kd.R_mono HO253.out (fun _ hk => trivial)⟩, aBk BK247, aBl HB⟩
  ·rw [if_neg c9] at H
   obtain ⟨c9b0, c9b1⟩ := aNe c9
   (first | rw [c9b0] | (simp only [i64_w, i32_w]; rw [c9b0]) | skip)
   have H' := Aside0.mk H
   clear H
   go_wp2
   go_meet
   case rel => exact ⟨_, (y248), H', ⟨by first | omega | exact Nat.le_refl _⟩, aRk HO250, aBk BK247, aBl HB⟩
 case rest =>
  clear HC3
  try clear c9; try clear c9b0; try clear c9b1; try clear hcz5_0; try clear hcz5_1; try clear hcz5_2; try clear hcz5_3; try clear hcz8_0; try clear hcz8_1; try clear hcz8_2; try clear hcz8_3; try clear hfz5_0; try clear hfz5_1; try clear hfz5_2; try clear hfz5_3; try clear hfz8_0; try clear hfz8_1; try clear hfz8_2; try clear hfz8_3
  obtain ⟨kq, x5_2, HA, HJ2, HO_5, BK247, HB⟩ := hcut
  cases kq with
  | zero => exact absurd HA.out (by simp [thermionref01_around.j0])
  | succ kj2 =>
   have H := HA.out
   clear HA
   simp only [thermionref01_around.j0] at H
   have H' := Aside0.mk H
   clear H
   go_wp2
   go_loopg [6, 7] kj2 (fun kq v6 v7 w' => ∃ (x6_2 : List Int) (x7_2 : Int), v7 = .int .i64 x7_2 ∧ Aside0 (thermionref01_around.l0 kq a1 x5_2 x6_2 x7_2 a0_0 a0_1 a0_2 l0_3 = some r) ∧ Aside0 (kq ≤ kj2) ∧ Aside0 (Kd.R (Kd.int .i64) 3 w' w.heap.size (fun k_ => some k_ ≠ (v6 : Value).ownBlock) u5 x5_2) ∧ Aside0 (Kd.R (Kd.int .i64) 3 w' w.heap.size (fun k_ => some k_ ≠ (u5 : Value).ownBlock) v6 x6_2) ∧ Aside0 (w'.heap[gb247]? = some (.cells #[.int .i64 a0_0, .int .i64 a0_1, .bool a0_2, (.slice A0_3 l0_3.length c0_3)] 24 (0, 0))) ∧ Aside0 (Below w.heap.size w w'))
   case atStart => exact ⟨(([] : List Int)), (0), aR, H', ⟨Nat.le_refl _⟩, ⟨by (with_reducible repeat (first | apply Kd.R_alloc | apply Kd.R_drewN | apply Kd.R_drew)); exact Kd.R_mono HO_5.out (fun _ hk => (by simp [Value.ownBlock]))⟩, ⟨by first | exact Kd.R_nil _ _ _ _ _ | exact Kd.N_nil _ _ _ _ _ | exact Kd.V_nil _ _ _ _ _ | exact Kd.Q_nil _ _ _ _ _ | exact Kd.S_nil _ _ _ _ _⟩, aBk BK247, aBl HB⟩
   case round =>
    clear H'
    try clear c9; try clear c9b0; try clear c9b1; try clear hcz5_0; try clear hcz5_1; try clear hcz5_2; try clear hcz5_3; try clear hcz8_0; try clear hcz8_1; try clear hcz8_2; try clear hcz8_3; try clear hfz5_0; try clear hfz5_1; try clear hfz5_2; try clear hfz5_3; try clear hfz8_0; try clear hfz8_1; try clear hfz8_2; try clear hfz8_3
    obtain ⟨x6_2, x7_2, rfl, HA, HK2, HO_5, HO_6, BK247, HB⟩ := hrel
    cases gk with
    | zero => exact absurd HA.out (by simp [thermionref01_around.l0])
    | succ k2 =>
     have H := HA.out
     clear HA
     simp only [thermionref01_around.l0] at H
     by_cases c12 : x7_2 < (x5_2.length : Int)
     ·rw [if_pos c12] at H
      have c12b0 := decide_eq_true c12
      clear c12
      by_cases c13 : 0 ≤ x7_2
      ·rw [if_pos c13] at H
       have c13b0 := decide_eq_true c13
       clear c13
       obtain ⟨t255, A140, H⟩ := Option.bind_eq_some_iff.mp H
       have A14 := Aside0.mk A140
       clear A140
       by_cases c15 : t255 > 0
       ·rw [if_pos c15] at H
        have c15b0 := decide_eq_true c15
        clear c15
        by_cases c16 : x6_2.length < 17592186044416
        ·rw [if_pos c16] at H
         have LMc16 := Aside0.mk c16
         clear c16
         obtain ⟨y257, hy257⟩ : ∃ y_ : List Int, y_ = (x6_2 ++ [rd x5_2 x7_2]) := ⟨_, rfl⟩
         replace H : (thermionref01_around.l0 k2 a1 x5_2 y257 (wrap64 (x7_2 + 1)) a0_0 a0_1 a0_2 l0_3) = some r := by first | (rw [hy257]; with_reducible exact H) | (rw [hy257]; exact (Option.bind_some _ _).symm.trans H) | (rw [hy257]; exact H) | exact H
         have Ny257 := Aside0.mk hy257
         clear hy257
         have H' := Aside0.mk H
         clear H
         obtain ⟨Ao17, co17, eo17⟩ := Kd.R_slice HO_5.out
         subst eo17
         try go_wp2
         have n0_ := Aside0.mk (Kd.R_drew HO_5.out)
         have n1_ := Aside0.mk (Kd.R_drew HO_6.out)
         have n2_ := Aside0.mk (blk_drew BK247.out)
         have n3_ := Aside0.mk (below_drew1 HB.out)
         clear HO_5 HO_6 BK247 HB
         have HO_5 := n0_
         have HO_6 := n1_
         have BK247 := n2_
         have HB := n3_
         clear n0_ n1_ n2_ n3_
         have p254 : 0 ≤ (x7_2 : Int) := aD
         have q254 : x7_2 < (x5_2.length : Int) := aD
         obtain ⟨ad254, e254, hx254_0⟩ := Kd.at_int (Kd.R_reads' HO_5.out).2.2 x7_2 p254 q254
         cases e254
         replace p254 := eq_true p254
         replace q254 := eq_true q254
         refine start_ (n := 8) (S := fun w' => w'.cell? ⟨gb247, 0, none⟩ = some (.int .i64 a0_0) ∧ w'.cell? ⟨gb247, 1, none⟩ = some (.int .i64 a0_1) ∧ w'.cell? ⟨gb247, 2, none⟩ = some (.bool a0_2) ∧ w'.cell? ⟨gb247, 3, none⟩ = some (.slice A0_3 l0_3.length c0_3) ∧ w'.cell? (ad254.add (x7_2).toNat) = some (.int .i64 (rd x5_2 x7_2))) (ds := []) #[false, false, false, false, false, false, false, false] (by kernel_rfl) rfl rfl ⟨(blk_cell BK247.out 0).trans rfl, (blk_cell BK247.out 1).trans rfl, (blk_cell BK247.out 2).trans rfl, (blk_cell BK247.out 3).trans rfl, hx254_0⟩ (fun hHeld => ?_); refine with_tabW thermionref01_around.tab8 thermionref01_around.bits8 (fun HT_ HW_ => ?_)
         generalize wr.drew = w18 at HO_5 HO_6 BK247 HB hx254_0 hHeld ⊢
         refine pu_ 1 36 (bS 8 2) HT_ ?_
         refine pu_ 2 37 (bS 8 6) HT_ ?_
         refine pu_ 3 38 (bS 8 14) HT_ ?_
         refine pu_ 4 39 (bS 8 30) HT_ ?_
         refine ta_ 0 35 (bS 8 31) HT_ HW_ hHeld ?_
         refine ta_ 5 40 (bS 8 63) HT_ HW_ hHeld ?_
         refine on_ 6 41 (bS 8 127) (fun K hK => ?_) (one_of HT_.out (by kernel_rfl))
         refine goes_ Try.func81 (by kernel_rfl) rfl #[.agg #[.int .i64 a0_0, .int .i64 a0_1, .bool a0_2, .slice A0_3 l0_3.length c0_3], .int .i64 a1, .int .i64 (rd x5_2 x7_2)] (by rfl) rfl rfl aA ?_
         with_reducible refine (thermionref01_weight.calls k2 a0_0 a0_1 a0_2 _ _ l0_3 a1 (rd x5_2 x7_2) t255 _ ?side1 ?side2 A14.out).mono ?_
         (case side1 => exact aC HR0_3 HB)
         (case side2 => exact HC0_3.out)
         rintro e w19 ⟨rfl, hb⟩
         have HS4_ := (hb.cell (World.block_lt_of_cell? _ _ (hHeld.2.2.2.2))).trans (hHeld.2.2.2.2)
         refine ⟨_, rfl, ?_⟩
         have n0_ := aRb HO_5 hb
         have n1_ := aRb HO_6 hb
         have n2_ := aBb BK247 hb
         have n3_ := aBs HB hb
         clear HO_5 HO_6 BK247 HB
         have HO_5 := n0_
         have HO_6 := n1_
         have BK247 := n2_
         have HB := n3_
         clear n0_ n1_ n2_ n3_
         (try clear hb)
         (try clear hb2)
         (try clear hk)
         (try clear hi)
         refine hK.out _ _ ⟨(blk_cell BK247.out 0).trans rfl, (blk_cell BK247.out 1).trans rfl, (blk_cell BK247.out 2).trans rfl, (blk_cell BK247.out 3).trans rfl, HS4_⟩ (fun hHeld => ?_)
         clear hK K
         refine nm_ ?_
         refine pu_ 7 42 (bS 8 255) HT_ ?_
         refine done_ (done_of HT_.out (by kernel_rfl)) ?_
         have p256 : 0 ≤ (x7_2 : Int) := aD
         have q256 : x7_2 < (x5_2.length : Int) := aD
         obtain ⟨ad256, e256, hx256_0⟩ := Kd.at_int (Kd.R_reads' HO_5.out).2.2 x7_2 p256 q256
         obtain rfl : ad254 = ad256 := (by injection e256)
         replace p256 := eq_true p256
         replace q256 := eq_true q256
         try go_wp2_with (first | ((with_reducible refine gate_builtin (b := .append) (xs := #[.tmp 43, .tmp 48]) rfl ?_); at_builtin; refine Kd.R_append (Kd.int .i64) (w0 := w) w.heap.size rfl (.tmp 43) (.tmp 48) 22 3 (.int .i64 0) 8 rfl Try.underlying22 info3 rfl (by decide) (by omega) u6 x6_2 (rd x5_2 x7_2) [.int .i64 (rd x5_2 x7_2)] (fun k_ => some k_ ≠ (.slice (some ad254) x5_2.length co17 : Value).ownBlock) (fun _ => False) rfl rfl ?aP (fun _ hk => hk.elim) ?aF ?aO ?aB ?aS ?aL ?_; (case aP => exact rfl); (case aB => exact (aBl HB).out); (case aF => exact (fun k_ hk => Kd.fresh' (Kd.R_lt (aRk HO_5).out) k_ hk)); (case aO => exact (aRk HO_6).out); (case aS => exact (below_size (aBl HB).out)); (case aL => have := LMc16.out; omega); intro v258 w20 ho hb hg hat; rw [← Ny257.out] at ho; replace HO_5 := Aside0.mk (Kd.R_after (ok := (fun _ => True)) (by (with_reducible repeat (first | apply Kd.R_alloc | apply Kd.R_drewN | apply Kd.R_drew)); exact Kd.R_mono HO_5.out (fun _ hk => ⟨trivial, hk⟩)) hg hat); replace BK247 := (aBg BK247 hg (Kd.R_ne HO_6.out BK247.out (by decide))); replace HB := Aside0.mk (hb); have HO259 := Aside0.mk (ho); clear HO_6; clear ho hb hg hat))
         go_roundg k2
         case measure => have := HJ2.out; have := HK2.out; omega
         case rel => exact ⟨(y257), (wrap64 (x7_2 + 1)), aR, H', ⟨by have := HJ2.out; have := HK2.out; omega⟩, ⟨by (with_reducible repeat (first | apply Kd.R_alloc | apply Kd.R_drewN | apply Kd.R_drew)); exact Kd.R_mono HO_5.out (fun _ hk => hk.2)⟩, aRk HO259, aBk BK247, aBl HB⟩
        ·rw [if_neg c16] at H
         exact absurd H (by simp)
       ·rw [if_neg c15] at H
        have c15b0 := decide_eq_false c15
        clear c15
        have H' := Aside0.mk H
        clear H
        obtain ⟨Ao21, co21, eo21⟩ := Kd.R_slice HO_5.out
        subst eo21
        try go_wp2
        have n0_ := Aside0.mk (Kd.R_drew HO_5.out)
        have n1_ := Aside0.mk (Kd.R_drew HO_6.out)
        have n2_ := Aside0.mk (blk_drew BK247.out)
        have n3_ := Aside0.mk (below_drew1 HB.out)
        clear HO_5 HO_6 BK247 HB
        have HO_5 := n0_
        have HO_6 := n1_
        have BK247 := n2_
        have HB := n3_
        clear n0_ n1_ n2_ n3_
        have p254 : 0 ≤ (x7_2 : Int) := aD
        have q254 : x7_2 < (x5_2.length : Int) := aD
        obtain ⟨ad254, e254, hx254_0⟩ := Kd.at_int (Kd.R_reads' HO_5.out).2.2 x7_2 p254 q254
        cases e254
        replace p254 := eq_true p254
        replace q254 := eq_true q254
        refine start_ (n := 8) (S := fun w' => w'.cell? ⟨gb247, 0, none⟩ = some (.int .i64 a0_0) ∧ w'.cell? ⟨gb247, 1, none⟩ = some (.int .i64 a0_1) ∧ w'.cell? ⟨gb247, 2, none⟩ = some (.bool a0_2) ∧ w'.cell? ⟨gb247, 3, none⟩ = some (.slice A0_3 l0_3.length c0_3) ∧ w'.cell? (ad254.add (x7_2).toNat) = some (.int .i64 (rd x5_2 x7_2))) (ds := []) #[false, false, false, false, false, false, false, false] (by kernel_rfl) rfl rfl ⟨(blk_cell BK247.out 0).trans rfl, (blk_cell BK247.out 1).trans rfl, (blk_cell BK247.out 2).trans rfl, (blk_cell BK247.out 3).trans rfl, hx254_0⟩ (fun hHeld => ?_); refine with_tabW thermionref01_around.tab8 thermionref01_around.bits8 (fun HT_ HW_ => ?_)
        generalize wr.drew = w22 at HO_5 HO_6 BK247 HB hx254_0 hHeld ⊢
        refine pu_ 1 36 (bS 8 2) HT_ ?_
        refine pu_ 2 37 (bS 8 6) HT_ ?_
        refine pu_ 3 38 (bS 8 14) HT_ ?_
        refine pu_ 4 39 (bS 8 30) HT_ ?_
        refine ta_ 0 35 (bS 8 31) HT_ HW_ hHeld ?_
        refine ta_ 5 40 (bS 8 63) HT_ HW_ hHeld ?_
        refine on_ 6 41 (bS 8 127) (fun K hK => ?_) (one_of HT_.out (by kernel_rfl))
        refine goes_ Try.func81 (by kernel_rfl) rfl #[.agg #[.int .i64 a0_0, .int .i64 a0_1, .bool a0_2, .slice A0_3 l0_3.length c0_3], .int .i64 a1, .int .i64 (rd x5_2 x7_2)] (by rfl) rfl rfl aA ?_
        with_reducible refine (thermionref01_weight.calls k2 a0_0 a0_1 a0_2 _ _ l0_3 a1 (rd x5_2 x7_2) t255 _ ?side1 ?side2 A14.out).mono ?_
        (case side1 => exact aC HR0_3 HB)
        (case side2 => exact HC0_3.out)
        rintro e w23 ⟨rfl, hb⟩
        have HS4_ := (hb.cell (World.block_lt_of_cell? _ _ (hHeld.2.2.2.2))).trans (hHeld.2.2.2.2)
        refine ⟨_, rfl, ?_⟩
        have n0_ := aRb HO_5 hb
        have n1_ := aRb HO_6 hb
        have n2_ := aBb BK247 hb
        have n3_ := aBs HB hb
        clear HO_5 HO_6 BK247 HB
        have HO_5 := n0_
        have HO_6 := n1_
        have BK247 := n2_
        have HB := n3_
        clear n0_ n1_ n2_ n3_
        (try clear hb)
        (try clear hb2)
        (try clear hk)
        (try clear hi)
        refine hK.out _ _ ⟨(blk_cell BK247.out 0).trans rfl, (blk_cell BK247.out 1).trans rfl, (blk_cell BK247.out 2).trans rfl, (blk_cell BK247.out 3).trans rfl, HS4_⟩ (fun hHeld => ?_)
        clear hK K
        refine nm_ ?_
        refine pu_ 7 42 (bS 8 255) HT_ ?_
        refine done_ (done_of HT_.out (by kernel_rfl)) ?_
        try go_wp2
        go_roundg k2
        case measure => have := HJ2.out; have := HK2.out; omega
        case rel => exact ⟨(x6_2), (wrap64 (x7_2 + 1)), aR, H', ⟨by have := HJ2.out; have := HK2.out; omega⟩, aRk HO_5, aRk HO_6, aBk BK247, aBl HB⟩
      ·rw [if_neg c13] at H
       exact absurd H (by simp)
     ·rw [if_neg c12] at H
      have c12b0 := decide_eq_false c12
      clear c12
      obtain rfl := Option.some.inj H
      obtain ⟨Ao24, co24, eo24⟩ := Kd.R_slice HO_5.out
      subst eo24
      go_wp2
      go_ret
      exact ⟨_, by first | rfl | (simp [*] <;> rfl), by (with_reducible repeat (first | apply Kd.R_alloc | apply Kd.R_drewN | apply Kd.R_drew)); exact Kd.R_mono HO_6.out (fun _ hk => trivial), (aBl HB).out⟩
mutual
def thermionref01_charge.l0 : Nat → List Int → Int → Int → Int → Int → Bool → List Int → List Int → List Int → Int → Bool → Int → Int → Option (Int × Int)
 | 0, _, _, _, _, _, _, _, _, _, _, _, _, _ => none
 | k + 1, x1, x3, x10, x440000, x440001, x440002, x440003, x441000, x441001, x441002, x441003, x443000, x443001 => if x10 < (x440003.length : Int) then (if 0 ≤ x10 then (if (rd x440003 x10) = x3 then ((thermionref01_around.f k x440000 x440001 x440002 x440003 x10).bind fun t444 => (thermionref01_charge.l1 k x1 x3 x10 t444 0 x440000 x440001 x440002 x440003 x441000 x441001 x441002 x441003 x443000 x443001)) else (thermionref01_charge.l0 k x1 x3 (wrap64 (x10 + 1)) x440000 x440001 x440002 x440003 x441000 x441001 x441002 x441003 x443000 x443001)) else (none)) else (some (x443000, x443001))
def thermionref01_charge.l1 : Nat → List Int → Int → Int → List Int → Int → Int → Int → Bool → List Int → List Int → List Int → Int → Bool → Int → Int → Option (Int × Int)
 | 0, _, _, _, _, _, _, _, _, _, _, _, _, _, _, _ => none
 | k + 1, x1, x3, x10, x11, x12, x440000, x440001, x440002, x440003, x441000, x441001, x441002, x441003, x443000, x443001 => if x12 < (x11.length : Int) then (if 0 ≤ x12 then (if 0 ≤ (rd x11 x12) then (if (rd x11 x12) < (x440003.length : Int) then (if (rd x440003 (rd x11 x12)) = x3 then (thermionref01_charge.l1 k x1 x3 x10 x11 (wrap64 (x12 + 1)) x440000 x440001 x440002 x440003 x441000 x441001 x441002 x441003 x443000 x443001) else ((thermionref01_weight.f k x440000 x440001 x440002 x440003 x10 (rd x11 x12)).bind fun t449 => (if 0 ≤ (wrap64 (x3 - 1)) then (if (wrap64 (x3 - 1)) < (x1.length : Int) then (if (rd x11 x12) < (x441001.length : Int) then ((thermionref01_weight.f k x440000 x440001 x440002 x440003 x10 (rd x11 x12)).bind fun t452 => (if (rd x11 x12) < (x441000.length : Int) then (thermionref01_charge.l1 k x1 x3 x10 x11 (wrap64 (x12 + 1)) x440000 x440001 x440002 x440003 x441000 x441001 x441002 x441003 (wrap64 (x443000 + (wrap64 (t449 * (wrap64 ((rd x1 (wrap64 (x3 - 1))) - (rd x441001 (rd x11 x12)))))))) (wrap64 (x443001 + (wrap64 (t452 * (wrap64 ((rd x1 (wrap64 (x3 - 1))) - (rd x441000 (rd x11 x12))))))))) else (none))) else (none)) else (none)) else (none)))) else (none)) else (none)) else (none)) else (thermionref01_charge.l0 k x1 x3 (wrap64 (x10 + 1)) x440000 x440001 x440002 x440003 x441000 x441001 x441002 x441003 x443000 x443001)
end
def thermionref01_charge.f (k : Nat) (a0_0 : Int) (a0_1 : Int) (a0_2 : Bool) (l0_3 : List Int) (l1 : List Int) (l2_0 : List Int) (l2_1 : List Int) (a2_2 : Int) (a2_3 : Bool) (a3 : Int) : Option (Int × Int) := thermionref01_charge.l0 k l1 a3 0 a0_0 a0_1 a0_2 l0_3 l2_0 l2_1 a2_2 a2_3 0 0
def thermionref01_charge.T12 : Bool × List (List Nat × List Nat) := (true, [([], []), ([0], [0]), ([], []), ([], []), ([], []), ([2, 3, 4], [2, 3, 4]), ([], []), ([], []), ([7], [7]), ([6, 8], [6, 8]), ([9], [9]), ([], []), ([11], [11]), ([], []), ([12, 13], [12, 13]), ([14], [14]), ([10, 15], [10, 15]), ([5, 16], [5, 16]), ([1, 17], [1, 17]), ([0, 1, 2, 3, 4, 5, 6, 7, 8, 9, 10, 11, 12, 13, 14, 15, 16, 17, 18], []), ([19, 18, 5, 0, 1, 2, 3, 4, 5, 6, 7, 8, 9, 10, 11, 12, 13, 14, 15, 16, 17, 18], [18, 19])])
def thermionref01_charge.B12 : List Nat := [0, 1, 0, 0, 0, 28, 0, 0, 128, 448, 960, 0, 2048, 0, 14336, 30720, 65472, 131068, 262143, 524287, 1048575]
theorem thermionref01_charge.tab12 : rtab .any (opsOf Try.f80 12) = thermionref01_charge.T12 := by kernel_rfl
theorem thermionref01_charge.bits12 : waitsOk thermionref01_charge.T12.2 thermionref01_charge.B12 = true := by kernel_rfl
def thermionref01_charge.T13 : Bool × List (List Nat × List Nat) := (true, [([], []), ([0], [0]), ([], []), ([], []), ([], []), ([2, 3, 4], [2, 3, 4]), ([], []), ([], []), ([7], [7]), ([6, 8], [6, 8]), ([9], [9]), ([], []), ([11], [11]), ([], []), ([12, 13], [12, 13]), ([14], [14]), ([10, 15], [10, 15]), ([5, 16], [5, 16]), ([1, 17], [1, 17]), ([0, 1, 2, 3, 4, 5, 6, 7, 8, 9, 10, 11, 12, 13, 14, 15, 16, 17, 18], []), ([19, 18, 5, 0, 1, 2, 3, 4, 5, 6, 7, 8, 9, 10, 11, 12, 13, 14, 15, 16, 17, 18], [18, 19])])
def thermionref01_charge.B13 : List Nat := [0, 1, 0, 0, 0, 28, 0, 0, 128, 448, 960, 0, 2048, 0, 14336, 30720, 65472, 131068, 262143, 524287, 1048575]
theorem thermionref01_charge.tab13 : rtab .any (opsOf Try.f80 13) = thermionref01_charge.T13 := by kernel_rfl
theorem thermionref01_charge.bits13 : waitsOk thermionref01_charge.T13.2 thermionref01_charge.B13 = true := by kernel_rfl
theorem thermionref01_charge.calls (k : Nat) (a0_0 : Int) (a0_1 : Int) (a0_2 : Bool) (A0_3 : Option Addr) (c0_3 : Nat) (l0_3 : List Int) (A1 : Option Addr) (c1 : Nat) (l1 : List Int) (A2_0 : Option Addr) (c2_0 : Nat) (l2_0 : List Int) (A2_1 : Option Addr) (c2_1 : Nat) (l2_1 : List Int) (a2_2 : Int) (a2_3 : Bool) (a3 : Int) (r1 : Int) (r2 : Int) (w : World) (hr0_3 : Kd.C (Kd.int .i64) w A0_3 l0_3.length l0_3) (hc0_3 : l0_3.length ≤ c0_3) (hr1 : Kd.C (Kd.int .i64) w A1 l1.length l1) (hc1 : l1.length ≤ c1) (hr2_0 : Kd.C (Kd.int .i64) w A2_0 l2_0.length l2_0) (hc2_0 : l2_0.length ≤ c2_0) (hr2_1 : Kd.C (Kd.int .i64) w A2_1 l2_1.length l2_1) (hc2_1 : l2_1.length ≤ c2_1) (h : thermionref01_charge.f k a0_0 a0_1 a0_2 l0_3 l1 l2_0 l2_1 a2_2 a2_3 a3 = some (r1, r2)) :
  Calls Try.prog 80 #[.agg #[.int .i64 a0_0, .int .i64 a0_1, .bool a0_2, .slice A0_3 l0_3.length c0_3], .slice A1 l1.length c1, .agg #[.slice A2_0 l2_0.length c2_0, .slice A2_1 l2_1.length c2_1, .int .i64 a2_2, .bool a2_3], .int .i64 a3] w fun e w' => e = .returned (.agg #[.int .i64 r1, .int .i64 r2]) ∧ Below w.heap.size w w' := by
 have hu24 := Try.underlying24
 have hu33 := Try.underlying33
 have hu42 := Try.underlying42
 have HR0_3 := Aside0.mk hr0_3
 have HC0_3 := Aside0.mk hc0_3
 clear hr0_3 hc0_3
 have HR1 := Aside0.mk hr1
 have HC1 := Aside0.mk hc1
 clear hr1 hc1
 have HR2_0 := Aside0.mk hr2_0
 have HC2_0 := Aside0.mk hc2_0
 clear hr2_0 hc2_0
 have HR2_1 := Aside0.mk hr2_1
 have HC2_1 := Aside0.mk hc2_1
 clear hr2_1 hc2_1
 have HB := Aside0.mk (Below.refl w.heap.size w)
 have H : (thermionref01_charge.l0 k l1 a3 0 a0_0 a0_1 a0_2 l0_3 l2_0 l2_1 a2_2 a2_3 0 0) = some (r1, r2) := h
 clear h
 have H' := Aside0.mk H
 clear H
 go_enter Try.func80, Try.ntmps80
 go_wp2_with (first | ((with_reducible refine gate_dst (N := 4) rfl ?_); refine aBox 4 #[.int .i64 a0_0, .int .i64 a0_1, .bool a0_2, .slice A0_3 l0_3.length c0_3] 24 ?_; intro gb439 hg w5 hbox hb; have BK439 := Aside0.mk (hbox); have GW439 := aGe hg HB; have GE439 := aGe hg HB; replace HB := aBs HB hb; clear hb hbox hg) | ((with_reducible refine gate_dst (N := 6) rfl ?_); refine aBox 6 #[.slice A2_0 l2_0.length c2_0, .slice A2_1 l2_1.length c2_1, .int .i64 a2_2, .bool a2_3] 33 ?_; intro gb440 hg w6 hbox hb; have BK440 := Aside0.mk (hbox); have GW440 := aGe hg HB; have GE440 := aGe hg HB; replace HB := aBs HB hb; have NB439_440 := aNl hg BK439; have NB440_439 := aNg hg BK439; replace BK439 := aBb BK439 hb; clear hb hbox hg) | ((with_reducible refine gate_dst (N := 8) rfl ?_); refine aBox 8 #[.int .i64 0, .int .i64 0] 42 ?_; intro gb441 hg w7 hbox hb; have BK441 := Aside0.mk (hbox); have GW441 := aGe hg HB; have GE441 := aGe hg HB; replace HB := aBs HB hb; have NB439_441 := aNl hg BK439; have NB441_439 := aNg hg BK439; replace BK439 := aBb BK439 hb; have NB440_441 := aNl hg BK440; have NB441_440 := aNg hg BK440; replace BK440 := aBb BK440 hb; clear hb hbox hg) | ((with_reducible refine gate_dst (N := 9) rfl ?_); refine aBox 9 #[.int .i64 0, .int .i64 0] 42 ?_; intro gb442 hg w8 hbox hb; have BK442 := Aside0.mk (hbox); have GW442 := aGe hg HB; have GE442 := aGe hg HB; replace HB := aBs HB hb; have NB439_442 := aNl hg BK439; have NB442_439 := aNg hg BK439; replace BK439 := aBb BK439 hb; have NB440_442 := aNl hg BK440; have NB442_440 := aNg hg BK440; replace BK440 := aBb BK440 hb; have NB441_442 := aNl hg BK441; have NB442_441 := aNg hg BK441; replace BK441 := aBb BK441 hb; clear hb hbox hg))
 go_loopg [10] k (fun kq v10 w' => ∃ (x10_1 : Int) (x443000_1 : Int) (x443001_1 : Int), v10 = .int .i64 x10_1 ∧ Aside0 (thermionref01_charge.l0 kq l1 a3 x10_1 a0_0 a0_1 a0_2 l0_3 l2_0 l2_1 a2_2 a2_3 x443000_1 x443001_1 = some (r1, r2)) ∧ Aside0 (kq ≤ k) ∧ Aside0 (w'.heap[gb439]? = some (.cells #[.int .i64 a0_0, .int .i64 a0_1, .bool a0_2, (.slice A0_3 l0_3.length c0_3)] 24 (0, 0))) ∧ Aside0 (w'.heap[gb440]? = some (.cells #[(.slice A2_0 l2_0.length c2_0), (.slice A2_1 l2_1.length c2_1), .int .i64 a2_2, .bool a2_3] 33 (0, 0))) ∧ Aside0 (w'.heap[gb441]? = some (.cells #[.int .i64 0, .int .i64 0] 42 (0, 0))) ∧ Aside0 (w'.heap[gb442]? = some (.cells #[.int .i64 x443000_1, .int .i64 x443001_1] 42 (0, 0))) ∧ Aside0 (Below w.heap.size w w'))
 case atStart => exact ⟨(0), (0), (0), aR, H', ⟨Nat.le_refl _⟩, aBk BK439, aBk BK440, aBk BK441, aBk BK442, aBl HB⟩
 case round =>
  clear H'
  try clear c1
  obtain ⟨x10_1, x443000_1, x443001_1, rfl, HA, HK1, BK439, BK440, BK441, BK442, HB⟩ := hrel
  cases gk with
  | zero => exact absurd HA.out (by simp [thermionref01_charge.l0])
  | succ k1 =>
   have H := HA.out
   clear HA
   simp only [thermionref01_charge.l0] at H
   by_cases c9 : x10_1 < (l0_3.length : Int)
   ·rw [if_pos c9] at H
    have c9b0 := decide_eq_true c9
    clear c9
    by_cases c10 : 0 ≤ x10_1
    ·rw [if_pos c10] at H
     have c10b0 := decide_eq_true c10
     clear c10
     by_cases c11 : (rd l0_3 x10_1) = a3
     ·rw [if_pos c11] at H
      obtain ⟨c11b0, c11b1⟩ := aEq c11
      clear c11
      obtain ⟨t444, A120, H⟩ := Option.bind_eq_some_iff.mp H
      have A12 := Aside0.mk A120
      clear A120
      have H' := Aside0.mk H
      clear H
      have hnb13 := NB439_440.out
      have hnc13 := NB440_439.out
      have hnb14 := NB439_441.out
      have hnc14 := NB441_439.out
      have hnb15 := NB439_442.out
      have hnc15 := NB442_439.out
      obtain ⟨⟨hcz16_0, hcz16_1, hcz16_2, hcz16_3⟩, hfz16_0, hfz16_1, hfz16_2, hfz16_3⟩ := aC4 BK439
      have p443 : 0 ≤ (x10_1 : Int) := aD
      have q443 : x10_1 < (l0_3.length : Int) := aD
      obtain ⟨ad443, e443, hx443_0⟩ := Kd.at_int HR0_3.out x10_1 p443 q443
      cases e443
      replace hx443_0 := (HB.out.cell (World.block_lt_of_cell? w _ hx443_0)).trans hx443_0
      replace p443 := eq_true p443
      replace q443 := eq_true q443
      go_wp2_with (first | ((with_reducible refine gate_callee (f := 100) rfl ?_); refine goesL_ (some 30) rfl rfl Try.func100 (by kernel_rfl) rfl #[.agg #[.int .i64 a0_0, .int .i64 a0_1, .bool a0_2, .slice (some ad443) l0_3.length c0_3], .int .i64 x10_1] rfl aA ?_; (with_reducible refine (thermionref01_around.calls k1 a0_0 a0_1 a0_2 _ _ l0_3 x10_1 t444 _ ?side1 ?side2 A12.out).mono ?_); (case side1 => exact aC HR0_3 HB); (case side2 => exact HC0_3.out); rintro e w17 ⟨v445, rfl, ho0, hb⟩; refine ⟨_, rfl, ?_⟩; have HO446 := Aside0.mk (Kd.R_lower ho0 (below_size (aBl HB).out)); replace BK439 := aBb BK439 hb; replace BK440 := aBb BK440 hb; replace BK441 := aBb BK441 hb; replace BK442 := aBb BK442 hb; replace HB := aBs HB hb; (try clear hb hk hi); (try clear ho0)))
      go_loopg [12] k1 (fun kq v12 w' => ∃ (x12_2 : Int) (x443000_2 : Int) (x443001_2 : Int), v12 = .int .i64 x12_2 ∧ Aside0 (thermionref01_charge.l1 kq l1 a3 x10_1 t444 x12_2 a0_0 a0_1 a0_2 l0_3 l2_0 l2_1 a2_2 a2_3 x443000_2 x443001_2 = some (r1, r2)) ∧ Aside0 (kq ≤ k1) ∧ Aside0 (Kd.R (Kd.int .i64) 3 w' w.heap.size (fun _ => True) v445 t444) ∧ Aside0 (w'.heap[gb439]? = some (.cells #[.int .i64 a0_0, .int .i64 a0_1, .bool a0_2, (.slice (some ad443) l0_3.length c0_3)] 24 (0, 0))) ∧ Aside0 (w'.heap[gb440]? = some (.cells #[(.slice A2_0 l2_0.length c2_0), (.slice A2_1 l2_1.length c2_1), .int .i64 a2_2, .bool a2_3] 33 (0, 0))) ∧ Aside0 (w'.heap[gb441]? = some (.cells #[.int .i64 0, .int .i64 0] 42 (0, 0))) ∧ Aside0 (w'.heap[gb442]? = some (.cells #[.int .i64 x443000_2, .int .i64 x443001_2] 42 (0, 0))) ∧ Aside0 (Below w.heap.size w w'))
      case atStart => exact ⟨(0), (x443000_1), (x443001_1), aR, H', ⟨Nat.le_refl _⟩, aRk HO446, aBk BK439, aBk BK440, aBk BK441, aBk BK442, aBl HB⟩
      case round =>
       clear H'
       try clear c1; try clear c9; try clear c9b0; try clear c10; try clear c10b0; try clear c11; try clear c11b0; try clear c11b1; try clear hcz16_0; try clear hcz16_1; try clear hcz16_2; try clear hcz16_3; try clear hfz16_0; try clear hfz16_1; try clear hfz16_2; try clear hfz16_3; try clear hx443_0; try clear p443; try clear q443
       obtain ⟨x12_2, x443000_2, x443001_2, rfl, HA, HK2, HO_11, BK439, BK440, BK441, BK442, HB⟩ := hrel
       cases gk with
       | zero => exact absurd HA.out (by simp [thermionref01_charge.l1])
       | succ k2 =>
        have H := HA.out
        clear HA
        simp only [thermionref01_charge.l1] at H
        by_cases c18 : x12_2 < (t444.length : Int)
        ·rw [if_pos c18] at H
         have c18b0 := decide_eq_true c18
         clear c18
         by_cases c19 : 0 ≤ x12_2
         ·rw [if_pos c19] at H
          have c19b0 := decide_eq_true c19
          clear c19
          by_cases c20 : 0 ≤ (rd t444 x12_2)
          ·rw [if_pos c20] at H
           have c20b0 := decide_eq_true c20
           clear c20
           by_cases c21 : (rd t444 x12_2) < (l0_3.length : Int)
           ·rw [if_pos c21] at H
            have c21b0 := decide_eq_true c21
            clear c21
            by_cases c22 : (rd l0_3 (rd t444 x12_2)) = a3
            ·rw [if_pos c22] at H
             obtain ⟨c22b0, c22b1⟩ := aEq c22
             clear c22
             have H' := Aside0.mk H
             clear H
             obtain ⟨Ao23, co23, eo23⟩ := Kd.R_slice HO_11.out
             subst eo23
             have p447 : 0 ≤ (x12_2 : Int) := aD
             have q447 : x12_2 < (t444.length : Int) := aD
             obtain ⟨ad447, e447, hx447_0⟩ := Kd.at_int (Kd.R_reads' HO_11.out).2.2 x12_2 p447 q447
             cases e447
             replace p447 := eq_true p447
             replace q447 := eq_true q447
             have hnb24 := NB439_440.out
             have hnc24 := NB440_439.out
             have hnb25 := NB439_441.out
             have hnc25 := NB441_439.out
             have hnb26 := NB439_442.out
             have hnc26 := NB442_439.out
             obtain ⟨⟨hcz27_0, hcz27_1, hcz27_2, hcz27_3⟩, hfz27_0, hfz27_1, hfz27_2, hfz27_3⟩ := aC4 BK439
             have p448 : 0 ≤ ((rd t444 x12_2) : Int) := aD
             have q448 : (rd t444 x12_2) < (l0_3.length : Int) := aD
             obtain ⟨ad448, e448, hx448_0⟩ := Kd.at_int HR0_3.out (rd t444 x12_2) p448 q448
             obtain rfl : ad443 = ad448 := (by injection e448)
             replace hx448_0 := (HB.out.cell (World.block_lt_of_cell? w _ hx448_0)).trans hx448_0
             replace p448 := eq_true p448
             replace q448 := eq_true q448
             go_wp2
             go_roundg k2
             case measure => have := HK1.out; have := HK2.out; omega
             case rel => exact ⟨(wrap64 (x12_2 + 1)), (x443000_2), (x443001_2), aR, H', ⟨by have := HK1.out; have := HK2.out; omega⟩, aRk HO_11, aBk BK439, aBk BK440, aBk BK441, aBk BK442, aBl HB⟩
            ·rw [if_neg c22] at H
             obtain ⟨c22b0, c22b1⟩ := aNe c22
             obtain ⟨t449, A280, H⟩ := Option.bind_eq_some_iff.mp H
             have A28 := Aside0.mk A280
             clear A280
             obtain ⟨ji29, hji29⟩ : ∃ j_ : Int, (wrap64 (a3 - 1)) = j_ := ⟨_, rfl⟩
             replace H : (if 0 ≤ (ji29) then (if (ji29) < (l1.length : Int) then (if (rd t444 x12_2) < (l2_1.length : Int) then ((thermionref01_weight.f k2 a0_0 a0_1 a0_2 l0_3 x10_1 (rd t444 x12_2)).bind fun t452 => (if (rd t444 x12_2) < (l2_0.length : Int) then (thermionref01_charge.l1 k2 l1 a3 x10_1 t444 (wrap64 (x12_2 + 1)) a0_0 a0_1 a0_2 l0_3 l2_0 l2_1 a2_2 a2_3 (wrap64 (x443000_2 + (wrap64 (t449 * (wrap64 ((rd l1 (ji29)) - (rd l2_1 (rd t444 x12_2)))))))) (wrap64 (x443001_2 + (wrap64 (t452 * (wrap64 ((rd l1 (ji29)) - (rd l2_0 (rd t444 x12_2))))))))) else (none))) else (none)) else (none)) else (none)) = some (r1, r2) := by first | (rw [hji29] at H; exact H) | (simp only [hji29] at H ⊢; exact H)
             (try rw [hji29] at A28)
             have hji29w : (IntKind.i64.wrap (a3 - 1)) = ji29 := (i64_w _).trans hji29
             by_cases c30 : 0 ≤ (ji29)
             ·rw [if_pos c30] at H
              have c30b0 := decide_eq_true c30
              clear c30
              by_cases c31 : (ji29) < (l1.length : Int)
              ·rw [if_pos c31] at H
               have c31b0 := decide_eq_true c31
               clear c31
               by_cases c32 : (rd t444 x12_2) < (l2_1.length : Int)
               ·rw [if_pos c32] at H
                have c32b0 := decide_eq_true c32
                clear c32
                obtain ⟨t452, A330, H⟩ := Option.bind_eq_some_iff.mp H
                have A33 := Aside0.mk A330
                clear A330
                by_cases c34 : (rd t444 x12_2) < (l2_0.length : Int)
                ·rw [if_pos c34] at H
                 have c34b0 := decide_eq_true c34
                 clear c34
                 have H' := Aside0.mk H
                 clear H
                 obtain ⟨Ao35, co35, eo35⟩ := Kd.R_slice HO_11.out
                 subst eo35
                 have p447 : 0 ≤ (x12_2 : Int) := aD
                 have q447 : x12_2 < (t444.length : Int) := aD
                 obtain ⟨ad447, e447, hx447_0⟩ := Kd.at_int (Kd.R_reads' HO_11.out).2.2 x12_2 p447 q447
                 cases e447
                 replace p447 := eq_true p447
                 replace q447 := eq_true q447
                 have hnb36 := NB439_440.out
                 have hnc36 := NB440_439.out
                 have hnb37 := NB439_441.out
                 have hnc37 := NB441_439.out
                 have hnb38 := NB439_442.out
                 have hnc38 := NB442_439.out
                 obtain ⟨⟨hcz39_0, hcz39_1, hcz39_2, hcz39_3⟩, hfz39_0, hfz39_1, hfz39_2, hfz39_3⟩ := aC4 BK439
                 have p448 : 0 ≤ ((rd t444 x12_2) : Int) := aD
                 have q448 : (rd t444 x12_2) < (l0_3.length : Int) := aD
                 obtain ⟨ad448, e448, hx448_0⟩ := Kd.at_int HR0_3.out (rd t444 x12_2) p448 q448
                 obtain rfl : ad443 = ad448 := (by injection e448)
                 replace hx448_0 := (HB.out.cell (World.block_lt_of_cell? w _ hx448_0)).trans hx448_0
                 replace p448 := eq_true p448
                 replace q448 := eq_true q448
                 try go_wp2
                 have n0_ := Aside0.mk (Kd.R_drew HO_11.out)
                 have n1_ := Aside0.mk (blk_drew BK439.out)
                 have n2_ := Aside0.mk (blk_drew BK440.out)
                 have n3_ := Aside0.mk (blk_drew BK441.out)
                 have n4_ := Aside0.mk (blk_drew BK442.out)
                 have n5_ := Aside0.mk (below_drew1 HB.out)
                 clear HO_11 BK439 BK440 BK441 BK442 HB
                 have HO_11 := n0_
                 have BK439 := n1_
                 have BK440 := n2_
                 have BK441 := n3_
                 have BK442 := n4_
                 have HB := n5_
                 clear n0_ n1_ n2_ n3_ n4_ n5_
                 have p450 : 0 ≤ ((ji29) : Int) := aD
                 have q450 : (ji29) < (l1.length : Int) := aD
                 obtain ⟨ad450, e450, hx450_0⟩ := Kd.at_int HR1.out (ji29) p450 q450
                 have hw450_0 := hx450_0
                 cases e450
                 replace hx450_0 := (HB.out.cell (World.block_lt_of_cell? w _ hx450_0)).trans hx450_0
                 replace p450 := eq_true p450
                 replace q450 := eq_true q450
                 have p451 : 0 ≤ ((rd t444 x12_2) : Int) := aD
                 have q451 : (rd t444 x12_2) < (l2_1.length : Int) := aD
                 obtain ⟨ad451, e451, hx451_0⟩ := Kd.at_int HR2_1.out (rd t444 x12_2) p451 q451
                 have hw451_0 := hx451_0
                 cases e451
                 replace hx451_0 := (HB.out.cell (World.block_lt_of_cell? w _ hx451_0)).trans hx451_0
                 replace p451 := eq_true p451
                 replace q451 := eq_true q451
                 refine start_ (n := 21) (S := fun w' => w'.cell? ⟨gb442, 0, none⟩ = some (.int .i64 x443000_2) ∧ w'.cell? ⟨gb442, 1, none⟩ = some (.int .i64 x443001_2) ∧ w'.cell? ⟨gb439, 0, none⟩ = some (.int .i64 a0_0) ∧ w'.cell? ⟨gb439, 1, none⟩ = some (.int .i64 a0_1) ∧ w'.cell? ⟨gb439, 2, none⟩ = some (.bool a0_2) ∧ w'.cell? ⟨gb439, 3, none⟩ = some (.slice (some ad443) l0_3.length c0_3) ∧ w'.cell? ⟨gb440, 0, none⟩ = some (.slice A2_0 l2_0.length c2_0) ∧ w'.cell? ⟨gb440, 1, none⟩ = some (.slice (some ad451) l2_1.length c2_1) ∧ w'.cell? ⟨gb440, 2, none⟩ = some (.int .i64 a2_2) ∧ w'.cell? ⟨gb440, 3, none⟩ = some (.bool a2_3) ∧ w'.cell? (ad450.add ((ji29)).toNat) = some (.int .i64 (rd l1 (ji29))) ∧ w'.cell? (ad451.add ((rd t444 x12_2)).toNat) = some (.int .i64 (rd l2_1 (rd t444 x12_2)))) (ds := [20]) #[false, false, false, false, false, false, false, false, false, false, false, false, false, false, false, false, false, false, false, false, false] (by kernel_rfl) rfl rfl ⟨(blk_cell BK442.out 0).trans rfl, (blk_cell BK442.out 1).trans rfl, (blk_cell BK439.out 0).trans rfl, (blk_cell BK439.out 1).trans rfl, (blk_cell BK439.out 2).trans rfl, (blk_cell BK439.out 3).trans rfl, (blk_cell BK440.out 0).trans rfl, (blk_cell BK440.out 1).trans rfl, (blk_cell BK440.out 2).trans rfl, (blk_cell BK440.out 3).trans rfl, ((HB.out.cell (World.block_lt_of_cell? w _ hw450_0)).trans hw450_0), ((HB.out.cell (World.block_lt_of_cell? w _ hw451_0)).trans hw451_0)⟩ (fun hHeld => ?_); refine with_tabW thermionref01_charge.tab12 thermionref01_charge.bits12 (fun HT_ HW_ => ?_)
                 generalize wr.drew = w40 at HO_11 BK439 BK440 BK441 BK442 HB hx450_0 hx451_0 hHeld ⊢
                 refine pu_ 0 48 (bS 21 1) HT_ ?_
                 refine pu_ 3 51 (bS 21 9) HT_ ?_
                 refine pu_ 4 52 (bS 21 25) HT_ ?_
                 refine pu_ 6 54 (bS 21 89) HT_ ?_
                 refine pu_ 7 55 (bS 21 217) HT_ ?_
                 refine pu_ 8 56 (bS 21 473) HT_ ?_
                 refine pu_ 9 57 (bS 21 985) HT_ ?_
                 refine pu_ 11 59 (bS 21 3033) HT_ ?_
                 refine pu_ 13 61 (bS 21 11225) HT_ ?_
                 refine ta_ 1 49 (bS 21 11227) HT_ HW_ hHeld ?_
                 refine ta_ 2 50 (bS 21 11231) HT_ HW_ hHeld ?_
                 refine ta_ 10 58 (bS 21 12255) HT_ HW_ hHeld ?_
                 refine ta_ 12 60 (bS 21 16351) HT_ HW_ hHeld ?_
                 refine pu_ 14 62 (bS 21 32735) HT_ ?_
                 refine ta_ 15 63 (bS 21 65503) HT_ HW_ hHeld ?_
                 refine pu_ 16 64 (bS 21 131039) HT_ ?_
                 refine on_ 5 53 (bS 21 131071) (fun K hK => ?_) (one_of HT_.out (by kernel_rfl))
                 refine goes_ Try.func81 (by kernel_rfl) rfl #[.agg #[.int .i64 a0_0, .int .i64 a0_1, .bool a0_2, .slice (some ad443) l0_3.length c0_3], .int .i64 x10_1, .int .i64 (rd t444 x12_2)] (by rfl) rfl rfl aA ?_
                 with_reducible refine (thermionref01_weight.calls k2 a0_0 a0_1 a0_2 _ _ l0_3 x10_1 (rd t444 x12_2) t449 _ ?side1 ?side2 A28.out).mono ?_
                 (case side1 => exact aC HR0_3 HB)
                 (case side2 => exact HC0_3.out)
                 rintro e w41 ⟨rfl, hb⟩
                 refine ⟨_, rfl, ?_⟩
                 have n0_ := aRb HO_11 hb
                 have n1_ := aBb BK439 hb
                 have n2_ := aBb BK440 hb
                 have n3_ := aBb BK441 hb
                 have n4_ := aBb BK442 hb
                 have n5_ := aBs HB hb
                 clear HO_11 BK439 BK440 BK441 BK442 HB
                 have HO_11 := n0_
                 have BK439 := n1_
                 have BK440 := n2_
                 have BK441 := n3_
                 have BK442 := n4_
                 have HB := n5_
                 clear n0_ n1_ n2_ n3_ n4_ n5_
                 (try clear hb)
                 (try clear hb2)
                 (try clear hk)
                 (try clear hi)
                 refine hK.out _ _ ⟨(blk_cell BK442.out 0).trans rfl, (blk_cell BK442.out 1).trans rfl, (blk_cell BK439.out 0).trans rfl, (blk_cell BK439.out 1).trans rfl, (blk_cell BK439.out 2).trans rfl, (blk_cell BK439.out 3).trans rfl, (blk_cell BK440.out 0).trans rfl, (blk_cell BK440.out 1).trans rfl, (blk_cell BK440.out 2).trans rfl, (blk_cell BK440.out 3).trans rfl, ((HB.out.cell (World.block_lt_of_cell? w _ hw450_0)).trans hw450_0), ((HB.out.cell (World.block_lt_of_cell? w _ hw451_0)).trans hw451_0)⟩ (fun hHeld => ?_)
                 clear hK K
                 refine nm_ ?_
                 refine pu_ 17 65 (bS 21 262143) HT_ ?_
                 refine pu_ 18 66 (bS 21 524287) HT_ ?_
                 refine pu_ 19 67 (bS 21 1048575) HT_ ?_
                 refine la_ 20 (bS 21 2097151) (fun K hK => ?_) (one_of HT_.out (by kernel_rfl))
                 have hs42 : w41.cell? ⟨gb442, 0, none⟩ = some (.int .i64 x443000_2) := (blk_cell BK442.out 0).trans rfl
                 have hfs42 := blk_frozen BK442.out 0
                 have hns42_0 := NB439_442.out
                 have hns42_1 := NB440_442.out
                 have hns42_2 := NB441_442.out
                 have hms42_0 := NB442_439.out
                 have hms42_1 := NB442_440.out
                 have hms42_2 := NB442_441.out
                 refine skip_ (w1 := ?_) (by rfl) rfl ?_ ?_
                 rotate_left
                 ·go_simp
                  rfl
                 refine hK.out _ _ ?_
                 clear hK K
                 refine done_ (done_of HT_.out (by kernel_rfl)) ?_
                 try go_wp2
                 have n0_ : Aside0 (Kd.R (Kd.int .i64) 3 (w41.setCell ⟨gb442, 0, none⟩ (.int .i64 (wrap64 (x443000_2 + (wrap64 (t449 * (wrap64 ((rd l1 (ji29)) - (rd l2_1 (rd t444 x12_2)))))))))) w.heap.size (fun _ => True) (.slice (some ad447) t444.length co35) t444) := ⟨by (with_reducible repeat (first | apply Kd.R_alloc | apply Kd.R_drewN | apply Kd.R_drew)); exact Kd.R_mono (Kd.R_far (p := ⟨gb442, 0, none⟩) (Kd.R_types HO_11.out BK442.out (by decide)) (fun _ hk => hk.2) (.int .i64 (wrap64 (x443000_2 + (wrap64 (t449 * (wrap64 ((rd l1 (ji29)) - (rd l2_1 (rd t444 x12_2)))))))))) (fun _ hk => trivial)⟩
                 have n1_ : Aside0 ((w41.setCell ⟨gb442, 0, none⟩ (.int .i64 (wrap64 (x443000_2 + (wrap64 (t449 * (wrap64 ((rd l1 (ji29)) - (rd l2_1 (rd t444 x12_2)))))))))).heap[gb439]? = some (.cells #[.int .i64 a0_0, .int .i64 a0_1, .bool a0_2, .slice (some ad443) l0_3.length c0_3] 24 (0, 0))) := ⟨by (with_reducible repeat (first | refine blk_drewN ?_ _ | refine blk_drew ?_ | refine blk_alloc ?_ _)); refine blk_far ?_ NB439_442.out _; (with_reducible repeat (first | refine blk_drewN ?_ _ | refine blk_drew ?_ | refine blk_alloc ?_ _)); exact BK439.out⟩
                 have n2_ : Aside0 ((w41.setCell ⟨gb442, 0, none⟩ (.int .i64 (wrap64 (x443000_2 + (wrap64 (t449 * (wrap64 ((rd l1 (ji29)) - (rd l2_1 (rd t444 x12_2)))))))))).heap[gb440]? = some (.cells #[.slice A2_0 l2_0.length c2_0, .slice (some ad451) l2_1.length c2_1, .int .i64 a2_2, .bool a2_3] 33 (0, 0))) := ⟨by (with_reducible repeat (first | refine blk_drewN ?_ _ | refine blk_drew ?_ | refine blk_alloc ?_ _)); refine blk_far ?_ NB440_442.out _; (with_reducible repeat (first | refine blk_drewN ?_ _ | refine blk_drew ?_ | refine blk_alloc ?_ _)); exact BK440.out⟩
                 have n3_ : Aside0 ((w41.setCell ⟨gb442, 0, none⟩ (.int .i64 (wrap64 (x443000_2 + (wrap64 (t449 * (wrap64 ((rd l1 (ji29)) - (rd l2_1 (rd t444 x12_2)))))))))).heap[gb441]? = some (.cells #[.int .i64 0, .int .i64 0] 42 (0, 0))) := ⟨by (with_reducible repeat (first | refine blk_drewN ?_ _ | refine blk_drew ?_ | refine blk_alloc ?_ _)); refine blk_far ?_ NB441_442.out _; (with_reducible repeat (first | refine blk_drewN ?_ _ | refine blk_drew ?_ | refine blk_alloc ?_ _)); exact BK441.out⟩
                 have n4_ : Aside0 ((w41.setCell ⟨gb442, 0, none⟩ (.int .i64 (wrap64 (x443000_2 + (wrap64 (t449 * (wrap64 ((rd l1 (ji29)) - (rd l2_1 (rd t444 x12_2)))))))))).heap[gb442]? = some (.cells #[.int .i64 (wrap64 (x443000_2 + (wrap64 (t449 * (wrap64 ((rd l1 (ji29)) - (rd l2_1 (rd t444 x12_2)))))))), .int .i64 x443001_2] 42 (0, 0))) := ⟨by (with_reducible repeat (first | refine blk_drewN ?_ _ | refine blk_drew ?_ | refine blk_alloc ?_ _)); refine blk_put (cs := #[.int .i64 x443000_2, .int .i64 x443001_2]) ?_ 0 _ rfl; (with_reducible repeat (first | refine blk_drewN ?_ _ | refine blk_drew ?_ | refine blk_alloc ?_ _)); exact BK442.out⟩
                 have n5_ : Aside0 (Below w.heap.size w (w41.setCell ⟨gb442, 0, none⟩ (.int .i64 (wrap64 (x443000_2 + (wrap64 (t449 * (wrap64 ((rd l1 (ji29)) - (rd l2_1 (rd t444 x12_2))))))))))) := aBl HB
                 (try clear HO_11)
                 (try clear BK439)
                 (try clear BK440)
                 (try clear BK441)
                 (try clear BK442)
                 (try clear HB)
                 generalize (w41.setCell ⟨gb442, 0, none⟩ (.int .i64 (wrap64 (x443000_2 + (wrap64 (t449 * (wrap64 ((rd l1 (ji29)) - (rd l2_1 (rd t444 x12_2)))))))))) = w43 at n0_ n1_ n2_ n3_ n4_ n5_ ⊢
                 have HO_11 := n0_
                 have BK439 := n1_
                 have BK440 := n2_
                 have BK441 := n3_
                 have BK442 := n4_
                 have HB := n5_
                 clear n0_ n1_ n2_ n3_ n4_ n5_
                 have n0_ := Aside0.mk (Kd.R_drew HO_11.out)
                 have n1_ := Aside0.mk (blk_drew BK439.out)
                 have n2_ := Aside0.mk (blk_drew BK440.out)
                 have n3_ := Aside0.mk (blk_drew BK441.out)
                 have n4_ := Aside0.mk (blk_drew BK442.out)
                 have n5_ := Aside0.mk (below_drew1 HB.out)
                 clear HO_11 BK439 BK440 BK441 BK442 HB
                 have HO_11 := n0_
                 have BK439 := n1_
                 have BK440 := n2_
                 have BK441 := n3_
                 have BK442 := n4_
                 have HB := n5_
                 clear n0_ n1_ n2_ n3_ n4_ n5_
                 have p453 : 0 ≤ ((ji29) : Int) := aD
                 have q453 : (ji29) < (l1.length : Int) := aD
                 obtain ⟨ad453, e453, hx453_0⟩ := Kd.at_int HR1.out (ji29) p453 q453
                 have hw453_0 := hx453_0
                 obtain rfl : ad450 = ad453 := (by injection e453)
                 replace hx453_0 := (HB.out.cell (World.block_lt_of_cell? w _ hx453_0)).trans hx453_0
                 replace p453 := eq_true p453
                 replace q453 := eq_true q453
                 have p454 : 0 ≤ ((rd t444 x12_2) : Int) := aD
                 have q454 : (rd t444 x12_2) < (l2_0.length : Int) := aD
                 obtain ⟨ad454, e454, hx454_0⟩ := Kd.at_int HR2_0.out (rd t444 x12_2) p454 q454
                 have hw454_0 := hx454_0
                 cases e454
                 replace hx454_0 := (HB.out.cell (World.block_lt_of_cell? w _ hx454_0)).trans hx454_0
                 replace p454 := eq_true p454
                 replace q454 := eq_true q454
                 refine start_ (n := 21) (S := fun w' => w'.cell? ⟨gb442, 0, none⟩ = some (.int .i64 (wrap64 (x443000_2 + (wrap64 (t449 * (wrap64 ((rd l1 (ji29)) - (rd l2_1 (rd t444 x12_2))))))))) ∧ w'.cell? ⟨gb442, 1, none⟩ = some (.int .i64 x443001_2) ∧ w'.cell? ⟨gb439, 0, none⟩ = some (.int .i64 a0_0) ∧ w'.cell? ⟨gb439, 1, none⟩ = some (.int .i64 a0_1) ∧ w'.cell? ⟨gb439, 2, none⟩ = some (.bool a0_2) ∧ w'.cell? ⟨gb439, 3, none⟩ = some (.slice (some ad443) l0_3.length c0_3) ∧ w'.cell? ⟨gb440, 0, none⟩ = some (.slice (some ad454) l2_0.length c2_0) ∧ w'.cell? ⟨gb440, 1, none⟩ = some (.slice (some ad451) l2_1.length c2_1) ∧ w'.cell? ⟨gb440, 2, none⟩ = some (.int .i64 a2_2) ∧ w'.cell? ⟨gb440, 3, none⟩ = some (.bool a2_3) ∧ w'.cell? (ad450.add ((ji29)).toNat) = some (.int .i64 (rd l1 (ji29))) ∧ w'.cell? (ad454.add ((rd t444 x12_2)).toNat) = some (.int .i64 (rd l2_0 (rd t444 x12_2)))) (ds := [20]) #[false, false, false, false, false, false, false, false, false, false, false, false, false, false, false, false, false, false, false, false, false] (by kernel_rfl) rfl rfl ⟨(blk_cell BK442.out 0).trans rfl, (blk_cell BK442.out 1).trans rfl, (blk_cell BK439.out 0).trans rfl, (blk_cell BK439.out 1).trans rfl, (blk_cell BK439.out 2).trans rfl, (blk_cell BK439.out 3).trans rfl, (blk_cell BK440.out 0).trans rfl, (blk_cell BK440.out 1).trans rfl, (blk_cell BK440.out 2).trans rfl, (blk_cell BK440.out 3).trans rfl, ((HB.out.cell (World.block_lt_of_cell? w _ hw453_0)).trans hw453_0), ((HB.out.cell (World.block_lt_of_cell? w _ hw454_0)).trans hw454_0)⟩ (fun hHeld => ?_); refine with_tabW thermionref01_charge.tab13 thermionref01_charge.bits13 (fun HT_ HW_ => ?_)
                 generalize w43.drew = w44 at HO_11 BK439 BK440 BK441 BK442 HB hx453_0 hx454_0 hHeld ⊢
                 refine pu_ 0 68 (bS 21 1) HT_ ?_
                 refine pu_ 3 71 (bS 21 9) HT_ ?_
                 refine pu_ 4 72 (bS 21 25) HT_ ?_
                 refine pu_ 6 74 (bS 21 89) HT_ ?_
                 refine pu_ 7 75 (bS 21 217) HT_ ?_
                 refine pu_ 8 76 (bS 21 473) HT_ ?_
                 refine pu_ 9 77 (bS 21 985) HT_ ?_
                 refine pu_ 11 79 (bS 21 3033) HT_ ?_
                 refine pu_ 13 81 (bS 21 11225) HT_ ?_
                 refine ta_ 1 69 (bS 21 11227) HT_ HW_ hHeld ?_
                 refine ta_ 2 70 (bS 21 11231) HT_ HW_ hHeld ?_
                 refine ta_ 10 78 (bS 21 12255) HT_ HW_ hHeld ?_
                 refine ta_ 12 80 (bS 21 16351) HT_ HW_ hHeld ?_
                 refine pu_ 14 82 (bS 21 32735) HT_ ?_
                 refine ta_ 15 83 (bS 21 65503) HT_ HW_ hHeld ?_
                 refine pu_ 16 84 (bS 21 131039) HT_ ?_
                 refine on_ 5 73 (bS 21 131071) (fun K hK => ?_) (one_of HT_.out (by kernel_rfl))
                 refine goes_ Try.func81 (by kernel_rfl) rfl #[.agg #[.int .i64 a0_0, .int .i64 a0_1, .bool a0_2, .slice (some ad443) l0_3.length c0_3], .int .i64 x10_1, .int .i64 (rd t444 x12_2)] (by rfl) rfl rfl aA ?_
                 with_reducible refine (thermionref01_weight.calls k2 a0_0 a0_1 a0_2 _ _ l0_3 x10_1 (rd t444 x12_2) t452 _ ?side1 ?side2 A33.out).mono ?_
                 (case side1 => exact aC HR0_3 HB)
                 (case side2 => exact HC0_3.out)
                 rintro e w45 ⟨rfl, hb⟩
                 refine ⟨_, rfl, ?_⟩
                 have n0_ := aRb HO_11 hb
                 have n1_ := aBb BK439 hb
                 have n2_ := aBb BK440 hb
                 have n3_ := aBb BK441 hb
                 have n4_ := aBb BK442 hb
                 have n5_ := aBs HB hb
                 clear HO_11 BK439 BK440 BK441 BK442 HB
                 have HO_11 := n0_
                 have BK439 := n1_
                 have BK440 := n2_
                 have BK441 := n3_
                 have BK442 := n4_
                 have HB := n5_
                 clear n0_ n1_ n2_ n3_ n4_ n5_
                 (try clear hb)
                 (try clear hb2)
                 (try clear hk)
                 (try clear hi)
                 refine hK.out _ _ ⟨(blk_cell BK442.out 0).trans rfl, (blk_cell BK442.out 1).trans rfl, (blk_cell BK439.out 0).trans rfl, (blk_cell BK439.out 1).trans rfl, (blk_cell BK439.out 2).trans rfl, (blk_cell BK439.out 3).trans rfl, (blk_cell BK440.out 0).trans rfl, (blk_cell BK440.out 1).trans rfl, (blk_cell BK440.out 2).trans rfl, (blk_cell BK440.out 3).trans rfl, ((HB.out.cell (World.block_lt_of_cell? w _ hw453_0)).trans hw453_0), ((HB.out.cell (World.block_lt_of_cell? w _ hw454_0)).trans hw454_0)⟩ (fun hHeld => ?_)
                 clear hK K
                 refine nm_ ?_
                 refine pu_ 17 85 (bS 21 262143) HT_ ?_
                 refine pu_ 18 86 (bS 21 524287) HT_ ?_
                 refine pu_ 19 87 (bS 21 1048575) HT_ ?_
                 refine la_ 20 (bS 21 2097151) (fun K hK => ?_) (one_of HT_.out (by kernel_rfl))
                 have hs46 : w45.cell? ⟨gb442, 1, none⟩ = some (.int .i64 x443001_2) := (blk_cell BK442.out 1).trans rfl
                 have hfs46 := blk_frozen BK442.out 1
                 have hns46_0 := NB439_442.out
                 have hns46_1 := NB440_442.out
                 have hns46_2 := NB441_442.out
                 have hms46_0 := NB442_439.out
                 have hms46_1 := NB442_440.out
                 have hms46_2 := NB442_441.out
                 refine skip_ (w1 := ?_) (by rfl) rfl ?_ ?_
                 rotate_left
                 ·go_simp
                  rfl
                 refine hK.out _ _ ?_
                 clear hK K
                 refine done_ (done_of HT_.out (by kernel_rfl)) ?_
                 try go_wp2
                 go_roundg k2
                 case measure => have := HK1.out; have := HK2.out; omega
                 case rel => exact ⟨(wrap64 (x12_2 + 1)), (wrap64 (x443000_2 + (wrap64 (t449 * (wrap64 ((rd l1 (ji29)) - (rd l2_1 (rd t444 x12_2)))))))), (wrap64 (x443001_2 + (wrap64 (t452 * (wrap64 ((rd l1 (ji29)) - (rd l2_0 (rd t444 x12_2)))))))), aR, H', ⟨by have := HK1.out; have := HK2.out; omega⟩, ⟨by (with_reducible repeat (first | apply Kd.R_alloc | apply Kd.R_drewN | apply Kd.R_drew)); exact Kd.R_mono (Kd.R_far (p := ⟨gb442, 1, none⟩) (Kd.R_types HO_11.out BK442.out (by decide)) (fun _ hk => hk.2) (.int .i64 (wrap64 (x443001_2 + (wrap64 (t452 * (wrap64 ((rd l1 (ji29)) - (rd l2_0 (rd t444 x12_2)))))))))) (fun _ hk => trivial)⟩, ⟨by (with_reducible repeat (first | refine blk_drewN ?_ _ | refine blk_drew ?_ | refine blk_alloc ?_ _)); refine blk_far ?_ NB439_442.out _; (with_reducible repeat (first | refine blk_drewN ?_ _ | refine blk_drew ?_ | refine blk_alloc ?_ _)); exact BK439.out⟩, ⟨by (with_reducible repeat (first | refine blk_drewN ?_ _ | refine blk_drew ?_ | refine blk_alloc ?_ _)); refine blk_far ?_ NB440_442.out _; (with_reducible repeat (first | refine blk_drewN ?_ _ | refine blk_drew ?_ | refine blk_alloc ?_ _)); exact BK440.out⟩, ⟨by (with_reducible repeat (first | refine blk_drewN ?_ _ | refine blk_drew ?_ | refine blk_alloc ?_ _)); refine blk_far ?_ NB441_442.out _; (with_reducible repeat (first | refine blk_drewN ?_ _ | refine blk_drew ?_ | refine blk_alloc ?_ _)); exact BK441.out⟩, ⟨by (with_reducible repeat (first | refine blk_drewN ?_ _ | refine blk_drew ?_ | refine blk_alloc ?_ _)); refine blk_put (cs := #[.int .i64 (wrap64 (x443000_2 + (wrap64 (t449 * (wrap64 ((rd l1 (ji29)) - (rd l2_1 (rd t444 x12_2)))))))), .int .i64 x443001_2]) ?_ 1 _ rfl; (with_reducible repeat (first | refine blk_drewN ?_ _ | refine blk_drew ?_ | refine blk_alloc ?_ _)); exact BK442.out⟩, aBl HB⟩
                ·rw [if_neg c34] at H
                 exact absurd H (by simp)
               ·rw [if_neg c32] at H
                exact absurd H (by simp)
              ·rw [if_neg c31] at H
               exact absurd H (by simp)
             ·rw [if_neg c30] at H
              exact absurd H (by simp)
           ·rw [if_neg c21] at H
            exact absurd H (by simp)
          ·rw [if_neg c20] at H
           exact absurd H (by simp)
         ·rw [if_neg c19] at H
          exact absurd H (by simp)
        ·rw [if_neg c18] at H
         have c18b0 := decide_eq_false c18
         clear c18
         have H' := Aside0.mk H
         clear H
         obtain ⟨Ao47, co47, eo47⟩ := Kd.R_slice HO_11.out
         subst eo47
         go_wp2
         go_roundg k2
         case measure => have := HK1.out; have := HK2.out; omega
         case rel => exact ⟨(wrap64 (x10_1 + 1)), (x443000_2), (x443001_2), aR, H', ⟨by have := HK1.out; have := HK2.out; omega⟩, aBk BK439, aBk BK440, aBk BK441, aBk BK442, aBl HB⟩
     ·rw [if_neg c11] at H
      obtain ⟨c11b0, c11b1⟩ := aNe c11
      have H' := Aside0.mk H
      clear H
      have hnb48 := NB439_440.out
      have hnc48 := NB440_439.out
      have hnb49 := NB439_441.out
      have hnc49 := NB441_439.out
      have hnb50 := NB439_442.out
      have hnc50 := NB442_439.out
      obtain ⟨⟨hcz51_0, hcz51_1, hcz51_2, hcz51_3⟩, hfz51_0, hfz51_1, hfz51_2, hfz51_3⟩ := aC4 BK439
      have p443 : 0 ≤ (x10_1 : Int) := aD
      have q443 : x10_1 < (l0_3.length : Int) := aD
      obtain ⟨ad443, e443, hx443_0⟩ := Kd.at_int HR0_3.out x10_1 p443 q443
      cases e443
      replace hx443_0 := (HB.out.cell (World.block_lt_of_cell? w _ hx443_0)).trans hx443_0
      replace p443 := eq_true p443
      replace q443 := eq_true q443
      go_wp2
      go_roundg k1
      case measure => have := HK1.out; omega
      case rel => exact ⟨(wrap64 (x10_1 + 1)), (x443000_1), (x443001_1), aR, H', ⟨by have := HK1.out; omega⟩, aBk BK439, aBk BK440, aBk BK441, aBk BK442, aBl HB⟩
    ·rw [if_neg c10] at H
     exact absurd H (by simp)
   ·rw [if_neg c9] at H
    have c9b0 := decide_eq_false c9
    clear c9
    simp only [Option.some.injEq, Prod.mk.injEq] at H
    obtain ⟨rfl, rfl⟩ := H
    have hnb52 := NB439_440.out
    have hnc52 := NB440_439.out
    have hnb53 := NB439_441.out
    have hnc53 := NB441_439.out
    have hnb54 := NB439_442.out
    have hnc54 := NB442_439.out
    obtain ⟨⟨hcz55_0, hcz55_1, hcz55_2, hcz55_3⟩, hfz55_0, hfz55_1, hfz55_2, hfz55_3⟩ := aC4 BK439
    have hnb56 := NB442_440.out
    have hnc56 := NB440_442.out
    have hnb57 := NB442_441.out
    have hnc57 := NB441_442.out
    obtain ⟨⟨hcz58_0, hcz58_1⟩, hfz58_0, hfz58_1⟩ := aC2 BK442
    have hnb59 := NB441_440.out
    have hnc59 := NB440_441.out
    obtain ⟨⟨hcz60_0, hcz60_1⟩, hfz60_0, hfz60_1⟩ := aC2 BK441
    go_wp2
    refine bodyPost_ret (results_cell_row rfl _ _ gb441 42 #[.int .i64 x443000_1, .int .i64 x443001_1] (0, 0) _ rfl (by (with_reducible repeat (first | refine blk_drewN ?_ _ | refine blk_drew ?_ | refine blk_alloc ?_ _)); refine blk_put (cs := #[.int .i64 x443000_1, .int .i64 0]) ?_ 1 _ rfl; (with_reducible repeat (first | refine blk_drewN ?_ _ | refine blk_drew ?_ | refine blk_alloc ?_ _)); refine blk_put (cs := #[.int .i64 0, .int .i64 0]) ?_ 0 _ rfl; (with_reducible repeat (first | refine blk_drewN ?_ _ | refine blk_drew ?_ | refine blk_alloc ?_ _)); exact BK441.out) Try.underlying42 rfl (by kernel_rfl)) rfl ?_
    exact ⟨by first | rfl | (simp [*] <;> rfl), (aBl HB).out⟩
def thermionref01_sums.l0 : Nat → List Int → Int → Int → Int → List Int → Int → Int → Int → Bool → List Int → Option (Int × Int)
 | 0, _, _, _, _, _, _, _, _, _, _ => none
 | k + 1, x1, x2, x8, x9, x10, x11, x391000, x391001, x391002, x391003 => if x11 < (x10.length : Int) then (if 0 ≤ x11 then ((thermionref01_weight.f k x391000 x391001 x391002 x391003 x2 (rd x10 x11)).bind fun t395 => (if 0 ≤ (rd x10 x11) then (if (rd x10 x11) < (x1.length : Int) then (thermionref01_sums.l0 k x1 x2 (wrap64 (x8 + t395)) (wrap64 (x9 + (wrap64 (t395 * (rd x1 (rd x10 x11)))))) x10 (wrap64 (x11 + 1)) x391000 x391001 x391002 x391003) else (none)) else (none))) else (none)) else (some (x8, x9))
def thermionref01_sums.f (k : Nat) (a0_0 : Int) (a0_1 : Int) (a0_2 : Bool) (l0_3 : List Int) (l1 : List Int) (a2 : Int) : Option (Int × Int) := (thermionref01_around.f k a0_0 a0_1 a0_2 l0_3 a2).bind fun t391 => (thermionref01_sums.l0 k l1 a2 0 0 t391 0 a0_0 a0_1 a0_2 l0_3)
def thermionref01_sums.T6 : Bool × List (List Nat × List Nat) := (true, [([], []), ([], []), ([], []), ([], []), ([2, 3], [2, 3]), ([4], [4]), ([0, 1, 5], [0, 1, 5]), ([6, 6, 0, 1, 2, 3, 4, 5, 6], [6])])
def thermionref01_sums.B6 : List Nat := [0, 0, 0, 0, 12, 28, 63, 127]
theorem thermionref01_sums.tab6 : rtab .any (opsOf Try.f90 6) = thermionref01_sums.T6 := by kernel_rfl
theorem thermionref01_sums.bits6 : waitsOk thermionref01_sums.T6.2 thermionref01_sums.B6 = true := by kernel_rfl
def thermionref01_sums.T7 : Bool × List (List Nat × List Nat) := (true, [([], []), ([], []), ([0, 1], [0, 1]), ([], []), ([], []), ([], []), ([], []), ([], []), ([6, 7], [6, 7]), ([8], [8]), ([5, 9], [5, 9]), ([10], [10]), ([4, 11], [4, 11]), ([3, 12], [3, 12]), ([2, 0, 1, 2], [0, 2]), ([13, 14, 0, 1, 2, 3, 4, 5, 6, 7, 8, 9, 10, 11, 12, 13, 14], [3, 13])])
def thermionref01_sums.B7 : List Nat := [0, 0, 3, 0, 0, 0, 0, 0, 192, 448, 992, 2016, 4080, 8184, 7, 32767]
theorem thermionref01_sums.tab7 : rtab .any (opsOf Try.f90 7) = thermionref01_sums.T7 := by kernel_rfl
theorem thermionref01_sums.bits7 : waitsOk thermionref01_sums.T7.2 thermionref01_sums.B7 = true := by kernel_rfl
theorem thermionref01_sums.calls (k : Nat) (a0_0 : Int) (a0_1 : Int) (a0_2 : Bool) (A0_3 : Option Addr) (c0_3 : Nat) (l0_3 : List Int) (A1 : Option Addr) (c1 : Nat) (l1 : List Int) (a2 : Int) (r1 : Int) (r2 : Int) (w : World) (hr0_3 : Kd.C (Kd.int .i64) w A0_3 l0_3.length l0_3) (hc0_3 : l0_3.length ≤ c0_3) (hr1 : Kd.C (Kd.int .i64) w A1 l1.length l1) (hc1 : l1.length ≤ c1) (h : thermionref01_sums.f k a0_0 a0_1 a0_2 l0_3 l1 a2 = some (r1, r2)) :
  Calls Try.prog 90 #[.agg #[.int .i64 a0_0, .int .i64 a0_1, .bool a0_2, .slice A0_3 l0_3.length c0_3], .slice A1 l1.length c1, .int .i64 a2] w fun e w' => e = .returned (.tuple #[.int .i64 r1, .int .i64 r2]) ∧ Below w.heap.size w w' := by
 have hu24 := Try.underlying24
 have HR0_3 := Aside0.mk hr0_3
 have HC0_3 := Aside0.mk hc0_3
 clear hr0_3 hc0_3
 have HR1 := Aside0.mk hr1
 have HC1 := Aside0.mk hc1
 clear hr1 hc1
 have HB := Aside0.mk (Below.refl w.heap.size w)
 have H : ((thermionref01_around.f k a0_0 a0_1 a0_2 l0_3 a2).bind fun t391 => (thermionref01_sums.l0 k l1 a2 0 0 t391 0 a0_0 a0_1 a0_2 l0_3)) = some (r1, r2) := h
 clear h
 obtain ⟨t391, A40, H⟩ := Option.bind_eq_some_iff.mp H
 have A4 := Aside0.mk A40
 clear A40
 have H' := Aside0.mk H
 clear H
 go_enter Try.func90, Try.ntmps90
 go_wp2_with (first | ((with_reducible refine gate_dst (N := 3) rfl ?_); refine aBox 3 #[.int .i64 a0_0, .int .i64 a0_1, .bool a0_2, .slice A0_3 l0_3.length c0_3] 24 ?_; intro gb390 hg w5 hbox hb; have BK390 := Aside0.mk (hbox); have GW390 := aGe hg HB; have GE390 := aGe hg HB; replace HB := aBs HB hb; clear hb hbox hg; obtain ⟨⟨hcz6_0, hcz6_1, hcz6_2, hcz6_3⟩, hfz6_0, hfz6_1, hfz6_2, hfz6_3⟩ := aC4 BK390) | ((with_reducible refine gate_callee (f := 100) rfl ?_); refine goesL_ (some 15) rfl rfl Try.func100 (by kernel_rfl) rfl #[.agg #[.int .i64 a0_0, .int .i64 a0_1, .bool a0_2, .slice A0_3 l0_3.length c0_3], .int .i64 a2] rfl aA ?_; (with_reducible refine (thermionref01_around.calls k a0_0 a0_1 a0_2 _ _ l0_3 a2 t391 _ ?side1 ?side2 A4.out).mono ?_); (case side1 => exact aC HR0_3 HB); (case side2 => exact HC0_3.out); rintro e w7 ⟨v392, rfl, ho0, hb⟩; refine ⟨_, rfl, ?_⟩; have HO393 := Aside0.mk (Kd.R_lower ho0 (below_size (aBl HB).out)); replace BK390 := aBb BK390 hb; replace HB := aBs HB hb; (try clear hb hk hi); (try clear ho0)))
 go_loopg [8, 9, 11] k (fun kq v8 v9 v11 w' => ∃ (x8_1 : Int) (x9_1 : Int) (x11_1 : Int), v8 = .int .i64 x8_1 ∧ v9 = .int .i64 x9_1 ∧ v11 = .int .i64 x11_1 ∧ Aside0 (thermionref01_sums.l0 kq l1 a2 x8_1 x9_1 t391 x11_1 a0_0 a0_1 a0_2 l0_3 = some (r1, r2)) ∧ Aside0 (kq ≤ k) ∧ Aside0 (Kd.R (Kd.int .i64) 3 w' w.heap.size (fun _ => True) v392 t391) ∧ Aside0 (w'.heap[gb390]? = some (.cells #[.int .i64 a0_0, .int .i64 a0_1, .bool a0_2, (.slice A0_3 l0_3.length c0_3)] 24 (0, 0))) ∧ Aside0 (Below w.heap.size w w'))
 case atStart => exact ⟨(0), (0), (0), aR, aR, aR, H', ⟨Nat.le_refl _⟩, aRk HO393, aBk BK390, aBl HB⟩
 case round =>
  clear H'
  try clear c1; try clear hcz6_0; try clear hcz6_1; try clear hcz6_2; try clear hcz6_3; try clear hfz6_0; try clear hfz6_1; try clear hfz6_2; try clear hfz6_3
  obtain ⟨x8_1, x9_1, x11_1, rfl, rfl, rfl, HA, HK1, HO_10, BK390, HB⟩ := hrel
  cases gk with
  | zero => exact absurd HA.out (by simp [thermionref01_sums.l0])
  | succ k1 =>
   have H := HA.out
   clear HA
   simp only [thermionref01_sums.l0] at H
   by_cases c8 : x11_1 < (t391.length : Int)
   ·rw [if_pos c8] at H
    have c8b0 := decide_eq_true c8
    clear c8
    by_cases c9 : 0 ≤ x11_1
    ·rw [if_pos c9] at H
     have c9b0 := decide_eq_true c9
     clear c9
     obtain ⟨t395, A100, H⟩ := Option.bind_eq_some_iff.mp H
     have A10 := Aside0.mk A100
     clear A100
     by_cases c11 : 0 ≤ (rd t391 x11_1)
     ·rw [if_pos c11] at H
      have c11b0 := decide_eq_true c11
      clear c11
      by_cases c12 : (rd t391 x11_1) < (l1.length : Int)
      ·rw [if_pos c12] at H
       have c12b0 := decide_eq_true c12
       clear c12
       have H' := Aside0.mk H
       clear H
       obtain ⟨Ao13, co13, eo13⟩ := Kd.R_slice HO_10.out
       subst eo13
       try go_wp2
       have n0_ := Aside0.mk (Kd.R_drew HO_10.out)
       have n1_ := Aside0.mk (blk_drew BK390.out)
       have n2_ := Aside0.mk (below_drew1 HB.out)
       clear HO_10 BK390 HB
       have HO_10 := n0_
       have BK390 := n1_
       have HB := n2_
       clear n0_ n1_ n2_
       have p394 : 0 ≤ (x11_1 : Int) := aD
       have q394 : x11_1 < (t391.length : Int) := aD
       obtain ⟨ad394, e394, hx394_0⟩ := Kd.at_int (Kd.R_reads' HO_10.out).2.2 x11_1 p394 q394
       cases e394
       replace p394 := eq_true p394
       replace q394 := eq_true q394
       refine start_ (n := 8) (S := fun w' => w'.cell? ⟨gb390, 0, none⟩ = some (.int .i64 a0_0) ∧ w'.cell? ⟨gb390, 1, none⟩ = some (.int .i64 a0_1) ∧ w'.cell? ⟨gb390, 2, none⟩ = some (.bool a0_2) ∧ w'.cell? ⟨gb390, 3, none⟩ = some (.slice A0_3 l0_3.length c0_3) ∧ w'.cell? (ad394.add (x11_1).toNat) = some (.int .i64 (rd t391 x11_1))) (ds := []) #[false, false, false, false, false, false, false, false] (by kernel_rfl) rfl rfl ⟨(blk_cell BK390.out 0).trans rfl, (blk_cell BK390.out 1).trans rfl, (blk_cell BK390.out 2).trans rfl, (blk_cell BK390.out 3).trans rfl, hx394_0⟩ (fun hHeld => ?_); refine with_tabW thermionref01_sums.tab6 thermionref01_sums.bits6 (fun HT_ HW_ => ?_)
       generalize wr.drew = w14 at HO_10 BK390 HB hx394_0 hHeld ⊢
       refine pu_ 1 23 (bS 8 2) HT_ ?_
       refine pu_ 2 24 (bS 8 6) HT_ ?_
       refine pu_ 3 25 (bS 8 14) HT_ ?_
       refine pu_ 4 26 (bS 8 30) HT_ ?_
       refine ta_ 0 22 (bS 8 31) HT_ HW_ hHeld ?_
       refine ta_ 5 27 (bS 8 63) HT_ HW_ hHeld ?_
       refine on_ 6 28 (bS 8 127) (fun K hK => ?_) (one_of HT_.out (by kernel_rfl))
       refine goes_ Try.func81 (by kernel_rfl) rfl #[.agg #[.int .i64 a0_0, .int .i64 a0_1, .bool a0_2, .slice A0_3 l0_3.length c0_3], .int .i64 a2, .int .i64 (rd t391 x11_1)] (by rfl) rfl rfl aA ?_
       with_reducible refine (thermionref01_weight.calls k1 a0_0 a0_1 a0_2 _ _ l0_3 a2 (rd t391 x11_1) t395 _ ?side1 ?side2 A10.out).mono ?_
       (case side1 => exact aC HR0_3 HB)
       (case side2 => exact HC0_3.out)
       rintro e w15 ⟨rfl, hb⟩
       have HS4_ := (hb.cell (World.block_lt_of_cell? _ _ (hHeld.2.2.2.2))).trans (hHeld.2.2.2.2)
       refine ⟨_, rfl, ?_⟩
       have n0_ := aRb HO_10 hb
       have n1_ := aBb BK390 hb
       have n2_ := aBs HB hb
       clear HO_10 BK390 HB
       have HO_10 := n0_
       have BK390 := n1_
       have HB := n2_
       clear n0_ n1_ n2_
       (try clear hb)
       (try clear hb2)
       (try clear hk)
       (try clear hi)
       refine hK.out _ _ ⟨(blk_cell BK390.out 0).trans rfl, (blk_cell BK390.out 1).trans rfl, (blk_cell BK390.out 2).trans rfl, (blk_cell BK390.out 3).trans rfl, HS4_⟩ (fun hHeld => ?_)
       clear hK K
       refine nm_ ?_
       refine pu_ 7 12 (bS 8 255) HT_ ?_
       refine done_ (done_of HT_.out (by kernel_rfl)) ?_
       try go_wp2
       have n0_ := Aside0.mk (Kd.R_drew HO_10.out)
       have n1_ := Aside0.mk (blk_drew BK390.out)
       have n2_ := Aside0.mk (below_drew1 HB.out)
       clear HO_10 BK390 HB
       have HO_10 := n0_
       have BK390 := n1_
       have HB := n2_
       clear n0_ n1_ n2_
       have p396 : 0 ≤ (x11_1 : Int) := aD
       have q396 : x11_1 < (t391.length : Int) := aD
       obtain ⟨ad396, e396, hx396_0⟩ := Kd.at_int (Kd.R_reads' HO_10.out).2.2 x11_1 p396 q396
       obtain rfl : ad394 = ad396 := (by injection e396)
       replace p396 := eq_true p396
       replace q396 := eq_true q396
       have p397 : 0 ≤ ((rd t391 x11_1) : Int) := aD
       have q397 : (rd t391 x11_1) < (l1.length : Int) := aD
       obtain ⟨ad397, e397, hx397_0⟩ := Kd.at_int HR1.out (rd t391 x11_1) p397 q397
       have hw397_0 := hx397_0
       cases e397
       replace hx397_0 := (HB.out.cell (World.block_lt_of_cell? w _ hx397_0)).trans hx397_0
       replace p397 := eq_true p397
       replace q397 := eq_true q397
       refine start_ (n := 16) (S := fun w' => w'.cell? (ad394.add (x11_1).toNat) = some (.int .i64 (rd t391 x11_1)) ∧ w'.cell? (ad397.add ((rd t391 x11_1)).toNat) = some (.int .i64 (rd l1 (rd t391 x11_1)))) (ds := []) #[false, false, false, false, false, false, false, false, false, false, false, false, false, false, false, false] (by kernel_rfl) rfl rfl ⟨hx396_0, ((HB.out.cell (World.block_lt_of_cell? w _ hw397_0)).trans hw397_0)⟩ (fun hHeld => ?_); refine with_tabW thermionref01_sums.tab7 thermionref01_sums.bits7 (fun HT_ HW_ => ?_)
       generalize w15.drew = w16 at HO_10 BK390 HB hx396_0 hx397_0 hHeld ⊢
       refine pu_ 0 29 (bS 16 1) HT_ ?_
       refine pu_ 1 30 (bS 16 3) HT_ ?_
       refine pu_ 2 31 (bS 16 7) HT_ ?_
       refine pu_ 3 32 (bS 16 15) HT_ ?_
       refine pu_ 4 33 (bS 16 31) HT_ ?_
       refine pu_ 5 34 (bS 16 63) HT_ ?_
       refine pu_ 6 35 (bS 16 127) HT_ ?_
       refine pu_ 7 36 (bS 16 255) HT_ ?_
       refine pu_ 8 37 (bS 16 511) HT_ ?_
       refine pu_ 14 8 (bS 16 16895) HT_ ?_
       refine ta_ 9 38 (bS 16 17407) HT_ HW_ hHeld ?_
       refine pu_ 10 39 (bS 16 18431) HT_ ?_
       refine ta_ 11 40 (bS 16 20479) HT_ HW_ hHeld ?_
       refine pu_ 12 41 (bS 16 24575) HT_ ?_
       refine pu_ 13 42 (bS 16 32767) HT_ ?_
       refine pu_ 15 9 (bS 16 65535) HT_ ?_
       refine done_ (done_of HT_.out (by kernel_rfl)) ?_
       try go_wp2
       go_roundg k1
       case measure => have := HK1.out; omega
       case rel => exact ⟨(wrap64 (x8_1 + t395)), (wrap64 (x9_1 + (wrap64 (t395 * (rd l1 (rd t391 x11_1)))))), (wrap64 (x11_1 + 1)), aR, aR, aR, H', ⟨by have := HK1.out; omega⟩, aRk HO_10, aBk BK390, aBl HB⟩
      ·rw [if_neg c12] at H
       exact absurd H (by simp)
     ·rw [if_neg c11] at H
      exact absurd H (by simp)
    ·rw [if_neg c9] at H
     exact absurd H (by simp)
   ·rw [if_neg c8] at H
    have c8b0 := decide_eq_false c8
    clear c8
    simp only [Option.some.injEq, Prod.mk.injEq] at H
    obtain ⟨rfl, rfl⟩ := H
    obtain ⟨Ao17, co17, eo17⟩ := Kd.R_slice HO_10.out
    subst eo17
    go_wp2
    go_ret2
    exact ⟨by first | rfl | (simp [*] <;> rfl), (aBl HB).out⟩
theorem obnd {α β : Type} {o : Option α} {a : α} (h : o = some a) (f : α → Option β) : o.bind f = f a := by rw [h]; rfl
def wtR (W H : Nat) (R : Bool) (i : Nat) (c : Int) : Int := if 0 ≤ c ∧ c < ((W * H : Nat) : Int) then netM W H R i c.toNat else 0
theorem wtR_nonneg (W H : Nat) (R : Bool) (i : Nat) (c : Int) : 0 ≤ wtR W H R i c := by
 unfold wtR
 split
 ·exact netM_nonneg W H R i _
 ·omega
theorem wt_of (W H : Nat) (R : Bool) (C : List Int) (k : Nat) (m M : Int) (hW : 1 ≤ W ∧ W ≤ 16) (h0 : 0 ≤ m) (h1 : m ≤ 100000) (hM0 : 0 ≤ M) (b : Bool) :
  thermionref01_weight.j1 (k + 1) m M (Int.tmod m W) b (W : Int) (H : Int) R C = some (if b = true then wgt R (m.toNat % W) false else if M = m + W then wgt R (m.toNat % W) true else 0) := by
 have e : Int.tmod m W = ((m.toNat % W : Nat) : Int) := by
  rw [Int.tmod_eq_emod_of_nonneg h0, Int.natCast_emod, Int.toNat_of_nonneg h0]
 have hl : m.toNat % W < W := Nat.mod_lt _ (by omega)
 have w1 : wrap64 (m + (W : Int)) = m + W := IntWalk.wrap64_in _ (by omega)
 have w2 : wrap64 (((m.toNat % W : Nat) : Int) + 1) = ((m.toNat % W : Nat) : Int) + 1 := IntWalk.wrap64_in _ (by omega)
 have w3 : wrap64 (2 * (((m.toNat % W : Nat) : Int) + 1)) = 2 * (((m.toNat % W : Nat) : Int) + 1) := IntWalk.wrap64_in _ (by omega)
 have w4 : wrap64 (2 * ((m.toNat % W : Nat) : Int)) = 2 * ((m.toNat % W : Nat) : Int) := IntWalk.wrap64_in _ (by omega)
 have w5 : wrap64 (2 * ((m.toNat % W : Nat) : Int) + 1) = 2 * ((m.toNat % W : Nat) : Int) + 1 := IntWalk.wrap64_in _ (by omega)
 rw [thermionref01_weight.j1, e, w1, w2, w3, w4, w5]
 unfold wgt
 cases b <;> cases R <;> simp only [if_true, if_false, Bool.false_eq_true] <;> (try split) <;> rfl
theorem weight_eq {W H : Nat} (hW : 1 ≤ W ∧ W ≤ 16) (hH : 1 ≤ H ∧ H ≤ 16) (R : Bool) (C : List Int) {i : Nat} (hi : i < W * H) (c : Int) (k : Nat) :
  thermionref01_weight.f (k + 2) (W : Int) (H : Int) R C (i : Int) c = some (wtR W H R i c) := by
 have hWH : W * H ≤ 256 := Nat.mul_le_mul hW.2 hH.2
 have hWH1 : 1 ≤ W * H := Nat.mul_pos hW.1 hH.1
 have w0 : wrap64 ((W : Int) * (H : Int)) = ((W * H : Nat) : Int) := by
  rw [← Int.natCast_mul]; exact IntWalk.wrap64_in _ (by omega)
 have w1 : wrap64 (((W * H : Nat) : Int) - 1) = ((W * H : Nat) : Int) - 1 := IntWalk.wrap64_in _ (by omega)
 generalize hn : W * H = n at w0 w1 hi hWH hWH1
 unfold thermionref01_weight.f wtR
 rw [w0, w1]
 have b1 : thermionref01_beyond.f (i : Int) 0 ((n : Int) - 1) = some false := by
  unfold thermionref01_beyond.f
  rw [if_neg (by omega), decide_eq_false (by omega)]
 rw [obnd b1, if_neg (by simp), hn]
 by_cases hc : 0 ≤ c ∧ c < (n : Int)
 ·have b2 : thermionref01_beyond.f c 0 ((n : Int) - 1) = some false := by
   unfold thermionref01_beyond.f
   rw [if_neg (by omega), decide_eq_false (by omega)]
  rw [obnd b2, if_pos hc]
  obtain ⟨j, rfl⟩ : ∃ j : Nat, c = (j : Int) := ⟨c.toNat, by omega⟩
  rw [Int.toNat_natCast, thermionref01_weight.j0, if_neg (by simp), if_neg (by omega)]
  have hj : j < n := by omega
  have key : ∀ (m M : Nat), m < n → M < n → m ≤ M → (if (M : Int) = wrap64 ((m : Int) + 1) then thermionref01_weight.j1 (k + 1) (m : Int) (M : Int) (Int.tmod (m : Int) W) (decide (Int.tmod (M : Int) W > 0)) (W : Int) (H : Int) R C else thermionref01_weight.j1 (k + 1) (m : Int) (M : Int) (Int.tmod (m : Int) W) false (W : Int) (H : Int) R C) = some (netM W H R m M) := by
   clear w0 w1 b1 b2 hc hi hj
   intro m M hm hM hle
   have g0 : (0 : Int) ≤ (m : Int) := by omega
   have g1 : (m : Int) ≤ 100000 := by omega
   have g2 : (0 : Int) ≤ (M : Int) := by omega
   have v1 : wrap64 ((m : Int) + 1) = (m : Int) + 1 := IntWalk.wrap64_in _ (by omega)
   have e : Int.tmod (M : Int) W = ((M % W : Nat) : Int) := by
    rw [Int.tmod_eq_emod_of_nonneg (by omega), Int.natCast_emod]
   rw [v1, e]
   obtain ⟨bb, hbb⟩ : ∃ bb, decide (((M % W : Nat) : Int) > 0) = bb := ⟨_, rfl⟩
   rw [hbb, wt_of W H R C k m M hW g0 g1 g2 bb, wt_of W H R C k m M hW g0 g1 g2 false, Int.toNat_natCast]
   unfold netM
   rw [hn, if_pos (show m < n ∧ M < n from ⟨hm, hM⟩)]
   by_cases a : M = m + 1
   ·rw [if_pos (show (M : Int) = (m : Int) + 1 by omega)]
    by_cases d : 0 < M % W
    ·rw [if_pos (by rw [← hbb]; exact decide_eq_true (by omega)), if_pos (show M = m + 1 ∧ 0 < M % W from ⟨a, d⟩)]
    ·rw [if_neg (by rw [← hbb, decide_eq_false (by omega)]; simp), if_neg (show ¬ (M = m + 1 ∧ 0 < M % W) from fun q => d q.2), if_neg (show ¬ (m = M + 1 ∧ 0 < m % W) by omega)]
     by_cases f : M = m + W
     ·rw [if_pos (show (M : Int) = (m : Int) + (W : Int) by omega), if_pos f]
     ·rw [if_neg (show ¬ (M : Int) = (m : Int) + (W : Int) by omega), if_neg f, if_neg (show ¬ m = M + W by omega)]
   ·rw [if_neg (show ¬ (M : Int) = (m : Int) + 1 by omega), if_neg (by simp), if_neg (show ¬ (M = m + 1 ∧ 0 < M % W) from fun q => a q.1), if_neg (show ¬ (m = M + 1 ∧ 0 < m % W) by omega)]
    by_cases f : M = m + W
    ·rw [if_pos (show (M : Int) = (m : Int) + (W : Int) by omega), if_pos f]
    ·rw [if_neg (show ¬ (M : Int) = (m : Int) + (W : Int) by omega), if_neg f, if_neg (show ¬ m = M + W by omega)]
  by_cases q : i ≤ j
  ·have e1 : mn (i : Int) (j : Int) = (i : Int) := by unfold mn; rw [if_neg (by omega)]
   have e2 : mx (i : Int) (j : Int) = (j : Int) := by unfold mx; split <;> omega
   rw [e1, e2]
   exact key i j hi hj q
  ·have e1 : mn (i : Int) (j : Int) = (j : Int) := by unfold mn; rw [if_pos (by omega)]
   have e2 : mx (i : Int) (j : Int) = (i : Int) := by unfold mx; rw [if_neg (by omega)]
   rw [e1, e2, netM_symm]
   exact key j i hj hi (by omega)
 ·have b2 : thermionref01_beyond.f c 0 ((n : Int) - 1) = some true := by
   unfold thermionref01_beyond.f
   by_cases q : c < 0
   ·rw [if_pos q]
   ·rw [if_neg q, decide_eq_true (by omega)]
  rw [obnd b2, if_neg hc, thermionref01_weight.j0, if_pos rfl]
section
variable {W H : Nat} {R : Bool} {C : List Int} {i : Nat}
def cand (W i : Nat) : List Int := if W = 1 then [(i : Int) - 1, (i : Int) + 1] else [(i : Int) - W, (i : Int) - 1, (i : Int) + 1, (i : Int) + W]
def aroundL (W H : Nat) (R : Bool) (i : Nat) : List Int := (cand W i).filter (fun c => decide (0 < wtR W H R i c))
theorem rd_at (l : List Int) (j : Nat) (h : j < l.length) : rd l (j : Int) = l[j] := by
 unfold rd
 rw [Int.toNat_natCast, List.getD_eq_getElem?_getD, List.getElem?_eq_getElem h]
 rfl
theorem around_go (hW : 1 ≤ W ∧ W ≤ 16) (hH : 1 ≤ H ∧ H ≤ 16) (hi : i < W * H) (l : List Int) (hl : l.length ≤ 100) : ∀ (d j : Nat) (acc : List Int) (k : Nat), j + d = l.length → acc.length ≤ j →
  thermionref01_around.l0 (k + d + 3) (i : Int) l acc (j : Int) (W : Int) (H : Int) R C = some (acc ++ (l.drop j).filter (fun c => decide (0 < wtR W H R i c)))
 | 0, j, acc, k, h, ha => by
  rw [show k + 0 + 3 = (k + 2) + 1 by omega, thermionref01_around.l0, if_neg (by omega), List.drop_eq_nil_of_le (by omega)]
  simp
 | d + 1, j, acc, k, h, ha => by
  have hj : j < l.length := by omega
  have hw : wrap64 ((j : Int) + 1) = ((j + 1 : Nat) : Int) := by rw [IntWalk.wrap64_in _ (by omega)]; omega
  rw [show k + (d + 1) + 3 = (k + d + 3) + 1 by omega, thermionref01_around.l0, if_pos (by omega), if_pos (by omega), rd_at l j hj, obnd (weight_eq hW hH R C hi l[j] (k + d + 1)), hw, List.drop_eq_getElem_cons hj, List.filter_cons]
  by_cases q : 0 < wtR W H R i l[j]
  ·rw [if_pos q, if_pos (by omega), around_go hW hH hi l hl d (j + 1) _ k (by omega) (by simp; omega), if_pos (by simpa using q)]
   simp
  ·rw [if_neg q, around_go hW hH hi l hl d (j + 1) _ k (by omega) (by omega), if_neg (by simpa using q)]
theorem around_eq (hW : 1 ≤ W ∧ W ≤ 16) (hH : 1 ≤ H ∧ H ≤ 16) (hi : i < W * H) (k : Nat) : thermionref01_around.f (k + 8) (W : Int) (H : Int) R C (i : Int) = some (aroundL W H R i) := by
 have hWH : W * H ≤ 256 := Nat.mul_le_mul hW.2 hH.2
 have v1 : wrap64 ((i : Int) - 1) = (i : Int) - 1 := IntWalk.wrap64_in _ (by omega)
 have v2 : wrap64 ((i : Int) + 1) = (i : Int) + 1 := IntWalk.wrap64_in _ (by omega)
 have v3 : wrap64 ((i : Int) - (W : Int)) = (i : Int) - W := IntWalk.wrap64_in _ (by omega)
 have v4 : wrap64 ((i : Int) + (W : Int)) = (i : Int) + W := IntWalk.wrap64_in _ (by omega)
 unfold thermionref01_around.f aroundL cand
 rw [v1, v2, v3, v4]
 by_cases q : W = 1
 ·rw [if_pos (show (W : Int) = 1 by omega), if_pos q, show k + 8 = (k + 7) + 1 by omega, thermionref01_around.j0]
  have := around_go (C := C) (R := R) hW hH hi [(i : Int) - 1, (i : Int) + 1] (by simp) 2 0 [] (k + 2) (by simp) (by simp)
  rw [show k + 2 + 2 + 3 = k + 7 by omega] at this
  exact this
 ·rw [if_neg (show ¬ (W : Int) = 1 by omega), if_neg q, show k + 8 = (k + 7) + 1 by omega, thermionref01_around.j0]
  have := around_go (C := C) (R := R) hW hH hi [(i : Int) - W, (i : Int) - 1, (i : Int) + 1, (i : Int) + W] (by simp) 4 0 [] k (by simp) (by simp)
  rw [show k + 4 + 3 = k + 7 by omega] at this
  exact this
theorem wt_up (hi : i < W * H) : wtR W H R i ((i : Int) - W) = if 0 < i / W then wgt R (i % W) true else 0 := by
 obtain ⟨hW, he, hx, hy⟩ := cell_at hi
 have hu := up_ge (W := W) (i := i) hW
 unfold wtR
 generalize hn : W * H = n at hi ⊢
 by_cases q : W ≤ i
 ·rw [if_pos (hu.2 q), if_pos (show 0 ≤ (i : Int) - W ∧ (i : Int) - W < (n : Int) by omega), show ((i : Int) - W).toNat = i - W by omega]
  unfold netM
  have hm : (i - W) % W = i % W := (Nat.mod_eq_sub_mod q).symm
  have h2 : ¬ (i = i - W + 1 ∧ 0 < i % W) := fun ⟨a, b⟩ => by
   have h1 : W = 1 := by omega
   subst h1
   rw [Nat.mod_one] at b
   omega
  rw [hn, if_pos (show i < n ∧ i - W < n by omega), if_neg (show ¬ (i - W = i + 1 ∧ 0 < (i - W) % W) by omega), if_neg h2, if_neg (show ¬ i - W = i + W by omega), if_pos (show i = i - W + W by omega), hm]
 ·rw [if_neg (fun h => q (hu.1 h)), if_neg (by omega)]
theorem wt_down (hi : i < W * H) : wtR W H R i ((i : Int) + W) = if i / W + 1 < H then wgt R (i % W) true else 0 := by
 obtain ⟨hW, he, hx, hy⟩ := cell_at hi
 have hd := down_lt hi
 unfold wtR
 generalize hn : W * H = n at hi hd ⊢
 by_cases q : i + W < n
 ·rw [if_pos (hd.2 q), if_pos (show 0 ≤ (i : Int) + W ∧ (i : Int) + W < (n : Int) by omega), show ((i : Int) + W).toNat = i + W by omega]
  unfold netM
  have h1 : ¬ (i + W = i + 1 ∧ 0 < (i + W) % W) := fun ⟨a, b⟩ => by
   have h1 : W = 1 := by omega
   subst h1
   rw [Nat.mod_one] at b
   omega
  rw [hn, if_pos (show i < n ∧ i + W < n by omega), if_neg h1, if_neg (show ¬ (i = i + W + 1 ∧ 0 < i % W) by omega), if_pos rfl]
 ·rw [if_neg (fun h => q (hd.1 h)), if_neg (by omega)]
theorem wt_left (hi : i < W * H) (h1 : 1 < W) : wtR W H R i ((i : Int) - 1) = if 0 < i % W then wgt R (i % W - 1) false else 0 := by
 obtain ⟨hW, he, hx, hy⟩ := cell_at hi
 unfold wtR
 generalize hn : W * H = n at hi ⊢
 by_cases q : 0 < i
 ·rw [if_pos (show 0 ≤ (i : Int) - 1 ∧ (i : Int) - 1 < (n : Int) by omega), show ((i : Int) - 1).toNat = i - 1 by omega]
  unfold netM
  rw [hn, if_pos (show i < n ∧ i - 1 < n by omega), if_neg (show ¬ (i - 1 = i + 1 ∧ 0 < (i - 1) % W) by omega)]
  by_cases r : 0 < i % W
  ·rw [if_pos (show i = i - 1 + 1 ∧ 0 < i % W from ⟨by omega, r⟩), if_pos r, (left_col r).1]
  ·rw [if_neg (show ¬ (i = i - 1 + 1 ∧ 0 < i % W) from fun h => r h.2), if_neg r, if_neg (show ¬ i - 1 = i + W by omega), if_neg (show ¬ i = i - 1 + W by omega)]
 ·obtain rfl : i = 0 := by omega
  rw [if_neg (by omega), Nat.zero_mod, if_neg (by omega)]
theorem wt_right (hi : i < W * H) (h1 : 1 < W) : wtR W H R i ((i : Int) + 1) = if i % W + 1 < W then wgt R (i % W) false else 0 := by
 obtain ⟨hW, he, hx, hy⟩ := cell_at hi
 have hr := right_mod (W := W) (i := i) hW
 have hl := fun h => right_lt (W := W) (H := H) (i := i) hi h
 unfold wtR
 generalize hn : W * H = n at hi hl ⊢
 by_cases q : i + 1 < n
 ·rw [if_pos (show 0 ≤ (i : Int) + 1 ∧ (i : Int) + 1 < (n : Int) by omega), show ((i : Int) + 1).toNat = i + 1 by omega]
  unfold netM
  rw [hn, if_pos (show i < n ∧ i + 1 < n by omega)]
  by_cases r : i % W + 1 < W
  ·rw [if_pos (show i + 1 = i + 1 ∧ 0 < (i + 1) % W from ⟨rfl, hr.2 r⟩), if_pos r]
  ·rw [if_neg (show ¬ (i + 1 = i + 1 ∧ 0 < (i + 1) % W) from fun h => r (hr.1 h.2)), if_neg (show ¬ (i = i + 1 + 1 ∧ 0 < i % W) by omega), if_neg (show ¬ i + 1 = i + W by omega), if_neg (show ¬ i = i + 1 + W by omega), if_neg r]
 ·rw [if_neg (show ¬ (0 ≤ (i : Int) + 1 ∧ (i : Int) + 1 < (n : Int)) by omega), if_neg (fun h => q (hl h))]
theorem under_if (g : Nat → Int) (p : Prop) [Decidable p] (j : Nat) (w : Int) : under g (if p then [(j, w)] else []) = (if p then w else 0) * g j := by
 split
 ·exact under_one g _
 ·rw [Int.zero_mul]; rfl
theorem cand_under (hi : i < W * H) (g : Nat → Int) : ((cand W i).map (fun c => wtR W H R i c * g c.toNat)).sum = under g (nbs W H R i) := by
 obtain ⟨hW, he, hx, hy⟩ := cell_at hi
 unfold cand nbs
 rw [under_append, under_append, under_append, under_if, under_if, under_if, under_if]
 have e1 : ((i : Int) - W).toNat = i - W := by omega
 have e2 : ((i : Int) - 1).toNat = i - 1 := by omega
 have e3 : ((i : Int) + 1).toNat = i + 1 := by omega
 have e4 : ((i : Int) + W).toNat = i + W := by omega
 by_cases q : W = 1
 ·rw [if_pos q]
  have u := wt_up (R := R) hi
  have d := wt_down (R := R) hi
  subst q
  have n1 : ¬ 0 < i % 1 := by omega
  have n2 : ¬ i % 1 + 1 < 1 := by omega
  rw [if_neg n1, if_neg n2]
  simp only [List.map_cons, List.map_nil, List.sum_cons, List.sum_nil]
  rw [show (i : Int) - 1 = (i : Int) - ((1 : Nat) : Int) from rfl, show (i : Int) + 1 = (i : Int) + ((1 : Nat) : Int) from rfl, u, d, e1, e4]
  omega
 ·have h1 : 1 < W := by omega
  rw [if_neg q]
  simp only [List.map_cons, List.map_nil, List.sum_cons, List.sum_nil]
  rw [wt_up hi, wt_down hi, wt_left hi h1, wt_right hi h1, e1, e2, e3, e4]
  omega
theorem sum_filter {l : List Int} {p : Int → Bool} {f : Int → Int} (h : ∀ c, c ∈ l → p c = false → f c = 0) : ((l.filter p).map f).sum = (l.map f).sum := by
 induction l with
 | nil => rfl
 | cons c l ih =>
  have ih := ih (fun x hx => h x (List.mem_cons_of_mem _ hx))
  rw [List.filter_cons]
  cases q : p c with
  | true => simp only [if_true, List.map_cons, List.sum_cons]; rw [ih]
  | false => simp only [Bool.false_eq_true, if_false, List.map_cons, List.sum_cons]; rw [ih, h c List.mem_cons_self q, Int.zero_add]
theorem around_under (hi : i < W * H) (g : Nat → Int) : ((aroundL W H R i).map (fun c => wtR W H R i c * g c.toNat)).sum = under g (nbs W H R i) := by
 rw [← cand_under hi g]
 refine sum_filter (fun c hc q => ?_)
 have h1 := wtR_nonneg W H R i c
 have h2 : ¬ 0 < wtR W H R i c := by simpa using q
 rw [show wtR W H R i c = 0 by omega, Int.zero_mul]
theorem around_all (hi : i < W * H) : ((aroundL W H R i).map (wtR W H R i)).sum = allOf (nbs W H R i) := by
 rw [allOf_under, ← around_under hi]
 congr 1
 exact List.map_congr_left (fun c _ => (Int.mul_one _).symm)
theorem netM_le (hW : W ≤ 16) (j : Nat) : netM W H R i j ≤ 32 := by
 unfold netM
 split
 ·rename_i h
  obtain ⟨hW0, _, hx, _⟩ := cell_at h.1
  obtain ⟨_, _, hy, _⟩ := cell_at h.2
  have a1 := wgt_le R (i % W) false (by omega)
  have a2 := wgt_le R (j % W) false (by omega)
  have a3 := wgt_le R (i % W) true (by omega)
  have a4 := wgt_le R (j % W) true (by omega)
  repeat' split
  all_goals omega
 ·omega
theorem around_mem {c : Int} (h : c ∈ aroundL W H R i) : 0 < wtR W H R i c ∧ 0 ≤ c ∧ c < ((W * H : Nat) : Int) := by
 have h1 := (List.mem_filter.1 h).2
 have h2 : 0 < wtR W H R i c := by simpa using h1
 refine ⟨h2, ?_⟩
 unfold wtR at h2
 split at h2
 ·assumption
 ·omega
theorem around_len : (aroundL W H R i).length ≤ 4 := by
 refine Nat.le_trans (List.length_filter_le _ _) ?_
 unfold cand
 split <;> simp
end
section
variable {W H : Nat} {R : Bool} {C : List Int} {i : Nat}
theorem mul_32 {x y : Int} (h1 : 0 ≤ x) (h2 : x ≤ 32) (h3 : -1000000 ≤ y) (h4 : y ≤ 1000000) : -32000000 ≤ x * y ∧ x * y ≤ 32000000 := by
 have a1 := Int.mul_le_mul_of_nonneg_left h4 h1
 have a2 := Int.mul_le_mul_of_nonneg_left h3 h1
 omega
theorem wtR_le (hW : W ≤ 16) (c : Int) : wtR W H R i c ≤ 32 := by
 unfold wtR
 split
 ·exact netM_le hW _
 ·omega
theorem sums_go (hW : 1 ≤ W ∧ W ≤ 16) (hH : 1 ≤ H ∧ H ≤ 16) (hi : i < W * H) (b l : List Int) (hl : l.length ≤ 100) (hc : ∀ c, c ∈ l → 0 ≤ c ∧ c < (b.length : Int) ∧ -1000000 ≤ fn b c.toNat ∧ fn b c.toNat ≤ 1000000) :
  ∀ (d j : Nat) (x y : Int) (k : Nat), j + d = l.length → (0 ≤ x ∧ x ≤ 32 * (j : Int)) → (-32000000 * (j : Int) ≤ y ∧ y ≤ 32000000 * (j : Int)) →
  thermionref01_sums.l0 (k + d + 3) b (i : Int) x y l (j : Int) (W : Int) (H : Int) R C = some (x + ((l.drop j).map (wtR W H R i)).sum, y + ((l.drop j).map (fun c => wtR W H R i c * fn b c.toNat)).sum)
 | 0, j, x, y, k, h, hx, hy => by
  rw [show k + 0 + 3 = (k + 2) + 1 by omega, thermionref01_sums.l0, if_neg (by omega), List.drop_eq_nil_of_le (by omega)]
  simp
 | d + 1, j, x, y, k, h, hx, hy => by
  have hj : j < l.length := by omega
  have hw : wrap64 ((j : Int) + 1) = ((j + 1 : Nat) : Int) := by rw [IntWalk.wrap64_in _ (by omega)]; omega
  obtain ⟨c0, c1, c2, c3⟩ := hc l[j] (List.getElem_mem hj)
  have w0 := wtR_nonneg W H R i l[j]
  have w1 := wtR_le (H := H) (R := R) (i := i) hW.2 l[j]
  have hm := mul_32 w0 w1 c2 c3
  have e : rd b l[j] = fn b l[j].toNat := rfl
  rw [show k + (d + 1) + 3 = (k + d + 3) + 1 by omega, thermionref01_sums.l0, if_pos (by omega), if_pos (by omega), rd_at l j hj, obnd (weight_eq hW hH R C hi l[j] (k + d + 1)), if_pos c0, if_pos c1, hw, List.drop_eq_getElem_cons hj, e, List.map_cons, List.map_cons, List.sum_cons, List.sum_cons]
  generalize wtR W H R i l[j] = wt at w0 w1 hm ⊢
  have g1 : wrap64 (wt * fn b l[j].toNat) = wt * fn b l[j].toNat := IntWalk.wrap64_in _ (by omega)
  have g2 : wrap64 (x + wt) = x + wt := IntWalk.wrap64_in _ (by omega)
  have g3 : wrap64 (y + wt * fn b l[j].toNat) = y + wt * fn b l[j].toNat := IntWalk.wrap64_in _ (by omega)
  rw [g1, g2, g3, sums_go hW hH hi b l hl hc d (j + 1) _ _ k (by omega) (by omega) (by omega)]
  rw [Int.add_assoc, Int.add_assoc]
theorem sums_eq (hW : 1 ≤ W ∧ W ≤ 16) (hH : 1 ≤ H ∧ H ≤ 16) (hi : i < W * H) (b : List Int) (hb : W * H ≤ b.length) (hr : ∀ j, j < W * H → -1000000 ≤ fn b j ∧ fn b j ≤ 1000000) (k : Nat) :
  thermionref01_sums.f (k + 8) (W : Int) (H : Int) R C b (i : Int) = some (allOf (nbs W H R i), under (fn b) (nbs W H R i)) := by
 unfold thermionref01_sums.f
 rw [obnd (around_eq hW hH hi k)]
 have hlen := around_len (W := W) (H := H) (R := R) (i := i)
 have h := sums_go (C := C) (R := R) hW hH hi b (aroundL W H R i) (by omega) (fun c hc => by
  obtain ⟨_, h1, h2⟩ := around_mem hc
  have h3 := hr c.toNat (by omega)
  exact ⟨h1, by omega, h3.1, h3.2⟩) (aroundL W H R i).length 0 0 0 (k + 5 - (aroundL W H R i).length) (by omega) (by omega) (by omega)
 rw [show k + 5 - (aroundL W H R i).length + (aroundL W H R i).length + 3 = k + 8 by omega, List.drop_zero, around_all hi, around_under hi, Int.zero_add, Int.zero_add] at h
 exact h
end
def thermionref01_Down.f (a0 : Int) (a1 : Int) : Option (Int) := if a1 = 0 then (none) else (if (Int.tmod a0 a1) < 0 then (some (wrap64 ((wrap64 (Int.tdiv a0 a1)) - 1))) else (some (wrap64 (Int.tdiv a0 a1))))
theorem thermionref01_Down.calls (a0 : Int) (a1 : Int) (r : Int) (w : World) (h : thermionref01_Down.f a0 a1 = some r) :
  Calls Try.prog 94 #[.int .i64 a0, .int .i64 a1] w fun e w' => e = .returned (.int .i64 r) ∧ Drawn0 w w' := by
 have H : (if a1 = 0 then (none) else (if (Int.tmod a0 a1) < 0 then (some (wrap64 ((wrap64 (Int.tdiv a0 a1)) - 1))) else (some (wrap64 (Int.tdiv a0 a1))))) = some r := h
 clear h
 by_cases c3 : a1 = 0
 ·rw [if_pos c3] at H
  exact absurd H (by simp)
 ·rw [if_neg c3] at H
  obtain ⟨c3b0, c3b1⟩ := aNe c3
  by_cases c4 : (Int.tmod a0 a1) < 0
  ·rw [if_pos c4] at H
   have c4b0 := decide_eq_true c4
   clear c4
   obtain rfl := Option.some.inj H
   go_enter Try.func94, Try.ntmps94
   go_wp2
   go_ret
   exact ⟨by first | rfl | (simp; done) | (simp [*]; done), by repeat (first | exact Drawn0.refl _ | apply Drawn0.step)⟩
  ·rw [if_neg c4] at H
   have c4b0 := decide_eq_false c4
   clear c4
   obtain rfl := Option.some.inj H
   go_enter Try.func94, Try.ntmps94
   go_wp2
   go_ret
   exact ⟨by first | rfl | (simp; done) | (simp [*]; done), by repeat (first | exact Drawn0.refl _ | apply Drawn0.step)⟩
def thermionref01_Up.f (a0 : Int) (a1 : Int) : Option (Int) := (thermionref01_Down.f (wrap64 (-a0)) a1).bind fun t398 => (some (wrap64 (-t398)))
theorem thermionref01_Up.calls (a0 : Int) (a1 : Int) (r : Int) (w : World) (h : thermionref01_Up.f a0 a1 = some r) :
  Calls Try.prog 95 #[.int .i64 a0, .int .i64 a1] w fun e w' => e = .returned (.int .i64 r) ∧ Drawn0 w w' := by
 have H : ((thermionref01_Down.f (wrap64 (-a0)) a1).bind fun t398 => (some (wrap64 (-t398)))) = some r := h
 clear h
 obtain ⟨t398, A30, H⟩ := Option.bind_eq_some_iff.mp H
 have A3 := Aside0.mk A30
 clear A30
 obtain rfl := Option.some.inj H
 go_enter Try.func95, Try.ntmps95
 go_wp2_with (first | ((with_reducible refine gate_callee (f := 94) rfl ?_); refine goesL_ (some 8) rfl rfl Try.func94 (by kernel_rfl) rfl #[.int .i64 (wrap64 (-a0)), .int .i64 a1] rfl aA ?_; (with_reducible refine (thermionref01_Down.calls (wrap64 (-a0)) a1 t398 _ A3.out).mono ?_); rintro e w' ⟨rfl, ⟨nd, rfl⟩⟩; refine ⟨_, rfl, ?_⟩))
 go_ret
 exact ⟨by first | rfl | (simp; done) | (simp [*]; done), by repeat (first | exact Drawn0.refl _ | apply Drawn0.step)⟩
end Go.Proofs.Ytndkkjpgnmahbaa.Print
end

section
namespace Go.Proofs.Ytndkkjpgnmahbaa.Print
open Go.RowKit YtndkkjpgnmahbaaW.PrintWords YtndkkjpgnmahbaaW.PrintLast YtndkkjpgnmahbaaW.PrintMore Ytndkkjpgnmahbaa.H Proofs.Field
def Row4 (W : World) (base g c n : Nat) (l : List Int) : Prop := l.length = n ∧ Kd.R (Kd.int .i64) 3 W base (fun k => k = g) (.slice (some ⟨g, 0, none⟩) n c) l
theorem row4_of {W : World} {base : Nat} {ok : Nat → Prop} {v : Value} {l : List Int} (h : Kd.R (Kd.int .i64) 3 W base ok v l) (hp : 0 < l.length) : ∃ g c, v = .slice (some ⟨g, 0, none⟩) l.length c ∧ Row4 W base g c l.length l ∧ base ≤ g ∧ g < W.heap.size := by
 obtain ⟨g, c, e, hb, hl, _⟩ := Kd.R_form h hp
 subst e
 exact ⟨g, c, rfl, ⟨rfl, Kd.R_reok rfl h (fun k hk => by
  have : (some g : Option Nat) = some k := hk
  exact (Option.some.inj this).symm)⟩, hb, hl⟩
namespace Row4
variable {W W1 : World} {base g c n : Nat} {l : List Int}
theorem below (h : Row4 W base g c n l) (hb : Below W.heap.size W W1) : Row4 W1 base g c n l := ⟨h.1, Kd.R_below h.2 hb⟩
theorem keep {g2 : Nat} (h : Row4 W base g c n l) (hk : KeepBut W W1 g2 none) (hne : g ≠ g2) : Row4 W1 base g c n l := ⟨h.1, Kd.R_keep h.2 hk (fun k e => by subst e; exact hne)⟩
theorem far (h : Row4 W base g c n l) {p : Addr} (hne : g ≠ p.block) (u : Value) : Row4 (W.setCell p u) base g c n l := ⟨h.1, Kd.R_far h.2 (fun k e => by subst e; exact hne) u⟩
theorem reads (h : Row4 W base g c n l) : Kd.C (Kd.int .i64) W (some ⟨g, 0, none⟩) l.length l ∧ n ≤ c := ⟨(Kd.R_reads' h.2).2.2, (Kd.R_reads' h.2).2.1⟩
theorem put (h : Row4 W base g c n l) (i : Nat) (x : Int) : Row4 (W.setCell ⟨g, i, none⟩ (.int .i64 x)) base g c n (l.set i x) := by
 obtain ⟨e, h⟩ := h
 refine ⟨by rw [List.length_set]; exact e, ?_⟩
 exact Kd.R_putn (enc := Value.int .i64) (h1 := fun _ => rfl) h (i : Int) x
theorem cell (h : Row4 W base g c n l) {i : Nat} (hi : i < n) : W.cell? ⟨g, i, none⟩ = some (.int .i64 (fn l i)) ∧ W.frozen? ⟨g, i, none⟩ = false := by
 exact Kd.R_celln (enc := Value.int .i64) (h1 := fun _ => rfl) (0 : Int) h.2 (i : Int) (by omega) (by omega)
theorem ge (h : Row4 W base g c n l) : base ≤ g := Kd.R_base h.2 g rfl
theorem lt (h : Row4 W base g c n l) : g < W.heap.size := Kd.R_lt h.2 g rfl
end Row4
end Go.Proofs.Ytndkkjpgnmahbaa.Print
end

section
namespace Go.Proofs.Field
theorem set_self {b : List Int} {i : Nat} (h : i < b.length) : b.set i (fn b i) = b := by
 apply List.ext_getElem
 ·simp
 ·intro j h1 h2
  rw [List.getElem_set]
  split
  ·rename_i e
   subst e
   unfold fn
   rw [List.getD_eq_getElem?_getD, List.getElem?_eq_getElem h]
   rfl
  ·rfl
theorem swStep_put {up : Bool} {W H : Nat} {R : Bool} {C : List Int} {s : List Int × Bool} {i : Nat} (hl : i < s.1.length) (h : ¬ 0 < fn C i) : swStep up W H R C s i = (s.1.set i (relax up W H R s.1 i), s.2 || (relax up W H R s.1 i != fn s.1 i)) := by
 unfold swStep
 rw [if_neg h]
 by_cases q : relax up W H R s.1 i = fn s.1 i
 ·rw [if_neg (by simpa using q), q, set_self hl]
  simp
 ·rw [if_pos q, bne_iff_ne.mpr q]
  simp
structure SwOk (up : Bool) (W H : Nat) (R : Bool) (C : List Int) (b : List Int) : Prop where
 len : b.length = C.length
 range : ∀ i, i ≤ C.length → ∀ j, j < C.length → -1000000 ≤ fn (sweepTo up W H R C b i).1 j ∧ fn (sweepTo up W H R C b i).1 j ≤ 1000000
end Go.Proofs.Field
namespace Go.Proofs.Ytndkkjpgnmahbaa.Print
open Go.RowKit YtndkkjpgnmahbaaW.PrintWords YtndkkjpgnmahbaaW.PrintLast YtndkkjpgnmahbaaW.PrintMore Ytndkkjpgnmahbaa.H Proofs.Field
structure RW (w0 w W : World) (gp gf : Nat) (pv fv : Array Value) (g1 c1 g2 c2 n : Nat) (lo hi : List Int) : Prop where
 old : Below w0.heap.size w0 W
 keep : KeepBut w W g1 (some g2)
 p : W.heap[gp]? = some (.cells pv 24 (0, 0))
 f : W.heap[gf]? = some (.cells fv 33 (0, 0))
 r1 : Row4 W w0.heap.size g1 c1 n lo
 r2 : Row4 W w0.heap.size g2 c2 n hi
 ne : g1 ≠ g2
 np : gp ≠ g1 ∧ gp ≠ g2 ∧ gf ≠ g1 ∧ gf ≠ g2
namespace RW
variable {w0 w W W1 : World} {gp gf : Nat} {pv fv : Array Value} {g1 c1 g2 c2 n : Nat} {lo hi : List Int}
theorem step (h : RW w0 w W gp gf pv fv g1 c1 g2 c2 n lo hi) (hb : Below W.heap.size W W1) : RW w0 w W1 gp gf pv fv g1 c1 g2 c2 n lo hi :=
 ⟨below_step h.old hb, h.keep.trans (KeepBut.of_below hb g1 (some g2)) (.inl rfl), blk_below h.p hb, blk_below h.f hb, h.r1.below hb, h.r2.below hb, h.ne, h.np⟩
theorem put1 (h : RW w0 w W gp gf pv fv g1 c1 g2 c2 n lo hi) (i : Nat) (x : Int) : RW w0 w (W.setCell ⟨g1, i, none⟩ (.int .i64 x)) gp gf pv fv g1 c1 g2 c2 n (lo.set i x) hi :=
 ⟨below_set h.old h.r1.ge, h.keep.set_ i _, blk_far (p := ⟨g1, i, none⟩) h.p h.np.1 _, blk_far (p := ⟨g1, i, none⟩) h.f h.np.2.2.1 _, h.r1.put i x, h.r2.far (p := ⟨g1, i, none⟩) h.ne.symm _, h.ne, h.np⟩
theorem put2 (h : RW w0 w W gp gf pv fv g1 c1 g2 c2 n lo hi) (i : Nat) (x : Int) : RW w0 w (W.setCell ⟨g2, i, none⟩ (.int .i64 x)) gp gf pv fv g1 c1 g2 c2 n lo (hi.set i x) := by
 refine ⟨below_set h.old h.r2.ge, ⟨Nat.le_trans h.keep.1 (KeepsOthers.setCell W _ _).size, fun k hk h1 h2 => ?_⟩, blk_far (p := ⟨g2, i, none⟩) h.p h.np.2.1 _, blk_far (p := ⟨g2, i, none⟩) h.f h.np.2.2.2 _, h.r1.far (p := ⟨g2, i, none⟩) h.ne _, h.r2.put i x, h.ne, h.np⟩
 exact (Below.heap_setCell W ⟨g2, i, none⟩ _ k (fun e => h2 (by rw [e]))).trans (h.keep.2 k hk h1 h2)
end RW
theorem sums_at {W H : Nat} (hW : 1 ≤ W ∧ W ≤ 16) (hH : 1 ≤ H ∧ H ≤ 16) (R : Bool) (A : Option Addr) (c : Nat) (C : List Int) (A1 : Option Addr) (c1 m i : Nat) (b : List Int) (w : World) (hr : Kd.C (Kd.int .i64) w A C.length C) (hc : C.length ≤ c) (hl : b.length = m) (hm : m = W * H) (hr1 : Kd.C (Kd.int .i64) w A1 b.length b) (hc1 : m ≤ c1) (hi : i < W * H)
  (hrng : ∀ j, j < W * H → -1000000 ≤ fn b j ∧ fn b j ≤ 1000000) :
  Calls Try.prog 90 #[.agg (planV W H R A C.length c), .slice A1 m c1, .int .i64 i] w fun e w' => e = .returned (.tuple #[.int .i64 (allOf (nbs W H R i)), .int .i64 (under (fn b) (nbs W H R i))]) ∧ Below w.heap.size w w' := by
 subst hl
 exact thermionref01_sums.calls (0 + 8) W H R A c C A1 c1 b i _ _ w hr hc hr1 hc1 (sums_eq hW hH hi b (by omega) hrng 0)
theorem refdown_eq {n d : Int} (hd : 0 < d) (hn : -1000000000000 ≤ n ∧ n ≤ 1000000000000) : thermionref01_Down.f n d = some (n / d) := down_eq hd hn
theorem refup_eq {n d : Int} (hd : 0 < d) (hn : -1000000000000 ≤ n ∧ n ≤ 1000000000000) : thermionref01_Up.f n d = some (-(-n / d)) := up_eq hd hn
end Go.Proofs.Ytndkkjpgnmahbaa.Print
end

section
namespace Go.Proofs.Ytndkkjpgnmahbaa.Print
open Go.RowKit YtndkkjpgnmahbaaW.PrintWords YtndkkjpgnmahbaaW.PrintLast YtndkkjpgnmahbaaW.PrintMore Ytndkkjpgnmahbaa.H Proofs.Field
theorem refsweep_calls (W H : Nat) (hW : 1 ≤ W ∧ W ≤ 16) (hH : 1 ≤ H ∧ H ≤ 16) (R : Bool) (A : Option Addr) (c : Nat) (C : List Int) (g1 c1 g2 c2 : Nat) (lo hi : List Int) (kk : Int) (st : Bool) (w0 w : World) (hold : Below w0.heap.size w0 w) (hr : Kd.C (Kd.int .i64) w0 A C.length C) (hc : C.length ≤ c) (hC : C.length = W * H)
  (h1 : Row4 w w0.heap.size g1 c1 C.length lo) (h2 : Row4 w w0.heap.size g2 c2 C.length hi) (hne : g1 ≠ g2) (hall : ∀ i, i < C.length → ¬ 0 < fn C i → 0 < allOf (nbs W H R i)) (hlo : SwOk false W H R C lo) (hhi : SwOk true W H R C hi) :
  Calls Try.prog 75 #[.agg (planV W H R A C.length c), .agg #[.slice (some ⟨g1, 0, none⟩) C.length c1, .slice (some ⟨g2, 0, none⟩) C.length c2, .int .i64 kk, .bool st]] w fun e w' => e = .returned (.bool ((sweep false W H R C lo).2 || (sweep true W H R C hi).2)) ∧ Below w0.heap.size w0 w' ∧ KeepBut w w' g1 (some g2) ∧ Row4 w' w0.heap.size g1 c1 C.length (sweep false W H R C lo).1 ∧ Row4 w' w0.heap.size g2 c2 C.length (sweep true W H R C hi).1 := by
 have HR := Aside0.mk hr
 have HOLD := Aside0.mk hold
 have H1 := Aside0.mk h1
 have H2 := Aside0.mk h2
 have HALL := Aside0.mk hall
 have HLO := Aside0.mk hlo
 have HHI := Aside0.mk hhi
 have HNE := Aside0.mk hne
 have HCC := Aside0.mk hC
 have HWH := Aside0.mk (And.intro hW hH)
 have HHC := Aside0.mk hc
 have HSM : Aside0 (C.length ≤ 256) := ⟨by have := Nat.mul_le_mul hW.2 hH.2; omega⟩
 have HM := Aside0.mk (Mem.start w)
 have hu24 := Try.underlying24
 have hu22 := Try.underlying22
 have hu33 := Try.underlying33
 clear hr hold h1 h2 hall hlo hhi hne hC hW hH hc
 go_enter Try.func75, Try.ntmps75
 go_wp2_with (first
  | ((with_reducible refine gate_dst (N := 2) rfl ?_); refine ev_box HM.out rfl 24 (.tmp 0) rfl (cs := planV W H R A C.length c) rfl ?_; intro g2x wa hm1 hq1; clear hq1; have HM1 := Aside0.mk hm1; clear hm1 HM)
  | ((with_reducible refine gate_dst (N := 3) rfl ?_); refine ev_box HM1.out rfl 33 (.tmp 1) rfl (cs := #[.slice (some ⟨g1, 0, none⟩) C.length c1, .slice (some ⟨g2, 0, none⟩) C.length c2, .int .i64 kk, .bool st]) rfl ?_; intro g3x wb hm1 hq1; clear hq1; have HM2 := Aside0.mk hm1; clear hm1 HM1))
 have HRW0 : Aside0 (RW w0 w wb g2x g3x (planV W H R A C.length c) #[.slice (some ⟨g1, 0, none⟩) C.length c1, .slice (some ⟨g2, 0, none⟩) C.length c2, .int .i64 kk, .bool st] g1 c1 g2 c2 C.length ((sweepTo false W H R C lo 0).1) ((sweepTo true W H R C hi 0).1)) := ⟨⟨below_step HOLD.out HM2.out.below, KeepBut.of_below HM2.out.below _ _, HM2.out.second, HM2.out.head, H1.out.below HM2.out.below, H2.out.below HM2.out.below, HNE.out, by have := HM2.out.drop.geh; have := HM2.out.geh; have := H1.out.lt; have := H2.out.lt; omega⟩⟩
 clear HM2 H1 H2
 go_loopg [5, 6] C.length (fun k v5 v6 w' => ∃ (i : Nat), v5 = .bool ((sweepTo false W H R C lo i).2 || (sweepTo true W H R C hi i).2) ∧ v6 = .int .i64 (i : Int) ∧ Aside0 (i + k = C.length) ∧ Aside0 (RW w0 w w' g2x g3x (planV W H R A C.length c) #[.slice (some ⟨g1, 0, none⟩) C.length c1, .slice (some ⟨g2, 0, none⟩) C.length c2, .int .i64 kk, .bool st] g1 c1 g2 c2 C.length ((sweepTo false W H R C lo i).1) ((sweepTo true W H R C hi i).1)))
 case atStart => exact ⟨0, rfl, by go_num, ⟨by omega⟩, HRW0⟩
 case round =>
  clear HRW0
  obtain ⟨i, rfl, rfl, HK, HS⟩ := hrel
  have q3 : wr.cell? ⟨g2x, 3, none⟩ = some (.slice A C.length c) := (blk_cell HS.out.p 3).trans rfl
  by_cases hci : i < C.length
  ·have HI := Aside0.mk hci
   have HKN : Aside0 (i + 1 + (C.length - (i + 1)) = C.length) := ⟨by omega⟩
   obtain ⟨ad, ead, x0⟩ := at_row (Kd.C_below HR.out HS.out.old) i hci
   subst ead
   have t1 : decide ((i : Int) < (C.length : Int)) = true := by simp; omega
   have t2 : decide (i < C.length) = true := by simp; omega
   have t3 : wrap64 ((i : Int) + 1) = ((i + 1 : Nat) : Int) := by rw [IntWalk.wrap64_in _ (by have := HSM.out; omega)]; omega
   obtain ⟨X, hX⟩ : ∃ X, fn C i = X := ⟨_, rfl⟩
   rw [hX] at x0
   by_cases q : 0 < X
   ·have hg : decide (X > 0) = true := decide_eq_true q
    have HN : Aside0 ((sweepTo false W H R C lo (i + 1)) = (sweepTo false W H R C lo i) ∧ (sweepTo true W H R C hi (i + 1)) = (sweepTo true W H R C hi i)) := ⟨by
     constructor
     ·rw [sweepTo, swStep, hX, if_pos q]
     ·rw [sweepTo, swStep, hX, if_pos q]⟩
    clear q hX
    go_wp2_with fail
    go_roundg (C.length - (i + 1))
    case measure =>
     clear hci t1 t2 t3
     have := HK.out
     have := HI.out
     omega
    case rel => exact ⟨i + 1, by rw [HN.out.1, HN.out.2], by first | exact congrArg _ t3 | go_num, HKN, ⟨by rw [HN.out.1, HN.out.2]; exact HS.out⟩⟩
   ·have hg : decide (X > 0) = false := decide_eq_false q
    have hAL := HALL.out i hci (by rw [hX]; omega)
    have hl1 : (sweepTo false W H R C lo i).1.length = C.length := by rw [sweepTo_length]; exact HLO.out.len
    have hl2 : (sweepTo true W H R C hi i).1.length = C.length := by rw [sweepTo_length]; exact HHI.out.len
    have HN : Aside0 ((sweepTo false W H R C lo (i + 1)) = ((sweepTo false W H R C lo i).1.set i (relax false W H R (sweepTo false W H R C lo i).1 i), (sweepTo false W H R C lo i).2 || (relax false W H R (sweepTo false W H R C lo i).1 i != fn (sweepTo false W H R C lo i).1 i)) ∧ (sweepTo true W H R C hi (i + 1)) = ((sweepTo true W H R C hi i).1.set i (relax true W H R (sweepTo true W H R C hi i).1 i), (sweepTo true W H R C hi i).2 || (relax true W H R (sweepTo true W H R C hi i).1 i != fn (sweepTo true W H R C hi i).1 i))) := ⟨⟨by rw [sweepTo]; exact swStep_put (by rw [hl1]; exact hci) (by rw [hX]; omega), by rw [sweepTo]; exact swStep_put (by rw [hl2]; exact hci) (by rw [hX]; omega)⟩⟩
    have HB1 := Aside0.mk (HLO.out.range i (by omega))
    have HB2 := Aside0.mk (HHI.out.range i (by omega))
    obtain ⟨b1, hb1⟩ : ∃ b, (sweepTo false W H R C lo i).1 = b := ⟨_, rfl⟩
    obtain ⟨b2, hb2⟩ : ∃ b, (sweepTo true W H R C hi i).1 = b := ⟨_, rfl⟩
    obtain ⟨ch1, hch1⟩ : ∃ b, (sweepTo false W H R C lo i).2 = b := ⟨_, rfl⟩
    obtain ⟨ch2, hch2⟩ : ∃ b, (sweepTo true W H R C hi i).2 = b := ⟨_, rfl⟩
    rw [hb1] at hl1 HB1 HS
    rw [hb2] at hl2 HB2 HS
    rw [hb1, hb2, hch1, hch2] at HN
    rw [hch1, hch2]
    have HRL : Aside0 (relax false W H R b1 i = under (fn b1) (nbs W H R i) / allOf (nbs W H R i) ∧ relax true W H R b2 i = -(-under (fn b2) (nbs W H R i) / allOf (nbs W H R i))) := ⟨⟨by show dvd false _ _ = _; unfold dvd; rw [if_neg (by simp)], by show dvd true _ _ = _; unfold dvd; rw [if_pos rfl]⟩⟩
    have hiw : i < W * H := by rw [← HCC.out]; exact hci
    have hub1 := under_bound (f := fn b1) (l := nbs W H R i) (fun p hp => by
     have h8 := nbs_lt hiw hp
     have h9 := HB1.out p.1 (by rw [HCC.out]; exact h8.1)
     exact ⟨h8.2.2.1, h8.2.2.2 HWH.out.1.2, h9.1, h9.2⟩)
    have hub2 := under_bound (f := fn b2) (l := nbs W H R i) (fun p hp => by
     have h8 := nbs_lt hiw hp
     have h9 := HB2.out p.1 (by rw [HCC.out]; exact h8.1)
     exact ⟨h8.2.2.1, h8.2.2.2 HWH.out.1.2, h9.1, h9.2⟩)
    have hnl := nbs_length W H R i
    have HD1 := Aside0.mk (refdown_eq (n := under (fn b1) (nbs W H R i)) hAL (by omega))
    have HD2 := Aside0.mk (refup_eq (n := under (fn b2) (nbs W H R i)) hAL (by omega))
    have HSM1 : Aside0 (∀ V, Below wr.heap.size wr V → Calls Try.prog 90 #[.agg (planV W H R (some ad) C.length c), .slice (some ⟨g1, 0, none⟩) C.length c1, .int .i64 i] V fun e w' => e = .returned (.tuple #[.int .i64 (allOf (nbs W H R i)), .int .i64 (under (fn b1) (nbs W H R i))]) ∧ Below V.heap.size V w') := ⟨fun V hb => sums_at HWH.out.1 HWH.out.2 R (some ad) c C (some ⟨g1, 0, none⟩) c1 C.length i b1 V (Kd.C_below HR.out (below_step HS.out.old hb)) HHC.out hl1 HCC.out (HS.out.step hb).r1.reads.1 HS.out.r1.reads.2 hiw (fun j hj => HB1.out j (by rw [HCC.out]; exact hj))⟩
    have HSM2 : Aside0 (∀ V, Below wr.heap.size wr V → Calls Try.prog 90 #[.agg (planV W H R (some ad) C.length c), .slice (some ⟨g2, 0, none⟩) C.length c2, .int .i64 i] V fun e w' => e = .returned (.tuple #[.int .i64 (allOf (nbs W H R i)), .int .i64 (under (fn b2) (nbs W H R i))]) ∧ Below V.heap.size V w') := ⟨fun V hb => sums_at HWH.out.1 HWH.out.2 R (some ad) c C (some ⟨g2, 0, none⟩) c2 C.length i b2 V (Kd.C_below HR.out (below_step HS.out.old hb)) HHC.out hl2 HCC.out (HS.out.step hb).r2.reads.1 HS.out.r2.reads.2 hiw (fun j hj => HB2.out j (by rw [HCC.out]; exact hj))⟩
    rw [HRL.out.1, HRL.out.2] at HN
    generalize under (fn b1) (nbs W H R i) = SU1 at HD1 HSM1 HN
    generalize under (fn b2) (nbs W H R i) = SU2 at HD2 HSM2 HN
    generalize allOf (nbs W H R i) = AL at HD1 HD2 HSM1 HSM2 HN
    generalize SU1 / AL = r1 at HD1 HN
    generalize -(-SU2 / AL) = r2 at HD2 HN
    obtain ⟨cv1, fv1⟩ := HS.out.r1.cell hci
    obtain ⟨cv2, fv2⟩ := HS.out.r2.cell hci
    obtain ⟨y1, hy1⟩ : ∃ y, fn b1 i = y := ⟨_, rfl⟩
    obtain ⟨y2, hy2⟩ : ∃ y, fn b2 i = y := ⟨_, rfl⟩
    rw [hy1] at HN cv1
    rw [hy2] at HN cv2
    have HY := Aside0.mk (And.intro hy1 hy2)
    have HNX : Aside0 (∀ V', RW w0 w V' g2x g3x (planV W H R (some ad) C.length c) #[.slice (some ⟨g1, 0, none⟩) C.length c1, .slice (some ⟨g2, 0, none⟩) C.length c2, .int .i64 kk, .bool st] g1 c1 g2 c2 C.length (b1.set i r1) (b2.set i r2) → RW w0 w V' g2x g3x (planV W H R (some ad) C.length c) #[.slice (some ⟨g1, 0, none⟩) C.length c1, .slice (some ⟨g2, 0, none⟩) C.length c2, .int .i64 kk, .bool st] g1 c1 g2 c2 C.length ((sweepTo false W H R C lo (i + 1)).1) ((sweepTo true W H R C hi (i + 1)).1)) := ⟨fun V' h => by rw [HN.out.1, HN.out.2]; exact h⟩
    have HCH : Aside0 (((sweepTo false W H R C lo (i + 1)).2 || (sweepTo true W H R C hi (i + 1)).2) = (((ch1 || ch2) || (r1 != y1)) || (r2 != y2))) := ⟨by rw [HN.out.1, HN.out.2]; cases ch1 <;> cases ch2 <;> cases (r1 != y1) <;> cases (r2 != y2) <;> rfl⟩
    have q0 : wr.cell? ⟨g3x, 0, none⟩ = some (.slice (some ⟨g1, 0, none⟩) C.length c1) := (blk_cell HS.out.f 0).trans rfl
    have q1 : wr.cell? ⟨g3x, 1, none⟩ = some (.slice (some ⟨g2, 0, none⟩) C.length c2) := (blk_cell HS.out.f 1).trans rfl
    clear q hX hAL hl1 hl2 hb1 hb2 hch1 hch2 hub1 hub2 hnl hiw hy1 hy2 cv1 fv1 cv2 fv2 HN HRL HB1 HB2
    go_upto_region 10 with (first
     | ((with_reducible refine gate_dst (N := 25) rfl ?_); refine ev_load HS.out.p rfl 24 (.tmp 2) rfl rfl _ Try.underlying24 rfl size24 rfl ?_)
     | (go_at_call 90; (with_reducible refine (HSM1.out _ (Below.refl _ _)).mono ?_); rintro e wc ⟨rfl, hb⟩; have HS1 := Aside0.mk (HS.out.step hb); have HBc := Aside0.mk hb; clear hb HSM1 HS q0 q1 q3 x0)
     | (go_at_call 94; refine (thermionref01_Down.calls _ _ _ _ HD1.out).mono ?_; rintro e wd ⟨rfl, hb⟩; have HS2 := Aside0.mk (HS1.out.step hb.below); have HBd := Aside0.mk (below_step HBc.out hb.below); clear hb HS1 HBc HD1; have q1 : wd.cell? ⟨g3x, 1, none⟩ = some (.slice (some ⟨g2, 0, none⟩) C.length c2) := (blk_cell HS2.out.f 1).trans rfl)
     | ((with_reducible refine gate_dst (N := 36) rfl ?_); refine ev_load HS2.out.p rfl 24 (.tmp 2) rfl rfl _ Try.underlying24 rfl size24 rfl ?_)
     | (go_at_call 90; (with_reducible refine (HSM2.out _ HBd.out).mono ?_); rintro e we ⟨rfl, hb⟩; have HS3 := Aside0.mk (HS2.out.step hb); clear hb HSM2 HS2 HBd q1)
     | (go_at_call 95; refine (thermionref01_Up.calls _ _ _ _ HD2.out).mono ?_; rintro e wf ⟨rfl, hb⟩; have HS4 := Aside0.mk (HS3.out.step hb.below); clear hb HS3 HD2; have q0 : wf.cell? ⟨g3x, 0, none⟩ = some (.slice (some ⟨g1, 0, none⟩) C.length c1) := (blk_cell HS4.out.f 0).trans rfl; have q1 : wf.cell? ⟨g3x, 1, none⟩ = some (.slice (some ⟨g2, 0, none⟩) C.length c2) := (blk_cell HS4.out.f 1).trans rfl))
    obtain ⟨cv1, fv1⟩ := HS4.out.r1.cell hci
    obtain ⟨cv2, fv2⟩ := HS4.out.r2.cell hci
    rw [HY.out.1] at cv1
    rw [HY.out.2] at cv2
    obtain ⟨z1, hz1⟩ : ∃ z, (r1 != y1) = z := ⟨_, rfl⟩
    obtain ⟨z2, hz2⟩ : ∃ z, (r2 != y2) = z := ⟨_, rfl⟩
    rw [hz1, hz2] at HCH
    generalize (ch1 || ch2) = ch at HCH ⊢
    go_cut [5] (fun v5 wc => v5 = .bool ((ch || z1) || z2) ∧ wc = wf)
    case first =>
     cases ch
     ·cases z1
      ·go_wp2_with fail
       go_meet
       case rel => exact ⟨rfl, rfl⟩
      ·go_wp2_with fail
       go_meet
       case rel => exact ⟨rfl, rfl⟩
     ·go_wp2_with fail
      go_meet
      case rel => exact ⟨rfl, rfl⟩
    case rest =>
    obtain ⟨rfl, rfl⟩ := hcut
    have n1 := HNE.out
    have n2 := HNE.out.symm
    have n3 := HS4.out.np.2.2.1
    have n4 := HS4.out.np.2.2.2
    have n5 := n3.symm
    have n6 := n4.symm
    clear hz1 hz2
    go_upto_region 11 with fail
    go_region
    all_goals go_wp2_with fail
    all_goals go_roundg (C.length - (i + 1))
    all_goals (first
     | (case measure =>
       clear hci t1 t2 t3
       have := HK.out
       have := HI.out
       omega)
     | skip)
    all_goals (case rel => exact ⟨i + 1, congrArg Value.bool HCH.out.symm, by first | exact congrArg _ t3 | go_num, HKN, ⟨HNX.out _ (by first | exact ((HS4.out.step (below_drew1 (Below.refl _ _))).put1 i r1).put2 i r2 | exact ((HS4.out.put1 i r1).put2 i r2).step (below_drew1 (Below.refl _ _)))⟩⟩)
  ·obtain rfl : i = C.length := by have := HK.out; omega
   have t1 : decide ((C.length : Int) < (C.length : Int)) = false := by simp
   have t2 : decide (C.length < C.length) = false := by simp
   go_wp2_with fail
   go_ret
   exact ⟨rfl, HS.out.old, HS.out.keep, HS.out.r1, HS.out.r2⟩
end Go.Proofs.Ytndkkjpgnmahbaa.Print
end

section
namespace Go.Proofs.Field
section
variable {W H : Nat} {R : Bool} {C v : List Int}
def leastTo (C v : List Int) : Nat → Int
 | 0 => 1000000
 | m + 1 => if 0 < fn C m then min (leastTo C v m) (volt C v m) else leastTo C v m
def mostTo (C v : List Int) : Nat → Int
 | 0 => -1000000
 | m + 1 => if 0 < fn C m then max (mostTo C v m) (volt C v m) else mostTo C v m
theorem leastTo_le : ∀ {m i : Nat}, i < m → 0 < fn C i → leastTo C v m ≤ volt C v i
 | 0, i, h, _ => absurd h (Nat.not_lt_zero i)
 | m + 1, i, h, hp => by
  rw [leastTo]
  by_cases q : i = m
  ·subst q; rw [if_pos hp]; omega
  ·have := leastTo_le (show i < m by omega) hp
   split <;> omega
theorem mostTo_ge : ∀ {m i : Nat}, i < m → 0 < fn C i → volt C v i ≤ mostTo C v m
 | 0, i, h, _ => absurd h (Nat.not_lt_zero i)
 | m + 1, i, h, hp => by
  rw [mostTo]
  by_cases q : i = m
  ·subst q; rw [if_pos hp]; omega
  ·have := mostTo_ge (show i < m by omega) hp
   split <;> omega
theorem lowest (hV : Volted W H R C v) : leastTo C v C.length ≤ minOf (onOf C v) := by
 obtain ⟨j, hj, hp, e⟩ := on_volt (minOf_mem (on_ne hV))
 rw [← e]; exact leastTo_le hj hp
theorem highest (hV : Volted W H R C v) : maxOf (onOf C v) ≤ mostTo C v C.length := by
 obtain ⟨j, hj, hp, e⟩ := on_volt (maxOf_mem (on_ne hV))
 rw [← e]; exact mostTo_ge hj hp
end
end Go.Proofs.Field
namespace Go.Proofs.Ytndkkjpgnmahbaa.Print
open Go.RowKit YtndkkjpgnmahbaaW.PrintWords YtndkkjpgnmahbaaW.PrintLast YtndkkjpgnmahbaaW.PrintMore Ytndkkjpgnmahbaa.H Proofs.Field
end Go.Proofs.Ytndkkjpgnmahbaa.Print
end

section
namespace Go.Proofs.Ytndkkjpgnmahbaa.Print
open Go.RowKit YtndkkjpgnmahbaaW.PrintWords YtndkkjpgnmahbaaW.PrintLast YtndkkjpgnmahbaaW.PrintMore Ytndkkjpgnmahbaa.H Proofs.Field
structure Two (W : World) (base : Nat) (vL vH : Value) (lo hi : List Int) : Prop where
 l : Kd.R (Kd.int .i64) 3 W base (fun k => some k ≠ vH.ownBlock) vL lo
 h : Kd.R (Kd.int .i64) 3 W base (fun k => some k ≠ vL.ownBlock) vH hi
theorem R_turn {W w1 : World} {base : Nat} {u v v1 : Value} {xs : List Int} (h : Kd.R (Kd.int .i64) 3 W base (fun k => some k ≠ v.ownBlock) u xs) (hg : W.grownBy w1 v.ownBlock) (hat : v1.ownBlock = v.ownBlock ∨ ∃ b, v1.ownBlock = some b ∧ W.heap.size ≤ b) : Kd.R (Kd.int .i64) 3 w1 base (fun k => some k ≠ v1.ownBlock) u xs :=
 Kd.R_mono (Kd.R_after (ok := fun _ => True) (Kd.R_mono h (fun k hk => ⟨trivial, hk⟩)) hg hat) (fun k hk => hk.2)
structure BS (w W : World) (g2 g4 g8 : Nat) (pv z4 fv : Array Value) (vL vH : Value) (lo hi : List Int) : Prop where
 below : Below w.heap.size w W
 p : W.heap[g2]? = some (.cells pv 24 (0, 0))
 o : W.heap[g4]? = some (.cells z4 33 (0, 0))
 f : W.heap[g8]? = some (.cells fv 33 (0, 0))
 t : Two W w.heap.size vL vH lo hi
 ne : g4 ≠ g8
 ge : w.heap.size ≤ g8 ∧ w.heap.size ≤ g4
namespace BS
variable {w W W1 : World} {g2 g4 g8 : Nat} {pv z4 fv : Array Value} {vL vH v1 : Value} {lo hi l2 : List Int}
theorem step (h : BS w W g2 g4 g8 pv z4 fv vL vH lo hi) (hb : Below W.heap.size W W1) : BS w W1 g2 g4 g8 pv z4 fv vL vH lo hi :=
 ⟨below_step h.below hb, blk_below h.p hb, blk_below h.o hb, blk_below h.f hb, ⟨Kd.R_below h.t.l hb, Kd.R_below h.t.h hb⟩, h.ne, h.ge⟩
theorem blkL (h : BS w W g2 g4 g8 pv z4 fv vL vH lo hi) (hg : W.grownBy W1 vL.ownBlock) {g : Nat} {cs : Array Value} {t : Nat} (hk : W.heap[g]? = some (.cells cs t (0, 0))) (ht : (3 : Nat) ≠ t) : W1.heap[g]? = some (.cells cs t (0, 0)) :=
 (hg.block g (blk_lt hk) (Kd.R_ne h.t.l hk ht)).trans hk
theorem blkH (h : BS w W g2 g4 g8 pv z4 fv vL vH lo hi) (hg : W.grownBy W1 vH.ownBlock) {g : Nat} {cs : Array Value} {t : Nat} (hk : W.heap[g]? = some (.cells cs t (0, 0))) (ht : (3 : Nat) ≠ t) : W1.heap[g]? = some (.cells cs t (0, 0)) :=
 (hg.block g (blk_lt hk) (Kd.R_ne h.t.h hk ht)).trans hk
theorem growL (h : BS w W g2 g4 g8 pv z4 fv vL vH lo hi) (hR : Kd.R (Kd.int .i64) 3 W1 w.heap.size (fun k => some k ≠ vH.ownBlock) v1 l2) (hB : Below w.heap.size w W1) (hg : W.grownBy W1 vL.ownBlock) (hat : v1.ownBlock = vL.ownBlock ∨ ∃ b, v1.ownBlock = some b ∧ W.heap.size ≤ b) : BS w W1 g2 g4 g8 pv z4 fv v1 vH l2 hi :=
 ⟨hB, h.blkL hg h.p (by decide), h.blkL hg h.o (by decide), h.blkL hg h.f (by decide), ⟨hR, R_turn h.t.h hg hat⟩, h.ne, h.ge⟩
theorem growH (h : BS w W g2 g4 g8 pv z4 fv vL vH lo hi) (hR : Kd.R (Kd.int .i64) 3 W1 w.heap.size (fun k => some k ≠ vL.ownBlock) v1 l2) (hB : Below w.heap.size w W1) (hg : W.grownBy W1 vH.ownBlock) (hat : v1.ownBlock = vH.ownBlock ∨ ∃ b, v1.ownBlock = some b ∧ W.heap.size ≤ b) : BS w W1 g2 g4 g8 pv z4 fv vL v1 lo l2 :=
 ⟨hB, h.blkH hg h.p (by decide), h.blkH hg h.o (by decide), h.blkH hg h.f (by decide), ⟨R_turn h.t.l hg hat, hR⟩, h.ne, h.ge⟩
theorem put (h : BS w W g2 g4 g8 pv z4 fv vL vH lo hi) (i : Nat) (u : Value) {fv' : Array Value} (e : fv.setIfInBounds i u = fv') : BS w (W.setCell ⟨g8, i, none⟩ u) g2 g4 g8 pv z4 fv' vL vH lo hi := by
 subst e
 refine ⟨below_set h.below h.ge.1, blk_far (p := ⟨g8, i, none⟩) h.p (blk_ne h.p h.f (by decide)) _, blk_far (p := ⟨g8, i, none⟩) h.o h.ne _, ?_, ⟨?_, ?_⟩, h.ne, h.ge⟩
 ·rw [blk_set h.f i]
 ·exact Kd.R_mono (Kd.R_far (p := ⟨g8, i, none⟩) (Kd.R_types h.t.l h.f (by decide)) (fun k hk => hk.2) u) (fun k hk => hk.1)
 ·exact Kd.R_mono (Kd.R_far (p := ⟨g8, i, none⟩) (Kd.R_types h.t.h h.f (by decide)) (fun k hk => hk.2) u) (fun k hk => hk.1)
end BS
structure Lit1 (W : World) (g : Nat) (x : Int) (vL vH : Value) : Prop where
 b : W.heap[g]? = some (.cells #[.int .i64 x] 3 (0, 0))
 l : some g ≠ vL.ownBlock
 h : some g ≠ vH.ownBlock
theorem Lit1.reads {W : World} {g : Nat} {x : Int} {vL vH : Value} (h : Lit1 W g x vL vH) : Kd.C (Kd.int .i64) W (some ⟨g, 0, none⟩) 1 [x] := C_of_cells (b := [x]) h.b (by simp)
theorem Lit1.step {W W1 : World} {g : Nat} {x : Int} {vL vH : Value} (h : Lit1 W g x vL vH) (hb : Below W.heap.size W W1) : Lit1 W1 g x vL vH := ⟨blk_below h.b hb, h.l, h.h⟩
theorem Lit1.growL {W W1 : World} {g : Nat} {x : Int} {vL vH v1 : Value} (h : Lit1 W g x vL vH) (hg : W.grownBy W1 vL.ownBlock) (hat : v1.ownBlock = vL.ownBlock ∨ ∃ b, v1.ownBlock = some b ∧ W.heap.size ≤ b) : Lit1 W1 g x v1 vH :=
 ⟨(hg.block g (blk_lt h.b) h.l).trans h.b, by
  rcases hat with e | ⟨b, e, hb⟩
  ·rw [e]; exact h.l
  ·rw [e]; intro q; have := Option.some.inj q; have := blk_lt h.b; omega, h.h⟩
theorem Lit1.make {w W : World} {g2 g4 g8 : Nat} {pv z4 fv : Array Value} {vL vH : Value} {lo hi : List Int} (h : BS w W g2 g4 g8 pv z4 fv vL vH lo hi) (x : Int) : Lit1 (W.alloc (.cells #[.int .i64 x] 3)) W.heap.size x vL vH :=
 ⟨blk_new _ _, Kd.fresh' (Kd.R_lt h.t.l) _ (Nat.le_refl _), Kd.fresh' (Kd.R_lt h.t.h) _ (Nat.le_refl _)⟩
def firstTo (C v : List Int) (x : Int) (n : Nat) : List Int := (List.range n).map (fun i => if 0 < fn C i then volt C v i else x)
theorem firstTo_len (C v : List Int) (x : Int) (n : Nat) : (firstTo C v x n).length = n := by simp [firstTo]
theorem firstTo_succ (C v : List Int) (x : Int) (n : Nat) : firstTo C v x (n + 1) = firstTo C v x n ++ [if 0 < fn C n then volt C v n else x] := by
 unfold firstTo
 rw [List.range_succ, List.map_append, List.map_singleton]
end Go.Proofs.Ytndkkjpgnmahbaa.Print
end

section
namespace Go.Proofs.Ytndkkjpgnmahbaa.Print
open Go.RowKit YtndkkjpgnmahbaaW.PrintWords YtndkkjpgnmahbaaW.PrintLast YtndkkjpgnmahbaaW.PrintMore Ytndkkjpgnmahbaa.H Proofs.Field
def rbF.T6 : Bool × List (List Nat × List Nat) := (true, [([], []), ([], []), ([], []), ([2], [2]), ([], []), ([3, 4], [3, 4]), ([5], [5]), ([6], [6]), ([1, 7], [1, 7]), ([8], [8]), ([0, 9], [0, 9]), ([], []), ([], []), ([], []), ([13], [13]), ([], []), ([14, 15], [14, 15]), ([16], [16]), ([17], [17]), ([12, 18], [12, 18]), ([19], [19]), ([11, 20], [11, 20]), ([10, 0, 1, 2, 3, 4, 5, 6, 7, 8, 9, 10], [0, 10]), ([21, 22, 0, 1, 2, 3, 4, 5, 6, 7, 8, 9, 10, 11, 12, 13, 14, 15, 16, 17, 18, 19, 20, 21, 22], [11, 21])])
def rbF.B6 : List Nat := [0, 0, 0, 4, 0, 28, 60, 124, 254, 510, 1023, 0, 0, 0, 8192, 0, 57344, 122880, 253952, 520192, 1044480, 2095104, 2047, 8388607]
theorem rbF.tab6 : rtab .any (opsOf Try.f74 6) = rbF.T6 := by kernel_rfl
theorem rbF.bits6 : waitsOk rbF.T6.2 rbF.B6 = true := by kernel_rfl
def rbF.T13 : Bool × List (List Nat × List Nat) := (true, [([], []), ([], []), ([1], [1]), ([], []), ([2, 3], [2, 3]), ([4], [4]), ([5], [5]), ([0, 6], [0, 6]), ([7], [7]), ([], []), ([], []), ([10], [10]), ([], []), ([11, 12], [11, 12]), ([13], [13]), ([14], [14]), ([9, 15], [9, 15]), ([16], [16]), ([8, 0, 1, 2, 3, 4, 5, 6, 7, 8], [8]), ([17, 18, 0, 1, 2, 3, 4, 5, 6, 7, 8, 9, 10, 11, 12, 13, 14, 15, 16, 17, 18], [17])])
def rbF.B13 : List Nat := [0, 0, 2, 0, 14, 30, 62, 127, 255, 0, 0, 1024, 0, 7168, 15360, 31744, 65024, 130560, 511, 524287]
theorem rbF.tab13 : rtab .any (opsOf Try.f74 13) = rbF.T13 := by kernel_rfl
theorem rbF.bits13 : waitsOk rbF.T13.2 rbF.B13 = true := by kernel_rfl
def rbF.T14 : Bool × List (List Nat × List Nat) := (true, [([], []), ([0], [0]), ([], []), ([2], [2]), ([1, 3], [1, 3]), ([], []), ([5], [5]), ([], []), ([7], [7]), ([6, 8, 4], [6, 8]), ([0, 1, 2, 3, 4, 5, 6], []), ([10, 4, 9, 0, 1, 2, 3, 4, 5, 6], [4, 10]), ([0, 1, 2, 3, 4, 5, 6, 7, 8, 9, 10, 11], []), ([12, 9, 11, 0, 1, 2, 3, 4, 5, 6, 7, 8, 9, 10, 11], [9, 12])])
def rbF.B14 : List Nat := [0, 1, 0, 4, 15, 0, 32, 0, 128, 511, 127, 2047, 4095, 8191]
theorem rbF.tab14 : rtab .any (opsOf Try.f74 14) = rbF.T14 := by kernel_rfl
theorem rbF.bits14 : waitsOk rbF.T14.2 rbF.B14 = true := by kernel_rfl
theorem results_row {P : Program} {fn : Func} {p : Tmp} {ty : TypeId} (h : fn.results = #[.cell p ty]) (tmps : Array Value) (w : World) (g : Nat) (t : TypeId) (cs : Array Value) (fr : Nat × Nat) (d : TypeDesc)
  (hp : tmps.getD p undef = .pointer (some ⟨g, 0, none⟩)) (hg : w.heap[g]? = some (.cells cs t fr)) (hu : P.underlying ty = some d) (hd : (match d with | .struct _ | .array _ _ => true | _ => false) = true) (hi : (P.info? ty).map (·.size) = some cs.size) :
  (results fn tmps).run P w = .ok (.agg cs) w := by
 have e : tmps[p]?.getD undef = .pointer (some ⟨g, 0, none⟩) := by simpa using hp
 simp [results, h, e, asAddr, run_loadVar_row w g t ty cs fr d hg hu hd hi]
theorem BS.row {w W : World} {g2 g4 g8 : Nat} {pv z4 fv : Array Value} {vL vH : Value} {lo hi : List Int} (h : BS w W g2 g4 g8 pv z4 fv vL vH lo hi) (cs : Array Value) : Two (W.setRow g4 cs) w.heap.size vL vH lo hi ∧ Below w.heap.size w (W.setRow g4 cs) := by
 refine ⟨⟨?_, ?_⟩, ?_⟩
 ·exact Kd.R_mono (Kd.R_step (Kd.R_types h.t.l h.o (by decide)) (fun k hk _ => setRow_other _ _ _ _ hk.2)) (fun k hk => hk.1)
 ·exact Kd.R_mono (Kd.R_step (Kd.R_types h.t.h h.o (by decide)) (fun k hk _ => setRow_other _ _ _ _ hk.2)) (fun k hk => hk.1)
 ·exact ⟨h.below.os, h.below.tape, h.below.output, by rw [size_setRow]; exact h.below.size, fun i hi => by rw [setRow_other _ g4 i _ (by have := h.ge.2; omega)]; exact h.below.block i hi⟩
theorem refbegin_calls (W H : Int) (R : Bool) (A : Option Addr) (c : Nat) (C : List Int) (A1 : Option Addr) (c1 : Nat) (v : List Int) (w : World) (hr : Kd.C (Kd.int .i64) w A C.length C) (hr1 : Kd.C (Kd.int .i64) w A1 v.length v) (h256 : C.length ≤ 256) (hel : ∀ i, i < C.length → 0 ≤ fn C i ∧ fn C i ≤ 6 ∧ fn C i ≤ v.length) :
  Calls Try.prog 74 #[.agg (planV W H R A C.length c), .slice A1 v.length c1] w fun e w' => ∃ vL vH : Value, e = .returned (.agg #[vL, vH, .int .i64 0, .bool false]) ∧ Two w' w.heap.size vL vH (firstTo C v (leastTo C v C.length) C.length) (firstTo C v (mostTo C v C.length) C.length) ∧ Below w.heap.size w w' := by
 have HR := Aside0.mk hr
 have HR1 := Aside0.mk hr1
 have HSM := Aside0.mk h256
 have HEL := Aside0.mk hel
 have HM := Aside0.mk (Mem.start w)
 have hu24 := Try.underlying24
 have hu22 := Try.underlying22
 have hu33 := Try.underlying33
 clear hr hr1 h256 hel
 go_enter Try.func74, Try.ntmps74
 go_wp2_with (first
  | ((with_reducible refine gate_dst (N := 2) rfl ?_); refine ev_box HM.out rfl 24 (.tmp 0) rfl (cs := planV W H R A C.length c) rfl ?_; intro g2 wa hm1 hq1; clear hq1; have HM1 := Aside0.mk hm1; clear hm1 HM)
  | ((with_reducible refine gate_dst (N := 4) rfl ?_); refine ev_new HM1.out rfl 33 rfl info33 ?_; intro g4 wb hm1 hq1; clear hq1; have HM2 := Aside0.mk hm1; clear hm1 HM1))
 go_loopg [5, 6, 7] C.length (fun k v5 v6 v7 w' => ∃ (i : Nat), v5 = .int .i64 (leastTo C v i) ∧ v6 = .int .i64 (mostTo C v i) ∧ v7 = .int .i64 (i : Int) ∧ Aside0 (i + k = C.length) ∧ Aside0 (Mem w w' [(g4, #[.slice none 0 0, .slice none 0 0, .int .i64 0, .bool false], 33), (g2, planV W H R A C.length c, 24)]))
 case atStart => exact ⟨0, rfl, rfl, by go_num, ⟨by omega⟩, HM2⟩
 case round =>
  clear HM2
  obtain ⟨i, rfl, rfl, rfl, HK, HM⟩ := hrel
  have q3 : wr.cell? ⟨g2, 3, none⟩ = some (.slice A C.length c) := (blk_cell HM.out.second 3).trans rfl
  by_cases hci : i < C.length
  ·have HI := Aside0.mk hci
   have HKN : Aside0 (i + 1 + (C.length - (i + 1)) = C.length) := ⟨by omega⟩
   obtain ⟨ad, ead, x0⟩ := at_row (Kd.C_below HR.out HM.out.below) i hci
   subst ead
   have hel := HEL.out i hci
   have t1 : decide ((i : Int) < (C.length : Int)) = true := by simp; omega
   have t2 : decide (i < C.length) = true := by simp; omega
   have t3 : wrap64 ((i : Int) + 1) = ((i + 1 : Nat) : Int) := by rw [IntWalk.wrap64_in _ (by have := HSM.out; omega)]; omega
   have HST : Aside0 (leastTo C v (i + 1) = (if 0 < fn C i then min (leastTo C v i) (volt C v i) else leastTo C v i) ∧ mostTo C v (i + 1) = (if 0 < fn C i then max (mostTo C v i) (volt C v i) else mostTo C v i)) := ⟨⟨rfl, rfl⟩⟩
   obtain ⟨X, hX⟩ : ∃ X, fn C i = X := ⟨_, rfl⟩
   rw [hX] at x0 hel HST
   have hvt : volt C v i = fn v (X.toNat - 1) := by unfold volt; rw [hX]
   by_cases q : 0 < X
   ·have hg : decide (X > 0) = true := decide_eq_true q
    rw [if_pos q, if_pos q, hvt] at HST
    obtain ⟨m, rfl⟩ : ∃ m : Nat, X = (m : Int) + 1 := ⟨(X - 1).toNat, by omega⟩
    have em : ((m : Int) + 1).toNat - 1 = m := by omega
    rw [em] at HST
    obtain ⟨adv, ev, xv⟩ := at_row (Kd.C_below HR1.out HM.out.below) m (by omega)
    subst ev
    have k1 : (m : Int) < (v.length : Int) := by omega
    have k2 : m < v.length := by omega
    have n1 : IntKind.i64.wrap ((m : Int) + 1 - 1) = (m : Int) := by rw [IntWalk.i64_in _ (by omega)]; omega
    have n2 : wrap64 (m : Int) = (m : Int) := IntWalk.wrap64_in _ (by omega)
    obtain ⟨y, hy⟩ : ∃ y, fn v m = y := ⟨_, rfl⟩
    rw [hy] at xv HST
    have g1 : (if y < leastTo C v i then y else leastTo C v i) = leastTo C v (i + 1) := by rw [HST.out.1]; split <;> omega
    have g3 : (if mostTo C v i < y then y else mostTo C v i) = mostTo C v (i + 1) := by rw [HST.out.2]; split <;> omega
    clear q hel hvt hy hX em HST
    obtain ⟨l1, hl1⟩ : ∃ l1, leastTo C v (i + 1) = l1 := ⟨_, rfl⟩
    obtain ⟨m1, hm1⟩ : ∃ m1, mostTo C v (i + 1) = m1 := ⟨_, rfl⟩
    rw [hl1] at g1
    rw [hm1] at g3
    have HLM := Aside0.mk (And.intro hl1 hm1)
    clear hl1 hm1
    go_upto_region 6 with fail
    go_quiet (fail)
    have HBd : Aside0 (Below wr.heap.size wr (wr.drewN nq)) := ⟨pw_below_drewN (Below.refl _ _) _⟩
    generalize wr.drewN nq = wd at HBd ⊢
    go_wp2_with fail
    go_roundg (C.length - (i + 1))
    case measure =>
     clear hci t1 t2 t3
     have := HK.out
     have := HI.out
     omega
    case rel => exact ⟨i + 1, congrArg (Value.int .i64) HLM.out.1.symm, congrArg (Value.int .i64) HLM.out.2.symm, by first | exact congrArg _ t3 | go_num, HKN, ⟨HM.out.step HBd.out⟩⟩
   ·have hg : decide (X > 0) = false := decide_eq_false q
    rw [if_neg q, if_neg q] at HST
    clear q hel hvt hX
    go_wp2_with fail
    go_roundg (C.length - (i + 1))
    case measure =>
     clear hci t1 t2 t3
     have := HK.out
     have := HI.out
     omega
    case rel => exact ⟨i + 1, congrArg (Value.int .i64) HST.out.1.symm, congrArg (Value.int .i64) HST.out.2.symm, by first | exact congrArg _ t3 | go_num, HKN, HM⟩
  ·obtain rfl : i = C.length := by have := HK.out; omega
   obtain ⟨wo, rfl⟩ : ∃ wo : World, wo = wr := ⟨_, rfl⟩
   have t1 : decide ((C.length : Int) < (C.length : Int)) = false := by simp
   have t2 : decide (C.length < C.length) = false := by simp
   obtain ⟨L0, hL0⟩ : ∃ x, leastTo C v C.length = x := ⟨_, rfl⟩
   obtain ⟨M0, hM0⟩ : ∃ x, mostTo C v C.length = x := ⟨_, rfl⟩
   rw [hL0, hM0]
   have HLM0 := Aside0.mk (And.intro hL0 hM0)
   clear hL0 hM0
   go_wp2_with (first
    | ((with_reducible refine gate_dst (N := 8) rfl ?_); refine ev_new HM.out rfl 33 rfl info33 ?_; intro g8 wc hm1 hq1; clear hq1; have HM3 := Aside0.mk hm1; clear hm1 HM))
   have HB0 : Aside0 (BS w wc g2 g4 g8 (planV W H R A C.length c) #[.slice none 0 0, .slice none 0 0, .int .i64 0, .bool false] #[.slice none 0 0, .slice none 0 0, .int .i64 0, .bool false] (.slice none 0 0) (.slice none 0 0) (firstTo C v L0 0) (firstTo C v M0 0)) := ⟨⟨HM3.out.below, HM3.out.third, HM3.out.second, HM3.out.head, ⟨Kd.R_nil _ _ _ _ _, Kd.R_nil _ _ _ _ _⟩, (HM3.out.ne _ List.mem_cons_self).symm, ⟨HM3.out.geh, HM3.out.drop.geh⟩⟩⟩
   clear HM3
   go_loopg [9] C.length (fun k v9 w' => ∃ (i : Nat) (vL vH : Value), v9 = .int .i64 (i : Int) ∧ Aside0 (i + k = C.length) ∧ Aside0 (BS w w' g2 g4 g8 (planV W H R A C.length c) #[.slice none 0 0, .slice none 0 0, .int .i64 0, .bool false] #[vL, vH, .int .i64 0, .bool false] vL vH (firstTo C v L0 i) (firstTo C v M0 i)))
   case atStart => exact ⟨0, _, _, by go_num, ⟨by omega⟩, HB0⟩
   case round =>
    clear HB0 HK q3 t1 t2 hci
    obtain ⟨i, vL, vH, rfl, HK, HS⟩ := hrel
    have q3 : wr.cell? ⟨g2, 3, none⟩ = some (.slice A C.length c) := (blk_cell HS.out.p 3).trans rfl
    by_cases hci : i < C.length
    ·have HI := Aside0.mk hci
     have HKN : Aside0 (i + 1 + (C.length - (i + 1)) = C.length) := ⟨by omega⟩
     obtain ⟨ad, ead, x0⟩ := at_row (Kd.C_below HR.out HS.out.below) i hci
     subst ead
     have hel := HEL.out i hci
     have t1 : decide ((i : Int) < (C.length : Int)) = true := by simp; omega
     have t2 : decide (i < C.length) = true := by simp; omega
     have t3 : wrap64 ((i : Int) + 1) = ((i + 1 : Nat) : Int) := by rw [IntWalk.wrap64_in _ (by have := HSM.out; omega)]; omega
     have HFS : Aside0 (firstTo C v L0 (i + 1) = firstTo C v L0 i ++ [if 0 < fn C i then volt C v i else L0] ∧ firstTo C v M0 (i + 1) = firstTo C v M0 i ++ [if 0 < fn C i then volt C v i else M0]) := ⟨⟨firstTo_succ _ _ _ _, firstTo_succ _ _ _ _⟩⟩
     have HLN : Aside0 ((firstTo C v L0 i).length = i ∧ (firstTo C v M0 i).length = i) := ⟨⟨firstTo_len _ _ _ _, firstTo_len _ _ _ _⟩⟩
     obtain ⟨X, hX⟩ : ∃ X, fn C i = X := ⟨_, rfl⟩
     rw [hX] at x0 hel HFS
     have hvt : volt C v i = fn v (X.toNat - 1) := by unfold volt; rw [hX]
     go_upto_if 61 with fail
     go_cut [10, 11] (fun v10 v11 wc => ∃ (zA zB : Int), v10 = .int .i64 zA ∧ v11 = .int .i64 zB ∧ Aside0 (Below wr.heap.size wr wc) ∧ Aside0 (firstTo C v L0 (i + 1) = firstTo C v L0 i ++ [zA] ∧ firstTo C v M0 (i + 1) = firstTo C v M0 i ++ [zB]))
     case first =>
      by_cases q : 0 < X
      ·have hg : decide (X > 0) = true := decide_eq_true q
       rw [if_pos q, if_pos q, hvt] at HFS
       obtain ⟨m, rfl⟩ : ∃ m : Nat, X = (m : Int) + 1 := ⟨(X - 1).toNat, by omega⟩
       have em : ((m : Int) + 1).toNat - 1 = m := by omega
       rw [em] at HFS
       obtain ⟨adv, ev, xv⟩ := at_row (Kd.C_below HR1.out HS.out.below) m (by omega)
       subst ev
       have k1 : (m : Int) < (v.length : Int) := by omega
       have k2 : m < v.length := by omega
       have n1 : IntKind.i64.wrap ((m : Int) + 1 - 1) = (m : Int) := by rw [IntWalk.i64_in _ (by omega)]; omega
       have n2 : wrap64 (m : Int) = (m : Int) := IntWalk.wrap64_in _ (by omega)
       obtain ⟨y, hy⟩ : ∃ y, fn v m = y := ⟨_, rfl⟩
       rw [hy] at xv HFS
       clear q hel hvt hX em hy
       go_upto_region 13 with fail
       go_quiet (fail)
       (try go_wp2_with fail)
       go_meet
       case rel => exact ⟨_, _, rfl, rfl, ⟨pw_below_drewN (Below.refl _ _) _⟩, HFS⟩
      ·have hg : decide (X > 0) = false := decide_eq_false q
       have hg2 := decide_eq_false q
       rw [if_neg q, if_neg q] at HFS
       have q9 : X ≤ 0 := by omega
       have hg3 := decide_eq_true q9
       clear hel hvt hX
       go_wp2_with fail
       go_meet
       case rel => exact ⟨_, _, rfl, rfl, ⟨Below.refl _ _⟩, HFS⟩
     case rest =>
      clear HFS hel hvt hX q3 x0
      obtain ⟨zA, zB, rfl, rfl, HBc, HFS⟩ := hcut
      obtain ⟨we, rfl⟩ : ∃ we : World, we = wc := ⟨_, rfl⟩
      have HC := Aside0.mk (HS.out.step HBc.out)
      clear HS
      generalize firstTo C v L0 i = lo at HC HFS HLN
      generalize firstTo C v M0 i = hi at HC HFS HLN
      go_upto_region 14 with fail
      have u0 : we.cell? ⟨g8, 0, none⟩ = some vL := (blk_cell HC.out.f 0).trans rfl
      have u1 : we.cell? ⟨g8, 1, none⟩ = some vH := (blk_cell HC.out.f 1).trans rfl
      have HBd := Aside0.mk (below_drew1 (Below.refl we.heap.size we))
      refine start_ (n := 14) (S := fun w' => w'.cell? ⟨g8, 0, none⟩ = some (vL) ∧ w'.cell? ⟨g8, 1, none⟩ = some (vH)) (ds := [11, 13]) #[false, false, false, false, false, false, false, false, false, false, false, false, false, false] (by kernel_rfl) rfl rfl ⟨u0, u1⟩ (fun hHeld => ?_); refine with_tabW rbF.tab14 rbF.bits14 (fun HT_ HW_ => ?_)
      generalize we.drew = wd at HBd hHeld  ⊢
      refine pu_ 0 80 (bS 14 1) HT_ ?_
      refine pu_ 2 82 (bS 14 5) HT_ ?_
      refine pu_ 5 85 (bS 14 37) HT_ ?_
      refine pu_ 7 87 (bS 14 165) HT_ ?_
      refine ta_ 1 81 (bS 14 167) HT_ HW_ hHeld ?_
      refine ta_ 6 86 (bS 14 231) HT_ HW_ hHeld ?_
      have HC_wd := Aside0.mk (HC.out.step HBd.out)
      clear HC HBd u0 u1
      refine wpAnyLast_ready (rs := [3, 8]) (by kernel_rfl) (by simp) ?_
      refine AllReadyL.cons (i := 3) rfl (by decide) (fun K hK => ?_) (AllReadyL.cons (i := 8) rfl (by decide) (fun K hK => ?_) AllReadyL.nil)
      ·go_simp
       have HLA_wda := Aside0.mk (Lit1.make HC_wd.out zA)
       have HC_wda := Aside0.mk (HC_wd.out.step (below_alloc (Below.refl _ _) (.cells #[.int .i64 zA] 3)))
       generalize wd.alloc _ = wda at HC_wda HLA_wda  ⊢
       generalize wd.heap.size = ga at HLA_wda ⊢
       clear hHeld HC_wd 
       refine hK.out _ _ ⟨(blk_cell HC_wda.out.f 0).trans rfl, (blk_cell HC_wda.out.f 1).trans rfl⟩ (fun hHeld => ?_)
       clear hK K
       refine wpAnyLast_ready (rs := [4, 8]) (by kernel_rfl) (by simp) ?_
       refine AllReadyL.cons (i := 4) rfl (by decide) (fun K hK => ?_) (AllReadyL.cons (i := 8) rfl (by decide) (fun K hK => ?_) AllReadyL.nil)
       ·refine Kd.R_append_rows_step (Kd.int .i64) (Rr := (Kd.int .i64).K wda) (w0 := w) w.heap.size (by rfl) (.tmp 81) (.tmp 83) 22 3 (.int .i64 0) 8 rfl Try.underlying22 info3 rfl (by decide) (by omega) vL lo [zA] (some ⟨ga, 0, none⟩) 1 1 (fun k => some k ≠ vH.ownBlock) (fun _ => False) rfl rfl HC_wda.out.t.l HLA_wda.out.reads (fun x cs h => h) (fun _ h => h.elim) (Kd.fresh' (Kd.R_lt HC_wda.out.t.h)) HC_wda.out.below HC_wda.out.below.size (by have := HLN.out; have := HI.out; have := HSM.out; omega) ?_
        intro vL2 wdab hR hBx hg hat
        obtain ⟨AL, cL, eL⟩ := Kd.R_slice hR
        obtain ⟨nl, hnl⟩ : ∃ n, (lo ++ [zA]).length = n := ⟨_, rfl⟩
        rw [hnl] at eL
        subst eL
        clear hnl
        have HC_wdab := Aside0.mk (HC_wda.out.growL hR hBx hg hat)
        clear hR hBx hg hat hHeld HC_wda HLA_wda 
        refine hK.out _ _ ⟨(blk_cell HC_wdab.out.f 0).trans rfl, (blk_cell HC_wdab.out.f 1).trans rfl⟩ (fun hHeld => ?_)
        clear hK K
        refine nm_ ?_
        refine pv_ 10 90 (bS 14 1279) ?_
        refine on_ 8 88 (bS 14 1535) (fun K hK => ?_)
        go_simp
        have HLB_wdabc := Aside0.mk (Lit1.make HC_wdab.out zB)
        have HC_wdabc := Aside0.mk (HC_wdab.out.step (below_alloc (Below.refl _ _) (.cells #[.int .i64 zB] 3)))
        generalize wdab.alloc _ = wdabc at HC_wdabc HLB_wdabc  ⊢
        generalize wdab.heap.size = gb at HLB_wdabc ⊢
        clear hHeld HC_wdab 
        refine hK.out _ _ ⟨(blk_cell HC_wdabc.out.f 0).trans rfl, (blk_cell HC_wdabc.out.f 1).trans rfl⟩ (fun hHeld => ?_)
        clear hK K
        refine on_ 9 89 (bS 14 2047) (fun K hK => ?_)
        refine Kd.R_append_rows_step (Kd.int .i64) (Rr := (Kd.int .i64).K wdabc) (w0 := w) w.heap.size (by rfl) (.tmp 86) (.tmp 88) 22 3 (.int .i64 0) 8 rfl Try.underlying22 info3 rfl (by decide) (by omega) vH hi [zB] (some ⟨gb, 0, none⟩) 1 1 (fun k => some k ≠ (Value.slice AL nl cL).ownBlock) (fun _ => False) rfl rfl HC_wdabc.out.t.h HLB_wdabc.out.reads (fun x cs h => h) (fun _ h => h.elim) (Kd.fresh' (Kd.R_lt HC_wdabc.out.t.l)) HC_wdabc.out.below HC_wdabc.out.below.size (by have := HLN.out; have := HI.out; have := HSM.out; omega) ?_
        intro vH2 wdabcd hR hBx hg hat
        obtain ⟨AH, cH, eH⟩ := Kd.R_slice hR
        obtain ⟨nh, hnh⟩ : ∃ n, (hi ++ [zB]).length = n := ⟨_, rfl⟩
        rw [hnh] at eH
        subst eH
        clear hnh
        have HC_wdabcd := Aside0.mk (HC_wdabc.out.growH hR hBx hg hat)
        clear hR hBx hg hat hHeld HC_wdabc HLB_wdabc
        refine hK.out _ _ ⟨(blk_cell HC_wdabcd.out.f 0).trans rfl, (blk_cell HC_wdabcd.out.f 1).trans rfl⟩ (fun hHeld => ?_)
        clear hK K
        refine nm_ ?_
        have r0 : wdabcd.cell? ⟨g8, 0, none⟩ = some vL := (blk_cell HC_wdabcd.out.f 0).trans rfl
        have r1 : wdabcd.cell? ⟨g8, 1, none⟩ = some vH := (blk_cell HC_wdabcd.out.f 1).trans rfl
        have f0 := blk_frozen HC_wdabcd.out.f 0
        have f1 := blk_frozen HC_wdabcd.out.f 1
        refine la_ 11 (bS 14 4095) (fun K hK => ?_)
        go_simp
        refine hK.out _ _ ?_
        clear hK K hHeld
        refine pv_ 12 91 (bS 14 8191) ?_
        refine la_ 13 (bS 14 16383) (fun K hK => ?_)
        go_simp
        refine hK.out _ _ ?_
        clear hK K
        refine done_ (by kernel_rfl) ?_
        clear HT_ HW_
        go_wp2_with fail
        go_roundg (C.length - (i + 1))
        case measure =>
         clear hci t1 t2 t3
         have := HK.out
         have := HI.out
         omega
        case rel => exact ⟨i + 1, .slice AL nl cL, .slice AH nh cH, by first | exact congrArg _ t3 | go_num, HKN, ⟨by rw [HFS.out.1, HFS.out.2]; exact (HC_wdabcd.out.put 0 (.slice AL nl cL) (fv' := #[.slice AL nl cL, vH, .int .i64 0, .bool false]) rfl).put 1 (.slice AH nh cH) (fv' := #[.slice AL nl cL, .slice AH nh cH, .int .i64 0, .bool false]) rfl⟩⟩
       ·go_simp
        have HLB_wdab := Aside0.mk (Lit1.make HC_wda.out zB)
        have HC_wdab := Aside0.mk (HC_wda.out.step (below_alloc (Below.refl _ _) (.cells #[.int .i64 zB] 3)))
        have HLA_wdab := Aside0.mk (HLA_wda.out.step (below_alloc (Below.refl _ _) (.cells #[.int .i64 zB] 3)))
        generalize wda.alloc _ = wdab at HC_wdab HLB_wdab HLA_wdab ⊢
        generalize wda.heap.size = gb at HLB_wdab ⊢
        clear hHeld HC_wda HLA_wda
        refine hK.out _ _ ⟨(blk_cell HC_wdab.out.f 0).trans rfl, (blk_cell HC_wdab.out.f 1).trans rfl⟩ (fun hHeld => ?_)
        clear hK K
        refine on_ 4 84 (bS 14 511) (fun K hK => ?_)
        refine Kd.R_append_rows_step (Kd.int .i64) (Rr := (Kd.int .i64).K wdab) (w0 := w) w.heap.size (by rfl) (.tmp 81) (.tmp 83) 22 3 (.int .i64 0) 8 rfl Try.underlying22 info3 rfl (by decide) (by omega) vL lo [zA] (some ⟨ga, 0, none⟩) 1 1 (fun k => some k ≠ vH.ownBlock) (fun _ => False) rfl rfl HC_wdab.out.t.l HLA_wdab.out.reads (fun x cs h => h) (fun _ h => h.elim) (Kd.fresh' (Kd.R_lt HC_wdab.out.t.h)) HC_wdab.out.below HC_wdab.out.below.size (by have := HLN.out; have := HI.out; have := HSM.out; omega) ?_
        intro vL2 wdabc hR hBx hg hat
        obtain ⟨AL, cL, eL⟩ := Kd.R_slice hR
        obtain ⟨nl, hnl⟩ : ∃ n, (lo ++ [zA]).length = n := ⟨_, rfl⟩
        rw [hnl] at eL
        subst eL
        clear hnl
        have HC_wdabc := Aside0.mk (HC_wdab.out.growL hR hBx hg hat)
        have HLB_wdabc := Aside0.mk (HLB_wdab.out.growL hg hat)
        clear hR hBx hg hat hHeld HC_wdab HLA_wdab HLB_wdab
        refine hK.out _ _ ⟨(blk_cell HC_wdabc.out.f 0).trans rfl, (blk_cell HC_wdabc.out.f 1).trans rfl⟩ (fun hHeld => ?_)
        clear hK K
        refine nm_ ?_
        refine pv_ 10 90 (bS 14 1535) ?_
        refine on_ 9 89 (bS 14 2047) (fun K hK => ?_)
        refine Kd.R_append_rows_step (Kd.int .i64) (Rr := (Kd.int .i64).K wdabc) (w0 := w) w.heap.size (by rfl) (.tmp 86) (.tmp 88) 22 3 (.int .i64 0) 8 rfl Try.underlying22 info3 rfl (by decide) (by omega) vH hi [zB] (some ⟨gb, 0, none⟩) 1 1 (fun k => some k ≠ (Value.slice AL nl cL).ownBlock) (fun _ => False) rfl rfl HC_wdabc.out.t.h HLB_wdabc.out.reads (fun x cs h => h) (fun _ h => h.elim) (Kd.fresh' (Kd.R_lt HC_wdabc.out.t.l)) HC_wdabc.out.below HC_wdabc.out.below.size (by have := HLN.out; have := HI.out; have := HSM.out; omega) ?_
        intro vH2 wdabcd hR hBx hg hat
        obtain ⟨AH, cH, eH⟩ := Kd.R_slice hR
        obtain ⟨nh, hnh⟩ : ∃ n, (hi ++ [zB]).length = n := ⟨_, rfl⟩
        rw [hnh] at eH
        subst eH
        clear hnh
        have HC_wdabcd := Aside0.mk (HC_wdabc.out.growH hR hBx hg hat)
        clear hR hBx hg hat hHeld HC_wdabc HLB_wdabc
        refine hK.out _ _ ⟨(blk_cell HC_wdabcd.out.f 0).trans rfl, (blk_cell HC_wdabcd.out.f 1).trans rfl⟩ (fun hHeld => ?_)
        clear hK K
        refine nm_ ?_
        have r0 : wdabcd.cell? ⟨g8, 0, none⟩ = some vL := (blk_cell HC_wdabcd.out.f 0).trans rfl
        have r1 : wdabcd.cell? ⟨g8, 1, none⟩ = some vH := (blk_cell HC_wdabcd.out.f 1).trans rfl
        have f0 := blk_frozen HC_wdabcd.out.f 0
        have f1 := blk_frozen HC_wdabcd.out.f 1
        refine la_ 11 (bS 14 4095) (fun K hK => ?_)
        go_simp
        refine hK.out _ _ ?_
        clear hK K hHeld
        refine pv_ 12 91 (bS 14 8191) ?_
        refine la_ 13 (bS 14 16383) (fun K hK => ?_)
        go_simp
        refine hK.out _ _ ?_
        clear hK K
        refine done_ (by kernel_rfl) ?_
        clear HT_ HW_
        go_wp2_with fail
        go_roundg (C.length - (i + 1))
        case measure =>
         clear hci t1 t2 t3
         have := HK.out
         have := HI.out
         omega
        case rel => exact ⟨i + 1, .slice AL nl cL, .slice AH nh cH, by first | exact congrArg _ t3 | go_num, HKN, ⟨by rw [HFS.out.1, HFS.out.2]; exact (HC_wdabcd.out.put 0 (.slice AL nl cL) (fv' := #[.slice AL nl cL, vH, .int .i64 0, .bool false]) rfl).put 1 (.slice AH nh cH) (fv' := #[.slice AL nl cL, .slice AH nh cH, .int .i64 0, .bool false]) rfl⟩⟩
      ·go_simp
       have HLB_wda := Aside0.mk (Lit1.make HC_wd.out zB)
       have HC_wda := Aside0.mk (HC_wd.out.step (below_alloc (Below.refl _ _) (.cells #[.int .i64 zB] 3)))
       generalize wd.alloc _ = wda at HC_wda HLB_wda  ⊢
       generalize wd.heap.size = gb at HLB_wda ⊢
       clear hHeld HC_wd 
       refine hK.out _ _ ⟨(blk_cell HC_wda.out.f 0).trans rfl, (blk_cell HC_wda.out.f 1).trans rfl⟩ (fun hHeld => ?_)
       clear hK K
       refine on_ 3 83 (bS 14 495) (fun K hK => ?_)
       go_simp
       have HLA_wdab := Aside0.mk (Lit1.make HC_wda.out zA)
       have HC_wdab := Aside0.mk (HC_wda.out.step (below_alloc (Below.refl _ _) (.cells #[.int .i64 zA] 3)))
       have HLB_wdab := Aside0.mk (HLB_wda.out.step (below_alloc (Below.refl _ _) (.cells #[.int .i64 zA] 3)))
       generalize wda.alloc _ = wdab at HC_wdab HLA_wdab HLB_wdab ⊢
       generalize wda.heap.size = ga at HLA_wdab ⊢
       clear hHeld HC_wda HLB_wda
       refine hK.out _ _ ⟨(blk_cell HC_wdab.out.f 0).trans rfl, (blk_cell HC_wdab.out.f 1).trans rfl⟩ (fun hHeld => ?_)
       clear hK K
       refine on_ 4 84 (bS 14 511) (fun K hK => ?_)
       refine Kd.R_append_rows_step (Kd.int .i64) (Rr := (Kd.int .i64).K wdab) (w0 := w) w.heap.size (by rfl) (.tmp 81) (.tmp 83) 22 3 (.int .i64 0) 8 rfl Try.underlying22 info3 rfl (by decide) (by omega) vL lo [zA] (some ⟨ga, 0, none⟩) 1 1 (fun k => some k ≠ vH.ownBlock) (fun _ => False) rfl rfl HC_wdab.out.t.l HLA_wdab.out.reads (fun x cs h => h) (fun _ h => h.elim) (Kd.fresh' (Kd.R_lt HC_wdab.out.t.h)) HC_wdab.out.below HC_wdab.out.below.size (by have := HLN.out; have := HI.out; have := HSM.out; omega) ?_
       intro vL2 wdabc hR hBx hg hat
       obtain ⟨AL, cL, eL⟩ := Kd.R_slice hR
       obtain ⟨nl, hnl⟩ : ∃ n, (lo ++ [zA]).length = n := ⟨_, rfl⟩
       rw [hnl] at eL
       subst eL
       clear hnl
       have HC_wdabc := Aside0.mk (HC_wdab.out.growL hR hBx hg hat)
       have HLB_wdabc := Aside0.mk (HLB_wdab.out.growL hg hat)
       clear hR hBx hg hat hHeld HC_wdab HLA_wdab HLB_wdab
       refine hK.out _ _ ⟨(blk_cell HC_wdabc.out.f 0).trans rfl, (blk_cell HC_wdabc.out.f 1).trans rfl⟩ (fun hHeld => ?_)
       clear hK K
       refine nm_ ?_
       refine pv_ 10 90 (bS 14 1535) ?_
       refine on_ 9 89 (bS 14 2047) (fun K hK => ?_)
       refine Kd.R_append_rows_step (Kd.int .i64) (Rr := (Kd.int .i64).K wdabc) (w0 := w) w.heap.size (by rfl) (.tmp 86) (.tmp 88) 22 3 (.int .i64 0) 8 rfl Try.underlying22 info3 rfl (by decide) (by omega) vH hi [zB] (some ⟨gb, 0, none⟩) 1 1 (fun k => some k ≠ (Value.slice AL nl cL).ownBlock) (fun _ => False) rfl rfl HC_wdabc.out.t.h HLB_wdabc.out.reads (fun x cs h => h) (fun _ h => h.elim) (Kd.fresh' (Kd.R_lt HC_wdabc.out.t.l)) HC_wdabc.out.below HC_wdabc.out.below.size (by have := HLN.out; have := HI.out; have := HSM.out; omega) ?_
       intro vH2 wdabcd hR hBx hg hat
       obtain ⟨AH, cH, eH⟩ := Kd.R_slice hR
       obtain ⟨nh, hnh⟩ : ∃ n, (hi ++ [zB]).length = n := ⟨_, rfl⟩
       rw [hnh] at eH
       subst eH
       clear hnh
       have HC_wdabcd := Aside0.mk (HC_wdabc.out.growH hR hBx hg hat)
       clear hR hBx hg hat hHeld HC_wdabc HLB_wdabc
       refine hK.out _ _ ⟨(blk_cell HC_wdabcd.out.f 0).trans rfl, (blk_cell HC_wdabcd.out.f 1).trans rfl⟩ (fun hHeld => ?_)
       clear hK K
       refine nm_ ?_
       have r0 : wdabcd.cell? ⟨g8, 0, none⟩ = some vL := (blk_cell HC_wdabcd.out.f 0).trans rfl
       have r1 : wdabcd.cell? ⟨g8, 1, none⟩ = some vH := (blk_cell HC_wdabcd.out.f 1).trans rfl
       have f0 := blk_frozen HC_wdabcd.out.f 0
       have f1 := blk_frozen HC_wdabcd.out.f 1
       refine la_ 11 (bS 14 4095) (fun K hK => ?_)
       go_simp
       refine hK.out _ _ ?_
       clear hK K hHeld
       refine pv_ 12 91 (bS 14 8191) ?_
       refine la_ 13 (bS 14 16383) (fun K hK => ?_)
       go_simp
       refine hK.out _ _ ?_
       clear hK K
       refine done_ (by kernel_rfl) ?_
       clear HT_ HW_
       go_wp2_with fail
       go_roundg (C.length - (i + 1))
       case measure =>
        clear hci t1 t2 t3
        have := HK.out
        have := HI.out
        omega
       case rel => exact ⟨i + 1, .slice AL nl cL, .slice AH nh cH, by first | exact congrArg _ t3 | go_num, HKN, ⟨by rw [HFS.out.1, HFS.out.2]; exact (HC_wdabcd.out.put 0 (.slice AL nl cL) (fv' := #[.slice AL nl cL, vH, .int .i64 0, .bool false]) rfl).put 1 (.slice AH nh cH) (fv' := #[.slice AL nl cL, .slice AH nh cH, .int .i64 0, .bool false]) rfl⟩⟩
    ·obtain rfl : i = C.length := by have := HK.out; omega
     have t1 : decide ((C.length : Int) < (C.length : Int)) = false := by simp
     have t2 : decide (C.length < C.length) = false := by simp
     obtain ⟨AL, cL, eL⟩ := Kd.R_slice HS.out.t.l
     obtain ⟨AH, cH, eH⟩ := Kd.R_slice HS.out.t.h
     rw [firstTo_len] at eL eH
     subst eL eH
     go_wp2_with (first
      | ((with_reducible refine gate_dst (N := 92) rfl ?_); refine ev_load HS.out.f rfl 33 (.tmp 8) rfl rfl _ Try.underlying33 rfl size33 rfl ?_)
      | ((with_reducible refine gate_store (t := 33) (p := 4) rfl ?_); refine ev_storeB HS.out.o rfl 33 (.tmp 4) (.tmp 92) rfl rfl rfl size33 rfl rfl (by simp [Value.oneCell']) ?_))
     (try simp only [Exit.inBlock, Exit.then])
     obtain ⟨e1, e2⟩ := HLM0.out
     subst e1 e2
     exact bodyPost_ret (results_row rfl _ _ g4 33 _ (0, 0) _ rfl (setRow_heap _ _ _ _ _ _ HS.out.o) hu33 rfl (by rw [size33]; rfl)) rfl ⟨_, _, rfl, (HS.out.row _).1, (HS.out.row _).2⟩
end Go.Proofs.Ytndkkjpgnmahbaa.Print
end
