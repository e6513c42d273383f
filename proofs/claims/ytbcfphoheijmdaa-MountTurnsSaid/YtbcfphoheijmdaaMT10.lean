/- Part 10 of the texts of a claim about Ytbcfphoheijmdaa, put together by a program of this work: what the Go functions do, and that their calls do so. -/
import Derived.Test.YtbcfphoheijmdaaMT9
import Derived.Test.YtbcfphoheijmdaaMT6
section
/- MountTurns: that the Go function's call gives true. -/
namespace Go.Proofs.Ytbcfphoheijmdaa.Print
open Go.RowKit Go.Proofs.YtbcfphoheijmdaaW.PrintWords Go.Proofs.YtbcfphoheijmdaaW.PrintLast Go.Proofs.YtbcfphoheijmdaaW.PrintMore Go.Proofs.Ytbcfphoheijmdaa.H
attribute [local go_sem] max2_int min2_int max_two min_two max_three min_three max_four min_four
attribute [local go_sem ↓] Go.wp_at_zero Go.wp_at_succ
set_option linter.unusedVariables false
set_option linter.unusedSimpArgs false

theorem info72w : (Try.prog.info? 72).map (fun i => (i.zero, i.size, i.bytes)) = some (some (.agg #[.int .i64 0, .int .i64 0, .int .i64 0, .int .i64 0, .int .i64 0, .int .i64 0, .int .i64 0, .int .i64 0, .int .i64 0, .int .i64 0, .int .i64 0]), 11, 88) := by kernel_rfl
theorem size72w : (Try.prog.info? 72).map (·.size) = some 11 := by kernel_rfl
theorem mem_dice {w w2 W W1 : World} {g : Nat} {l : List (Nat × Array Value × TypeId)} (h : Mem w2 W l) (hb : w.heap.size ≤ w2.heap.size) (hg : g < w2.heap.size) (hB : Below w.heap.size w W1) (hK : KeepBut W W1 g none) : Mem w W1 l :=
  ⟨hB, fun p hp => (hK.2 p.1 (blk_lt (h.blk p hp)) (by have := h.ge p hp; omega) (by simp)).trans (h.blk p hp), fun p hp => Nat.le_trans hb (h.ge p hp), h.apart⟩
theorem R_row35 {W : World} {base g2 : Nat} {v : Value} {L : List S35} {old cs : Array Value} (h : k35.R 35 W base (fun _ => True) v L) (hb : W.heap[g2]? = some (.cells old 27 (0, 0))) : k35.R 35 (W.setRow g2 cs) base (fun _ => True) v L :=
  Kd.R_mono (Kd.R_step (Kd.R_types h hb (fun q hq => by
    have : q = 35 := e35 hq
    subst this
    decide)) (fun k hk2 _ => setRow_other _ _ _ _ hk2.2)) (fun _ hk => hk.1)
theorem Calls_len {P : Program} {f : FuncId} {A : Option Addr} {c k n : Nat} {v : Value} {w : World} {Q : Ending → World → Prop} (e : k = n) (h : Calls P f #[.slice A k c, v] w Q) : Calls P f #[.slice A n c, v] w Q := e ▸ h
theorem store_stepR {w : World} {l : List (Nat × Array Value × TypeId)} {ops : Array Oper} {o : Oper} {a : Act} {Kc : Act → World → Prop} {Q : Exit → Act → World → Prop} {W : World} {ty : TypeId} {p q : Tmp} {g : Nat} {cs old : Array Value} {t : TypeId} {n : Nat} (hw : Region.wanted o (yielded ops a.tmps) = true) (ho : o.op = .store ty (.tmp p) (.tmp q))
    (hx : a.eval (.tmp p) = .pointer (some ⟨g, 0, none⟩)) (hy : a.eval (.tmp q) = .agg cs) (hm : Mem w W ((g, old, t) :: l)) (hi : (Try.prog.info? ty).map (·.size) = some n) (hold : old.size = n) (hs : cs.size = n) (h1 : cs.all (·.oneCell') = true) (h : Kc (a.put o.dst undef) (W.setRow g cs)) :
    if Region.wanted o (yielded ops a.tmps) = true then Oper.wp Try.prog o a W Kc Q else Kc (a.put o.dst undef) W := by
  rw [if_pos hw]
  exact wp_store_row ty (.tmp p) (.tmp q) ho g cs hx hy t old hm.head (by rw [hi, hs]) (by rw [hold, hs]) h1 h
def turns.T25 : Bool × List (List Nat × List Nat) := (true, [([], []), ([0], [0]), ([1], [1]), ([], []), ([3], [3]), ([4], [4]), ([2, 5], [2, 5]), ([6], [6]), ([], []), ([8], [8]), ([9], [9]), ([], []), ([11], [11]), ([12], [12]), ([13], [13]), ([10, 14], [10, 14]), ([15], [15]), ([], []), ([], []), ([17, 7, 0, 1, 2, 3, 4, 5, 6, 7, 17, 18], [7, 17]), ([18, 16, 19, 0, 1, 2, 3, 4, 5, 6, 7, 8, 9, 10, 11, 12, 13, 14, 15, 16, 17, 18, 19], [16, 18])])
def turns.B25 : List Nat := [0, 1, 3, 0, 8, 24, 63, 127, 0, 256, 768, 0, 2048, 6144, 14336, 32512, 65280, 0, 0, 393471, 1048575]
theorem turns.tab25 : rtab .any (opsOf Try.f9 25) = turns.T25 := by kernel_rfl
theorem turns.bits25 : waitsOk turns.T25.2 turns.B25 = true := by kernel_rfl
set_option maxHeartbeats 16000000 in
set_option maxRecDepth 100000 in
theorem turns_calls (A0 : Option Addr) (c0 : Nat) (l0_ : List Int) (w : World) (hr0 : Kd.C (Kd.int .i64) w A0 l0_.length l0_) (hc0 : l0_.length ≤ c0) :
    Calls Try.prog 9 #[.slice A0 l0_.length c0] w fun e w' => e = .returned (.bool true) ∧ Below w.heap.size w w' := by
  have HR0 := Aside0.mk hr0
  clear hr0
  have HND := Aside0.mk (show thermionkit_NewDice.f l0_ = some (wordTo ((l0_.length : Int) + 1374496523) l0_) from rfl)
  generalize wordTo ((l0_.length : Int) + 1374496523) l0_ = d0 at HND
  have HAW := Aside0.mk awake_true
  have hu72 := Try.underlying72
  have hu27 := Try.underlying27
  have hu32 := Try.underlying32
  obtain ⟨m, w0, w1, p0, p1, s0, s1, f0, f1, l0, l1, d1, hwo, hm1, hp, hs, hwe⟩ := winding_fine d0
  have HWO := Aside0.mk hwo
  have hup := up_eq d1 5 (by omega) (by omega)
  generalize upV d1 5 = u at hup
  have HUP := Aside0.mk hup.1
  have hu : 0 ≤ u ∧ u ≤ 4 := by omega
  have hmq : 0 ≤ ((m : Int) - 1) * (200 + u) ∧ ((m : Int) - 1) * (200 + u) ≤ 2040 := by
    refine ⟨Int.mul_nonneg (by omega) (by omega), ?_⟩
    have y1 : ((m : Int) - 1) * (200 + u) ≤ ((m : Int) - 1) * 204 := Int.mul_le_mul_of_nonneg_left (by omega) (by omega)
    omega
  obtain ⟨ln, hln⟩ : ∃ ln, ln = ((m : Int) - 1) * (200 + u) + 30 := ⟨_, rfl⟩
  obtain ⟨Y, hnear, hYL, hYG⟩ := exact_near hm1 hu hln (by omega)
  have hex : mount_Wind.f (m : Int) 30 30 200 200 (5000 * u) (5000 * u) 7 7 ln ln = some (2 * (m : Int) + 1, windLinks (exactOf m u ln), 0) := by
    show some (windRes (exactOf m u ln)) = _
    unfold windRes
    rw [if_pos (exact_ok (by omega) hu (by omega))]
    rfl
  generalize windLinks (exactOf m u ln) = LX at hnear hex
  have HEX := Aside0.mk hex
  have HNE := Aside0.mk (fun (c : Nat) (A : Option Addr) (W : World) (hW : Kd.C k35 W A LX.length LX) (hc : LX.length ≤ c) => mount_Near.calls (2 * (m : Int) + 1) A c LX 0 Y 0 W hW hc hnear)
  have HYL := Aside0.mk hYL
  have HYG := Aside0.mk hYG
  have hval := wind_valid hwe
  have hw2 : mount_Wind.f (m : Int) w0 w1 p0 p1 s0 s1 f0 f1 l0 l1 = some (2 * (m : Int) + 1, windLinks ⟨m, ⟨w0, w1⟩, ⟨p0, p1⟩, ⟨s0, s1⟩, ⟨f0, f1⟩, ⟨l0, l1⟩⟩, 0) := by
    show some (windRes ⟨m, ⟨w0, w1⟩, ⟨p0, p1⟩, ⟨s0, s1⟩, ⟨f0, f1⟩, ⟨l0, l1⟩⟩) = _
    unfold windRes
    rw [if_pos hwe]
  have hval : chainErr ((2 * m + 1 : Nat) : Int) (windLinks ⟨m, ⟨w0, w1⟩, ⟨p0, p1⟩, ⟨s0, s1⟩, ⟨f0, f1⟩, ⟨l0, l1⟩⟩) = 0 := hval
  have hover := fun T (h : Tog (2 * m + 1) (windLinks ⟨m, ⟨w0, w1⟩, ⟨p0, p1⟩, ⟨s0, s1⟩, ⟨f0, f1⟩, ⟨l0, l1⟩⟩) T) => turns_over hm1 (by omega) (by omega) h
  generalize windLinks ⟨m, ⟨w0, w1⟩, ⟨p0, p1⟩, ⟨s0, s1⟩, ⟨f0, f1⟩, ⟨l0, l1⟩⟩ = LW at hw2 hval hover
  have HW2 := Aside0.mk hw2
  have HCC := Aside0.mk hval
  have HOV := Aside0.mk hover
  have HLQ := Aside0.mk hln
  have HMQ := Aside0.mk hmq
  clear hwo hup hmq hln hnear hYL hYG hex hval hw2 hover hwe
  go_enter Try.func9, Try.ntmps9
  go_upto_region 5 with (first
    | (go_at_call 19; refine (thermionkit_NewDice.calls A0 c0 l0_ d0 w w (Below.refl _ _) HR0.out hc0 HND.out).mono ?_; rintro e W1 ⟨g, rfl, hI1, hB1, hB1b⟩; have HI1 := Aside0.mk hI1; have HB1 := Aside0.mk hB1; clear hI1 hB1 hB1b HND HR0)
    | (go_at_call 44; refine (thermionkit_WindingOf.calls g d0 m w0 w1 p0 p1 s0 s1 f0 f1 l0 l1 d1 w W1 HI1.out HB1.out HWO.out).mono ?_; rintro e W2 ⟨rfl, hI2, hB2, hK2⟩; have HI2 := Aside0.mk hI2; have HB2 := Aside0.mk hB2; have HG2 := Aside0.mk (Nat.lt_of_lt_of_le (show g < W1.heap.size from blk_lt HI1.out.1) hK2.1); have HN2 := Aside0.mk (Mem.start W2); clear hI2 hB2 hK2 HI1 HWO)
    | ((with_reducible refine gate_dst (N := 4) rfl ?_); refine ev_new HN2.out rfl 72 rfl info72w ?_; intro g4 W3 hm3 hq1; clear hq1; have HN3 := Aside0.mk hm3; clear hm3 HN2)
    | ((with_reducible refine gate_store (t := 72) (p := 4) rfl ?_); refine ev_store HN3.out rfl 72 (.tmp 4) (.tmp 18) rfl rfl (cs := #[.int .i64 (m : Int), .int .i64 w0, .int .i64 w1, .int .i64 p0, .int .i64 p1, .int .i64 s0, .int .i64 s1, .int .i64 f0, .int .i64 f1, .int .i64 l0, .int .i64 l1]) rfl size72w rfl rfl (by simp [Value.oneCell']) ?_; intro W4 hm4 hq1; clear hq1; have HN4 := Aside0.mk hm4; clear hm4 HN3)
    | ((with_reducible refine gate_dst (N := 19) rfl ?_); refine ev_load HN4.out.head rfl 72 (.tmp 4) rfl rfl _ Try.underlying72 rfl size72w rfl ?_)
    | ((with_reducible refine gate_dst (N := 5) rfl ?_); refine ev_new HN4.out rfl 72 rfl info72w ?_; intro g5 W5 hm5 hq1; clear hq1; have HN5 := Aside0.mk hm5; clear hm5 HN4)
    | ((with_reducible refine gate_store (t := 72) (p := 5) rfl ?_); refine ev_store HN5.out rfl 72 (.tmp 5) (.tmp 19) rfl rfl (cs := #[.int .i64 (m : Int), .int .i64 w0, .int .i64 w1, .int .i64 p0, .int .i64 p1, .int .i64 s0, .int .i64 s1, .int .i64 f0, .int .i64 f1, .int .i64 l0, .int .i64 l1]) rfl size72w rfl rfl (by simp [Value.oneCell']) ?_; intro W6 hm6 hq1; clear hq1; have HN6 := Aside0.mk hm6; clear hm6 HN5)
    | (go_at_call 52; refine (thermionlaw04_of.calls 30 30 30 30 _ rfl).mono ?_; rintro e W7 ⟨rfl, hd⟩; have HN7 := Aside0.mk (HN6.out.step hd); clear hd HN6)
    | (go_at_call 52; refine (thermionlaw04_of.calls 200 200 200 200 _ rfl).mono ?_; rintro e W8 ⟨rfl, hd⟩; have HN8 := Aside0.mk (HN7.out.step hd); clear hd HN7)
    | (go_at_call 43; refine (thermionkit_Dice_Upto.calls g d1 5 u (nextWord d1) w _ ⟨blk_below HI2.out.1 HN8.out.below, HI2.out.2⟩ (below_step HB2.out HN8.out.below) HUP.out).mono ?_; rintro e W9 ⟨rfl, hI9, hB9, hK9⟩; have HM9 := Aside0.mk (mem_dice HN8.out HB2.out.size HG2.out hB9 hK9); have k5000 : IntKind.i64.wrap (5000 * u) = 5000 * u := IntWalk.i64_in _ (by omega); clear hI9 hB9 hK9 HN8 HI2 HUP)
    | (go_at_call 52; refine (thermionlaw04_of.calls (5000 * u) 0 (5000 * u) 0 _ rfl).mono ?_; rintro e W10 ⟨rfl, hd⟩; have HM10 := Aside0.mk (HM9.out.step hd); clear hd HM9)
    | (go_at_call 52; refine (thermionlaw04_of.calls 7 7 7 7 _ rfl).mono ?_; rintro e W11 ⟨rfl, hd⟩; have HM11 := Aside0.mk (HM10.out.step hd); clear hd HM10; have b1 : W11.cell? ⟨g5, 1, none⟩ = some (.int .i64 w0) := (HM11.out.cell 1).trans rfl; have b2 : W11.cell? ⟨g5, 2, none⟩ = some (.int .i64 w1) := (HM11.out.cell 2).trans rfl; have b3 : W11.cell? ⟨g5, 3, none⟩ = some (.int .i64 p0) := (HM11.out.cell 3).trans rfl; have b4 : W11.cell? ⟨g5, 4, none⟩ = some (.int .i64 p1) := (HM11.out.cell 4).trans rfl; have b5 : W11.cell? ⟨g5, 5, none⟩ = some (.int .i64 s0) := (HM11.out.cell 5).trans rfl; have b6 : W11.cell? ⟨g5, 6, none⟩ = some (.int .i64 s1) := (HM11.out.cell 6).trans rfl; have b7 : W11.cell? ⟨g5, 7, none⟩ = some (.int .i64 f0) := (HM11.out.cell 7).trans rfl; have b8 : W11.cell? ⟨g5, 8, none⟩ = some (.int .i64 f1) := (HM11.out.cell 8).trans rfl; have y1 : W11.frozen? ⟨g5, 1, none⟩ = false := HM11.out.frozen 1; have y2 : W11.frozen? ⟨g5, 2, none⟩ = false := HM11.out.frozen 2; have y3 : W11.frozen? ⟨g5, 3, none⟩ = false := HM11.out.frozen 3; have y4 : W11.frozen? ⟨g5, 4, none⟩ = false := HM11.out.frozen 4; have y5 : W11.frozen? ⟨g5, 5, none⟩ = false := HM11.out.frozen 5; have y6 : W11.frozen? ⟨g5, 6, none⟩ = false := HM11.out.frozen 6; have y7 : W11.frozen? ⟨g5, 7, none⟩ = false := HM11.out.frozen 7; have y8 : W11.frozen? ⟨g5, 8, none⟩ = false := HM11.out.frozen 8))
  have HM12 := Aside0.mk ((((((((HM11.out.put 1 (.int .i64 30) (cs' := #[.int .i64 (m : Int), .int .i64 30, .int .i64 w1, .int .i64 p0, .int .i64 p1, .int .i64 s0, .int .i64 s1, .int .i64 f0, .int .i64 f1, .int .i64 l0, .int .i64 l1]) rfl).put 2 (.int .i64 30) (cs' := #[.int .i64 (m : Int), .int .i64 30, .int .i64 30, .int .i64 p0, .int .i64 p1, .int .i64 s0, .int .i64 s1, .int .i64 f0, .int .i64 f1, .int .i64 l0, .int .i64 l1]) rfl).put 3 (.int .i64 200) (cs' := #[.int .i64 (m : Int), .int .i64 30, .int .i64 30, .int .i64 200, .int .i64 p1, .int .i64 s0, .int .i64 s1, .int .i64 f0, .int .i64 f1, .int .i64 l0, .int .i64 l1]) rfl).put 4 (.int .i64 200) (cs' := #[.int .i64 (m : Int), .int .i64 30, .int .i64 30, .int .i64 200, .int .i64 200, .int .i64 s0, .int .i64 s1, .int .i64 f0, .int .i64 f1, .int .i64 l0, .int .i64 l1]) rfl).put 5 (.int .i64 (5000 * u)) (cs' := #[.int .i64 (m : Int), .int .i64 30, .int .i64 30, .int .i64 200, .int .i64 200, .int .i64 (5000 * u), .int .i64 s1, .int .i64 f0, .int .i64 f1, .int .i64 l0, .int .i64 l1]) rfl).put 6 (.int .i64 0) (cs' := #[.int .i64 (m : Int), .int .i64 30, .int .i64 30, .int .i64 200, .int .i64 200, .int .i64 (5000 * u), .int .i64 0, .int .i64 f0, .int .i64 f1, .int .i64 l0, .int .i64 l1]) rfl).put 7 (.int .i64 7) (cs' := #[.int .i64 (m : Int), .int .i64 30, .int .i64 30, .int .i64 200, .int .i64 200, .int .i64 (5000 * u), .int .i64 0, .int .i64 7, .int .i64 f1, .int .i64 l0, .int .i64 l1]) rfl).put 8 (.int .i64 7) (cs' := #[.int .i64 (m : Int), .int .i64 30, .int .i64 30, .int .i64 200, .int .i64 200, .int .i64 (5000 * u), .int .i64 0, .int .i64 7, .int .i64 7, .int .i64 l0, .int .i64 l1]) rfl)
  clear HM11 b1 b2 b3 b4 b5 b6 b7 b8 y1 y2 y3 y4 y5 y6 y7 y8
  generalize ((((((((W11.setCell ⟨g5, 1, none⟩ (.int .i64 30)).setCell ⟨g5, 2, none⟩ (.int .i64 30)).setCell ⟨g5, 3, none⟩ (.int .i64 200)).setCell ⟨g5, 4, none⟩ (.int .i64 200)).setCell ⟨g5, 5, none⟩ (.int .i64 (5000 * u))).setCell ⟨g5, 6, none⟩ (.int .i64 0)).setCell ⟨g5, 7, none⟩ (.int .i64 7)).setCell ⟨g5, 8, none⟩ (.int .i64 7)) = W12 at HM12 ⊢
  have b5 : W12.cell? ⟨g5, 5, none⟩ = some (.int .i64 (5000 * u)) := (HM12.out.cell 5).trans rfl
  have b6 : W12.cell? ⟨g5, 6, none⟩ = some (.int .i64 0) := (HM12.out.cell 6).trans rfl
  have y6 : W12.frozen? ⟨g5, 6, none⟩ = false := HM12.out.frozen 6
  have qq : Int.tdiv (5000 * u) 5000 = u := by rw [Int.tdiv_eq_ediv_of_nonneg (by omega)]; omega
  have qw : IntKind.i64.wrap u = u := IntWalk.i64_in _ (by omega)
  have qv : IntKind.i64.wrap (200 + u) = 200 + u := IntWalk.i64_in _ (by omega)
  go_upto_region 6 with fail
  have HM13 := Aside0.mk (HM12.out.put 6 (.int .i64 (5000 * u)) (cs' := #[.int .i64 (m : Int), .int .i64 30, .int .i64 30, .int .i64 200, .int .i64 200, .int .i64 (5000 * u), .int .i64 (5000 * u), .int .i64 7, .int .i64 7, .int .i64 l0, .int .i64 l1]) rfl)
  clear HM12 b5 b6 y6
  generalize W12.setCell ⟨g5, 6, none⟩ (.int .i64 (5000 * u)) = W13 at HM13 ⊢
  have b5 : W13.cell? ⟨g5, 5, none⟩ = some (.int .i64 (5000 * u)) := (HM13.out.cell 5).trans rfl
  have a0 : W13.cell? ⟨g4, 0, none⟩ = some (.int .i64 m) := (blk_cell HM13.out.second 0).trans rfl
  have v1 : IntKind.i64.wrap ((m : Int) - 1) = (m : Int) - 1 := IntWalk.i64_in _ (by omega)
  have v2 : IntKind.i64.wrap (((m : Int) - 1) * (200 + u)) = ((m : Int) - 1) * (200 + u) := IntWalk.i64_in _ (by have := HMQ.out; omega)
  have v3 : IntKind.i64.wrap (((m : Int) - 1) * (200 + u) + 30) = ln := by rw [IntWalk.i64_in _ (by have := HMQ.out; omega)]; exact HLQ.out.symm
  go_upto_region 8 with (first
    | (go_at_call 52; refine (thermionlaw04_of.calls ln ln ln ln _ rfl).mono ?_; rintro e W14 ⟨rfl, hd⟩; have HM14 := Aside0.mk (HM13.out.step hd); clear hd HM13 b5 a0; have b9 : W14.cell? ⟨g5, 9, none⟩ = some (.int .i64 l0) := (HM14.out.cell 9).trans rfl; have b10 : W14.cell? ⟨g5, 10, none⟩ = some (.int .i64 l1) := (HM14.out.cell 10).trans rfl; have y9 : W14.frozen? ⟨g5, 9, none⟩ = false := HM14.out.frozen 9; have y10 : W14.frozen? ⟨g5, 10, none⟩ = false := HM14.out.frozen 10))
  have HM15 := Aside0.mk ((HM14.out.put 9 (.int .i64 ln) (cs' := #[.int .i64 (m : Int), .int .i64 30, .int .i64 30, .int .i64 200, .int .i64 200, .int .i64 (5000 * u), .int .i64 (5000 * u), .int .i64 7, .int .i64 7, .int .i64 ln, .int .i64 l1]) rfl).put 10 (.int .i64 ln) (cs' := #[.int .i64 (m : Int), .int .i64 30, .int .i64 30, .int .i64 200, .int .i64 200, .int .i64 (5000 * u), .int .i64 (5000 * u), .int .i64 7, .int .i64 7, .int .i64 ln, .int .i64 ln]) rfl)
  clear HM14 b9 b10 y9 y10 v1 v2 v3 qq qw
  generalize ((W14.setCell ⟨g5, 9, none⟩ (.int .i64 ln)).setCell ⟨g5, 10, none⟩ (.int .i64 ln)) = W15 at HM15 ⊢
  have n1 : IntKind.i64.wrap (2 * (m : Int)) = 2 * (m : Int) := IntWalk.i64_in _ (by omega)
  have n2 : IntKind.i64.wrap (2 * (m : Int) + 1) = 2 * (m : Int) + 1 := IntWalk.i64_in _ (by omega)
  have n3 : (((2 * m + 1 : Nat) : Int) != 2 * (m : Int) + 1) = false := by simp
  go_wp2_with (first
    | ((with_reducible refine gate_dst (N := 56) rfl ?_); refine ev_load HM15.out.head rfl 72 (.tmp 5) rfl rfl _ Try.underlying72 rfl size72w rfl ?_)
    | (go_at_call 45; refine (mount_Wind.calls m 30 30 200 200 (5000 * u) (5000 * u) 7 7 ln ln (2 * (m : Int) + 1) LX 0 _ HEX.out).mono ?_; rintro e W16 ⟨v1_, rfl, hR, hd⟩; obtain ⟨AX, nX, rfl⟩ := Kd.R_slice hR; have HM16 := Aside0.mk (HM15.out.step hd).drop; have HX16 := Aside0.mk hR; clear hR hd HM15 HEX)
    | ((with_reducible refine gate_dst (N := 7) rfl ?_); refine ev_new HM16.out rfl 27 rfl info27 ?_; intro g7 W17 hm7 hq1; have HX17 := Aside0.mk (Kd.R_below HX16.out hq1); clear hq1 HX16; have HM17 := Aside0.mk hm7; clear hm7 HM16)
    | ((with_reducible refine gate_store (t := 27) (p := 7) rfl ?_); refine ev_storeW HM17.out rfl 27 (.tmp 7) (.tmp 58) rfl rfl (cs := #[.int .i64 (2 * (m : Int) + 1), .slice AX LX.length nX]) rfl size27 rfl rfl (by simp [Value.oneCell']) ?_; intro hm8; have HX18 := Aside0.mk (Kd.R_reads' (R_row35 (cs := #[.int .i64 (2 * (m : Int) + 1), .slice AX LX.length nX]) HX17.out HM17.out.head)).2; have HM18 := Aside0.mk hm8; clear hm8 HM17 HX17; generalize W17.setRow g7 #[.int .i64 (2 * (m : Int) + 1), .slice AX LX.length nX] = W18 at HX18 HM18 ⊢)
    | ((with_reducible refine gate_dst (N := 61) rfl ?_); refine ev_load HM18.out.head rfl 27 (.tmp 7) rfl rfl _ Try.underlying27 rfl size27 rfl ?_)
    | (go_at_call 50; refine (HNE.out _ _ _ HX18.out.2 HX18.out.1).mono ?_; rintro e W19 ⟨v8, rfl, hS, hd⟩; have HM19 := Aside0.mk (HM18.out.step hd); obtain ⟨AY, nY, eY, hY8, hCY8⟩ := Kd.R_reads hS; rw [HYL.out] at eY hY8; subst eY; have HCY := Aside0.mk hCY8; have a0 : W19.cell? ⟨g4, 0, none⟩ = some (.int .i64 m) := (blk_cell HM19.out.second 0).trans rfl; clear hS hd hY8 hCY8 HNE HM18 HX18))
  clear a0 n3
  go_loopg [11] m (fun k v11 w' => ∃ (j : Nat), v11 = .int .i64 j ∧ Aside0 (j + k = m) ∧ Aside0 (Below W19.heap.size W19 w'))
  case atStart => exact ⟨0, rfl, ⟨by omega⟩, ⟨Below.refl _ _⟩⟩
  case round =>
    obtain ⟨j, rfl, HK, HBJ⟩ := hrel
    have a0 : wr.cell? ⟨g4, 0, none⟩ = some (.int .i64 m) := (blk_cell (HM19.out.step HBJ.out).second 0).trans rfl
    by_cases hj : j < m
    · have hj2 : decide ((j : Int) < (m : Int)) = true := by simp; omega
      obtain ⟨ay, eY, y1⟩ := cell_int (Kd.C_below HCY.out HBJ.out) (2 * j + 1) (by rw [HYL.out]; omega)
      obtain ⟨ay2, eY2, y2⟩ := cell_int (Kd.C_below HCY.out HBJ.out) (2 * j + 2) (by rw [HYL.out]; omega)
      obtain rfl : ay = ay2 := by rw [eY] at eY2; exact Option.some.inj eY2
      rw [(HYG.out j hj).1] at y1
      rw [(HYG.out j hj).2] at y2
      have hz : 0 ≤ (j : Int) * (200 + u) ∧ (j : Int) * (200 + u) ≤ 2244 := by
        refine ⟨Int.mul_nonneg (by omega) (by omega), ?_⟩
        have q1 : (j : Int) * (200 + u) ≤ (j : Int) * 204 := Int.mul_le_mul_of_nonneg_left (by omega) (by omega)
        omega
      have e1 : IntKind.i64.wrap (2 * (j : Int)) = 2 * (j : Int) := IntWalk.i64_in _ (by omega)
      have e2 : IntKind.i64.wrap (2 * (j : Int) + 1) = 2 * (j : Int) + 1 := IntWalk.i64_in _ (by omega)
      have e3 : IntKind.i64.wrap (2 * (j : Int) + 2) = 2 * (j : Int) + 2 := IntWalk.i64_in _ (by omega)
      have e4 : IntKind.i64.wrap ((j : Int) * (200 + u)) = (j : Int) * (200 + u) := IntWalk.i64_in _ (by omega)
      have e5 : IntKind.i64.wrap (7 + (j : Int) * (200 + u)) = 7 + (j : Int) * (200 + u) := IntWalk.i64_in _ (by omega)
      have e6 : IntKind.i64.wrap (37 + (j : Int) * (200 + u)) = 37 + (j : Int) * (200 + u) := IntWalk.i64_in _ (by omega)
      have t1 := turn_nat1 j
      have t2 := turn_nat2 j
      have i1 : (0 : Int) ≤ 2 * (j : Int) + 1 := by omega
      have i2 : (0 : Int) ≤ 2 * (j : Int) + 2 := by omega
      have i3 : 2 * (j : Int) + 1 < ((2 * m + 1 : Nat) : Int) := by omega
      have i4 : 2 * (j : Int) + 2 < ((2 * m + 1 : Nat) : Int) := by omega
      have i5 : 2 * (j : Int) + 1 < 2 * (m : Int) + 1 := by omega
      have i6 : 2 * (j : Int) + 2 < 2 * (m : Int) + 1 := by omega
      have y1b : wr.cell? ⟨ay.block, ay.off + (2 * j + 1), none⟩ = some (.int .i64 (7 + (j : Int) * (200 + u))) := y1
      have y2b : wr.cell? ⟨ay.block, ay.off + (2 * j + 2), none⟩ = some (.int .i64 (37 + (j : Int) * (200 + u))) := y2
      cases eY
      clear eY2
      go_wp2_with fail
      go_roundg (m - (j + 1))
      case measure => have := HK.out; omega
      case rel => exact ⟨j + 1, by go_num, ⟨by omega⟩, HBJ⟩
    · have hj2 : ¬ (j : Int) < (m : Int) := by omega
      have HMa := Aside0.mk (HM19.out.step HBJ.out)
      clear HM19 HBJ HCY HYG HYL a0
      have hcc : chainErr (2 * (m : Int) + 1) LW = 0 := HCC.out
      have HCD := Aside0.mk (fun (A : Option Addr) (c : Nat) (W : World) (hW : Kd.C k35 W A LW.length LW) (hc : LW.length ≤ c) => mount_CheckChain.calls (2 * (m : Int) + 1) A c LW 0 W hW hc (congrArg some hcc))
      have htr : tightRes (2 * (m : Int) + 1) LW = if (tightOf ((2 * m + 1 : Nat) : Int) LW).2 = 0 then (rowsOf (2 * m + 1) (tightOf ((2 * m + 1 : Nat) : Int) LW).1, 0) else ([], (tightOf ((2 * m + 1 : Nat) : Int) LW).2) := by unfold tightRes; rw [show (2 * (m : Int) + 1) = ((2 * m + 1 : Nat) : Int) by omega, Int.toNat_natCast]
      have hsem := tog_of HCC.out
      clear hcc
      rcases hsem with ⟨h0, htog⟩ | h0
      rotate_left
      · rw [if_neg (by rw [h0]; decide), h0] at htr
        have HT1 := Aside0.mk (fun (c : Nat) (A : Option Addr) (W : World) (hW : Kd.C k35 W A LW.length LW) (hc : LW.length ≤ c) => mount_Tight.calls (2 * (m : Int) + 1) A c LW [] 12 W hW hc (congrArg some htr))
        clear htr h0 HOV
        have a0 : wr.cell? ⟨g4, 0, none⟩ = some (.int .i64 m) := (blk_cell HMa.out.second 0).trans rfl
        go_wp2_with (first
          | ((with_reducible refine gate_dst (N := 111) rfl ?_); refine ev_load HMa.out.second rfl 72 (.tmp 4) rfl rfl _ Try.underlying72 rfl size72w rfl ?_)
          | (go_at_call 45; refine (mount_Wind.calls m w0 w1 p0 p1 s0 s1 f0 f1 l0 l1 (2 * (m : Int) + 1) LW 0 _ HW2.out).mono ?_; rintro e W20 ⟨v2_, rfl, hR, hd⟩; obtain ⟨AW, nW, rfl⟩ := Kd.R_slice hR; have HMb := Aside0.mk (HMa.out.step hd); have HXb := Aside0.mk hR; clear hR hd HMa HW2 a0)
          | ((with_reducible refine gate_store (t := 27) (p := 7) rfl ?_); refine ev_storeW HMb.out rfl 27 (.tmp 7) (.tmp 113) rfl rfl (cs := #[.int .i64 (2 * (m : Int) + 1), .slice AW LW.length nW]) rfl size27 rfl rfl (by simp [Value.oneCell']) ?_; intro hm8; have HXc := Aside0.mk (Kd.R_reads' (R_row35 (cs := #[.int .i64 (2 * (m : Int) + 1), .slice AW LW.length nW]) HXb.out HMb.out.head)).2; have HMc := Aside0.mk hm8; clear hm8 HMb HXb; generalize W20.setRow g7 #[.int .i64 (2 * (m : Int) + 1), .slice AW LW.length nW] = W21 at HXc HMc ⊢; have k0 : W21.cell? ⟨g7, 0, none⟩ = some (.int .i64 (2 * (m : Int) + 1)) := (HMc.out.cell 0).trans rfl; have k1 : W21.cell? ⟨g7, 1, none⟩ = some (.slice AW LW.length nW) := (HMc.out.cell 1).trans rfl)
          | (go_at_call 53; refine (HCD.out AW nW _ HXc.out.2 HXc.out.1).mono ?_; rintro e W22 ⟨rfl, hd⟩; have HMd := Aside0.mk (HMc.out.step hd); have HXd := Aside0.mk (And.intro HXc.out.1 (Kd.C_below HXc.out.2 hd)); have k0b : W22.cell? ⟨g7, 0, none⟩ = some (.int .i64 (2 * (m : Int) + 1)) := (HMd.out.cell 0).trans rfl; have a0b : W22.cell? ⟨g4, 0, none⟩ = some (.int .i64 m) := (blk_cell HMd.out.second 0).trans rfl; clear hd HMc HXc HCD k0 k1)
          | ((with_reducible refine gate_dst (N := 132) rfl ?_); refine ev_load HMd.out.head rfl 27 (.tmp 7) rfl rfl _ Try.underlying27 rfl size27 rfl ?_)
          | (go_at_call 24; refine (HT1.out _ _ _ HXd.out.2 HXd.out.1).mono ?_; rintro e W23 ⟨v5, rfl, hS, hd⟩; have HMe := Aside0.mk (HMd.out.step hd); clear hS hd HT1 HMd HXd)
          | (go_at_call 21; refine (thermionlaw04_awake.calls 8 true _ HAW.out).mono ?_; rintro e W24 ⟨rfl, hd⟩; have HMf := Aside0.mk (HMe.out.step hd); clear hd))
        go_ret
        exact ⟨rfl, HMf.out.below⟩
      · rw [if_pos h0] at htr
        have HT1 := Aside0.mk (fun (c : Nat) (A : Option Addr) (W : World) (hW : Kd.C k35 W A LW.length LW) (hc : LW.length ≤ c) => mount_Tight.calls (2 * (m : Int) + 1) A c LW _ 0 W hW hc (congrArg some htr))
        clear htr h0
        generalize (tightOf ((2 * m + 1 : Nat) : Int) LW).1 = T at HT1 htog
        have hov := HOV.out T htog
        have hsq : thermionlaw04_square.f 30 (rowsOf (2 * m + 1) T) (2 * (m : Int) + 1) = some true := square_rows (2 * m + 1) T (by omega) (by omega)
        have HSQ := Aside0.mk hsq
        have HTG := Aside0.mk htog
        clear HOV htog hsq
        have a0 : wr.cell? ⟨g4, 0, none⟩ = some (.int .i64 m) := (blk_cell HMa.out.second 0).trans rfl
        go_upto_region 25 with (first
          | ((with_reducible refine gate_dst (N := 111) rfl ?_); refine ev_load HMa.out.second rfl 72 (.tmp 4) rfl rfl _ Try.underlying72 rfl size72w rfl ?_)
          | (go_at_call 45; refine (mount_Wind.calls m w0 w1 p0 p1 s0 s1 f0 f1 l0 l1 (2 * (m : Int) + 1) LW 0 _ HW2.out).mono ?_; rintro e W20 ⟨v2_, rfl, hR, hd⟩; obtain ⟨AW, nW, rfl⟩ := Kd.R_slice hR; have HMb := Aside0.mk (HMa.out.step hd); have HXb := Aside0.mk hR; clear hR hd HMa HW2 a0)
          | ((with_reducible refine gate_store (t := 27) (p := 7) rfl ?_); refine ev_storeW HMb.out rfl 27 (.tmp 7) (.tmp 113) rfl rfl (cs := #[.int .i64 (2 * (m : Int) + 1), .slice AW LW.length nW]) rfl size27 rfl rfl (by simp [Value.oneCell']) ?_; intro hm8; have HXc := Aside0.mk (Kd.R_reads' (R_row35 (cs := #[.int .i64 (2 * (m : Int) + 1), .slice AW LW.length nW]) HXb.out HMb.out.head)).2; have HMc := Aside0.mk hm8; clear hm8 HMb HXb; generalize W20.setRow g7 #[.int .i64 (2 * (m : Int) + 1), .slice AW LW.length nW] = W21 at HXc HMc ⊢; have k0 : W21.cell? ⟨g7, 0, none⟩ = some (.int .i64 (2 * (m : Int) + 1)) := (HMc.out.cell 0).trans rfl; have k1 : W21.cell? ⟨g7, 1, none⟩ = some (.slice AW LW.length nW) := (HMc.out.cell 1).trans rfl)
          | (go_at_call 53; refine (HCD.out AW nW _ HXc.out.2 HXc.out.1).mono ?_; rintro e W22 ⟨rfl, hd⟩; have HMd := Aside0.mk (HMc.out.step hd); have HXd := Aside0.mk (And.intro HXc.out.1 (Kd.C_below HXc.out.2 hd)); have k0b : W22.cell? ⟨g7, 0, none⟩ = some (.int .i64 (2 * (m : Int) + 1)) := (HMd.out.cell 0).trans rfl; have a0b : W22.cell? ⟨g4, 0, none⟩ = some (.int .i64 m) := (blk_cell HMd.out.second 0).trans rfl; clear hd HMc HXc HCD k0 k1)
          | ((with_reducible refine gate_dst (N := 132) rfl ?_); refine ev_load HMd.out.head rfl 27 (.tmp 7) rfl rfl _ Try.underlying27 rfl size27 rfl ?_)
          | (go_at_call 24; refine (HT1.out _ _ _ HXd.out.2 HXd.out.1).mono ?_; rintro e W23 ⟨v5, rfl, hS, hd⟩; have HMe := Aside0.mk (HMd.out.step hd); obtain ⟨AT, nT, eT, hT6, hCT6⟩ := Kd.S_reads hS; have HCT := Aside0.mk hCT6; have HLT := Aside0.mk hT6; rw [rowsOf_len] at eT; subst eT; have k0c : W23.cell? ⟨g7, 0, none⟩ = some (.int .i64 (2 * (m : Int) + 1)) := (HMe.out.cell 0).trans rfl; clear hS hd hCT6 hT6 HT1 HMd HXd k0b a0b)
          | (go_at_call 26; refine (Calls_len (rowsOf_len (2 * m + 1) T) (thermionlaw04_square.calls 30 AT nT (rowsOf (2 * m + 1) T) (2 * (m : Int) + 1) true _ HCT.out HLT.out HSQ.out)).mono ?_; rintro e W24 ⟨rfl, hd⟩; have HMf := Aside0.mk (HMe.out.step hd.below); have HCTf := Aside0.mk (Kd.C_below HCT.out hd.below); clear hd HMe HCT k0c))
        obtain ⟨ad, AA, cA, eA, xA, hcA, hCA⟩ := at_L6 (Kd.C_drew HCTf.out) (1 : Int) (by omega) (by rw [rowsOf_len]; omega)
        have hrow : rd_L6 (rowsOf (2 * m + 1) T) 1 = (List.range (2 * m + 1)).map (fun b => spanOf T 1 b) := rowsOf_row (2 * m + 1) T 1 (by omega)
        rw [hrow] at xA hcA hCA
        simp only [List.length_map, List.length_range] at xA hCA
        obtain ⟨aa, eaA, y1, y2⟩ := at_T32 hCA (2 * (m : Int)) (by omega) (by omega)
        obtain ⟨ab, eaB, y3, y4⟩ := at_T32 hCA (2 * (m : Int) - 1) (by omega) (by omega)
        obtain rfl : aa = ab := by rw [eaA] at eaB; exact Option.some.inj eaB
        have r1 : rd_T32 ((List.range (2 * m + 1)).map (fun b => spanOf T 1 b)) (2 * (m : Int)) = spanOf T 1 (2 * m) := row_get (2 * m + 1) T 1 (2 * m) (by omega)
        have r2 : rd_T32 ((List.range (2 * m + 1)).map (fun b => spanOf T 1 b)) (2 * (m : Int) - 1) = spanOf T 1 (2 * m - 1) := by
          have := row_get (2 * m + 1) T 1 (2 * m - 1) (by omega)
          rw [show ((2 * m - 1 : Nat) : Int) = 2 * (m : Int) - 1 by omega] at this
          exact this
        rw [r1] at y1 y2
        rw [r2] at y3 y4
        have z1 : (2 * (m : Int)).toNat = 2 * m := by omega
        have z2 : (2 * (m : Int) - 1).toNat = 2 * m - 1 := by omega
        rw [z1] at y1 y2
        rw [z2] at y3 y4
        generalize (spanOf T 1 (2 * m)).f0 = h0 at y1 hov
        generalize (spanOf T 1 (2 * m)).f1 = h1 at y2 hov
        generalize (spanOf T 1 (2 * m - 1)).f0 = o0 at y3 hov
        generalize (spanOf T 1 (2 * m - 1)).f1 = o1 at y4 hov
        have xB : W24.drew.cell? ⟨ad.block, ad.off + 1, none⟩ = some (.slice (some aa) (2 * m + 1) cA) := by rw [← eaA]; exact xA
        clear hcA hCA xA r1 r2 hrow eaB
        cases eaA
        cases eA
        have i1 : (0 : Int) ≤ 2 * (m : Int) := by omega
        have i2 : (0 : Int) ≤ 2 * (m : Int) - 1 := by omega
        have i3 : 2 * (m : Int) < ((2 * m + 1 : Nat) : Int) := by omega
        have i4 : 2 * (m : Int) - 1 < ((2 * m + 1 : Nat) : Int) := by omega
        have i5 : 2 * (m : Int) < 2 * (m : Int) + 1 := by omega
        have i6 : 2 * (m : Int) - 1 < 2 * (m : Int) + 1 := by omega
        have i7 : (1 : Int) < ((2 * m + 1 : Nat) : Int) := by omega
        have i8 : (1 : Int) < 2 * (m : Int) + 1 := by omega
        have i9 : (1 : Int) ≤ 2 * (m : Int) := by omega
        have i10 : (0 : Int) < 2 * (m : Int) := by omega
        have n4 : IntKind.i64.wrap (2 * (m : Int) - 1) = 2 * (m : Int) - 1 := IntWalk.i64_in _ (by omega)
        have cM := (blk_cell HMf.out.second 0).trans (show _ = some (.int .i64 (m : Int)) from rfl)
        have HXB := Aside0.mk xB
        have HCM : Aside0 (W24.drew.cell? ⟨g4, 0, none⟩ = some (.int .i64 (m : Int))) := ⟨cM⟩
        have HY1 := Aside0.mk y1
        have HY2 := Aside0.mk y2
        have HY3 := Aside0.mk y3
        have HY4 := Aside0.mk y4
        have HOVV := Aside0.mk hov
        clear xB cM y1 y2 y3 y4 hov
        go_cut [13, 14] (fun v13 v14 wc => ∃ (gA gB : Nat), v13 = .pointer (some ⟨gA, 0, none⟩) ∧ v14 = .pointer (some ⟨gB, 0, none⟩) ∧ Aside0 (Mem W24 wc [(gA, #[.int .i64 h0, .int .i64 h1], 32), (gB, #[.int .i64 o0, .int .i64 o1], 32)]))
        case first =>
          have HBd := Aside0.mk (below_drew1 (Below.refl W24.heap.size W24))
          refine start_ (n := 21) (S := fun w' => w'.cell? ⟨g4, 0, none⟩ = some (.int .i64 (m : Int)) ∧ w'.cell? ⟨ad.block, ad.off + 1, none⟩ = some (.slice (some aa) (2 * m + 1) cA) ∧ w'.cell? (aa.add (2 * m * 2)) = some (.int .i64 h0) ∧ w'.cell? ⟨(aa.add (2 * m * 2)).block, (aa.add (2 * m * 2)).off + 1, none⟩ = some (.int .i64 h1) ∧ w'.cell? (aa.add ((2 * m - 1) * 2)) = some (.int .i64 o0) ∧ w'.cell? ⟨(aa.add ((2 * m - 1) * 2)).block, (aa.add ((2 * m - 1) * 2)).off + 1, none⟩ = some (.int .i64 o1)) (ds := []) #[false, false, false, false, false, false, false, false, false, false, false, false, false, false, false, false, false, false, false, false, false] (by kernel_rfl) rfl rfl ⟨HCM.out, HXB.out, HY1.out, HY2.out, HY3.out, HY4.out⟩ (fun hHeld => ?_); refine with_tabW turns.tab25 turns.bits25 (fun HT_ HW_ => ?_)
          generalize W24.drew = wd at HBd hHeld HCM HXB HY1 HY2 HY3 HY4 ⊢
          refine pure_ (i := 0) (N := some 148) (v := ?_) (a' := ?_) #[true, false, false, false, false, false, false, false, false, false, false, false, false, false, false, false, false, false, false, false, false] rfl rfl (any_of HT_.out (by kernel_rfl)) (fun _ _ _ h => h) (Or.inl ⟨by rfl, ?_⟩) ?_ ?_
          rotate_left
          · intro w'
            go_simp
            with_reducible rfl
          rotate_left
          · simp only [Act.put, List.setIfInBounds_toArray, List.set_cons_zero, List.set_cons_succ, i64_w, i32_w]
            rfl
          refine pure_ (i := 1) (N := some 149) (v := ?_) (a' := ?_) #[true, true, false, false, false, false, false, false, false, false, false, false, false, false, false, false, false, false, false, false, false] rfl rfl (any_of HT_.out (by kernel_rfl)) (fun _ _ _ h => h) (Or.inl ⟨by rfl, ?_⟩) ?_ ?_
          rotate_left
          · intro w'
            go_simp
            with_reducible rfl
          rotate_left
          · simp only [Act.put, List.setIfInBounds_toArray, List.set_cons_zero, List.set_cons_succ, i64_w, i32_w]
            rfl
          refine pure_ (i := 3) (N := some 151) (v := ?_) (a' := ?_) #[true, true, false, true, false, false, false, false, false, false, false, false, false, false, false, false, false, false, false, false, false] rfl rfl (any_of HT_.out (by kernel_rfl)) (fun _ _ _ h => h) (Or.inl ⟨by rfl, ?_⟩) ?_ ?_
          rotate_left
          · intro w'
            go_simp
            with_reducible rfl
          rotate_left
          · simp only [Act.put, List.setIfInBounds_toArray, List.set_cons_zero, List.set_cons_succ, i64_w, i32_w]
            rfl
          refine pure_ (i := 8) (N := some 156) (v := ?_) (a' := ?_) #[true, true, false, true, false, false, false, false, true, false, false, false, false, false, false, false, false, false, false, false, false] rfl rfl (any_of HT_.out (by kernel_rfl)) (fun _ _ _ h => h) (Or.inl ⟨by rfl, ?_⟩) ?_ ?_
          rotate_left
          · intro w'
            go_simp
            with_reducible rfl
          rotate_left
          · simp only [Act.put, List.setIfInBounds_toArray, List.set_cons_zero, List.set_cons_succ, i64_w, i32_w]
            rfl
          refine pure_ (i := 9) (N := some 157) (v := ?_) (a' := ?_) #[true, true, false, true, false, false, false, false, true, true, false, false, false, false, false, false, false, false, false, false, false] rfl rfl (any_of HT_.out (by kernel_rfl)) (fun _ _ _ h => h) (Or.inl ⟨by rfl, ?_⟩) ?_ ?_
          rotate_left
          · intro w'
            go_simp
            with_reducible rfl
          rotate_left
          · simp only [Act.put, List.setIfInBounds_toArray, List.set_cons_zero, List.set_cons_succ, i64_w, i32_w]
            rfl
          refine pure_ (i := 11) (N := some 159) (v := ?_) (a' := ?_) #[true, true, false, true, false, false, false, false, true, true, false, true, false, false, false, false, false, false, false, false, false] rfl rfl (any_of HT_.out (by kernel_rfl)) (fun _ _ _ h => h) (Or.inl ⟨by rfl, ?_⟩) ?_ ?_
          rotate_left
          · intro w'
            go_simp
            with_reducible rfl
          rotate_left
          · simp only [Act.put, List.setIfInBounds_toArray, List.set_cons_zero, List.set_cons_succ, i64_w, i32_w]
            rfl
          refine take_ (i := 2) (N := some 150) (v := ?_) (a' := ?_) #[true, true, true, true, false, false, false, false, true, true, false, true, false, false, false, false, false, false, false, false, false] rfl rfl (take_ofW HT_.out HW_.out (by kernel_rfl)) (fun _ _ _ h => h) (Or.inl ⟨by rfl, ?_⟩) hHeld ?_ ?_
          rotate_left
          · rintro w' ⟨s0, s1, s2, s3, s4, s5⟩
            go_simp
            with_reducible rfl
          rotate_left
          · simp only [Act.put, List.setIfInBounds_toArray, List.set_cons_zero, List.set_cons_succ, i64_w, i32_w]
            rfl
          refine take_ (i := 4) (N := some 152) (v := ?_) (a' := ?_) #[true, true, true, true, true, false, false, false, true, true, false, true, false, false, false, false, false, false, false, false, false] rfl rfl (take_ofW HT_.out HW_.out (by kernel_rfl)) (fun _ _ _ h => h) (Or.inl ⟨by rfl, ?_⟩) hHeld ?_ ?_
          rotate_left
          · rintro w' ⟨s0, s1, s2, s3, s4, s5⟩
            go_simp
            with_reducible rfl
          rotate_left
          · simp only [Act.put, List.setIfInBounds_toArray, List.set_cons_zero, List.set_cons_succ, i64_w, i32_w]
            rfl
          refine pure_ (i := 5) (N := some 153) (v := ?_) (a' := ?_) #[true, true, true, true, true, true, false, false, true, true, false, true, false, false, false, false, false, false, false, false, false] rfl rfl (any_of HT_.out (by kernel_rfl)) (fun _ _ _ h => h) (Or.inl ⟨by rfl, ?_⟩) ?_ ?_
          rotate_left
          · intro w'
            go_simp
            with_reducible rfl
          rotate_left
          · simp only [Act.put, List.setIfInBounds_toArray, List.set_cons_zero, List.set_cons_succ, i64_w, i32_w]
            rfl
          refine pure_ (i := 6) (N := some 154) (v := ?_) (a' := ?_) #[true, true, true, true, true, true, true, false, true, true, false, true, false, false, false, false, false, false, false, false, false] rfl rfl (any_of HT_.out (by kernel_rfl)) (fun _ _ _ h => h) (Or.inl ⟨by rfl, ?_⟩) ?_ ?_
          rotate_left
          · intro w'
            go_simp
            with_reducible rfl
          rotate_left
          · simp only [Act.put, List.setIfInBounds_toArray, List.set_cons_zero, List.set_cons_succ, i64_w, i32_w]
            rfl
          refine take_ (i := 7) (N := some 155) (v := ?_) (a' := ?_) #[true, true, true, true, true, true, true, true, true, true, false, true, false, false, false, false, false, false, false, false, false] rfl rfl (take_ofW HT_.out HW_.out (by kernel_rfl)) (fun _ _ _ h => h) (Or.inl ⟨by rfl, ?_⟩) hHeld ?_ ?_
          rotate_left
          · rintro w' ⟨s0, s1, s2, s3, s4, s5⟩
            go_simp
            with_reducible rfl
          rotate_left
          · simp only [Act.put, List.setIfInBounds_toArray, List.set_cons_zero, List.set_cons_succ, i64_w, i32_w]
            rfl
          refine take_ (i := 10) (N := some 158) (v := ?_) (a' := ?_) #[true, true, true, true, true, true, true, true, true, true, true, true, false, false, false, false, false, false, false, false, false] rfl rfl (take_ofW HT_.out HW_.out (by kernel_rfl)) (fun _ _ _ h => h) (Or.inl ⟨by rfl, ?_⟩) hHeld ?_ ?_
          rotate_left
          · rintro w' ⟨s0, s1, s2, s3, s4, s5⟩
            go_simp
            with_reducible rfl
          rotate_left
          · simp only [Act.put, List.setIfInBounds_toArray, List.set_cons_zero, List.set_cons_succ, i64_w, i32_w]
            rfl
          refine take_ (i := 12) (N := some 160) (v := ?_) (a' := ?_) #[true, true, true, true, true, true, true, true, true, true, true, true, true, false, false, false, false, false, false, false, false] rfl rfl (take_ofW HT_.out HW_.out (by kernel_rfl)) (fun _ _ _ h => h) (Or.inl ⟨by rfl, ?_⟩) hHeld ?_ ?_
          rotate_left
          · rintro w' ⟨s0, s1, s2, s3, s4, s5⟩
            go_simp
            with_reducible rfl
          rotate_left
          · simp only [Act.put, List.setIfInBounds_toArray, List.set_cons_zero, List.set_cons_succ, i64_w, i32_w]
            rfl
          refine pure_ (i := 13) (N := some 161) (v := ?_) (a' := ?_) #[true, true, true, true, true, true, true, true, true, true, true, true, true, true, false, false, false, false, false, false, false] rfl rfl (any_of HT_.out (by kernel_rfl)) (fun _ _ _ h => h) (Or.inl ⟨by rfl, ?_⟩) ?_ ?_
          rotate_left
          · intro w'
            go_simp
            with_reducible rfl
          rotate_left
          · simp only [Act.put, List.setIfInBounds_toArray, List.set_cons_zero, List.set_cons_succ, i64_w, i32_w]
            rfl
          refine pure_ (i := 14) (N := some 162) (v := ?_) (a' := ?_) #[true, true, true, true, true, true, true, true, true, true, true, true, true, true, true, false, false, false, false, false, false] rfl rfl (any_of HT_.out (by kernel_rfl)) (fun _ _ _ h => h) (Or.inl ⟨by rfl, ?_⟩) ?_ ?_
          rotate_left
          · intro w'
            go_simp
            with_reducible rfl
          rotate_left
          · simp only [Act.put, List.setIfInBounds_toArray, List.set_cons_zero, List.set_cons_succ, i64_w, i32_w]
            rfl
          refine pure_ (i := 15) (N := some 163) (v := ?_) (a' := ?_) #[true, true, true, true, true, true, true, true, true, true, true, true, true, true, true, true, false, false, false, false, false] rfl rfl (any_of HT_.out (by kernel_rfl)) (fun _ _ _ h => h) (Or.inl ⟨by rfl, ?_⟩) ?_ ?_
          rotate_left
          · intro w'
            go_simp
            with_reducible rfl
          rotate_left
          · simp only [Act.put, List.setIfInBounds_toArray, List.set_cons_zero, List.set_cons_succ, i64_w, i32_w]
            rfl
          refine take_ (i := 16) (N := some 164) (v := ?_) (a' := ?_) #[true, true, true, true, true, true, true, true, true, true, true, true, true, true, true, true, true, false, false, false, false] rfl rfl (take_ofW HT_.out HW_.out (by kernel_rfl)) (fun _ _ _ h => h) (Or.inl ⟨by rfl, ?_⟩) hHeld ?_ ?_
          rotate_left
          · rintro w' ⟨s0, s1, s2, s3, s4, s5⟩
            go_simp
            with_reducible rfl
          rotate_left
          · simp only [Act.put, List.setIfInBounds_toArray, List.set_cons_zero, List.set_cons_succ, i64_w, i32_w]
            rfl
          refine two_ (i := 17) (j := 18) (Ni := some 13) (Nj := some 14) #[true, true, true, true, true, true, true, true, true, true, true, true, true, true, true, true, true, true, false, false, false] #[true, true, true, true, true, true, true, true, true, true, true, true, true, true, true, true, true, false, true, false, false] rfl rfl rfl rfl (two_of HT_.out (by kernel_rfl)) (by decide) (by decide) (fun K hK => ?_) (fun K hK => ?_)
          · refine box_step ?hg (N := 13) ?hd (cs := #[.int .i64 0, .int .i64 0]) (t := 32) ?hr ?_; (case hd => rfl); (case hg => rfl); (case hr => first | (go_simp; done) | (go_simp; rfl))
            intro ga hg wa hbox hb
            have HA17 := Aside0.mk ((Mem.start wd).new hg hbox hb)
            clear hg hbox hb hHeld
            refine hK.out _ _ ⟨cell_later HA17.out.below HCM.out, cell_later HA17.out.below HXB.out, cell_later HA17.out.below HY1.out, cell_later HA17.out.below HY2.out, cell_later HA17.out.below HY3.out, cell_later HA17.out.below HY4.out⟩ (fun hHeld => ?_)
            clear hK K
            refine norm_ (a' := ?_) ?_ ?_
            rotate_left
            · show Act.put _ (some 13) _ = _
              simp only [Act.put, List.setIfInBounds_toArray, List.set_cons_zero, List.set_cons_succ, i64_w, i32_w]
              rfl
            refine one_ (i := 18) (N := some 14) #[true, true, true, true, true, true, true, true, true, true, true, true, true, true, true, true, true, true, true, false, false] rfl rfl (one_of HT_.out (by kernel_rfl)) (by decide) (fun K hK => ?_)
            refine box_step ?hg (N := 14) ?hd (cs := #[.int .i64 0, .int .i64 0]) (t := 32) ?hr ?_; (case hd => rfl); (case hg => rfl); (case hr => first | (go_simp; done) | (go_simp; rfl))
            intro gb hg wb hbox hb
            have HA18 := Aside0.mk (HA17.out.new hg hbox hb)
            clear hg hbox hb hHeld
            refine hK.out _ _ ⟨cell_later HA18.out.below HCM.out, cell_later HA18.out.below HXB.out, cell_later HA18.out.below HY1.out, cell_later HA18.out.below HY2.out, cell_later HA18.out.below HY3.out, cell_later HA18.out.below HY4.out⟩ (fun hHeld => ?_)
            clear hK K
            refine norm_ (a' := ?_) ?_ ?_
            rotate_left
            · show Act.put _ (some 14) _ = _
              simp only [Act.put, List.setIfInBounds_toArray, List.set_cons_zero, List.set_cons_succ, i64_w, i32_w]
              rfl
            have HM0 : Aside0 (Mem wd wb [(ga, #[.int .i64 0, .int .i64 0], 32), (gb, #[.int .i64 0, .int .i64 0], 32)]) := ⟨HA18.out.swap⟩
            clear HA17 HA18
            refine one_ (i := 19) (N := none) #[true, true, true, true, true, true, true, true, true, true, true, true, true, true, true, true, true, true, true, true, false] rfl rfl (one_of HT_.out (by kernel_rfl)) (by decide) (fun K hK => ?_)
            apply store_stepR (ty := 32) (p := 13) (q := 155) (g := ga) (cs := #[.int .i64 h0, .int .i64 h1]) (n := 2) (hw := by rfl) (ho := by rfl) (hm := HM0.out) (hi := size32) (hold := rfl) (hs := rfl) (h1 := by simp [Value.oneCell'])
            · simp [Act.eval, Act.put]
            · simp [Act.eval, Act.put]
            have HM1 := Aside0.mk (HM0.out.row #[.int .i64 h0, .int .i64 h1]).swap
            clear hHeld
            refine hK.out _ _ ⟨cell_later HM1.out.below HCM.out, cell_later HM1.out.below HXB.out, cell_later HM1.out.below HY1.out, cell_later HM1.out.below HY2.out, cell_later HM1.out.below HY3.out, cell_later HM1.out.below HY4.out⟩ (fun hHeld => ?_)
            clear hK K HM0
            generalize wb.setRow ga #[.int .i64 h0, .int .i64 h1] = wc1 at HM1 hHeld ⊢
            refine norm_ (a' := ?_) ?_ ?_
            rotate_left
            · show Act.put _ none _ = _
              rfl
            refine one_ (i := 20) (N := none) #[true, true, true, true, true, true, true, true, true, true, true, true, true, true, true, true, true, true, true, true, true] rfl rfl (one_of HT_.out (by kernel_rfl)) (by decide) (fun K hK => ?_)
            apply store_stepR (ty := 32) (p := 14) (q := 164) (g := gb) (cs := #[.int .i64 o0, .int .i64 o1]) (n := 2) (hw := by rfl) (ho := by rfl) (hm := HM1.out) (hi := size32) (hold := rfl) (hs := rfl) (h1 := by simp [Value.oneCell'])
            · simp [Act.eval, Act.put]
            · simp [Act.eval, Act.put]
            have HM2 := Aside0.mk (HM1.out.row #[.int .i64 o0, .int .i64 o1]).swap
            clear hHeld
            refine hK.out _ _ ⟨cell_later HM2.out.below HCM.out, cell_later HM2.out.below HXB.out, cell_later HM2.out.below HY1.out, cell_later HM2.out.below HY2.out, cell_later HM2.out.below HY3.out, cell_later HM2.out.below HY4.out⟩ (fun hHeld => ?_)
            clear hK K HM1
            generalize wc1.setRow gb #[.int .i64 o0, .int .i64 o1] = wc2 at HM2 hHeld ⊢
            refine norm_ (a' := ?_) ?_ ?_
            rotate_left
            · show Act.put _ none _ = _
              rfl
            refine done_ (done_of HT_.out (by kernel_rfl)) ?_
            clear hHeld HT_ HW_
            try go_wp2
            go_meet
            case rel => exact ⟨ga, gb, rfl, rfl, ⟨⟨below_step HBd.out HM2.out.below, HM2.out.blk, fun p hp => Nat.le_trans HBd.out.size (HM2.out.ge p hp), HM2.out.apart⟩⟩⟩
          · refine box_step ?hg (N := 14) ?hd (cs := #[.int .i64 0, .int .i64 0]) (t := 32) ?hr ?_; (case hd => rfl); (case hg => rfl); (case hr => first | (go_simp; done) | (go_simp; rfl))
            intro ga hg wa hbox hb
            have HA18 := Aside0.mk ((Mem.start wd).new hg hbox hb)
            clear hg hbox hb hHeld
            refine hK.out _ _ ⟨cell_later HA18.out.below HCM.out, cell_later HA18.out.below HXB.out, cell_later HA18.out.below HY1.out, cell_later HA18.out.below HY2.out, cell_later HA18.out.below HY3.out, cell_later HA18.out.below HY4.out⟩ (fun hHeld => ?_)
            clear hK K
            refine norm_ (a' := ?_) ?_ ?_
            rotate_left
            · show Act.put _ (some 14) _ = _
              simp only [Act.put, List.setIfInBounds_toArray, List.set_cons_zero, List.set_cons_succ, i64_w, i32_w]
              rfl
            refine one_ (i := 17) (N := some 13) #[true, true, true, true, true, true, true, true, true, true, true, true, true, true, true, true, true, true, true, false, false] rfl rfl (one_of HT_.out (by kernel_rfl)) (by decide) (fun K hK => ?_)
            refine box_step ?hg (N := 13) ?hd (cs := #[.int .i64 0, .int .i64 0]) (t := 32) ?hr ?_; (case hd => rfl); (case hg => rfl); (case hr => first | (go_simp; done) | (go_simp; rfl))
            intro gb hg wb hbox hb
            have HA17 := Aside0.mk (HA18.out.new hg hbox hb)
            clear hg hbox hb hHeld
            refine hK.out _ _ ⟨cell_later HA17.out.below HCM.out, cell_later HA17.out.below HXB.out, cell_later HA17.out.below HY1.out, cell_later HA17.out.below HY2.out, cell_later HA17.out.below HY3.out, cell_later HA17.out.below HY4.out⟩ (fun hHeld => ?_)
            clear hK K
            refine norm_ (a' := ?_) ?_ ?_
            rotate_left
            · show Act.put _ (some 13) _ = _
              simp only [Act.put, List.setIfInBounds_toArray, List.set_cons_zero, List.set_cons_succ, i64_w, i32_w]
              rfl
            have HM0 : Aside0 (Mem wd wb [(gb, #[.int .i64 0, .int .i64 0], 32), (ga, #[.int .i64 0, .int .i64 0], 32)]) := ⟨HA17.out⟩
            clear HA17 HA18
            refine one_ (i := 19) (N := none) #[true, true, true, true, true, true, true, true, true, true, true, true, true, true, true, true, true, true, true, true, false] rfl rfl (one_of HT_.out (by kernel_rfl)) (by decide) (fun K hK => ?_)
            apply store_stepR (ty := 32) (p := 13) (q := 155) (g := gb) (cs := #[.int .i64 h0, .int .i64 h1]) (n := 2) (hw := by rfl) (ho := by rfl) (hm := HM0.out) (hi := size32) (hold := rfl) (hs := rfl) (h1 := by simp [Value.oneCell'])
            · simp [Act.eval, Act.put]
            · simp [Act.eval, Act.put]
            have HM1 := Aside0.mk (HM0.out.row #[.int .i64 h0, .int .i64 h1]).swap
            clear hHeld
            refine hK.out _ _ ⟨cell_later HM1.out.below HCM.out, cell_later HM1.out.below HXB.out, cell_later HM1.out.below HY1.out, cell_later HM1.out.below HY2.out, cell_later HM1.out.below HY3.out, cell_later HM1.out.below HY4.out⟩ (fun hHeld => ?_)
            clear hK K HM0
            generalize wb.setRow gb #[.int .i64 h0, .int .i64 h1] = wc1 at HM1 hHeld ⊢
            refine norm_ (a' := ?_) ?_ ?_
            rotate_left
            · show Act.put _ none _ = _
              rfl
            refine one_ (i := 20) (N := none) #[true, true, true, true, true, true, true, true, true, true, true, true, true, true, true, true, true, true, true, true, true] rfl rfl (one_of HT_.out (by kernel_rfl)) (by decide) (fun K hK => ?_)
            apply store_stepR (ty := 32) (p := 14) (q := 164) (g := ga) (cs := #[.int .i64 o0, .int .i64 o1]) (n := 2) (hw := by rfl) (ho := by rfl) (hm := HM1.out) (hi := size32) (hold := rfl) (hs := rfl) (h1 := by simp [Value.oneCell'])
            · simp [Act.eval, Act.put]
            · simp [Act.eval, Act.put]
            have HM2 := Aside0.mk (HM1.out.row #[.int .i64 o0, .int .i64 o1]).swap
            clear hHeld
            refine hK.out _ _ ⟨cell_later HM2.out.below HCM.out, cell_later HM2.out.below HXB.out, cell_later HM2.out.below HY1.out, cell_later HM2.out.below HY2.out, cell_later HM2.out.below HY3.out, cell_later HM2.out.below HY4.out⟩ (fun hHeld => ?_)
            clear hK K HM1
            generalize wc1.setRow ga #[.int .i64 o0, .int .i64 o1] = wc2 at HM2 hHeld ⊢
            refine norm_ (a' := ?_) ?_ ?_
            rotate_left
            · show Act.put _ none _ = _
              rfl
            refine done_ (done_of HT_.out (by kernel_rfl)) ?_
            clear hHeld HT_ HW_
            try go_wp2
            go_meet
            case rel => exact ⟨gb, ga, rfl, rfl, ⟨⟨below_step HBd.out HM2.out.below, HM2.out.blk, fun p hp => Nat.le_trans HBd.out.size (HM2.out.ge p hp), HM2.out.apart⟩⟩⟩
        case rest =>
          obtain ⟨gA, gB, rfl, rfl, HMg⟩ := hcut
          have HMh := Aside0.mk (HMf.out.step HMg.out.below)
          clear HXB HCM HY1 HY2 HY3 HY4
          have kc0 : wc.cell? ⟨g4, 0, none⟩ = some (.int .i64 (m : Int)) := (blk_cell HMh.out.second 0).trans rfl
          have kc3 : wc.cell? ⟨g4, 3, none⟩ = some (.int .i64 p0) := (blk_cell HMh.out.second 3).trans rfl
          have kc4 : wc.cell? ⟨g4, 4, none⟩ = some (.int .i64 p1) := (blk_cell HMh.out.second 4).trans rfl
          have kc6 : wc.cell? ⟨g4, 6, none⟩ = some (.int .i64 s1) := (blk_cell HMh.out.second 6).trans rfl
          have kc9 : wc.cell? ⟨g4, 9, none⟩ = some (.int .i64 l0) := (blk_cell HMh.out.second 9).trans rfl
          have kc10 : wc.cell? ⟨g4, 10, none⟩ = some (.int .i64 l1) := (blk_cell HMh.out.second 10).trans rfl
          have kh0 : wc.cell? ⟨gA, 0, none⟩ = some (.int .i64 h0) := (blk_cell HMg.out.head 0).trans rfl
          have kh1 : wc.cell? ⟨gA, 1, none⟩ = some (.int .i64 h1) := (blk_cell HMg.out.head 1).trans rfl
          have ko0 : wc.cell? ⟨gB, 0, none⟩ = some (.int .i64 o0) := (blk_cell HMg.out.second 0).trans rfl
          have ko1 : wc.cell? ⟨gB, 1, none⟩ = some (.int .i64 o1) := (blk_cell HMg.out.second 1).trans rfl
          have hov := HOVV.out
          have hb0 : 0 ≤ ((m : Int) - 1) * p0 ∧ ((m : Int) - 1) * p0 ≤ 2600 := by
            refine ⟨Int.mul_nonneg (by omega) (by omega), ?_⟩
            have q1 : ((m : Int) - 1) * p0 ≤ ((m : Int) - 1) * 260 := Int.mul_le_mul_of_nonneg_left (by omega) (by omega)
            omega
          have hb1 : 0 ≤ p1 * s1 ∧ p1 * s1 ≤ 7800000 := by
            refine ⟨Int.mul_nonneg (by omega) (by omega), ?_⟩
            have q1 : p1 * s1 ≤ 260 * s1 := Int.mul_le_mul_of_nonneg_right (by omega) (by omega)
            omega
          have hb2 : 0 ≤ Int.tdiv (p1 * s1) 1000000 ∧ Int.tdiv (p1 * s1) 1000000 ≤ 20000 := quo_small _ (by omega)
          have x1 : IntKind.i64.wrap ((m : Int) - 1) = (m : Int) - 1 := IntWalk.i64_in _ (by omega)
          have x2 : IntKind.i64.wrap (((m : Int) - 1) * p0) = ((m : Int) - 1) * p0 := IntWalk.i64_in _ (by omega)
          have x3 : IntKind.i64.wrap (p1 * s1) = p1 * s1 := IntWalk.i64_in _ (by omega)
          generalize hmm : p1 * s1 = mm at hov hb1 hb2 x3
          generalize htd : Int.tdiv mm 1000000 = td at hov hb2
          have x4 : IntKind.i64.wrap td = td := IntWalk.i64_in _ (by omega)
          have x5 : IntKind.i64.wrap (p1 + td) = p1 + td := IntWalk.i64_in _ (by omega)
          have x6 : IntKind.i64.wrap (p1 + td + 1) = p1 + td + 1 := IntWalk.i64_in _ (by omega)
          have hb3 : 0 ≤ ((m : Int) - 1) * (p1 + td + 1) ∧ ((m : Int) - 1) * (p1 + td + 1) ≤ 202610 := by
            refine ⟨Int.mul_nonneg (by omega) (by omega), ?_⟩
            have q1 : ((m : Int) - 1) * (p1 + td + 1) ≤ ((m : Int) - 1) * 20261 := Int.mul_le_mul_of_nonneg_left (by omega) (by omega)
            omega
          have x7 : IntKind.i64.wrap (((m : Int) - 1) * (p1 + td + 1)) = ((m : Int) - 1) * (p1 + td + 1) := IntWalk.i64_in _ (by omega)
          have g1 : decide (((m : Int) - 1) * p0 ≤ o0) = true := decide_eq_true hov.2.1
          have g2 : decide (o1 ≤ ((m : Int) - 1) * (p1 + td + 1)) = true := decide_eq_true hov.2.2
          have g3 := hov.2.1
          have g4_ := hov.2.2
          by_cases hm : m = 1
          · have q1 : ((m : Int) == 1) = true := by simp; omega
            have q2 : decide ((m : Int) = 1) = true := decide_eq_true (by omega)
            have q4 : 0 ≤ o0 := by
              have e1 : (m : Int) - 1 = 0 := by omega
              rw [e1, Int.zero_mul] at g3
              exact g3
            have q5 : o1 ≤ 0 := by
              have e1 : (m : Int) - 1 = 0 := by omega
              rw [e1, Int.zero_mul] at g4_
              exact g4_
            have q6 : ¬ 0 < o1 := by omega
            clear hm hov
            go_wp2_with (first
              | (go_at_call 21; refine (thermionlaw04_awake.calls 8 true _ HAW.out).mono ?_; rintro e wE ⟨rfl, hd⟩; have HBE := Aside0.mk (HMh.out.step hd); clear hd))
            go_ret
            exact ⟨rfl, HBE.out.below⟩
          · have q1 : ((m : Int) == 1) = false := by simp; omega
            have q2 : decide ((m : Int) = 1) = false := decide_eq_false (by omega)
            have HWI := Aside0.mk (hov.1 hm)
            clear hm hov
            go_wp2_with (first
              | (go_at_call 28; refine (thermionkit_Within.calls h0 h1 l0 l1 true _ HWI.out).mono ?_; rintro e wD ⟨rfl, hd⟩; have HMi := Aside0.mk (HMh.out.step hd); have HMj := Aside0.mk (HMg.out.step hd); clear hd HMh HMg kc0 kc3 kc4 kc6 kc9 kc10 kh0 kh1 ko0 ko1; have lc0 : wD.cell? ⟨g4, 0, none⟩ = some (.int .i64 (m : Int)) := (blk_cell HMi.out.second 0).trans rfl; have lc3 : wD.cell? ⟨g4, 3, none⟩ = some (.int .i64 p0) := (blk_cell HMi.out.second 3).trans rfl; have lc4 : wD.cell? ⟨g4, 4, none⟩ = some (.int .i64 p1) := (blk_cell HMi.out.second 4).trans rfl; have lc6 : wD.cell? ⟨g4, 6, none⟩ = some (.int .i64 s1) := (blk_cell HMi.out.second 6).trans rfl; have lc9 : wD.cell? ⟨g4, 9, none⟩ = some (.int .i64 l0) := (blk_cell HMi.out.second 9).trans rfl; have lc10 : wD.cell? ⟨g4, 10, none⟩ = some (.int .i64 l1) := (blk_cell HMi.out.second 10).trans rfl; have lh0 : wD.cell? ⟨gA, 0, none⟩ = some (.int .i64 h0) := (blk_cell HMj.out.head 0).trans rfl; have lh1 : wD.cell? ⟨gA, 1, none⟩ = some (.int .i64 h1) := (blk_cell HMj.out.head 1).trans rfl; have lo0 : wD.cell? ⟨gB, 0, none⟩ = some (.int .i64 o0) := (blk_cell HMj.out.second 0).trans rfl; have lo1 : wD.cell? ⟨gB, 1, none⟩ = some (.int .i64 o1) := (blk_cell HMj.out.second 1).trans rfl)
              | (go_at_call 21; refine (thermionlaw04_awake.calls 8 true _ HAW.out).mono ?_; rintro e wE ⟨rfl, hd⟩; have HBE := Aside0.mk (HMi.out.step hd); clear hd))
            go_ret
            exact ⟨rfl, HBE.out.below⟩
end Go.Proofs.Ytbcfphoheijmdaa.Print
end
