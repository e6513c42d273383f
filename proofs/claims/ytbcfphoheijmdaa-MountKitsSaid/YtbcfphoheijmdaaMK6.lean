/- Part 6 of the texts of a claim about Ytbcfphoheijmdaa, put together by a program of this work: what the Go functions do, and that their calls do so. -/
import Derived.Test.YtbcfphoheijmdaaMK5
import Derived.SizedLaws
import Derived.ChangeSlices
import Derived.Test.YtbcfphoheijmdaaMK2
import Derived.WalkKit
import Derived.ProofKit
import Derived.OpenShut
import Derived.ChangeOld
section
/- MountKits: that the Go function's call gives true. -/
namespace Go.Proofs.Ytbcfphoheijmdaa.Print
open Go.RowKit Go.Proofs.YtbcfphoheijmdaaW.PrintWords Go.Proofs.YtbcfphoheijmdaaW.PrintLast Go.Proofs.YtbcfphoheijmdaaW.PrintMore Go.Proofs.Ytbcfphoheijmdaa.H
attribute [local go_sem] max2_int min2_int max_two min_two max_three min_three max_four min_four
attribute [local go_sem ↓] Go.wp_at_zero Go.wp_at_succ
set_option linter.unusedVariables false
set_option linter.unusedSimpArgs false

/-- A kit and a list, as they lie in the two arrays. -/
structure AskedAt (W : World) (a9 a10 : Addr) (i : Nat) (A : Option Addr) (L : List S57) (c : Nat) (ch : Int) (B : Option Addr) (l : List Int) (d : Nat) : Prop where
  k0 : W.cell? (a9.add (i * 2)) = some (.slice A L.length c)
  k1 : W.cell? ⟨(a9.add (i * 2)).block, (a9.add (i * 2)).off + 1, none⟩ = some (.int .i64 ch)
  l0 : W.cell? (a10.add i) = some (.slice B l.length d)
  hC : k57.C W A L.length L
  hc : L.length ≤ c
  hD : (Kd.int .i64).C W B l.length l
  hd : l.length ≤ d
  short : Short L
  len : L.length ≤ 1000
  llen : l.length ≤ 1000
theorem AskedAt.later {W W1 : World} {a9 a10 : Addr} {i : Nat} {A : Option Addr} {L : List S57} {c : Nat} {ch : Int} {B : Option Addr} {l : List Int} {d : Nat} (h : AskedAt W a9 a10 i A L c ch B l d) (hb : Below W.heap.size W W1) : AskedAt W1 a9 a10 i A L c ch B l d :=
  ⟨cell_later hb h.k0, cell_later hb h.k1, cell_later hb h.l0, Kd.C_below h.hC hb, h.hc, Kd.C_below h.hD hb, h.hd, h.short, h.len, h.llen⟩
theorem mem_two {w W : World} {l : List (Nat × Array Value × TypeId)} (h : Mem w W l) (c1 c2 : Array Value) (t1 t2 : TypeId) : Mem w ((W.alloc (.cells c1 t1)).alloc (.cells c2 t2)) ((W.heap.size + 1, c2, t2) :: (W.heap.size, c1, t1) :: l) := by
  have h1 := h.new (g := W.heap.size) rfl (blk_new W (.cells c1 t1)) (below_alloc (Below.refl _ _) _)
  have e : (W.alloc (.cells c1 t1)).heap.size = W.heap.size + 1 := Array.size_push _
  have h2 := blk_new (W.alloc (.cells c1 t1)) (.cells c2 t2)
  rw [e] at h2
  exact h1.new (g := W.heap.size + 1) e.symm h2 (below_alloc (Below.refl _ _) _)
set_option maxHeartbeats 16000000 in
set_option maxRecDepth 100000 in
theorem kits_calls (A0 : Option Addr) (c0 : Nat) (L0 : List S57) (ch : Int) (A1 : Option Addr) (c1 : Nat) (l1 : List Int) (A2 : Option Addr) (c2 : Nat) (l2 : List Int) (w : World) (hr0 : Kd.C k57 w A0 L0.length L0) (hc0 : L0.length ≤ c0) (hr1 : Kd.C (Kd.int .i64) w A1 l1.length l1) (hc1 : l1.length ≤ c1) (hr2 : Kd.C (Kd.int .i64) w A2 l2.length l2) (hc2 : l2.length ≤ c2) :
    Calls Try.prog 5 #[.agg #[.slice A0 L0.length c0, .int .i64 ch], .slice A1 l1.length c1, .slice A2 l2.length c2] w fun e w' => e = .returned (.bool true) ∧ Below w.heap.size w w' := by
  have HR0 := Aside0.mk hr0
  have HR1 := Aside0.mk hr1
  have HR2 := Aside0.mk hr2
  clear hr0 hr1 hr2
  have HND := Aside0.mk (show thermionkit_NewDice.f l2 = some (wordTo ((l2.length : Int) + 1374496523) l2) from rfl)
  generalize wordTo ((l2.length : Int) + 1374496523) l2 = s0 at HND
  have HAW := Aside0.mk awake_true
  have HM := Aside0.mk (Mem.start w)
  have hu49 := Try.underlying49
  have hu22 := Try.underlying22
  have hu62 := Try.underlying62
  have hu63 := Try.underlying63
  obtain ⟨kh, b, hhuge, hb⟩ := huge_eq L0 ch
  have HHU := Aside0.mk hhuge
  clear hhuge
  cases b with
  | true =>
    clear hb
    go_enter Try.func5, Try.ntmps5
    go_wp2_with (first
      | ((with_reducible refine gate_dst (N := 3) rfl ?_); refine ev_box HM.out rfl 49 (.tmp 0) rfl (cs := #[.slice A0 L0.length c0, .int .i64 ch]) rfl ?_; intro g3 w1 hm1 hq1; clear hq1; have HM1 := Aside0.mk hm1; clear hm1 HM)
      | ((with_reducible refine gate_dst (N := 21) rfl ?_); refine ev_load HM1.out.head rfl 49 (.tmp 3) rfl rfl _ Try.underlying49 rfl size49 rfl ?_)
      | (go_at_call 34; refine (thermionlaw04_huge.calls kh A0 c0 L0 ch true w1 (Kd.C_below HR0.out HM1.out.below) hc0 HHU.out).mono ?_; rintro e w2 ⟨rfl, hd⟩; have HM2 := Aside0.mk (HM1.out.step hd); clear hd HM1)
      | (go_at_call 21; refine (thermionlaw04_awake.calls 8 true _ HAW.out).mono ?_; rintro e wE ⟨rfl, hd⟩; have HBE := Aside0.mk (HM2.out.step hd); clear hd))
    go_ret
    exact ⟨rfl, HBE.out.below⟩
  | false =>
  obtain ⟨hL0, hS0⟩ := hb rfl
  clear hb
  by_cases h30 : 30 < (l1.length : Int)
  · have h31 : (l1.length : Int) > 30 := h30
    go_enter Try.func5, Try.ntmps5
    go_wp2_with (first
      | ((with_reducible refine gate_dst (N := 3) rfl ?_); refine ev_box HM.out rfl 49 (.tmp 0) rfl (cs := #[.slice A0 L0.length c0, .int .i64 ch]) rfl ?_; intro g3 w1 hm1 hq1; clear hq1; have HM1 := Aside0.mk hm1; clear hm1 HM)
      | ((with_reducible refine gate_dst (N := 21) rfl ?_); refine ev_load HM1.out.head rfl 49 (.tmp 3) rfl rfl _ Try.underlying49 rfl size49 rfl ?_)
      | (go_at_call 34; refine (thermionlaw04_huge.calls kh A0 c0 L0 ch false w1 (Kd.C_below HR0.out HM1.out.below) hc0 HHU.out).mono ?_; rintro e w2 ⟨rfl, hd⟩; have HM2 := Aside0.mk (HM1.out.step hd); clear hd HM1)
      | (go_at_call 21; refine (thermionlaw04_awake.calls 8 true _ HAW.out).mono ?_; rintro e wE ⟨rfl, hd⟩; have HBE := Aside0.mk (HM2.out.step hd); clear hd))
    go_ret
    exact ⟨rfl, HBE.out.below⟩
  have HL1 : Aside0 (l1.length ≤ 30) := ⟨by omega⟩
  have HS0 := Aside0.mk hS0
  have HL0 := Aside0.mk hL0
  clear hS0 hL0
  obtain ⟨kk, L, c, s1, hko, hfine⟩ := kitOf_fine s0 7 (by omega)
  have HKO := Aside0.mk hko
  have HFI := Aside0.mk hfine
  have HL5 := Aside0.mk hfine.length
  clear hko hfine
  go_enter Try.func5, Try.ntmps5
  go_upto_region 6 with (first
      | ((with_reducible refine gate_dst (N := 3) rfl ?_); refine ev_box HM.out rfl 49 (.tmp 0) rfl (cs := #[.slice A0 L0.length c0, .int .i64 ch]) rfl ?_; intro g3 w1 hm1 hq1; clear hq1; have HM1 := Aside0.mk hm1; clear hm1 HM)
      | ((with_reducible refine gate_dst (N := 21) rfl ?_); refine ev_load HM1.out.head rfl 49 (.tmp 3) rfl rfl _ Try.underlying49 rfl size49 rfl ?_)
      | (go_at_call 34; refine (thermionlaw04_huge.calls kh A0 c0 L0 ch false w1 (Kd.C_below HR0.out HM1.out.below) hc0 HHU.out).mono ?_; rintro e w2 ⟨rfl, hd⟩; have HM2 := Aside0.mk (HM1.out.step hd); clear hd HM1)
      | (go_at_call 19; refine (thermionkit_NewDice.calls A2 c2 l2 s0 w w2 HM2.out.below HR2.out hc2 HND.out).mono ?_; rintro e w3 ⟨g, rfl, hI1, hB1, hB1b⟩; have HI3 := Aside0.mk hI1; have HM3 := Aside0.mk (HM2.out.step hB1b); clear hI1 hB1 hB1b HND HR2 HM2)
      | (go_at_call 29; refine (thermionkit_KitOf.calls kk g s0 7 L c s1 w w3 HI3.out HM3.out.below HKO.out).mono ?_; rintro e w4 ⟨vL, rfl, hS2, hI2, hB2, hK2⟩; obtain ⟨AL, nL, rfl⟩ := Kd.S_slice hS2; have HI4 := Aside0.mk hI2; have HB4 := Aside0.mk hB2; have HR4 : Aside0 (k57.R 57 w4 w.heap.size (fun k => k < w4.heap.size ∧ k ≠ g) (.slice AL L.length nL) L) := ⟨Kd.R_mono (Kd.R_bound (Kd.R_types (Kd.R_lower (Kd.S_R hS2) HM3.out.below.size) hI2.1 (fun q hq => by rcases q57 hq with rfl | rfl <;> decide))) (fun k hk => ⟨hk.2.2.1, hk.1.2⟩)⟩; have HG3 : Aside0 (w4.heap[g3]? = some (.cells #[.slice A0 L0.length c0, .int .i64 ch] 49 (0, 0))) := ⟨(hK2.2 g3 (blk_lt HM3.out.head) (fun e => by have h1 := HM3.out.head; rw [e, HI3.out.1] at h1; simp at h1) (by simp)).trans HM3.out.head⟩; have HN4 := Aside0.mk (Mem.start w4); clear hS2 hI2 hB2 hK2 HKO HI3 HM3)
      | ((with_reducible refine gate_dst (N := 8) rfl ?_); refine ev_new HN4.out rfl 49 rfl info49 ?_; intro g8 w5 hm3 hq1; have HN5 := Aside0.mk hm3; clear hm3 hq1 HN4)
      | ((with_reducible refine gate_store (t := 49) (p := 8) rfl ?_); refine ev_storeW HN5.out rfl 49 (.tmp 8) (.tmp 32) rfl rfl (cs := #[.slice AL L.length nL, .int .i64 c]) rfl size49 rfl rfl (by simp [Value.oneCell']) ?_; intro hm4; have HN6 := Aside0.mk hm4; clear hm4 HN5; generalize w5.setRow g8 #[.slice AL L.length nL, .int .i64 c] = w6 at HN6 ⊢)
      | ((with_reducible refine gate_dst (N := 33) rfl ?_); refine ev_load (blk_below HG3.out HN6.out.below) rfl 49 (.tmp 3) rfl rfl _ Try.underlying49 rfl size49 rfl ?_)
      | ((with_reducible refine gate_dst (N := 34) rfl ?_); refine ev_load HN6.out.head rfl 49 (.tmp 8) rfl rfl _ Try.underlying49 rfl size49 rfl ?_)
      | ((with_reducible refine gate_dst (N := 35) rfl ?_); refine ev_load HN6.out.head rfl 49 (.tmp 8) rfl rfl _ Try.underlying49 rfl size49 rfl ?_))
  have HNX : Aside0 (Mem w4 ((w6.alloc (.cells #[.slice A0 L0.length c0, .int .i64 ch, .slice AL L.length nL, .int .i64 c, .slice AL L.length nL, .int .i64 c] 49)).alloc (.cells #[.slice A1 l1.length c1, .slice none 0 0, .slice A1 l1.length c1] 22)) [(w6.heap.size + 1, #[.slice A1 l1.length c1, .slice none 0 0, .slice A1 l1.length c1], 22), (w6.heap.size, #[.slice A0 L0.length c0, .int .i64 ch, .slice AL L.length nL, .int .i64 c, .slice AL L.length nL, .int .i64 c], 49), (g8, #[.slice AL L.length nL, .int .i64 c], 49)]) := ⟨mem_two HN6.out _ _ _ _⟩
  clear HN6 HG3
  generalize ((w6.alloc (.cells #[.slice A0 L0.length c0, .int .i64 ch, .slice AL L.length nL, .int .i64 c, .slice AL L.length nL, .int .i64 c] 49)).alloc (.cells #[.slice A1 l1.length c1, .slice none 0 0, .slice A1 l1.length c1] 22)) = w7 at HNX ⊢
  generalize hg10 : w6.heap.size + 1 = g10 at HNX ⊢
  generalize w6.heap.size = g9 at HNX ⊢
  clear hg10
  have HKW : Aside0 (KW w w7 g g8 g9 g10 w4.heap.size s1 #[.slice A0 L0.length c0, .int .i64 ch, .slice AL L.length nL, .int .i64 c, .slice AL L.length nL, .int .i64 c] (.slice A1 l1.length c1) (.slice AL L.length nL) L c (.slice none 0 0) (.slice none 0 0) []) := ⟨mem_base HNX.out HB4.out, ⟨blk_below HI4.out.1 HNX.out.below, HI4.out.2⟩, Kd.R_below HR4.out HNX.out.below, Kd.R_nil _ _ _ _ _, HB4.out.size, HNX.out.geh⟩
  clear HNX HR4 HI4 HB4 hu62
  go_wp2_with fail
  go_loopg [11] L.length (fun k v11 w' => ∃ (j : Nat) (s : Int) (v1 : Value) (X : List Int), v11 = .int .i64 j ∧ Aside0 (j + k = L.length) ∧ Aside0 (X.length ≤ j) ∧ Aside0 (KW w w' g g8 g9 g10 w4.heap.size s #[.slice A0 L0.length c0, .int .i64 ch, .slice AL L.length nL, .int .i64 c, .slice AL L.length nL, .int .i64 c] (.slice A1 l1.length c1) (.slice AL L.length nL) L c v1 v1 X))
  case atStart => exact ⟨0, s1, _, [], rfl, ⟨by omega⟩, ⟨by simp⟩, ⟨HKW.out⟩⟩
  case round =>
    obtain ⟨j, s, v1, X, rfl, HK, HX, HW⟩ := hrel
    obtain ⟨AX, nX, rfl⟩ := Kd.R_slice HW.out.row
    have a8 : wr.cell? ⟨g8, 0, none⟩ = some (.slice AL L.length nL) := (blk_cell HW.out.mem.third 0).trans rfl
    by_cases hj : j < L.length
    · have hj2 : decide ((j : Int) < (L.length : Int)) = true := by simp; omega
      obtain ⟨b, hone⟩ := one_eq s 2 (by omega) (by omega)
      have HON := Aside0.mk hone
      have j1 : IntKind.i64.wrap ((j : Int) + 1) = ((j + 1 : Nat) : Int) := by rw [IntWalk.i64_in _ (by have := HL5.out; omega)]; omega
      clear hone
      cases b with
      | false =>
        go_wp2_with (first
          | (go_at_call 35; refine (thermionkit_Dice_One.calls g s 2 false (nextWord s) w wr HW.out.dice HW.out.mem.below HON.out).mono ?_; rintro e w8 ⟨rfl, hI, hB, hK⟩; have HW8 := Aside0.mk (HW.out.rolled hI hB hK); clear hI hB hK a8))
        go_roundg (L.length - (j + 1))
        case measure => have := HK.out; omega
        case rel => exact ⟨j + 1, _, _, X, by go_num, ⟨by omega⟩, ⟨by have := HX.out; omega⟩, ⟨HW8.out⟩⟩
      | true =>
        go_wp2_with (first
          | (go_at_call 35; refine (thermionkit_Dice_One.calls g s 2 true (nextWord s) w wr HW.out.dice HW.out.mem.below HON.out).mono ?_; rintro e w8 ⟨rfl, hI, hB, hK⟩; have HW8 := Aside0.mk (HW.out.rolled hI hB hK); clear hI hB hK a8; have a10 : w8.cell? ⟨g10, 1, none⟩ = some (.slice AX X.length nX) := (HW8.out.mem.cell 1).trans rfl)
          | ((with_reducible refine gate_dst (N := 55) rfl ?_); refine Kd.R_append (Kd.int .i64) (w0 := w8) w4.heap.size rfl (.tmp 52) (.tmp 54) 22 3 (.int .i64 0) 8 rfl Try.underlying22 info3 rfl (by decide) (by omega) (.slice AX X.length nX) X (j : Int) [.int .i64 (j : Int)] (fun _ => True) (fun _ => False) rfl rfl rfl (fun _ hk => hk.elim) (fun _ _ => trivial) HW8.out.row (Below.refl _ _) (Nat.le_trans HW8.out.nhi (Nat.le_of_lt (blk_lt HW8.out.mem.head))) (by have := HX.out; have := HL5.out; omega) ?_; intro v2 w9 hR9 hB9 hg9 hat9; obtain ⟨AY, nY, rfl⟩ := Kd.R_slice hR9; have HW9 := Aside0.mk (HW8.out.grown hg9 hR9); rw [List.length_append, List.length_singleton] at HW9; have a10 : w9.cell? ⟨g10, 1, none⟩ = some (.slice AX X.length nX) := (HW9.out.mem.cell 1).trans rfl; have f10 : w9.frozen? ⟨g10, 1, none⟩ = false := HW9.out.mem.frozen 1; clear hR9 hB9 hg9 hat9))
        have HWA := Aside0.mk HW9.out.put
        go_roundg (L.length - (j + 1))
        case measure => have := HK.out; omega
        case rel => exact ⟨j + 1, _, _, X ++ [(j : Int)], by go_num, ⟨by omega⟩, ⟨by have := HX.out; simp; omega⟩, ⟨by simpa using HWA.out⟩⟩
    · have hj2 : decide ((j : Int) < (L.length : Int)) = false := by simp; omega
      go_wp2_with fail
      have HALL : Aside0 (∀ i, i < 3 → ∃ Ai Li ci chi Bi li di, AskedAt wr ⟨g9, 0, none⟩ ⟨g10, 0, none⟩ i Ai Li ci chi Bi li di) := ⟨fun i hi => by
        have hM := HW.out.mem
        have hb := hM.below
        have hown := Kd.R_reads' HW.out.own
        have hrow := Kd.R_reads' HW.out.row
        have hKF := HFI.out
        have hsh := hKF.short (by omega)
        have h7 := HL5.out
        have hXl := HX.out
        have hKl := HK.out
        rcases (by omega : i = 0 ∨ i = 1 ∨ i = 2) with rfl | rfl | rfl
        · exact ⟨A0, L0, c0, ch, A1, l1, c1, ⟨(hM.drop.cell 0).trans rfl, (hM.drop.cell 1).trans rfl, (hM.cell 0).trans rfl, Kd.C_below HR0.out hb, hc0, Kd.C_below HR1.out hb, hc1, HS0.out, by have := HL0.out; omega, by have := HL1.out; omega⟩⟩
        · exact ⟨AL, L, nL, c, AX, X, nX, ⟨(hM.drop.cell 2).trans rfl, (hM.drop.cell 3).trans rfl, (hM.cell 1).trans rfl, hown.2.2, hown.2.1, hrow.2.2, hrow.2.1, hsh, by omega, by omega⟩⟩
        · exact ⟨AL, L, nL, c, A1, l1, c1, ⟨(hM.drop.cell 4).trans rfl, (hM.drop.cell 5).trans rfl, (hM.cell 2).trans rfl, hown.2.2, hown.2.1, Kd.C_below HR1.out hb, hc1, hsh, by omega, by have := HL1.out; omega⟩⟩⟩
      have HBW := Aside0.mk HW.out.mem.below
      clear HW HX HK a8 HFI HL5 HS0 HL0 HL1 HR0 HR1 hj hj2
      obtain ⟨ad9, h9⟩ : ∃ ad, ad = (⟨g9, 0, none⟩ : Addr) := ⟨_, rfl⟩
      obtain ⟨ad10, h10⟩ : ∃ ad, ad = (⟨g10, 0, none⟩ : Addr) := ⟨_, rfl⟩
      rw [← h9, ← h10] at HALL ⊢
      clear h9 h10
      go_loopg [12, 13, 14, 15, 16, 17, 18, 19, 20] 3 (fun k v12 v13 v14 v15 v16 v17 v18 v19 v20 w' => ∃ (i : Nat), v12 = .int .i64 i ∧ Aside0 (i + k = 3) ∧ Aside0 (Below wr.heap.size wr w'))
      case atStart => exact ⟨0, rfl, ⟨by omega⟩, ⟨Below.refl _ _⟩⟩
      case round =>
        obtain ⟨i, rfl, HK, HB⟩ := hrel
        by_cases hi : i < 3
        · have hi2 : decide ((i : Int) < 3) = true := by simp; omega
          have i2 : (0 : Int) ≤ (i : Int) := by omega
          have i3 : (i : Int) < 3 := by omega
          have i1 : IntKind.i64.wrap ((i : Int) + 1) = ((i + 1 : Nat) : Int) := by rw [IntWalk.i64_in _ (by omega)]; omega
          obtain ⟨Ai, Li, ci, chi, Bi, li, di, hAsk⟩ := HALL.out i hi
          have HQ := Aside0.mk (hAsk.later HB.out)
          clear hAsk
          obtain ⟨ra, rx, e1, e2, f1, f2, f3, f4, f5, f6, f7, f8⟩ := kit_asked HQ.out.short HQ.out.len chi HQ.out.llen
          have H1 := Aside0.mk f1
          have H2 := Aside0.mk f2
          have H3 := Aside0.mk f3
          have H4 := Aside0.mk f4
          have H5 := Aside0.mk f5
          have H6 := Aside0.mk f6
          have H7 := Aside0.mk f7
          have H8 := Aside0.mk f8
          generalize kitErr Li chi = e3 at H5 H6
          clear f1 f2 f3 f4 f5 f6 f7 f8
          have q1 := HQ.out.k0
          have q2 := HQ.out.k1
          have q3 := HQ.out.l0
          go_upto_region 14 with fail
          go_cut [13, 14] (fun v13 v14 wc => ∃ (B : Option Addr) (n : Nat), v13 = .slice B ra.length n ∧ v14 = .int .i64 e1 ∧ Aside0 (AskedAt wc ad9 ad10 i Ai Li ci chi Bi li di) ∧ Aside0 (Below wr.heap.size wr wc) ∧ Aside0 (ra.length ≤ n ∧ (Kd.int .i64).C wc B ra.length ra))
          case first =>
            have q1 := HQ.out.k0
            have q2 := HQ.out.k1
            have q3 := HQ.out.l0
            go_region_held3 (fun w' => w'.cell? (ad9.add (i * 2)) = some (.slice Ai Li.length ci) ∧ w'.cell? ⟨(ad9.add (i * 2)).block, (ad9.add (i * 2)).off + 1, none⟩ = some (.int .i64 chi) ∧ w'.cell? (ad10.add i) = some (.slice Bi li.length di)) (first | exact ⟨q1, q2, q3⟩ | exact ⟨m1, m2, m3⟩) (first
              | (go_at_call 36; refine (mount_May.calls Ai ci Li chi Bi di li ra e1 _ (Kd.C_below HQ.out.hC (below_drew1 (Below.refl _ _))) HQ.out.hc (Kd.C_below HQ.out.hD (below_drew1 (Below.refl _ _))) HQ.out.hd H1.out).mono ?_; rintro e w1 ⟨v1, rfl, hR, hb⟩; have HB1 := Aside0.mk (below_step (below_drew1 (Below.refl wr.heap.size wr)) hb); have HQ1 := Aside0.mk (HQ.out.later HB1.out); obtain ⟨Ba, na, rfl⟩ := Kd.R_slice hR; have HRa := Aside0.mk (Kd.R_reads' hR).2; have m1 := HQ1.out.k0; have m2 := HQ1.out.k1; have m3 := HQ1.out.l0; clear hR hb H1))
            all_goals clear q1 q2 q3 m1 m2 m3 HQ
            all_goals try go_wp2
            all_goals go_meet
            all_goals (case rel => exact ⟨_, _, rfl, rfl, ⟨HQ1.out⟩, ⟨HB1.out⟩, ⟨HRa.out⟩⟩)
          case rest =>
          obtain ⟨B0, n0, rfl, rfl, HQ0_, HB0, HR0⟩ := hcut
          obtain ⟨wc0, hwc⟩ : ∃ x, x = wc := ⟨_, rfl⟩
          subst hwc
          clear HQ H1
          have HQ := HQ0_
          clear HQ0_
          have HB := Aside0.mk (below_step HB.out HB0.out)
          clear HB0
          go_upto_region 15 with fail
          go_cut [15, 16] (fun v15 v16 wc => ∃ (B : Option Addr) (n : Nat), v15 = .slice B ra.length n ∧ v16 = .int .i64 e1 ∧ Aside0 (AskedAt wc ad9 ad10 i Ai Li ci chi Bi li di) ∧ Aside0 (Below wc0.heap.size wc0 wc) ∧ Aside0 (ra.length ≤ n ∧ (Kd.int .i64).C wc B ra.length ra))
          case first =>
            have q1 := HQ.out.k0
            have q2 := HQ.out.k1
            have q3 := HQ.out.l0
            go_region_held3 (fun w' => w'.cell? (ad9.add (i * 2)) = some (.slice Ai Li.length ci) ∧ w'.cell? ⟨(ad9.add (i * 2)).block, (ad9.add (i * 2)).off + 1, none⟩ = some (.int .i64 chi) ∧ w'.cell? (ad10.add i) = some (.slice Bi li.length di)) (first | exact ⟨q1, q2, q3⟩ | exact ⟨m1, m2, m3⟩) (first
              | (go_at_call 37; refine (thermionref04_May.calls 2000 Ai ci Li chi Bi di li ra e1 _ (Kd.C_below HQ.out.hC (below_drew1 (Below.refl _ _))) HQ.out.hc (Kd.C_below HQ.out.hD (below_drew1 (Below.refl _ _))) HQ.out.hd H2.out).mono ?_; rintro e w1 ⟨v1, rfl, hR, hb⟩; have HB1 := Aside0.mk (below_step (below_drew1 (Below.refl wc0.heap.size wc0)) hb); have HQ1 := Aside0.mk (HQ.out.later HB1.out); obtain ⟨Ba, na, rfl⟩ := Kd.R_slice hR; have HRa := Aside0.mk (Kd.R_reads' hR).2; have m1 := HQ1.out.k0; have m2 := HQ1.out.k1; have m3 := HQ1.out.l0; clear hR hb H2))
            all_goals clear q1 q2 q3 m1 m2 m3 HQ
            all_goals try go_wp2
            all_goals go_meet
            all_goals (case rel => exact ⟨_, _, rfl, rfl, ⟨HQ1.out⟩, ⟨HB1.out⟩, ⟨HRa.out⟩⟩)
          case rest =>
          obtain ⟨B1, n1, rfl, rfl, HQ1_, HB1, HR1⟩ := hcut
          obtain ⟨wc1, hwc⟩ : ∃ x, x = wc := ⟨_, rfl⟩
          subst hwc
          clear HQ H2
          have HQ := HQ1_
          clear HQ1_
          have HR0 := Aside0.mk (And.intro HR0.out.1 (Kd.C_below HR0.out.2 HB1.out))
          have HB := Aside0.mk (below_step HB.out HB1.out)
          clear HB1
          go_upto_region 16 with fail
          go_cut [17, 18] (fun v17 v18 wc => ∃ (B : Option Addr) (n : Nat), v17 = .slice B rx.length n ∧ v18 = .int .i64 e2 ∧ Aside0 (AskedAt wc ad9 ad10 i Ai Li ci chi Bi li di) ∧ Aside0 (Below wc1.heap.size wc1 wc) ∧ Aside0 (rx.length ≤ n ∧ (Kd.int .i64).C wc B rx.length rx))
          case first =>
            have q1 := HQ.out.k0
            have q2 := HQ.out.k1
            have q3 := HQ.out.l0
            go_region_held3 (fun w' => w'.cell? (ad9.add (i * 2)) = some (.slice Ai Li.length ci) ∧ w'.cell? ⟨(ad9.add (i * 2)).block, (ad9.add (i * 2)).off + 1, none⟩ = some (.int .i64 chi) ∧ w'.cell? (ad10.add i) = some (.slice Bi li.length di)) (first | exact ⟨q1, q2, q3⟩ | exact ⟨m1, m2, m3⟩) (first
              | (go_at_call 38; refine (mount_Guard.calls Ai ci Li chi Bi di li rx e2 _ (Kd.C_below HQ.out.hC (below_drew1 (Below.refl _ _))) HQ.out.hc (Kd.C_below HQ.out.hD (below_drew1 (Below.refl _ _))) HQ.out.hd H3.out).mono ?_; rintro e w1 ⟨v1, rfl, hR, hb⟩; have HB1 := Aside0.mk (below_step (below_drew1 (Below.refl wc1.heap.size wc1)) hb); have HQ1 := Aside0.mk (HQ.out.later HB1.out); obtain ⟨Ba, na, rfl⟩ := Kd.R_slice hR; have HRa := Aside0.mk (Kd.R_reads' hR).2; have m1 := HQ1.out.k0; have m2 := HQ1.out.k1; have m3 := HQ1.out.l0; clear hR hb H3))
            all_goals clear q1 q2 q3 m1 m2 m3 HQ
            all_goals try go_wp2
            all_goals go_meet
            all_goals (case rel => exact ⟨_, _, rfl, rfl, ⟨HQ1.out⟩, ⟨HB1.out⟩, ⟨HRa.out⟩⟩)
          case rest =>
          obtain ⟨B2, n2, rfl, rfl, HQ2_, HB2, HR2⟩ := hcut
          obtain ⟨wc2, hwc⟩ : ∃ x, x = wc := ⟨_, rfl⟩
          subst hwc
          clear HQ H3
          have HQ := HQ2_
          clear HQ2_
          have HR0 := Aside0.mk (And.intro HR0.out.1 (Kd.C_below HR0.out.2 HB2.out))
          have HR1 := Aside0.mk (And.intro HR1.out.1 (Kd.C_below HR1.out.2 HB2.out))
          have HB := Aside0.mk (below_step HB.out HB2.out)
          clear HB2
          go_upto_region 17 with fail
          go_cut [19, 20] (fun v19 v20 wc => ∃ (B : Option Addr) (n : Nat), v19 = .slice B rx.length n ∧ v20 = .int .i64 e2 ∧ Aside0 (AskedAt wc ad9 ad10 i Ai Li ci chi Bi li di) ∧ Aside0 (Below wc2.heap.size wc2 wc) ∧ Aside0 (rx.length ≤ n ∧ (Kd.int .i64).C wc B rx.length rx))
          case first =>
            have q1 := HQ.out.k0
            have q2 := HQ.out.k1
            have q3 := HQ.out.l0
            go_region_held3 (fun w' => w'.cell? (ad9.add (i * 2)) = some (.slice Ai Li.length ci) ∧ w'.cell? ⟨(ad9.add (i * 2)).block, (ad9.add (i * 2)).off + 1, none⟩ = some (.int .i64 chi) ∧ w'.cell? (ad10.add i) = some (.slice Bi li.length di)) (first | exact ⟨q1, q2, q3⟩ | exact ⟨m1, m2, m3⟩) (first
              | (go_at_call 39; refine (thermionref04_Guard.calls 400000 Ai ci Li chi Bi di li rx e2 _ (Kd.C_below HQ.out.hC (below_drew1 (Below.refl _ _))) HQ.out.hc (Kd.C_below HQ.out.hD (below_drew1 (Below.refl _ _))) HQ.out.hd H4.out).mono ?_; rintro e w1 ⟨v1, rfl, hR, hb⟩; have HB1 := Aside0.mk (below_step (below_drew1 (Below.refl wc2.heap.size wc2)) hb); have HQ1 := Aside0.mk (HQ.out.later HB1.out); obtain ⟨Ba, na, rfl⟩ := Kd.R_slice hR; have HRa := Aside0.mk (Kd.R_reads' hR).2; have m1 := HQ1.out.k0; have m2 := HQ1.out.k1; have m3 := HQ1.out.l0; clear hR hb H4))
            all_goals clear q1 q2 q3 m1 m2 m3 HQ
            all_goals try go_wp2
            all_goals go_meet
            all_goals (case rel => exact ⟨_, _, rfl, rfl, ⟨HQ1.out⟩, ⟨HB1.out⟩, ⟨HRa.out⟩⟩)
          case rest =>
          obtain ⟨B3, n3, rfl, rfl, HQ3_, HB3, HR3⟩ := hcut
          obtain ⟨wc3, hwc⟩ : ∃ x, x = wc := ⟨_, rfl⟩
          subst hwc
          clear HQ H4
          have HQ := HQ3_
          clear HQ3_
          have HR0 := Aside0.mk (And.intro HR0.out.1 (Kd.C_below HR0.out.2 HB3.out))
          have HR1 := Aside0.mk (And.intro HR1.out.1 (Kd.C_below HR1.out.2 HB3.out))
          have HR2 := Aside0.mk (And.intro HR2.out.1 (Kd.C_below HR2.out.2 HB3.out))
          have HB := Aside0.mk (below_step HB.out HB3.out)
          clear HB3

          go_upto_region 18 with fail
          have q1 := HQ.out.k0
          have q2 := HQ.out.k1
          go_region_held3 (fun w' => w'.cell? (ad9.add (i * 2)) = some (.slice Ai Li.length ci) ∧ w'.cell? ⟨(ad9.add (i * 2)).block, (ad9.add (i * 2)).off + 1, none⟩ = some (.int .i64 chi)) (first | exact ⟨q1, q2⟩ | exact ⟨m1, m2⟩ | exact ⟨p1, p2⟩ | exact ⟨r1, r2⟩ | exact ⟨s1, s2⟩) (first
            | (go_at_call 40; refine (mount_CheckKit.calls Ai ci Li chi e3 _ (Kd.C_below HQ.out.hC (below_drew1 (Below.refl _ _))) HQ.out.hc H5.out).mono ?_; rintro e w1 ⟨rfl, hb⟩; have HB1 := Aside0.mk (below_step (below_drew1 (Below.refl wc3.heap.size wc3)) hb); have m1 := (HQ.out.later HB1.out).k0; have m2 := (HQ.out.later HB1.out).k1; clear hb H5)
            | (go_at_call 41; refine (thermionref04_CheckKit.calls 300 Ai ci Li chi e3 _ (HQ.out.later HB1.out).hC HQ.out.hc H6.out).mono ?_; rintro e w2 ⟨rfl, hb⟩; have HB2 := Aside0.mk (below_step HB1.out hb); have p1 := (HQ.out.later HB2.out).k0; have p2 := (HQ.out.later HB2.out).k1; clear hb H6 HB1)
            | (go_at_call 42; refine (thermionkit_Same.calls (ra.length + 1) B0 n0 ra B1 n1 ra true _ (Kd.C_below HR0.out.2 HB2.out) HR0.out.1 (Kd.C_below HR1.out.2 HB2.out) HR1.out.1 H7.out).mono ?_; rintro e w3 ⟨rfl, hb⟩; have HB3 := Aside0.mk (below_step HB2.out hb.below); have r1 := (HQ.out.later HB3.out).k0; have r2 := (HQ.out.later HB3.out).k1; clear hb H7 HB2)
            | (go_at_call 42; refine (thermionkit_Same.calls (rx.length + 1) B2 n2 rx B3 n3 rx true _ (Kd.C_below HR2.out.2 HB3.out) HR2.out.1 (Kd.C_below HR3.out.2 HB3.out) HR3.out.1 H8.out).mono ?_; rintro e w4 ⟨rfl, hb⟩; have HB4 := Aside0.mk (below_step HB3.out hb.below); have s1 := (HQ.out.later HB4.out).k0; have s2 := (HQ.out.later HB4.out).k1; clear hb H8 HB3))
          clear q1 q2 m1 m2 p1 p2 r1 r2
          go_wp2_with fail
          go_roundg (3 - (i + 1))
          case measure => have := HK.out; omega
          case rel => exact ⟨i + 1, by go_num, ⟨by omega⟩, ⟨below_step HB.out HB4.out⟩⟩
        · have hi2 : decide ((i : Int) < 3) = false := by simp; omega
          go_wp2_with (first
            | (go_at_call 21; refine (thermionlaw04_awake.calls 8 true _ HAW.out).mono ?_; rintro e wE ⟨rfl, hd⟩; have HBE := Aside0.mk (below_step HBW.out (below_step HB.out hd)); clear hd))
          go_ret
          exact ⟨rfl, HBE.out⟩
end Go.Proofs.Ytbcfphoheijmdaa.Print
end

section
-- PRINTED BY print.sh 35421559b90ae4d0a3588c463048766b98c2df88dd9212a6774a882060cdf62d: not written by this session
-- PRINTED WORDS (module Derived/Print/Sized.lean): go-gate-2's, for the rows of laws over slices: an AI agent of Go's test side, Tue Nov 17 2026; no person has read it. Lean checks it.
namespace Go.Proofs.YtbcfphoheijmdaaW.PrintWords
open Go.ChangeShapes Go.WideShapes
end Go.Proofs.YtbcfphoheijmdaaW.PrintWords
end

section
/- Raw arguments, opened: what is trod reads as lists and records of whole numbers. -/
namespace Go.Proofs.Ytbcfphoheijmdaa.Print
open Go.RowKit Go.Proofs.YtbcfphoheijmdaaW.PrintWords Go.Proofs.YtbcfphoheijmdaaW.PrintLast Go.Proofs.YtbcfphoheijmdaaW.PrintMore
set_option linter.unusedVariables false
set_option linter.unusedSimpArgs false

/-- A number as a machine holds it. -/
def Word64 (x : Int) : Prop := (Lit.int .i64 x).wf = true
theorem Word64.range {x : Int} (h : Word64 x) : -9223372036854775808 ≤ x ∧ x ≤ 9223372036854775807 := by
  unfold Word64 at h
  simp only [Lit.wf, Bool.and_eq_true, decide_eq_true_eq] at h
  have e1 : IntKind.min .i64 = -9223372036854775808 := by decide
  have e2 : IntKind.max .i64 = 9223372036854775807 := by decide
  omega
section
variable {H : Type} {enc : TypeId × Value → H} {W : World} {base : Nat} {sp : Nat → Bool} {held : Bool} {n : Nat} {cs : List Value} {x : DataW H × List MemPlace}
theorem trod_int3 (h : DataW.trod enc Try.prog W base sp held n 3 cs = some x) : ∃ y, cs = [.int .i64 y] ∧ Word64 y := by
  obtain ⟨y, rfl, _, hw⟩ := DataW.trod_int Try.underlying3 h
  exact ⟨y, rfl, hw⟩
theorem pick_list {α : Type} (m : Nat) (P : Nat → α → Prop) (h : ∀ i, i < m → ∃ y, P i y) : ∃ xs : List α, xs.length = m ∧ ∀ i (hi : i < xs.length), P i xs[i] := by
  induction m with
  | zero => exact ⟨[], rfl, fun i hi => absurd hi (by simp)⟩
  | succ m ih =>
    obtain ⟨xs, hl, hx⟩ := ih (fun i hi => h i (by omega))
    obtain ⟨y, hy⟩ := h m (by omega)
    refine ⟨xs ++ [y], by simp [hl], fun i hi => ?_⟩
    by_cases q : i < xs.length
    · rw [List.getElem_append_left q]
      exact hx i q
    · have : i = m := by rw [List.length_append, List.length_singleton] at hi; omega
      subst this
      rw [List.getElem_append_right (by omega)]
      simpa [hl] using hy
/-- A slice is a list of what its elements are. -/
theorem trod_list {α : Type} {d : Kd α} {t e : TypeId} {Wf : α → Prop} (ht : Try.prog.underlying t = some (.slice e)) (hsz : Try.prog.cellsOf e = d.sz) (hopen : ∀ n cs x, DataW.trod enc Try.prog W base sp held n e cs = some x → ∃ y, d.K W y cs ∧ Wf y)
    (h : DataW.trod enc Try.prog W base sp held n t cs = some x) : ∃ (A : Option Addr) (xs : List α) (c : Nat), cs = [.slice A xs.length c] ∧ xs.length ≤ c ∧ c ≤ maxLen ∧ d.C W A xs.length xs ∧ ∀ y, y ∈ xs → Wf y := by
  rcases DataW.trod_slice ht h with ⟨rfl, _⟩ | ⟨a, len, cap, elems, rest, m, _, rfl, _, hb, hl, hm, hlen, hel, _, _⟩
  · exact ⟨none, [], 0, rfl, by simp, by simp, ⟨rfl, by simp, fun h => absurd h (by simp)⟩, fun y hy => by cases hy⟩
  · have each : ∀ i, i < len → ∃ y, (∃ ci, ci.length = d.sz ∧ d.K W y ci ∧ ∀ j u, ci[j]? = some u → W.cell? (a.add (i * d.sz + j)) = some u) ∧ Wf y := by
      intro i hi
      have h1 := hel i hi
      rw [List.getElem?_eq_getElem (by omega), Option.bind_eq_some_iff] at h1
      obtain ⟨ci, hci, htr⟩ := h1
      obtain ⟨y, hK, hW⟩ := hopen _ _ _ htr
      obtain ⟨_, hcl, hcc⟩ := World.cells?_some hci
      rw [hsz] at hcl hcc
      refine ⟨y, ⟨ci, hcl, hK, fun j u hu => ?_⟩, hW⟩
      have hj : j < d.sz := by
        have := (List.getElem?_eq_some_iff.1 hu).1
        omega
      have := hcc j hj
      rw [hu] at this
      rw [← this, add_add]
    obtain ⟨xs, hxl, hxs⟩ := pick_list len _ each
    refine ⟨some a, xs, cap, by rw [hxl], by omega, hm, ⟨rfl, ?_, fun _ => ⟨a, rfl, fun j p hj => ?_⟩⟩, fun y hy => ?_⟩
    · have : maxLen ≤ 9223372036854775807 := by unfold maxLen; omega
      omega
    · obtain ⟨hj1, hj2⟩ := List.getElem?_eq_some_iff.1 hj
      have := (hxs j hj1).1
      rw [hj2] at this
      exact this
    · obtain ⟨i, hi, rfl⟩ := List.mem_iff_getElem.1 hy
      exact (hxs i hi).2
theorem cells3 : Try.prog.cellsOf 3 = 1 := by kernel_rfl
theorem cells22 : Try.prog.cellsOf 22 = 1 := by kernel_rfl
theorem cells47 : Try.prog.cellsOf 47 = 1 := by kernel_rfl
theorem cells49 : Try.prog.cellsOf 49 = 2 := by kernel_rfl
theorem cells57 : Try.prog.cellsOf 57 = 4 := by kernel_rfl
/-- A field of a record. -/
theorem trod_field {t : TypeId} {fs : Array Field} (ht : Try.prog.underlying t = some (.struct fs)) (h : DataW.trod enc Try.prog W base sp held n t cs = some x) :
    cs.length = Try.prog.cellsOf t ∧ ∀ (i : Nat) (f : Field), fs[i]? = some f → ∃ m y, DataW.trod enc Try.prog W base sp held m f.type ((cs.drop f.offset).take (Try.prog.cellsOf f.type)) = some y := by
  obtain ⟨xs, m, _, _, hl, hlen, hf⟩ := DataW.trod_struct ht h
  refine ⟨hl, fun i f hi => ?_⟩
  have h1 := hf i f hi
  have hix : i < xs.length := by
    have := (Array.getElem?_eq_some_iff.1 hi).1
    omega
  rw [List.getElem?_eq_getElem hix] at h1
  exact ⟨m, _, h1⟩
theorem trod_at {t : TypeId} {fs : Array Field} (ht : Try.prog.underlying t = some (.struct fs)) (h : DataW.trod enc Try.prog W base sp held n t cs = some x) (i : Nat) (ty off k : Nat) {f : Field} (hi : fs[i]? = some f) (h1 : f.type = ty) (h2 : f.offset = off) (h3 : Try.prog.cellsOf ty = k) :
    ∃ m y, DataW.trod enc Try.prog W base sp held m ty ((cs.drop off).take k) = some y := by
  obtain ⟨m, y, e⟩ := (trod_field ht h).2 i f hi
  rw [h1, h2, h3] at e
  exact ⟨m, y, e⟩
theorem trod_ints (h : DataW.trod enc Try.prog W base sp held n 22 cs = some x) : ∃ (A : Option Addr) (xs : List Int) (c : Nat), cs = [.slice A xs.length c] ∧ xs.length ≤ c ∧ c ≤ maxLen ∧ (Kd.int .i64).C W A xs.length xs ∧ ∀ y, y ∈ xs → Word64 y :=
  trod_list (d := Kd.int .i64) Try.underlying22 cells3 (fun _ _ _ h => by
    obtain ⟨y, rfl, hw⟩ := trod_int3 h
    exact ⟨y, rfl, hw⟩) h
def PartWord (p : S57) : Prop := (∀ y, y ∈ p.f0 → Word64 y) ∧ (∀ y, y ∈ p.f1 → Word64 y) ∧ Word64 p.f2 ∧ Word64 p.f3
theorem trod_part (h : DataW.trod enc Try.prog W base sp held n 57 cs = some x) : ∃ p : S57, k57.K W p cs ∧ PartWord p := by
  have hl := (trod_field Try.underlying57 h).1
  rw [cells57] at hl
  obtain ⟨m0, y0, h0⟩ := trod_at Try.underlying57 h 0 22 0 _ rfl rfl rfl cells22
  obtain ⟨m1, y1, h1⟩ := trod_at Try.underlying57 h 1 22 1 _ rfl rfl rfl cells22
  obtain ⟨m2, y2, h2⟩ := trod_at Try.underlying57 h 2 3 2 _ rfl rfl rfl cells3
  obtain ⟨m3, y3, h3⟩ := trod_at Try.underlying57 h 3 3 3 _ rfl rfl rfl cells3
  obtain ⟨A0, l0, c0, e0, hc0, _, hC0, w0⟩ := trod_ints h0
  obtain ⟨A1, l1, c1, e1, hc1, _, hC1, w1⟩ := trod_ints h1
  obtain ⟨a, e2, w2⟩ := trod_int3 h2
  obtain ⟨b, e3, w3⟩ := trod_int3 h3
  match cs, hl with
  | [d0, d1, d2, d3], _ =>
    simp at e0 e1 e2 e3
    subst e0
    subst e1
    subst e2
    subst e3
    exact ⟨⟨l0, l1, a, b⟩, k57_mk W ⟨l0, l1, a, b⟩ hc0 hC0 hc1 hC1, w0, w1, w2, w3⟩
theorem trod_parts (h : DataW.trod enc Try.prog W base sp held n 47 cs = some x) : ∃ (A : Option Addr) (xs : List S57) (c : Nat), cs = [.slice A xs.length c] ∧ xs.length ≤ c ∧ c ≤ maxLen ∧ k57.C W A xs.length xs ∧ ∀ y, y ∈ xs → PartWord y :=
  trod_list (d := k57) Try.underlying47 cells57 (fun _ _ _ h => trod_part h) h
/-- A kit. -/
theorem trod_kit (h : DataW.trod enc Try.prog W base sp held n 49 cs = some x) : ∃ (A : Option Addr) (L : List S57) (c : Nat) (ch : Int), cs = [.slice A L.length c, .int .i64 ch] ∧ L.length ≤ c ∧ c ≤ maxLen ∧ k57.C W A L.length L ∧ (∀ y, y ∈ L → PartWord y) ∧ Word64 ch := by
  have hl := (trod_field Try.underlying49 h).1
  rw [cells49] at hl
  obtain ⟨m0, y0, h0⟩ := trod_at Try.underlying49 h 0 47 0 _ rfl rfl rfl cells47
  obtain ⟨m1, y1, h1⟩ := trod_at Try.underlying49 h 1 3 1 _ rfl rfl rfl cells3
  obtain ⟨A, L, c, e0, hc, hm, hC, hw⟩ := trod_parts h0
  obtain ⟨ch, e1, w1⟩ := trod_int3 h1
  match cs, hl with
  | [c0, c1], _ =>
    simp at e0 e1
    subst e0
    subst e1
    exact ⟨A, L, c, ch, rfl, hc, hm, hC, hw, w1⟩
end
end Go.Proofs.Ytbcfphoheijmdaa.Print
end
