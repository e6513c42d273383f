/- Part 6 of the texts of a claim about Ytbcfphoheijmdaa, put together by a program of this work: what the Go functions do, and that their calls do so. -/
import Derived.Test.YtbcfphoheijmdaaMR5
import Derived.Test.YtbcfphoheijmdaaMR4
import Derived.Test.YtbcfphoheijmdaaMR3
section
/- ChainOf's inner function: the link that it adds. -/
namespace Go.Proofs.Ytbcfphoheijmdaa.Print
open Go.RowKit Go.Proofs.YtbcfphoheijmdaaW.PrintWords Go.Proofs.YtbcfphoheijmdaaW.PrintLast Go.Proofs.YtbcfphoheijmdaaW.PrintMore Go.Proofs.Ytbcfphoheijmdaa.H
attribute [local go_sem] max2_int min2_int max_two min_two max_three min_three max_four min_four
attribute [local go_sem ↓] Go.wp_at_zero Go.wp_at_succ
set_option linter.unusedVariables false
set_option linter.unusedSimpArgs false

/-- ChainOf's variables: the chain, the positions, how wide, the dice; what else it holds. -/
structure CO (w0 w W : World) (g ga gd gw gc : Nat) (s : Int) (A : List Int) (wide P : Int) (va vl : Value) (L : List S35) (l : List (Nat × Array Value × TypeId)) : Prop where
  mem : Mem w0 W ((gc, #[.int .i64 P, vl], 27) :: (ga, #[va], 22) :: (gw, #[.int .i64 wide], 3) :: (gd, #[.pointer (some ⟨g, 0, none⟩)], 23) :: (g, #[.int .u64 s], 118) :: l)
  keep : KeepBut w W g none
  base : w0.heap.size ≤ w.heap.size
  glt : g < w.heap.size
  big : w.heap.size ≤ gc ∧ w.heap.size ≤ ga ∧ w.heap.size ≤ gw ∧ w.heap.size ≤ gd
  ra : (Kd.int .i64).R 3 W w.heap.size (fun k => k ≠ gw) va A
  rl : k35.R 35 W w.heap.size (fun _ => True) vl L
  types : ∀ p, p ∈ l → p.2.2 ≠ 35 ∧ p.2.2 ≠ 3 ∧ w.heap.size ≤ p.1
theorem e35 {q : Nat} (hq : q ∈ 35 :: k35.E) : q = 35 := by
  have : k35.E = [] := rfl
  rw [this] at hq
  simpa using hq
namespace CO
variable {w0 w W W1 : World} {g ga gd gw gc : Nat} {s s1 : Int} {A : List Int} {wide P x : Int} {va vl v1 : Value} {L : List S35} {y : S35} {l : List (Nat × Array Value × TypeId)}
theorem later (h : CO w0 w W g ga gd gw gc s A wide P va vl L l) (hb : Below W.heap.size W W1) : CO w0 w W1 g ga gd gw gc s A wide P va vl L l :=
  ⟨h.mem.step hb, h.keep.trans (KeepBut.of_below hb g none) (.inl rfl), h.base, h.glt, h.big, Kd.R_below h.ra hb, Kd.R_below h.rl hb, h.types⟩
theorem drewN (h : CO w0 w W g ga gd gw gc s A wide P va vl L l) (n : Nat) : CO w0 w (W.drewN n) g ga gd gw gc s A wide P va vl L l := h.later (pw_below_drewN (Below.refl _ _) n)
theorem drew (h : CO w0 w W g ga gd gw gc s A wide P va vl L l) : CO w0 w W.drew g ga gd gw gc s A wide P va vl L l := h.later (below_drew1 (Below.refl _ _))
theorem cellL (h : CO w0 w W g ga gd gw gc s A wide P va vl L l) : W.cell? ⟨gc, 1, none⟩ = some vl := (h.mem.cell 1).trans rfl
theorem cellP (h : CO w0 w W g ga gd gw gc s A wide P va vl L l) : W.cell? ⟨gc, 0, none⟩ = some (.int .i64 P) := (h.mem.cell 0).trans rfl
theorem cellA (h : CO w0 w W g ga gd gw gc s A wide P va vl L l) : W.cell? ⟨ga, 0, none⟩ = some va := (blk_cell h.mem.second 0).trans rfl
theorem cellW (h : CO w0 w W g ga gd gw gc s A wide P va vl L l) : W.cell? ⟨gw, 0, none⟩ = some (.int .i64 wide) := (blk_cell h.mem.third 0).trans rfl
theorem cellD (h : CO w0 w W g ga gd gw gc s A wide P va vl L l) : W.cell? ⟨gd, 0, none⟩ = some (.pointer (some ⟨g, 0, none⟩)) := (blk_cell (h.mem.blk (gd, #[.pointer (some ⟨g, 0, none⟩)], 23) (by simp)) 0).trans rfl
theorem frozenL (h : CO w0 w W g ga gd gw gc s A wide P va vl L l) (i : Nat) : W.frozen? ⟨gc, i, none⟩ = false := h.mem.frozen i
theorem frozenA (h : CO w0 w W g ga gd gw gc s A wide P va vl L l) (i : Nat) : W.frozen? ⟨ga, i, none⟩ = false := blk_frozen h.mem.second i
theorem below (h : CO w0 w W g ga gd gw gc s A wide P va vl L l) : Below w0.heap.size w0 W := h.mem.below
theorem isS (h : CO w0 w W g ga gd gw gc s A wide P va vl L l) : IsS118 w0 W g s := ⟨h.mem.blk (g, #[.int .u64 s], 118) (by simp), h.mem.ge (g, #[.int .u64 s], 118) (by simp)⟩
theorem dice (h : CO w0 w W g ga gd gw gc s A wide P va vl L l) (hI : IsS118 w0 W1 g s1) (hB : Below w0.heap.size w0 W1) (hK : KeepBut W W1 g none) : CO w0 w W1 g ga gd gw gc s1 A wide P va vl L l := by
  have ha := h.mem.apart
  have hother : ∀ p, p ∈ ((gc, #[.int .i64 P, vl], 27) :: (ga, #[va], 22) :: (gw, #[.int .i64 wide], 3) :: (gd, #[.pointer (some ⟨g, 0, none⟩)], 23) :: (g, #[.int .u64 s], 118) :: l : List (Nat × Array Value × TypeId)) → p.1 ≠ g → W1.heap[p.1]? = some (.cells p.2.1 p.2.2 (0, 0)) := fun p hp hne => by
    have hb := h.mem.blk p hp
    exact (hK.2 p.1 (blk_lt hb) hne (by simp)).trans hb
  simp only [List.pairwise_cons, List.mem_cons, forall_eq_or_imp] at ha
  obtain ⟨⟨n1, n2, n3, n4, n5⟩, ⟨m1, m2, m3, m4⟩, ⟨k1, k2, k3⟩, ⟨j1, j2⟩, i1, i2⟩ := ha
  refine ⟨⟨hB, fun p hp => ?_, fun p hp => ?_, ?_⟩, h.keep.trans hK (.inl rfl), h.base, h.glt, h.big, ?_, ?_, h.types⟩
  · simp only [List.mem_cons] at hp
    rcases hp with rfl | rfl | rfl | rfl | rfl | hp
    · exact hother (gc, #[.int .i64 P, vl], 27) (by simp) n4
    · exact hother (ga, #[va], 22) (by simp) m3
    · exact hother (gw, #[.int .i64 wide], 3) (by simp) k2
    · exact hother (gd, #[.pointer (some ⟨g, 0, none⟩)], 23) (by simp) j1
    · exact hI.1
    · exact hother p (by simp [hp]) (fun e => i1 p hp e.symm)
  · simp only [List.mem_cons] at hp
    rcases hp with rfl | rfl | rfl | rfl | rfl | hp
    · exact h.mem.ge (gc, #[.int .i64 P, vl], 27) (by simp)
    · exact h.mem.ge (ga, #[va], 22) (by simp)
    · exact h.mem.ge (gw, #[.int .i64 wide], 3) (by simp)
    · exact h.mem.ge (gd, #[.pointer (some ⟨g, 0, none⟩)], 23) (by simp)
    · exact hI.2
    · exact h.mem.ge p (by simp [hp])
  · simp only [List.pairwise_cons, List.mem_cons, forall_eq_or_imp]
    exact ⟨⟨n1, n2, n3, n4, n5⟩, ⟨m1, m2, m3, m4⟩, ⟨k1, k2, k3⟩, ⟨j1, j2⟩, i1, i2⟩
  · exact Kd.R_mono (Kd.R_keep (Kd.R_bound h.ra) hK (fun k hk => by have := h.glt; have := hk.2.1; omega)) (fun _ hk => hk.1)
  · exact Kd.R_mono (Kd.R_keep (Kd.R_bound h.rl) hK (fun k hk => by have := h.glt; have := hk.2.1; omega)) (fun _ hk => hk.1)
theorem keep_set {w W : World} {g gc i : Nat} {v : Value} (h : KeepBut w W g none) (hc : w.heap.size ≤ gc) : KeepBut w (W.setCell ⟨gc, i, none⟩ v) g none :=
  ⟨by rw [World.size_setCell]; exact h.1, fun k hk h1 h2 => (Below.heap_setCell W ⟨gc, i, none⟩ v k (by show k ≠ gc; omega)).trans (h.2 k hk h1 h2)⟩
theorem grownMem (h : CO w0 w W g ga gd gw gc s A wide P va vl L l) (hg : W.grownBy W1 vl.ownBlock) : Mem w0 W1 ((gc, #[.int .i64 P, vl], 27) :: (ga, #[va], 22) :: (gw, #[.int .i64 wide], 3) :: (gd, #[.pointer (some ⟨g, 0, none⟩)], 23) :: (g, #[.int .u64 s], 118) :: l) :=
  h.mem.grown hg (fun k hk => Nat.le_trans h.base (Kd.R_base h.rl k hk)) (fun p hp => by
    refine Kd.R_ne h.rl (h.mem.blk p hp) ?_
    simp only [List.mem_cons] at hp
    rcases hp with rfl | rfl | rfl | rfl | rfl | hp
    · show (35 : Nat) ≠ 27; decide
    · show (35 : Nat) ≠ 22; decide
    · show (35 : Nat) ≠ 3; decide
    · show (35 : Nat) ≠ 23; decide
    · show (35 : Nat) ≠ 118; decide
    · exact (h.types p hp).1.symm)
theorem push (h : CO w0 w W g ga gd gw gc s A wide P va vl L l) (hg : W.grownBy W1 vl.ownBlock) (hR : k35.R 35 W1 w.heap.size (fun _ => True) v1 (L ++ [y])) : CO w0 w (W1.setCell ⟨gc, 1, none⟩ v1) g ga gd gw gc s A wide P va v1 (L ++ [y]) l := by
  have hm := h.grownMem hg
  have hk : KeepBut w W1 g none := by
    refine ⟨Nat.le_trans h.keep.1 hg.size, fun i hi h1 h2 => ?_⟩
    have := h.keep.2 i hi h1 h2
    rw [← this]
    refine hg.block i (Nat.lt_of_lt_of_le hi h.keep.1) (fun e => ?_)
    have := Kd.R_base h.rl i e.symm
    omega
  have hra := Kd.R_mono (Kd.R_grown (Kd.R_bound h.ra) hg (fun k hk => by
    obtain ⟨_, _, _, q, hq, cells, hc⟩ := hk
    have : q = 3 := by simpa [Kd.int, Kd.scalar] using hq
    subst this
    exact Kd.R_ne h.rl hc (by decide))) (fun _ hk => hk.1)
  refine ⟨hm.put 1 v1 rfl, keep_set hk h.big.1, h.base, h.glt, h.big, Kd.R_set hra hm.head (fun q hq => ?_) 1 v1, Kd.R_set hR hm.head (fun q hq => ?_) 1 v1, h.types⟩
  · have : q = 3 := by simpa [Kd.int, Kd.scalar] using hq
    subst this
    decide
  · have : q = 35 := e35 hq
    subst this
    decide
theorem grownMemA (h : CO w0 w W g ga gd gw gc s A wide P va vl L l) (hg : W.grownBy W1 va.ownBlock) : Mem w0 W1 ((gc, #[.int .i64 P, vl], 27) :: (ga, #[va], 22) :: (gw, #[.int .i64 wide], 3) :: (gd, #[.pointer (some ⟨g, 0, none⟩)], 23) :: (g, #[.int .u64 s], 118) :: l) :=
  h.mem.grown hg (fun k hk => Nat.le_trans h.base (Kd.R_base h.ra k hk)) (fun p hp => by
    by_cases e : p.1 = gw
    · intro q
      exact h.ra.1 p.1 q.symm e
    refine Kd.R_ne h.ra (h.mem.blk p hp) ?_
    simp only [List.mem_cons] at hp
    rcases hp with rfl | rfl | rfl | rfl | rfl | hp
    · show (3 : Nat) ≠ 27; decide
    · show (3 : Nat) ≠ 22; decide
    · exact absurd rfl e
    · show (3 : Nat) ≠ 23; decide
    · show (3 : Nat) ≠ 118; decide
    · exact (h.types p hp).2.1.symm)
theorem pushA (h : CO w0 w W g ga gd gw gc s A wide P va vl L l) (hg : W.grownBy W1 va.ownBlock) (hR : (Kd.int .i64).R 3 W1 w.heap.size (fun k => k ≠ gw) v1 (A ++ [x])) : CO w0 w (W1.setCell ⟨ga, 0, none⟩ v1) g ga gd gw gc s (A ++ [x]) wide P v1 vl L l := by
  have hm := h.grownMemA hg
  have hk : KeepBut w W1 g none := by
    refine ⟨Nat.le_trans h.keep.1 hg.size, fun i hi h1 h2 => ?_⟩
    have := h.keep.2 i hi h1 h2
    rw [← this]
    refine hg.block i (Nat.lt_of_lt_of_le hi h.keep.1) (fun e => ?_)
    have := Kd.R_base h.ra i e.symm
    omega
  have hrl := Kd.R_mono (Kd.R_grown (Kd.R_bound h.rl) hg (fun k hk => by
    obtain ⟨_, _, _, q, hq, cells, hc⟩ := hk
    have : q = 35 := e35 hq
    subst this
    exact Kd.R_ne h.ra hc (by decide))) (fun _ hk => hk.1)
  have hsw := (hm.swap.put 0 v1 (cs' := #[v1]) rfl).swap
  refine ⟨hsw, keep_set hk h.big.2.1, h.base, h.glt, h.big, Kd.R_set hR hm.second (fun q hq => ?_) 0 v1, Kd.R_set hrl hm.second (fun q hq => ?_) 0 v1, h.types⟩
  · have : q = 3 := by simpa [Kd.int, Kd.scalar] using hq
    subst this
    decide
  · have : q = 35 := e35 hq
    subst this
    decide
theorem perm {w W : World} {l l' : List (Nat × Array Value × TypeId)} (h : Mem w W l) (hp : l.Perm l') : Mem w W l' :=
  ⟨h.below, fun p hq => h.blk p (hp.mem_iff.2 hq), fun p hq => h.ge p (hp.mem_iff.2 hq), (hp.pairwise_iff (fun hab => Ne.symm hab)).1 h.apart⟩
theorem addl (h : CO w0 w W g ga gd gw gc s A wide P va vl L l) {g5 t : Nat} {cs : Array Value} (hm : Mem W W1 [(g5, cs, t)]) (ht : t ≠ 35 ∧ t ≠ 3) : CO w0 w W1 g ga gd gw gc s A wide P va vl L ((g5, cs, t) :: l) := by
  have hl := h.later hm.below
  have h5 := hm.geh
  refine ⟨?_, hl.keep, h.base, h.glt, h.big, hl.ra, hl.rl, fun p hp => ?_⟩
  · have hall : Mem w0 W1 ((g5, cs, t) :: (gc, #[.int .i64 P, vl], 27) :: (ga, #[va], 22) :: (gw, #[.int .i64 wide], 3) :: (gd, #[.pointer (some ⟨g, 0, none⟩)], 23) :: (g, #[.int .u64 s], 118) :: l) := by
      refine ⟨hl.mem.below, fun p hp => ?_, fun p hp => ?_, .cons (fun p hp => ?_) hl.mem.apart⟩
      · rcases List.mem_cons.1 hp with rfl | hp
        · exact hm.head
        · exact hl.mem.blk p hp
      · rcases List.mem_cons.1 hp with rfl | hp
        · exact Nat.le_trans h.mem.below.size h5
        · exact hl.mem.ge p hp
      · have := blk_lt (h.mem.blk p hp)
        show g5 ≠ p.1
        omega
    refine perm hall ?_
    exact (List.perm_middle (l₁ := ([(gc, #[Value.int .i64 P, vl], 27), (ga, #[va], 22), (gw, #[Value.int .i64 wide], 3), (gd, #[Value.pointer (some ⟨g, 0, none⟩)], 23), (g, #[Value.int .u64 s], 118)] : List (Nat × Array Value × TypeId)))).symm
  · rcases List.mem_cons.1 hp with rfl | hp
    · exact ⟨ht.1, ht.2, Nat.le_trans h.keep.1 h5⟩
    · exact h.types p hp
theorem headl {p : Nat × Array Value × TypeId} (h : CO w0 w W g ga gd gw gc s A wide P va vl L (p :: l)) : Mem w0 W (p :: (gc, #[.int .i64 P, vl], 27) :: (ga, #[va], 22) :: (gw, #[.int .i64 wide], 3) :: (gd, #[.pointer (some ⟨g, 0, none⟩)], 23) :: (g, #[.int .u64 s], 118) :: l) :=
  perm h.mem (List.perm_middle (l₁ := ([(gc, #[Value.int .i64 P, vl], 27), (ga, #[va], 22), (gw, #[Value.int .i64 wide], 3), (gd, #[Value.pointer (some ⟨g, 0, none⟩)], 23), (g, #[Value.int .u64 s], 118)] : List (Nat × Array Value × TypeId))))
theorem dropl {p : Nat × Array Value × TypeId} (h : CO w0 w W g ga gd gw gc s A wide P va vl L (p :: l)) : CO w0 w W g ga gd gw gc s A wide P va vl L l :=
  ⟨h.headl.drop, h.keep, h.base, h.glt, h.big, h.ra, h.rl, fun q hq => h.types q (List.mem_cons_of_mem _ hq)⟩
/-- The block at the list's head is written. -/
theorem setl {g5 t : Nat} {cs cs' : Array Value} (h : CO w0 w W g ga gd gw gc s A wide P va vl L ((g5, cs, t) :: l)) (hm : Mem w0 W1 ((g5, cs', t) :: (gc, #[.int .i64 P, vl], 27) :: (ga, #[va], 22) :: (gw, #[.int .i64 wide], 3) :: (gd, #[.pointer (some ⟨g, 0, none⟩)], 23) :: (g, #[.int .u64 s], 118) :: l)) (hs : W1.heap.size = W.heap.size) (hk : ∀ k, k ≠ g5 → W1.heap[k]? = W.heap[k]?) :
    CO w0 w W1 g ga gd gw gc s A wide P va vl L ((g5, cs', t) :: l) := by
  have ht := h.types (g5, cs, t) (by simp)
  refine ⟨perm hm (List.perm_middle (l₁ := ([(gc, #[Value.int .i64 P, vl], 27), (ga, #[va], 22), (gw, #[Value.int .i64 wide], 3), (gd, #[Value.pointer (some ⟨g, 0, none⟩)], 23), (g, #[Value.int .u64 s], 118)] : List (Nat × Array Value × TypeId)))).symm, ⟨by rw [hs]; exact h.keep.1, fun i hi h1 h2 => (hk i (by have := ht.2.2; show i ≠ g5; omega)).trans (h.keep.2 i hi h1 h2)⟩, h.base, h.glt, h.big, ?_, ?_, fun p hp => ?_⟩
  · refine Kd.R_mono (Kd.R_step (Kd.R_types h.ra h.headl.head (fun q hq => ?_)) (fun k hk2 _ => hk k hk2.2)) (fun _ hk => hk.1)
    have : q = 3 := by simpa [Kd.int, Kd.scalar] using hq
    subst this
    exact ht.2.1.symm
  · refine Kd.R_mono (Kd.R_step (Kd.R_types h.rl h.headl.head (fun q hq => ?_)) (fun k hk2 _ => hk k hk2.2)) (fun _ hk => hk.1)
    have : q = 35 := e35 hq
    subst this
    exact ht.1.symm
  · rcases List.mem_cons.1 hp with rfl | hp
    · exact ht
    · exact h.types p (List.mem_cons_of_mem _ hp)
theorem putl {g5 t i : Nat} {cs cs' : Array Value} {v : Value} (h : CO w0 w W g ga gd gw gc s A wide P va vl L ((g5, cs, t) :: l)) (e : cs.setIfInBounds i v = cs') : CO w0 w (W.setCell ⟨g5, i, none⟩ v) g ga gd gw gc s A wide P va vl L ((g5, cs', t) :: l) :=
  h.setl (h.headl.put i v e) (World.size_setCell _ _ _) (fun k hk => Below.heap_setCell W ⟨g5, i, none⟩ v k hk)
end CO
section
variable {P : Program} {ops : Array Oper} {rest : List Oper} {o : Oper} {a : Act} {Q : Exit → Act → World → Prop} {w W : World} {l : List (Nat × Array Value × TypeId)}
/-- A whole struct is stored; the world behind it is named. -/
theorem ev_storeW {g : Nat} {old cs : Array Value} {t : TypeId} (hm : Mem w W ((g, old, t) :: l)) (hgd : o.guard = none) (ty : TypeId) (x y : Operand) (ho : o.op = .store ty x y)
    (hx : a.eval x = .pointer (some ⟨g, 0, none⟩)) (hy : a.eval y = .agg cs) {n : Nat} (hi : (P.info? ty).map (·.size) = some n) (hold : old.size = n) (hs : cs.size = n) (h1 : cs.all (·.oneCell') = true)
    (h : Mem w (W.setRow g cs) ((g, cs, t) :: l) → wpList P ops Q rest (a.put o.dst undef) (W.setRow g cs)) : wpList P ops Q (o :: rest) a W :=
  wpList_plain hgd fun _ hK => wp_store_row ty x y ho g cs hx hy t old hm.head (by rw [hi, hs]) (by rw [hold, hs]) h1 (hK _ _ (h (hm.row cs)))
end
set_option maxHeartbeats 3200000 in
set_option maxRecDepth 100000 in
theorem add_calls {w0 w W : World} {g ga gd gw gc : Nat} {s : Int} {A : List Int} {wide P : Int} {va vl : Value} {L : List S35} {l : List (Nat × Array Value × TypeId)} (h : CO w0 w W g ga gd gw gc s A wide P va vl L l) (hA : ∀ j, -30 ≤ A.getD j 0 ∧ A.getD j 0 ≤ 30) (hw : 0 ≤ wide ∧ wide ≤ 1000) (a b : Nat) (ha : a < A.length) (hb : b < A.length) (hL : L.length ≤ 1000) :
    Calls Try.prog 86 #[.int .i64 a, .int .i64 b, .pointer (some ⟨ga, 0, none⟩), .pointer (some ⟨gd, 0, none⟩), .pointer (some ⟨gw, 0, none⟩), .pointer (some ⟨gc, 0, none⟩)] W fun e W' => e = .returned (.tuple #[]) ∧ ∃ vl', CO w0 w W' g ga gd gw gc (next3 s) A wide P va vl' (L ++ [addLink A wide s a b]) l := by
  obtain ⟨Aa, na, rfl, hna, hCA⟩ := Kd.R_reads h.ra
  obtain ⟨ad, e0, x1⟩ := cell_int hCA b hb
  obtain ⟨_, e1, x0⟩ := cell_int hCA a ha
  cases e0
  cases e1
  have HH := Aside0.mk h
  have hX := hA b
  have hY := hA a
  have HAL : Aside0 (addLink A wide s a b = ⟨(a : Int), (b : Int), addRange (A.getD b 0 - A.getD a 0) wide s⟩) := ⟨by unfold addLink; rw [Int.toNat_natCast, Int.toNat_natCast]⟩
  generalize A.getD b 0 = X at x1 hX HAL
  generalize A.getD a 0 = Y at x0 hY HAL
  have cA := h.cellA
  have cW := h.cellW
  have cD := h.cellD
  clear h hCA hA
  have hu1 := up_eq s (wide + 1) (by omega) (by omega)
  have hu2 := up_eq (nextWord s) (wide + 1) (by omega) (by omega)
  have ho := one_eq2 (nextWord (nextWord s)) 40 (by omega) (by omega)
  have HAR : Aside0 (addRange (X - Y) wide s = if oneV (nextWord (nextWord s)) 40 = true then ⟨X - Y + 1, X - Y + 2⟩ else ⟨X - Y - upV s (wide + 1), max (X - Y - upV s (wide + 1) + wide - upV (nextWord s) (wide + 1)) (X - Y)⟩) := ⟨rfl⟩
  generalize upV s (wide + 1) = u1 at hu1 HAR
  generalize upV (nextWord s) (wide + 1) = u2 at hu2 HAR
  generalize oneV (nextWord (nextWord s)) 40 = on at ho HAR
  have HU1 := Aside0.mk hu1.1
  have HU2 := Aside0.mk hu2.1
  have HON := Aside0.mk ho
  have hb1 := hu1.2
  have hb2 := hu2.2
  clear hu1 hu2 ho
  have i1 : (0 : Int) ≤ (a : Int) := by omega
  have i2 : (a : Int) < (A.length : Int) := by omega
  have i3 : (0 : Int) ≤ (b : Int) := by omega
  have i4 : (b : Int) < (A.length : Int) := by omega
  have n1 : IntKind.i64.wrap (X - Y) = X - Y := IntWalk.i64_in _ (by omega)
  have n2 : IntKind.i64.wrap (wide + 1) = wide + 1 := IntWalk.i64_in _ (by omega)
  have n3 : IntKind.i64.wrap (X - Y - u1) = X - Y - u1 := IntWalk.i64_in _ (by omega)
  have n4 : IntKind.i64.wrap (X - Y - u1 + wide) = X - Y - u1 + wide := IntWalk.i64_in _ (by omega)
  have n5 : IntKind.i64.wrap (X - Y - u1 + wide - u2) = X - Y - u1 + wide - u2 := IntWalk.i64_in _ (by omega)
  have n6 : IntKind.i64.wrap (X - Y + 1) = X - Y + 1 := IntWalk.i64_in _ (by omega)
  have n7 : IntKind.i64.wrap (X - Y + 2) = X - Y + 2 := IntWalk.i64_in _ (by omega)
  have hu32 := Try.underlying32
  go_enter Try.func86, Try.ntmps86
  go_wp2_with fail
  go_quiet (fail)
  clear x0 x1 cA
  have HH1 := Aside0.mk (HH.out.drewN nq)
  have dW := HH1.out.cellW
  have dD := HH1.out.cellD
  go_wp2_with (first
    | (go_at_call 43; refine (thermionkit_Dice_Upto.calls g s (wide + 1) u1 (nextWord s) w0 _ HH1.out.isS HH1.out.below HU1.out).mono ?_; rintro e w2 ⟨rfl, hI2, hB2, hK2⟩; have HH2 := Aside0.mk (HH1.out.dice hI2 hB2 hK2); have HN2 := Aside0.mk (Mem.start w2); have d2W := HH2.out.cellW; have d2D := HH2.out.cellD; clear hI2 hB2 hK2 HH1 dW dD HU1)
    | ((with_reducible refine gate_dst (N := 10) rfl ?_); refine ev_new HN2.out rfl 32 rfl info32a ?_; intro g5 w3 hm3 hq1; clear hq1; have HN3 := Aside0.mk hm3; clear hm3 HN2 d2W)
    | (refine ev_store HN3.out rfl 32 (.tmp 10) (.tmp 30) rfl rfl (cs := #[.int .i64 (X - Y - u1), .int .i64 (X - Y - u1 + wide)]) rfl size32 rfl rfl (by simp [Value.oneCell']) ?_; intro w4 hm4 hq1; clear hq1; have HN4 := Aside0.mk hm4; clear hm4 HN3))
  have HH4 := Aside0.mk ((HH2.out.addl HN4.out ⟨by decide, by decide⟩).drew)
  clear HH2 HN4 d2D
  refine wp_region_noPanic ?_
  refine H.wp_region_T [10] (S := fun w' => w'.cell? ⟨g5, 1, none⟩ = some (.int .i64 (X - Y - u1 + wide)) ∧ w'.cell? ⟨gd, 0, none⟩ = some (.pointer (some ⟨g, 0, none⟩)) ∧ w'.cell? ⟨gw, 0, none⟩ = some (.int .i64 wide)) (by kernel_rfl) ⟨(HH4.out.headl.cell 1).trans rfl, HH4.out.cellD, HH4.out.cellW⟩ (fun hHeld => ?_)
  refine H.wpAnyT_takeY (i := 0) (v := .pointer (some ⟨g5, 1, none⟩)) rfl (by decide) (by kernel_rfl) (by kernel_rfl) (by kernel_rfl) (fun _ _ _ h => h) (Or.inl ⟨by rfl, ?_⟩) hHeld ?_
  · (intro w_ hSw; go_simp; try rfl)
  try simp only [Act.put, List.setIfInBounds_toArray, List.set_cons_zero, List.set_cons_succ]
  refine H.wpAnyT_take (i := 1) (v := .int .i64 (X - Y - u1 + wide)) rfl (by decide) (by kernel_rfl) (by kernel_rfl) (by kernel_rfl) (by kernel_rfl) (fun _ _ _ h => h) (Or.inl ⟨by rfl, ?_⟩) hHeld ?_
  · (intro w_ hSw; (try dsimp only at hSw); obtain ⟨q1, q2, q3⟩ := hSw; go_simp; try rfl)
  try simp only [Act.put, List.setIfInBounds_toArray, List.set_cons_zero, List.set_cons_succ]
  refine H.wpAnyT_take (i := 2) (v := .pointer (some ⟨g, 0, none⟩)) rfl (by decide) (by kernel_rfl) (by kernel_rfl) (by kernel_rfl) (by kernel_rfl) (fun _ _ _ h => h) (Or.inl ⟨by rfl, ?_⟩) hHeld ?_
  · (intro w_ hSw; (try dsimp only at hSw); obtain ⟨q1, q2, q3⟩ := hSw; go_simp; try rfl)
  try simp only [Act.put, List.setIfInBounds_toArray, List.set_cons_zero, List.set_cons_succ]
  refine H.wpAnyT_take (i := 3) (v := .int .i64 wide) rfl (by decide) (by kernel_rfl) (by kernel_rfl) (by kernel_rfl) (by kernel_rfl) (fun _ _ _ h => h) (Or.inl ⟨by rfl, ?_⟩) hHeld ?_
  · (intro w_ hSw; (try dsimp only at hSw); obtain ⟨q1, q2, q3⟩ := hSw; go_simp; try rfl)
  try simp only [Act.put, List.setIfInBounds_toArray, List.set_cons_zero, List.set_cons_succ]
  refine H.wpAnyT_takeY (i := 4) (v := .int .i64 (wide + 1)) rfl (by decide) (by kernel_rfl) (by kernel_rfl) (by kernel_rfl) (fun _ _ _ h => h) (Or.inl ⟨by rfl, ?_⟩) hHeld ?_
  · (intro w_ hSw; go_simp; try rfl)
  try simp only [Act.put, List.setIfInBounds_toArray, List.set_cons_zero, List.set_cons_succ]
  refine H.wpAnyT_takeY (i := 7) (v := .int .i64 (X - Y)) rfl (by decide) (by kernel_rfl) (by kernel_rfl) (by kernel_rfl) (fun _ _ _ h => h) (Or.inl ⟨by rfl, ?_⟩) hHeld ?_
  · (intro w_ hSw; go_simp; try rfl)
  try simp only [Act.put, List.setIfInBounds_toArray, List.set_cons_zero, List.set_cons_succ]
  refine H.wpAnyT_ready (rs := [5]) (by kernel_rfl) (by simp) ?_
  refine H.AllT.cons (i := 5) rfl (by decide) (fun K hK => ?_) H.AllT.nil
  go_simp
  go_at_call 43
  refine (thermionkit_Dice_Upto.calls g (nextWord s) (wide + 1) u2 (nextWord (nextWord s)) w0 _ HH4.out.isS HH4.out.below HU2.out).mono ?_
  rintro e w5 ⟨rfl, hI5, hB5, hK5⟩
  have HH5 := Aside0.mk (HH4.out.dice hI5 hB5 hK5)
  clear hI5 hB5 hK5
  refine hK.out _ _ ⟨(HH5.out.headl.cell 1).trans rfl, HH5.out.cellD, HH5.out.cellW⟩ (fun hHeld => ?_)
  clear hK K
  try simp only [Act.put, List.setIfInBounds_toArray, List.set_cons_zero, List.set_cons_succ]
  refine H.wpAnyT_takeY (i := 6) (v := .int .i64 (X - Y - u1 + wide - u2)) rfl (by decide) (by kernel_rfl) (by kernel_rfl) (by kernel_rfl) (fun _ _ _ h => h) (Or.inl ⟨by rfl, ?_⟩) hHeld ?_
  · (intro w_ hSw; go_simp; try rfl)
  try simp only [Act.put, List.setIfInBounds_toArray, List.set_cons_zero, List.set_cons_succ]
  refine H.wpAnyT_takeY (i := 8) (v := .int .i64 (if X - Y - u1 + wide - u2 < X - Y then X - Y else X - Y - u1 + wide - u2)) rfl (by decide) (by kernel_rfl) (by kernel_rfl) (by kernel_rfl) (fun _ _ _ h => h) (Or.inl ⟨by rfl, ?_⟩) hHeld ?_
  · (intro w_ hSw; go_simp; try rfl)
  try simp only [Act.put, List.setIfInBounds_toArray, List.set_cons_zero, List.set_cons_succ]
  refine H.wpAnyT_takeY (i := 9) (v := .pointer (some ⟨g5, 1, none⟩)) rfl (by decide) (by kernel_rfl) (by kernel_rfl) (by kernel_rfl) (fun _ _ _ h => h) (Or.inl ⟨by rfl, ?_⟩) hHeld ?_
  · (intro w_ hSw; go_simp; try rfl)
  try simp only [Act.put, List.setIfInBounds_toArray, List.set_cons_zero, List.set_cons_succ]
  have s5 := hHeld.1
  have f5 : w5.frozen? ⟨g5, 1, none⟩ = false := HH5.out.headl.frozen 1
  refine H.wpAnyT_ready (rs := [10]) (by kernel_rfl) (by simp) ?_
  refine H.AllT.last (i := 10) rfl (by decide) (fun K hK => ?_) H.AllT.nil
  go_simp
  refine hK.out _ _ ?_
  clear hK K s5 f5 hHeld
  try simp only [Act.put, List.setIfInBounds_toArray, List.set_cons_zero, List.set_cons_succ]
  refine wpAny_done (by kernel_rfl) ?_ _
  refine NoPanic.normal ?_
  have HMX : Aside0 ((if X - Y - u1 + wide - u2 < X - Y then X - Y else X - Y - u1 + wide - u2) = max (X - Y - u1 + wide - u2) (X - Y)) := ⟨by split <;> omega⟩
  generalize (if X - Y - u1 + wide - u2 < X - Y then X - Y else X - Y - u1 + wide - u2) = M at HMX ⊢
  have HH6 : Aside0 (CO w0 w (w5.setCell ⟨g5, 1, none⟩ (.int .i64 M)) g ga gd gw gc (nextWord (nextWord s)) A wide P (.slice (some ad) A.length na) vl L ((g5, #[.int .i64 (X - Y - u1), .int .i64 M], 32) :: l)) := ⟨HH5.out.putl rfl⟩
  clear HH5 HH4
  generalize (w5.setCell ⟨g5, 1, none⟩ (.int .i64 M)) = w6 at HH6 ⊢
  have d6 := HH6.out.cellD
  cases on with
  | false =>
    have HAL2 : Aside0 (addLink A wide s a b = ⟨(a : Int), (b : Int), ⟨X - Y - u1, M⟩⟩) := ⟨by rw [HAL.out, HAR.out, if_neg (by simp), HMX.out]⟩
    clear HAL HAR HMX
    go_wp2_with (first
      | (go_at_call 35; refine (thermionkit_Dice_One.calls g (nextWord (nextWord s)) 40 false (nextWord (nextWord (nextWord s))) w0 _ HH6.out.isS HH6.out.below HON.out).mono ?_; rintro e w7 ⟨rfl, hI7, hB7, hK7⟩; have HH8 := Aside0.mk (HH6.out.dice hI7 hB7 hK7); have d8 := HH8.out.cellL; clear hI7 hB7 hK7 HH6 d6 HON)
      | ((with_reducible refine gate_dst (N := 52) rfl ?_); refine ev_load HH8.out.headl.head rfl 32 (.tmp 10) rfl rfl _ Try.underlying32 rfl size32 rfl ?_)
      | ((with_reducible refine gate_dst (N := 55) rfl ?_); refine Kd.R_append k35 (w0 := w7) w.heap.size rfl (.tmp 49) (.tmp 54) 25 35 _ _ rfl Try.underlying25 info35 rfl (by decide) (by omega) vl L ⟨(a : Int), (b : Int), ⟨X - Y - u1, M⟩⟩ [.int .i64 (a : Int), .int .i64 (b : Int), .int .i64 (X - Y - u1), .int .i64 M] (fun _ => True) (fun _ => False) rfl rfl (k35_mkM _ _ _ _) (fun _ hk => hk.elim) (fun _ _ => trivial) HH8.out.rl (Below.refl _ _) HH8.out.keep.1 (by omega) ?_; intro v1 w9 hR9 hB9 hg9 hat9; obtain ⟨A1, n1, he1⟩ := Kd.R_slice hR9; subst he1; rw [List.length_append, List.length_singleton] at hR9; have HH9 := Aside0.mk (HH8.out.push hg9 hR9); have s9 : w9.cell? ⟨gc, 1, none⟩ = some vl := (blk_cell (HH8.out.grownMem hg9).head 1).trans rfl; have f9 : w9.frozen? ⟨gc, 1, none⟩ = false := blk_frozen (HH8.out.grownMem hg9).head 1; clear hR9 hB9 hg9 hat9))
    refine bodyPost_end (results_none rfl _ _ _) rfl ⟨rfl, .slice A1 (L.length + 1) n1, ?_⟩
    rw [HAL2.out]
    exact HH9.out.dropl
  | true =>
    have HAL2 : Aside0 (addLink A wide s a b = ⟨(a : Int), (b : Int), ⟨X - Y + 1, X - Y + 2⟩⟩) := ⟨by rw [HAL.out, HAR.out, if_pos rfl]⟩
    clear HAL HAR HMX
    go_wp2_with (first
      | (go_at_call 35; refine (thermionkit_Dice_One.calls g (nextWord (nextWord s)) 40 true (nextWord (nextWord (nextWord s))) w0 _ HH6.out.isS HH6.out.below HON.out).mono ?_; rintro e w7 ⟨rfl, hI7, hB7, hK7⟩; have HH8 := Aside0.mk (HH6.out.dice hI7 hB7 hK7); have HH7 := Aside0.mk HH8.out; clear HH8 hI7 hB7 hK7 HH6 d6 HON)
      | (refine ev_storeW HH7.out.headl rfl 32 (.tmp 10) (.tmp 47) rfl rfl (cs := #[.int .i64 (X - Y + 1), .int .i64 (X - Y + 2)]) rfl size32 rfl rfl (by simp [Value.oneCell']) ?_; intro hm7; have HH8 := Aside0.mk (HH7.out.setl hm7 (size_setRow _ _ _) (fun k hk => setRow_other _ _ _ _ hk)); clear hm7 HH7; generalize (w7.setRow g5 #[.int .i64 (X - Y + 1), .int .i64 (X - Y + 2)]) = w8 at HH8 ⊢; have d8 := HH8.out.cellL)
      | ((with_reducible refine gate_dst (N := 52) rfl ?_); refine ev_load HH8.out.headl.head rfl 32 (.tmp 10) rfl rfl _ Try.underlying32 rfl size32 rfl ?_)
      | ((with_reducible refine gate_dst (N := 55) rfl ?_); refine Kd.R_append k35 (w0 := w8) w.heap.size rfl (.tmp 49) (.tmp 54) 25 35 _ _ rfl Try.underlying25 info35 rfl (by decide) (by omega) vl L ⟨(a : Int), (b : Int), ⟨X - Y + 1, X - Y + 2⟩⟩ [.int .i64 (a : Int), .int .i64 (b : Int), .int .i64 (X - Y + 1), .int .i64 (X - Y + 2)] (fun _ => True) (fun _ => False) rfl rfl (k35_mkM _ _ _ _) (fun _ hk => hk.elim) (fun _ _ => trivial) HH8.out.rl (Below.refl _ _) HH8.out.keep.1 (by omega) ?_; intro v1 w9 hR9 hB9 hg9 hat9; obtain ⟨A1, n1, he1⟩ := Kd.R_slice hR9; subst he1; rw [List.length_append, List.length_singleton] at hR9; have HH9 := Aside0.mk (HH8.out.push hg9 hR9); have s9 : w9.cell? ⟨gc, 1, none⟩ = some vl := (blk_cell (HH8.out.grownMem hg9).head 1).trans rfl; have f9 : w9.frozen? ⟨gc, 1, none⟩ = false := blk_frozen (HH8.out.grownMem hg9).head 1; clear hR9 hB9 hg9 hat9))
    refine bodyPost_end (results_none rfl _ _ _) rfl ⟨rfl, .slice A1 (L.length + 1) n1, ?_⟩
    rw [HAL2.out]
    exact HH9.out.dropl
end Go.Proofs.Ytbcfphoheijmdaa.Print
end

section
/- ChainOf: that the Go function's call makes the chain. -/
namespace Go.Proofs.Ytbcfphoheijmdaa.Print
open Go.RowKit Go.Proofs.YtbcfphoheijmdaaW.PrintWords Go.Proofs.YtbcfphoheijmdaaW.PrintLast Go.Proofs.YtbcfphoheijmdaaW.PrintMore Go.Proofs.Ytbcfphoheijmdaa.H
attribute [local go_sem] max2_int min2_int max_two min_two max_three min_three max_four min_four
attribute [local go_sem ↓] Go.wp_at_zero Go.wp_at_succ
set_option linter.unusedVariables false
set_option linter.unusedSimpArgs false

theorem e3 {q : Nat} (hq : q ∈ 3 :: (Kd.int .i64).E) : q = 3 := by simpa [Kd.int, Kd.scalar] using hq
theorem info27 : (Try.prog.info? 27).map (fun i => (i.zero, i.size, i.bytes)) = some (some (.agg #[.int .i64 0, .slice none 0 0]), 2, 32) := by kernel_rfl
theorem size27 : (Try.prog.info? 27).map (·.size) = some 2 := by kernel_rfl
theorem CO.start {w0 w W3 W4 W : World} {g ga gd gw gc gr : Nat} {s1 : Int} {A : List Int} {wide P : Int} {va : Value} {cr : Array Value} (hI : IsS118 w0 W4 g s1) (hB4 : Below w0.heap.size w0 W4) (hbase : w0.heap.size ≤ w.heap.size) (hg : g < w.heap.size) (h3 : Mem w W3 [(gr, cr, 27), (gw, #[.int .i64 wide], 3), (gd, #[.pointer (some ⟨g, 0, none⟩)], 23)]) (hK : KeepBut W3 W4 g none)
    (hm : Mem W4 W [(ga, #[va], 22), (gc, #[.int .i64 P, .slice none 0 0], 27)]) (ra : (Kd.int .i64).R 3 W W4.heap.size (fun _ => True) va A) : CO w0 w W g ga gd gw gc s1 A wide P va (.slice none 0 0) [] [(gr, cr, 27)] := by
  have k34 : ∀ p, p ∈ [(gr, cr, 27), (gw, #[Value.int .i64 wide], 3), (gd, #[Value.pointer (some ⟨g, 0, none⟩)], 23)] → W4.heap[p.1]? = some (.cells p.2.1 p.2.2 (0, 0)) := fun p hp => by
    have hb := h3.blk p hp
    have := h3.ge p hp
    exact (hK.2 p.1 (blk_lt hb) (by omega) (by simp)).trans hb
  have kW : ∀ p, p ∈ [(gr, cr, 27), (gw, #[Value.int .i64 wide], 3), (gd, #[Value.pointer (some ⟨g, 0, none⟩)], 23)] → W.heap[p.1]? = some (.cells p.2.1 p.2.2 (0, 0)) := fun p hp => blk_below (k34 p hp) hm.below
  have hlt : ∀ p, p ∈ [(gr, cr, 27), (gw, #[Value.int .i64 wide], 3), (gd, #[Value.pointer (some ⟨g, 0, none⟩)], 23)] → p.1 < W4.heap.size := fun p hp => blk_lt (k34 p hp)
  have h3ge := h3.ge
  have h3a := h3.apart
  have hma := hm.apart
  have hge := hm.ge
  have hw4 : w.heap.size ≤ W4.heap.size := Nat.le_trans h3.below.size hK.1
  simp only [List.pairwise_cons, List.mem_cons, forall_eq_or_imp, List.not_mem_nil, false_implies, implies_true, and_true] at h3a hma hge h3ge hlt
  have hgb := blk_below hI.1 hm.below
  refine ⟨⟨(below_step hB4 hm.below), fun p hp => ?_, fun p hp => ?_, ?_⟩, ?_, hbase, hg, ⟨by omega, by omega, by omega, by omega⟩, ?_, Kd.R_nil _ _ _ _ _, fun p hp => ?_⟩
  · simp only [List.mem_cons, List.not_mem_nil, or_false] at hp
    rcases hp with rfl | rfl | rfl | rfl | rfl | rfl
    · exact hm.second
    · exact hm.head
    · exact kW (gw, #[.int .i64 wide], 3) (by simp)
    · exact kW (gd, #[.pointer (some ⟨g, 0, none⟩)], 23) (by simp)
    · exact hgb
    · exact kW (gr, cr, 27) (by simp)
  · have := hI.2
    simp only [List.mem_cons, List.not_mem_nil, or_false] at hp
    rcases hp with rfl | rfl | rfl | rfl | rfl | rfl <;> simp only [] <;> omega
  · simp only [List.pairwise_cons, List.mem_cons, forall_eq_or_imp, List.not_mem_nil, false_implies, implies_true, and_true, List.Pairwise.nil]
    refine ⟨⟨?_, ?_, ?_, ?_, ?_⟩, ⟨?_, ?_, ?_, ?_⟩, ⟨?_, ?_, ?_⟩, ⟨?_, ?_⟩, ?_⟩ <;> omega
  · refine ⟨Nat.le_trans hw4 hm.below.size, fun i hi h1 h2 => ?_⟩
    have e1 := hm.below.block i (by omega)
    have e2 := hK.2 i (Nat.lt_of_lt_of_le hi h3.below.size) h1 (by simp)
    have e3 := h3.below.block i hi
    rw [e1, e2, e3]
  · exact Kd.R_mono (Kd.R_lower (Kd.R_bound ra) hw4) (fun k hk => by have := hk.2.1; omega)
  · simp only [List.mem_cons, List.not_mem_nil, or_false] at hp
    subst hp
    exact ⟨show (27 : Nat) ≠ 35 by decide, show (27 : Nat) ≠ 3 by decide, by simp only []; omega⟩
set_option maxHeartbeats 6400000 in
set_option maxRecDepth 100000 in
theorem thermionkit_ChainOf.calls (g : Nat) (s0_0 : Int) (a1 : Int) (a2 : Int) (r1 : Int) (r2 : List (S35)) (r3 : Int) (w0 w : World) (hI : IsS118 w0 w g s0_0) (hB : Below w0.heap.size w0 w) (h : thermionkit_ChainOf.f s0_0 a1 a2 = some (r1, r2, r3)) :
    Calls Try.prog 20 #[.pointer (some ⟨g, 0, none⟩), .int .i64 a1, .int .i64 a2] w fun e w' => ∃ v1_ : Value, e = .returned (.agg #[.int .i64 r1, v1_]) ∧ Kd.R k35 35 w' w.heap.size (fun _ => True) v1_ r2 ∧ IsS118 w0 w' g r3 ∧ Below w0.heap.size w0 w' ∧ KeepBut w w' g none := by
  unfold thermionkit_ChainOf.f at h
  have hguard : 1 ≤ a1 ∧ a1 ≤ 24 ∧ 0 ≤ a2 ∧ a2 ≤ 1000 := by
    by_cases q : 1 ≤ a1 ∧ a1 ≤ 24 ∧ 0 ≤ a2 ∧ a2 ≤ 1000
    · exact q
    · rw [if_neg q] at h; simp at h
  rw [if_pos hguard] at h
  have HF := Aside0.mk (Option.some.inj h)
  have HI0 := Aside0.mk hI
  have HB0 := Aside0.mk hB
  have HGL := Aside0.mk (show g < w.heap.size from blk_lt hI.1)
  have HMS := Aside0.mk (Mem.start w)
  clear h hI hB
  obtain ⟨g1, g2, g3, g4⟩ := hguard
  have hbt := bet_eq s0_0 1 a1 g1 (by omega) (by omega)
  have HAT := Aside0.mk (show chAts s0_0 a1 = atsTo (nextWord s0_0) ((chPoints s0_0 a1).toNat - 1) from rfl)
  have HTR := Aside0.mk (show chTree s0_0 a1 a2 = treeTo (chAts s0_0 a1).1 a2 (chAts s0_0 a1).2 ((chPoints s0_0 a1).toNat - 1) from rfl)
  have HMO := Aside0.mk (show chMore s0_0 a1 a2 = moreTo (chAts s0_0 a1).1 a2 (chPoints s0_0 a1) (nextWord (chTree s0_0 a1 a2).2) (chMany s0_0 a1 a2) from rfl)
  have HMA := Aside0.mk (show chMany s0_0 a1 a2 = if 1 < chPoints s0_0 a1 then (upV (chTree s0_0 a1 a2).2 4).toNat else 0 from rfl)
  have hPd : chPoints s0_0 a1 = betV s0_0 1 a1 := rfl
  rw [← hPd] at hbt
  clear hPd
  generalize chMore s0_0 a1 a2 = MO at HF HMO
  generalize chMany s0_0 a1 a2 = n at HMO HMA
  generalize chTree s0_0 a1 a2 = TR at HF HTR HMO HMA
  generalize chAts s0_0 a1 = AT at HAT HTR HMO
  generalize chPoints s0_0 a1 = PP at hbt HF HAT HTR HMO HMA
  obtain ⟨p, rfl⟩ : ∃ p : Nat, PP = p := ⟨PP.toNat, by omega⟩
  rw [Int.toNat_natCast] at HAT HTR
  have HBT := Aside0.mk hbt.1
  have hp1 : 1 ≤ p := by omega
  have hp2 : p ≤ 24 := by omega
  clear hbt
  have hu27 := Try.underlying27
  have hw1 : (0 : Int) ≤ a2 := g3
  go_enter Try.func20, Try.ntmps20
  go_wp2_with (first
    | ((with_reducible refine gate_dst (N := 3) rfl ?_); refine box_event ?hg (N := 3) ?hd (cs := #[.pointer (some ⟨g, 0, none⟩)]) (t := 23) ?hr ?_; (case hd => rfl); (case hg => rfl); (case hr => first | (go_simp; done) | (go_simp; rfl)); intro gd hgd w1 hbox hb; have HM1 := Aside0.mk (HMS.out.new hgd hbox hb); clear hgd hbox hb HMS)
    | ((with_reducible refine gate_dst (N := 5) rfl ?_); refine box_event ?hg (N := 5) ?hd (cs := #[.int .i64 a2]) (t := 3) ?hr ?_; (case hd => rfl); (case hg => rfl); (case hr => first | (go_simp; done) | (go_simp; rfl)); intro gw hgw w2 hbox hb; have HM2 := Aside0.mk (HM1.out.new hgw hbox hb); clear hgw hbox hb HM1)
    | ((with_reducible refine gate_dst (N := 6) rfl ?_); refine ev_new HM2.out rfl 27 rfl info27 ?_; intro gr w3 hm3 hq1; clear hq1; have HM3 := Aside0.mk hm3; clear hm3 HM2; have c3 : w3.cell? ⟨gd, 0, none⟩ = some (.pointer (some ⟨g, 0, none⟩)) := (blk_cell HM3.out.third 0).trans rfl)
    | (go_at_call 84; refine (thermionkit_Dice_Between.calls g s0_0 1 a1 p (nextWord s0_0) w0 _ ⟨blk_below HI0.out.1 HM3.out.below, HI0.out.2⟩ (below_step HB0.out HM3.out.below) HBT.out).mono ?_; rintro e w4 ⟨rfl, hI4, hB4, hK4⟩; have HI4 := Aside0.mk hI4; have HB4 := Aside0.mk hB4; have HK4 := Aside0.mk hK4; have HN0 := Aside0.mk (Mem.start w4); clear hI4 hB4 hK4 HBT c3)
    | ((with_reducible refine gate_dst (N := 7) rfl ?_); refine ev_new HN0.out rfl 27 rfl info27 ?_; intro gc w5 hm5 hq1; clear hq1; have HN5 := Aside0.mk hm5; clear hm5 HN0)
    | (refine ev_store HN5.out rfl 27 (.tmp 7) (.tmp 18) rfl rfl (cs := #[.int .i64 p, .slice none 0 0]) rfl size27 rfl rfl (by simp [Value.oneCell']) ?_; intro w6 hm6 hq1; clear hq1; have HN6 := Aside0.mk hm6; clear hm6 HN5)
    | ((with_reducible refine gate_dst (N := 19) rfl ?_); refine Kd.R_lit (Kd.int .i64) (w0 := w4) (W := w6) w4.heap.size 3 ?hg (N := 19) ?hd (xs := [0]) (inner := [.int .i64 0]) (ok := fun _ => True) (okp := fun _ => False) ?hr ?hp (fun _ _ => trivial) trivial HN6.out.below HN6.out.below.size (by decide) ?_; (case hd => rfl); (case hg => rfl); (case hr => first | (go_simp; done) | (go_simp; rfl)); (case hp => exact ⟨rfl, fun j p_ hj => by cases j with | zero => (simp at hj; subst hj; rfl) | succ j => simp at hj⟩); intro v19 w7 hR7 hB7 hg7 hat7; have HR7 := Aside0.mk hR7; have HN7 := Aside0.mk (HN6.out.grown hg7 (by simp) (by simp)); clear hR7 hB7 hg7 hat7 HN6)
    | ((with_reducible refine gate_dst (N := 8) rfl ?_); refine box_event ?hg (N := 8) ?hd (cs := #[.slice none 0 0]) (t := 22) ?hr ?_; (case hd => rfl); (case hg => rfl); (case hr => first | (go_simp; done) | (go_simp; rfl)); intro ga hga w8 hbox hb; have HN8 := Aside0.mk (HN7.out.new hga hbox hb); have HR8 := Aside0.mk (Kd.R_below HR7.out hb); clear hga hbox hb HN7 HR7; have s8 : w8.cell? ⟨ga, 0, none⟩ = some (.slice none 0 0) := (HN8.out.cell 0).trans rfl; have f8 : w8.frozen? ⟨ga, 0, none⟩ = false := HN8.out.frozen 0; obtain ⟨A8, n8, he8⟩ := Kd.R_slice HR8.out; subst he8))
  have HC1 : Aside0 (CO w0 w (w8.setCell ⟨ga, 0, none⟩ (.slice A8 1 n8)) g ga gd gw gc (nextWord s0_0) [0] a2 p (.slice A8 1 n8) (.slice none 0 0) [] [(gr, #[.int .i64 0, .slice none 0 0], 27)]) := ⟨CO.start HI4.out HB4.out HB0.out.size HGL.out HM3.out HK4.out (HN8.out.put 0 _ rfl) (Kd.R_set HR8.out HN8.out.head (fun q hq => by rw [e3 hq]; decide) 0 _)⟩
  clear HN8 HR8 s8 f8 HM3 HI4 HB4 HK4
  go_loopg [9] (p - 1) (fun k v9 w' => ∃ (j : Nat) (va : Value), v9 = .int .i64 (j + 1 : Nat) ∧ Aside0 (j + 1 + k = p) ∧ Aside0 (CO w0 w w' g ga gd gw gc (atsTo (nextWord s0_0) j).2 (atsTo (nextWord s0_0) j).1 a2 p va (.slice none 0 0) [] [(gr, #[.int .i64 0, .slice none 0 0], 27)]))
  case atStart => exact ⟨0, _, rfl, ⟨by omega⟩, HC1⟩
  case round =>
    clear HC1
    obtain ⟨j, va, rfl, HK, HC⟩ := hrel
    have cP := HC.out.cellP
    by_cases hj : j + 1 < p
    · have hj2 : ((j + 1 : Nat) : Int) < (p : Int) := by omega
      have hbz := bet_eq (atsTo (nextWord s0_0) j).2 (-30) 30 (by omega) (by omega) (by omega)
      have HST : Aside0 (atsTo (nextWord s0_0) (j + 1) = ((atsTo (nextWord s0_0) j).1 ++ [betV (atsTo (nextWord s0_0) j).2 (-30) 30], nextWord (atsTo (nextWord s0_0) j).2)) := ⟨rfl⟩
      have HLN := Aside0.mk (atsTo_length (nextWord s0_0) j)
      generalize betV (atsTo (nextWord s0_0) j).2 (-30) 30 = z at hbz HST
      have HBZ := Aside0.mk hbz.1
      clear hbz
      generalize (atsTo (nextWord s0_0) j).1 = A at HC HST HLN
      generalize (atsTo (nextWord s0_0) j).2 = sj at HC HST HBZ
      go_wp2_with fail
      have HCD := Aside0.mk HC.out.drew
      refine wp_region_noPanic ?_
      refine H.wp_region_T [5] (S := fun w' => w'.cell? ⟨ga, 0, none⟩ = some va ∧ w'.cell? ⟨gd, 0, none⟩ = some (.pointer (some ⟨g, 0, none⟩))) (by kernel_rfl) ⟨HCD.out.cellA, HCD.out.cellD⟩ (fun hHeld => ?_)
      refine H.wpAnyT_take (i := 0) (v := va) rfl (by decide) (by kernel_rfl) (by kernel_rfl) (by kernel_rfl) (by kernel_rfl) (fun _ _ _ h => h) (Or.inl ⟨by rfl, ?_⟩) hHeld ?_
      · (intro w_ hSw; (try dsimp only at hSw); obtain ⟨q1, q2⟩ := hSw; go_simp; try rfl)
      try simp only [Act.put, List.setIfInBounds_toArray, List.set_cons_zero, List.set_cons_succ]
      refine H.wpAnyT_take (i := 1) (v := .pointer (some ⟨g, 0, none⟩)) rfl (by decide) (by kernel_rfl) (by kernel_rfl) (by kernel_rfl) (by kernel_rfl) (fun _ _ _ h => h) (Or.inl ⟨by rfl, ?_⟩) hHeld ?_
      · (intro w_ hSw; (try dsimp only at hSw); obtain ⟨q1, q2⟩ := hSw; go_simp; try rfl)
      try simp only [Act.put, List.setIfInBounds_toArray, List.set_cons_zero, List.set_cons_succ]
      refine H.wpAnyT_ready (rs := [2]) (by kernel_rfl) (by simp) ?_
      refine H.AllT.cons (i := 2) rfl (by decide) (fun K hK => ?_) H.AllT.nil
      go_simp
      go_at_call 84
      refine (thermionkit_Dice_Between.calls g sj (-30) 30 z (nextWord sj) w0 _ HCD.out.isS HCD.out.below HBZ.out).mono ?_
      rintro e w5 ⟨rfl, hI5, hB5, hK5⟩
      have HC5 := Aside0.mk (HCD.out.dice hI5 hB5 hK5)
      clear hI5 hB5 hK5
      refine hK.out _ _ (⟨HC5.out.cellA, HC5.out.cellD⟩) (fun hHeld => ?_)
      clear hK K
      try simp only [Act.put, List.setIfInBounds_toArray, List.set_cons_zero, List.set_cons_succ]
      refine H.wpAnyT_ready (rs := [3]) (by kernel_rfl) (by simp) ?_
      refine H.AllT.cons (i := 3) rfl (by decide) (fun K hK => ?_) H.AllT.nil
      go_simp
      refine hK.out _ _ (⟨(HC5.out.later (below_alloc (Below.refl _ _) _)).cellA, (HC5.out.later (below_alloc (Below.refl _ _) _)).cellD⟩) (fun hHeld => ?_)
      clear hK K
      try simp only [Act.put, List.setIfInBounds_toArray, List.set_cons_zero, List.set_cons_succ]
      refine H.wpAnyT_ready (rs := [4]) (by kernel_rfl) (by simp) ?_
      refine H.AllT.cons (i := 4) rfl (by decide) (fun K hK => ?_) H.AllT.nil
      refine Kd.R_append_step (Kd.int .i64) (w0 := w5) w.heap.size (by rfl) (.tmp 26) (.tmp 29) 22 3 (.int .i64 0) 8 rfl Try.underlying22 info3 rfl (by decide) (by omega) va A z [.int .i64 z] (fun k => k ≠ gw) (fun _ => False) (by rfl) (by rfl) rfl (fun _ hk => hk.elim) (fun k hk => by have := blk_lt (HC5.out.mem.third); omega) HC5.out.ra (Below.refl _ _) HC5.out.keep.1 (by have := HLN.out; omega) ?_
      intro v1 w6 hR6 hB6 hg6 hat6
      obtain ⟨A1, n1, he1⟩ := Kd.R_slice hR6
      subst he1
      rw [List.length_append, List.length_singleton] at hR6
      have HC6 := Aside0.mk (HC5.out.pushA hg6 hR6)
      have m6 := HC5.out.grownMemA hg6
      have s6 : w6.cell? ⟨ga, 0, none⟩ = some va := (blk_cell m6.second 0).trans rfl
      have f6 : w6.frozen? ⟨ga, 0, none⟩ = false := blk_frozen m6.second 0
      have d6 : w6.cell? ⟨gd, 0, none⟩ = some (.pointer (some ⟨g, 0, none⟩)) := (blk_cell (m6.blk (gd, #[.pointer (some ⟨g, 0, none⟩)], 23) (by simp)) 0).trans rfl
      clear hR6 hB6 hg6 hat6 m6
      refine hK.out _ _ (⟨s6, d6⟩) (fun hHeld => ?_)
      clear hK K
      try simp only [Act.put, List.setIfInBounds_toArray, List.set_cons_zero, List.set_cons_succ]
      refine H.wpAnyT_ready (rs := [5]) (by kernel_rfl) (by simp) ?_
      refine H.AllT.last (i := 5) rfl (by decide) (fun K hK => ?_) H.AllT.nil
      go_simp
      refine hK.out _ _ ?_
      clear hK K s6 f6 d6 hHeld
      try simp only [Act.put, List.setIfInBounds_toArray, List.set_cons_zero, List.set_cons_succ]
      refine wpAny_done (by kernel_rfl) ?_ _
      refine NoPanic.normal ?_
      go_wp2_with fail
      go_roundg (p - 1 - (j + 1))
      case measure => have := HK.out; omega
      case rel => exact ⟨j + 1, _, by go_num, ⟨by omega⟩, ⟨by rw [HST.out]; exact HC6.out⟩⟩
    · have hjp : j = p - 1 := by have := HK.out; omega
      have HC2 : Aside0 (CO w0 w wr g ga gd gw gc AT.2 AT.1 a2 p va (.slice none 0 0) [] [(gr, #[.int .i64 0, .slice none 0 0], 27)]) := ⟨by rw [HAT.out, ← hjp]; exact HC.out⟩
      have hj2 : ¬ ((j + 1 : Nat) : Int) < (p : Int) := by omega
      have hAL : AT.1.length = p := by rw [HAT.out, atsTo_length]; omega
      have HAS : Aside0 (∀ j, -30 ≤ AT.1.getD j 0 ∧ AT.1.getD j 0 ≤ 30) := ⟨by rw [HAT.out]; exact atsTo_small _ _⟩
      clear HAT HC HK
      go_wp2_with fail
      clear hj2 cP hjp
      obtain ⟨A, sA⟩ := AT
      simp only [] at hAL HAS HTR HMO HC2
      go_loopg [11, 12] (p - 1) (fun k v11 v12 w' => ∃ (j : Nat) (vl : Value), v11 = .int .i64 (j + 1 : Nat) ∧ Aside0 (j + 1 + k = p) ∧ Aside0 (CO w0 w w' g ga gd gw gc (treeTo A a2 sA j).2 A a2 p va vl (treeTo A a2 sA j).1 [(gr, #[.int .i64 0, .slice none 0 0], 27)]))
      case atStart => exact ⟨0, _, rfl, ⟨by omega⟩, HC2⟩
      case round =>
        clear HC2
        obtain ⟨j, vl, rfl, HK, HC⟩ := hrel
        have cP := HC.out.cellP
        have cD := HC.out.cellD
        by_cases hj : j + 1 < p
        · have hj2 : ((j + 1 : Nat) : Int) < (p : Int) := by omega
          have hup := up_eq (treeTo A a2 sA j).2 (j + 1 : Nat) (by omega) (by omega)
          have hon := one_eq2 (nextWord (treeTo A a2 sA j).2) 2 (by omega) (by omega)
          have HST : Aside0 (treeTo A a2 sA (j + 1) = ((treeTo A a2 sA j).1 ++ [if oneV (nextWord (treeTo A a2 sA j).2) 2 = true then addLink A a2 (nextWord (nextWord (treeTo A a2 sA j).2)) (upV (treeTo A a2 sA j).2 (j + 1 : Nat)) (j + 1 : Nat) else addLink A a2 (nextWord (nextWord (treeTo A a2 sA j).2)) (j + 1 : Nat) (upV (treeTo A a2 sA j).2 (j + 1 : Nat))], next3 (nextWord (nextWord (treeTo A a2 sA j).2)))) := ⟨rfl⟩
          have HLN := Aside0.mk (treeTo_length A a2 sA j)
          generalize upV (treeTo A a2 sA j).2 (j + 1 : Nat) = u at hup HST
          generalize oneV (nextWord (treeTo A a2 sA j).2) 2 = b at hon HST
          generalize (treeTo A a2 sA j).1 = T at HC HST HLN
          generalize (treeTo A a2 sA j).2 = sj at HC HST hup hon
          obtain ⟨x, rfl⟩ : ∃ x : Nat, u = x := ⟨u.toNat, by omega⟩
          have hx : x < j + 1 := by omega
          have HUP := Aside0.mk hup.1
          have HON := Aside0.mk hon
          clear hup hon
          cases b
          · go_wp2_with (first
              | (go_at_call 43; refine (thermionkit_Dice_Upto.calls g sj (j + 1 : Nat) x (nextWord sj) w0 _ HC.out.isS HC.out.below HUP.out).mono ?_; rintro e w5 ⟨rfl, hI5, hB5, hK5⟩; have HC5 := Aside0.mk (HC.out.dice hI5 hB5 hK5); have d5 := HC5.out.cellD; clear hI5 hB5 hK5 HC cP cD HUP)
              | (go_at_call 35; refine (thermionkit_Dice_One.calls g (nextWord sj) 2 false (nextWord (nextWord sj)) w0 _ HC5.out.isS HC5.out.below HON.out).mono ?_; rintro e w6 ⟨rfl, hI6, hB6, hK6⟩; have HC6 := Aside0.mk (HC5.out.dice hI6 hB6 hK6); clear hI6 hB6 hK6 HC5 d5 HON)
              | (refine (add_calls HC6.out HAS.out ⟨g3, g4⟩ (j + 1) x (by omega) (by omega) (by have := HLN.out; omega)).mono ?_; rintro e w7 ⟨rfl, vl7, hC7⟩; have HC7 := Aside0.mk hC7; clear hC7 HC6))
            go_roundg (p - 1 - (j + 1))
            case measure => have := HK.out; omega
            case rel => exact ⟨j + 1, vl7, by go_num, ⟨by omega⟩, ⟨by rw [HST.out]; exact HC7.out⟩⟩
          · go_wp2_with (first
              | (go_at_call 43; refine (thermionkit_Dice_Upto.calls g sj (j + 1 : Nat) x (nextWord sj) w0 _ HC.out.isS HC.out.below HUP.out).mono ?_; rintro e w5 ⟨rfl, hI5, hB5, hK5⟩; have HC5 := Aside0.mk (HC.out.dice hI5 hB5 hK5); have d5 := HC5.out.cellD; clear hI5 hB5 hK5 HC cP cD HUP)
              | (go_at_call 35; refine (thermionkit_Dice_One.calls g (nextWord sj) 2 true (nextWord (nextWord sj)) w0 _ HC5.out.isS HC5.out.below HON.out).mono ?_; rintro e w6 ⟨rfl, hI6, hB6, hK6⟩; have HC6 := Aside0.mk (HC5.out.dice hI6 hB6 hK6); clear hI6 hB6 hK6 HC5 d5 HON)
              | (refine (add_calls HC6.out HAS.out ⟨g3, g4⟩ x (j + 1) (by omega) (by omega) (by have := HLN.out; omega)).mono ?_; rintro e w7 ⟨rfl, vl7, hC7⟩; have HC7 := Aside0.mk hC7; clear hC7 HC6))
            go_roundg (p - 1 - (j + 1))
            case measure => have := HK.out; omega
            case rel => exact ⟨j + 1, vl7, by go_num, ⟨by omega⟩, ⟨by rw [HST.out]; exact HC7.out⟩⟩
        · have hjp : j = p - 1 := by have := HK.out; omega
          have HC3 : Aside0 (CO w0 w wr g ga gd gw gc TR.2 A a2 p va vl TR.1 [(gr, #[.int .i64 0, .slice none 0 0], 27)]) := ⟨by rw [HTR.out, ← hjp]; exact HC.out⟩
          have hj2 : ¬ ((j + 1 : Nat) : Int) < (p : Int) := by omega
          have hTL : TR.1.length = p - 1 := by rw [HTR.out, treeTo_length]
          clear HTR HC HK hjp
          obtain ⟨T, sT⟩ := TR
          simp only [] at hTL HMO HMA HF HC3
          have hup := up_eq sT 4 (by omega) (by omega)
          generalize upV sT 4 = u at hup HMA
          obtain ⟨m, rfl⟩ : ∃ m : Nat, u = m := ⟨u.toNat, by omega⟩
          rw [Int.toNat_natCast] at HMA
          have hm : m < 4 := by omega
          have HUP := Aside0.mk hup.1
          clear hup
          go_wp2_with (first
            | (go_at_call 43; refine (thermionkit_Dice_Upto.calls g sT 4 m (nextWord sT) w0 _ HC3.out.isS HC3.out.below HUP.out).mono ?_; rintro e w5 ⟨rfl, hI5, hB5, hK5⟩; have HC5 := Aside0.mk (HC3.out.dice hI5 hB5 hK5); clear hI5 hB5 hK5 HC3 cP cD HUP hj2))
          go_loopg [13, 14] m (fun k v13 v14 w' => ∃ (j : Nat) (vl : Value), v13 = .int .i64 ((m - j : Nat) : Int) ∧ Aside0 (j + k = m ∧ (p ≤ 1 → j = 0)) ∧ Aside0 (CO w0 w w' g ga gd gw gc (moreTo A a2 p (nextWord sT) j).2 A a2 p va vl (T ++ (moreTo A a2 p (nextWord sT) j).1) [(gr, #[.int .i64 0, .slice none 0 0], 27)]))
          case atStart => exact ⟨0, _, rfl, ⟨by omega, fun _ => rfl⟩, ⟨by rw [moreTo, List.append_nil]; exact HC5.out⟩⟩
          case round =>
            clear HC5
            obtain ⟨j, vl, rfl, HK, HC⟩ := hrel
            have cP := HC.out.cellP
            have cD := HC.out.cellD
            have hjm : j ≤ m := by have := HK.out.1; omega
            by_cases h1p : 1 < p ∧ j < m
            · obtain ⟨hp3, hjm2⟩ := h1p
              have t1 : (0 : Int) < ((m - j : Nat) : Int) := by omega
              have t2 : (1 : Int) < (p : Int) := by omega
              have t3 : ((p : Int) == 0) = false := by simp; omega
              have t3b : ¬ (p : Int) = 0 := by omega
              have hup := up_eq (moreTo A a2 p (nextWord sT) j).2 p (by omega) (by omega)
              have hbt := bet_eq (nextWord (moreTo A a2 p (nextWord sT) j).2) 1 ((p : Int) - 1) (by omega) (by omega) (by omega)
              have HST : Aside0 (moreTo A a2 p (nextWord sT) (j + 1) = ((moreTo A a2 p (nextWord sT) j).1 ++ [addLink A a2 (nextWord (nextWord (moreTo A a2 p (nextWord sT) j).2)) (upV (moreTo A a2 p (nextWord sT) j).2 p) (Int.tmod (upV (moreTo A a2 p (nextWord sT) j).2 p + betV (nextWord (moreTo A a2 p (nextWord sT) j).2) 1 ((p : Int) - 1)) p)], next3 (nextWord (nextWord (moreTo A a2 p (nextWord sT) j).2)))) := ⟨rfl⟩
              have HLN := Aside0.mk (moreTo_length A a2 p (nextWord sT) j)
              generalize upV (moreTo A a2 p (nextWord sT) j).2 p = u at hup HST
              generalize betV (nextWord (moreTo A a2 p (nextWord sT) j).2) 1 ((p : Int) - 1) = y at hbt HST
              generalize (moreTo A a2 p (nextWord sT) j).1 = M at HC HST HLN
              generalize (moreTo A a2 p (nextWord sT) j).2 = sj at HC HST hup hbt
              obtain ⟨x, rfl⟩ : ∃ x : Nat, u = x := ⟨u.toNat, by omega⟩
              have hx : x < p := by omega
              have hy1 : 1 ≤ y := hbt.2.1
              have hy2 : y ≤ (p : Int) - 1 := hbt.2.2
              have HUP := Aside0.mk hup.1
              have HBT := Aside0.mk hbt.1
              clear hup hbt
              have n1 : IntKind.i64.wrap ((p : Int) - 1) = (p : Int) - 1 := IntWalk.i64_in _ (by omega)
              have n2 : IntKind.i64.wrap ((x : Int) + y) = (x : Int) + y := IntWalk.i64_in _ (by omega)
              have hm0 := Int.emod_nonneg ((x : Int) + y) (show (p : Int) ≠ 0 by omega)
              have hm1 := Int.emod_lt_of_pos ((x : Int) + y) (show 0 < (p : Int) by omega)
              obtain ⟨c, hc⟩ : ∃ c : Nat, Int.tmod ((x : Int) + y) p = (c : Int) := ⟨(((x : Int) + y) % p).toNat, by rw [Int.tmod_eq_emod_of_nonneg (by omega)]; omega⟩
              have hcp : c < p := by rw [Int.tmod_eq_emod_of_nonneg (by omega)] at hc; omega
              rw [hc] at HST
              have n4 : IntKind.i64.wrap (c : Int) = (c : Int) := IntWalk.i64_in _ (by omega)
              have t3c : ¬ p = 0 := by omega
              clear hm0 hm1
              go_wp2_with (first
                | (go_at_call 43; refine (thermionkit_Dice_Upto.calls g sj p x (nextWord sj) w0 _ HC.out.isS HC.out.below HUP.out).mono ?_; rintro e w5 ⟨rfl, hI5, hB5, hK5⟩; have HC5 := Aside0.mk (HC.out.dice hI5 hB5 hK5); clear hI5 hB5 hK5 HC cP cD HUP))
              have HC6 := Aside0.mk HC5.out.drew
              have d6 := HC6.out.cellD
              have p6 := HC6.out.cellP
              go_region_held3 (fun w' => w'.cell? ⟨gd, 0, none⟩ = some (.pointer (some ⟨g, 0, none⟩)) ∧ w'.cell? ⟨gc, 0, none⟩ = some (.int .i64 p)) (first | exact ⟨d6, p6⟩ | exact ⟨HC7.out.cellD, HC7.out.cellP⟩ | exact ⟨HC8.out.cellD, HC8.out.cellP⟩) (first
                | (go_at_call 84; refine (thermionkit_Dice_Between.calls g (nextWord sj) 1 ((p : Int) - 1) y (nextWord (nextWord sj)) w0 _ HC6.out.isS HC6.out.below HBT.out).mono ?_; rintro e w7 ⟨rfl, hI7, hB7, hK7⟩; have HC7 := Aside0.mk (HC6.out.dice hI7 hB7 hK7); clear hI7 hB7 hK7)
                | (go_at_call 86; refine (add_calls HC7.out HAS.out ⟨g3, g4⟩ x c (by omega) (by omega) (by rw [List.length_append]; have := HLN.out; omega)).mono ?_; rintro e w8 ⟨rfl, vl8, hC8⟩; have HC8 := Aside0.mk hC8; clear hC8))
              go_wp2_with fail
              go_roundg (m - (j + 1))
              case measure => have := HK.out.1; omega
              case rel => exact ⟨j + 1, vl8, by go_num, ⟨by omega, fun q => by omega⟩, ⟨by rw [HST.out, ← List.append_assoc]; exact HC8.out⟩⟩
            · have hnj : n = j := by
                rw [HMA.out]
                have := HK.out.2
                split <;> omega
              subst hnj
              obtain ⟨A1, n1, e1⟩ := Kd.R_slice HC.out.rl
              have HF1 : Aside0 (r1 = (p : Int) ∧ r2 = T ++ (moreTo A a2 p (nextWord sT) n).1 ∧ r3 = (moreTo A a2 p (nextWord sT) n).2) := ⟨by have := HF.out; rw [HMO.out] at this; exact ⟨(congrArg Prod.fst this).symm, (congrArg (fun x => x.2.1) this).symm, (congrArg (fun x => x.2.2) this).symm⟩⟩
              clear HMA HMO HF
              generalize T ++ (moreTo A a2 p (nextWord sT) n).1 = LL at HC HF1 e1
              generalize (moreTo A a2 p (nextWord sT) n).2 = sE at HC HF1
              subst e1
              have hz : n < m ∨ n = m := by omega
              rcases hz with hz | hz
              · have t1 : (0 : Int) < ((m - n : Nat) : Int) := by omega
                have t2 : ¬ (1 : Int) < (p : Int) := by omega
                go_wp2_with (first
                  | ((with_reducible refine gate_dst (N := 79) rfl ?_); refine ev_load HC.out.mem.head rfl 27 (.tmp 7) rfl rfl _ Try.underlying27 rfl size27 rfl ?_)
                  | (refine ev_storeW HC.out.headl rfl 27 (.tmp 6) (.tmp 79) rfl rfl (cs := #[.int .i64 p, .slice A1 LL.length n1]) rfl size27 rfl rfl (by simp [Value.oneCell']) ?_; intro hm7; have HC9 := Aside0.mk (HC.out.setl hm7 (size_setRow _ _ _) (fun k hk => setRow_other _ _ _ _ hk)); clear hm7))
                exact bodyPost_ret (results_cell_row rfl _ _ _ _ _ _ _ rfl HC9.out.headl.head Try.underlying27 rfl size27) rfl ⟨_, by rw [HF1.out.1], by rw [HF1.out.2.1]; exact HC9.out.rl, by rw [HF1.out.2.2]; exact HC9.out.isS, HC9.out.below, HC9.out.keep⟩
              · have t1 : ((m - n : Nat) : Int) = 0 := by omega
                rw [t1]
                go_wp2_with (first
                  | ((with_reducible refine gate_dst (N := 79) rfl ?_); refine ev_load HC.out.mem.head rfl 27 (.tmp 7) rfl rfl _ Try.underlying27 rfl size27 rfl ?_)
                  | (refine ev_storeW HC.out.headl rfl 27 (.tmp 6) (.tmp 79) rfl rfl (cs := #[.int .i64 p, .slice A1 LL.length n1]) rfl size27 rfl rfl (by simp [Value.oneCell']) ?_; intro hm7; have HC9 := Aside0.mk (HC.out.setl hm7 (size_setRow _ _ _) (fun k hk => setRow_other _ _ _ _ hk)); clear hm7))
                exact bodyPost_ret (results_cell_row rfl _ _ _ _ _ _ _ rfl HC9.out.headl.head Try.underlying27 rfl size27) rfl ⟨_, by rw [HF1.out.1], by rw [HF1.out.2.1]; exact HC9.out.rl, by rw [HF1.out.2.2]; exact HC9.out.isS, HC9.out.below, HC9.out.keep⟩
end Go.Proofs.Ytbcfphoheijmdaa.Print
end
