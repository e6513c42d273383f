/- Part 2 of the texts of a claim about Ytbcfphoheijmdaa, put together by a program of this work: what the Go functions do, and that their calls do so. -/
import Derived.Test.YtbcfphoheijmdaaProg
import Derived.WalkKit
import Derived.KernelRfl
import Derived.Deep.LoopGhost
import Derived.Deep.QuietTactic
import Derived.BigQuiet
import Derived.StillTailTactics
import Derived.Deep.RegionHeld3
import Derived.Deep.DrawnRows
import Derived.WalkSpells
import Derived.Laws.Rows
import Derived.Outline
import Derived.Test.YtbcfphoheijmdaaMT1
section
/- Small laws on arrays and other blocks that lie in memory, for the walks by hand of this seat: what blocks are known (Mem), new blocks, blocks boxed, read and stored whole. -/
namespace Go.Proofs.Ytbcfphoheijmdaa.H
open Go.RowKit Go.Proofs.YtbcfphoheijmdaaW.PrintWords Go.Proofs.YtbcfphoheijmdaaW.PrintLast Go.Proofs.YtbcfphoheijmdaaW.PrintMore
set_option linter.unusedVariables false
set_option linter.unusedSimpArgs false

/-- What is known of the memory: nothing that was in w has changed, and these blocks are new and hold these cells. -/
structure Mem (w W : World) (l : List (Nat × Array Value × TypeId)) : Prop where
  below : Below w.heap.size w W
  blk : ∀ p, p ∈ l → W.heap[p.1]? = some (.cells p.2.1 p.2.2 (0, 0))
  ge : ∀ p, p ∈ l → w.heap.size ≤ p.1
  apart : l.Pairwise (fun p q => p.1 ≠ q.1)

namespace Mem
variable {w W W1 : World} {l : List (Nat × Array Value × TypeId)} {g i : Nat} {cs cs' : Array Value} {t : TypeId} {v : Value} {q r : Nat × Array Value × TypeId}
theorem start (w : World) : Mem w w [] := ⟨Below.refl _ _, by simp, by simp, .nil⟩
theorem step (h : Mem w W l) (hb : Below W.heap.size W W1) : Mem w W1 l :=
  ⟨below_step h.below hb, fun p hp => blk_below (h.blk p hp) hb, h.ge, h.apart⟩
theorem new (h : Mem w W l) (hg : g = W.heap.size) (hb : W1.heap[g]? = some (.cells cs t (0, 0))) (hl : Below W.heap.size W W1) : Mem w W1 ((g, cs, t) :: l) := by
  have h1 := h.step hl
  refine ⟨h1.below, fun p hp => ?_, fun p hp => ?_, .cons (fun p hp => ?_) h.apart⟩
  · rcases List.mem_cons.1 hp with rfl | hp
    · exact hb
    · exact h1.blk p hp
  · rcases List.mem_cons.1 hp with rfl | hp
    · show _ ≤ g
      rw [hg]; exact h.below.size
    · exact h.ge p hp
  · have := blk_lt (h.blk p hp)
    show g ≠ p.1
    omega
theorem alloc (h : Mem w W l) (o : Obj) : Mem w (W.alloc o) l := h.step (below_alloc (Below.refl _ _) _)
theorem drew (h : Mem w W l) : Mem w W.drew l := ⟨h.below.drew, h.blk, h.ge, h.apart⟩
theorem drewN (h : Mem w W l) (n : Nat) : Mem w (W.drewN n) l := ⟨pw_below_drewN h.below n, h.blk, h.ge, h.apart⟩
theorem grown {row : Option Nat} (h : Mem w W l) (hg : W.grownBy W1 row) (hr : ∀ k, row = some k → w.heap.size ≤ k) (hne : ∀ p, p ∈ l → some p.1 ≠ row) : Mem w W1 l :=
  ⟨h.below.grown hg h.below.size hr, fun p hp => blk_grown (h.blk p hp) hg (hne p hp), h.ge, h.apart⟩
theorem drop (h : Mem w W (q :: l)) : Mem w W l := ⟨h.below, fun p hp => h.blk p (List.mem_cons_of_mem _ hp), fun p hp => h.ge p (List.mem_cons_of_mem _ hp), (List.pairwise_cons.1 h.apart).2⟩
theorem swap (h : Mem w W (q :: r :: l)) : Mem w W (r :: q :: l) := by
  refine ⟨h.below, fun p hp => h.blk p ?_, fun p hp => h.ge p ?_, ?_⟩
  · simp only [List.mem_cons] at hp ⊢; rcases hp with e | e | e <;> simp [e]
  · simp only [List.mem_cons] at hp ⊢; rcases hp with e | e | e <;> simp [e]
  · have a := h.apart
    simp only [List.pairwise_cons, List.mem_cons] at a ⊢
    exact ⟨fun p hp => by
      rcases hp with rfl | hp
      · exact (a.1 _ (.inl rfl)).symm
      · exact a.2.1 p hp, fun p hp => a.1 p (.inr hp), a.2.2⟩
theorem head (h : Mem w W ((g, cs, t) :: l)) : W.heap[g]? = some (.cells cs t (0, 0)) := h.blk _ List.mem_cons_self
theorem second (h : Mem w W (q :: (g, cs, t) :: l)) : W.heap[g]? = some (.cells cs t (0, 0)) := h.blk (g, cs, t) (by simp)
theorem third (h : Mem w W (q :: r :: (g, cs, t) :: l)) : W.heap[g]? = some (.cells cs t (0, 0)) := h.blk (g, cs, t) (by simp)
theorem ne (h : Mem w W ((g, cs, t) :: l)) : ∀ p, p ∈ l → g ≠ p.1 := (List.pairwise_cons.1 h.apart).1
theorem geh (h : Mem w W ((g, cs, t) :: l)) : w.heap.size ≤ g := h.ge _ List.mem_cons_self
theorem cell (h : Mem w W ((g, cs, t) :: l)) (i : Nat) : W.cell? ⟨g, i, none⟩ = cs[i]? := blk_cell h.head i
theorem frozen (h : Mem w W ((g, cs, t) :: l)) (i : Nat) : W.frozen? ⟨g, i, none⟩ = false := blk_frozen h.head i
theorem put (h : Mem w W ((g, cs, t) :: l)) (i : Nat) (v : Value) (e : cs.setIfInBounds i v = cs') : Mem w (W.setCell ⟨g, i, none⟩ v) ((g, cs', t) :: l) := by
  subst e
  refine ⟨below_set h.below h.geh, fun p hp => ?_, fun p hp => ?_, ?_⟩
  · rcases List.mem_cons.1 hp with rfl | hp
    · exact blk_set h.head i v
    · exact blk_far (h.blk p (List.mem_cons_of_mem _ hp)) (h.ne p hp).symm v
  · rcases List.mem_cons.1 hp with rfl | hp
    · exact h.geh
    · exact h.ge p (List.mem_cons_of_mem _ hp)
  · have a := h.apart
    simp only [List.pairwise_cons] at a ⊢
    exact a
theorem row (h : Mem w W ((g, cs, t) :: l)) (cs' : Array Value) : Mem w (W.setRow g cs') ((g, cs', t) :: l) := by
  refine ⟨?_, fun p hp => ?_, fun p hp => ?_, ?_⟩
  · exact ⟨h.below.os, h.below.tape, h.below.output, by rw [size_setRow]; exact h.below.size, fun i hi => by
      rw [setRow_other W g i cs' (by have := h.geh; omega)]; exact h.below.block i hi⟩
  · rcases List.mem_cons.1 hp with rfl | hp
    · exact setRow_heap W g cs cs' t (0, 0) h.head
    · rw [setRow_other W g _ cs' (h.ne p hp).symm]
      exact h.blk p (List.mem_cons_of_mem _ hp)
  · rcases List.mem_cons.1 hp with rfl | hp
    · exact h.geh
    · exact h.ge p (List.mem_cons_of_mem _ hp)
  · have a := h.apart
    simp only [List.pairwise_cons] at a ⊢
    exact a
end Mem

section
variable {P : Program} {ops : Array Oper} {rest : List Oper} {o : Oper} {a : Act} {Q : Exit → Act → World → Prop} {w W : World} {l : List (Nat × Array Value × TypeId)}
/-- A new variable, whose zero value's cells are known. -/
theorem ev_new (hm : Mem w W l) (hgd : o.guard = none) (t : TypeId) (ho : o.op = .alloc t) {cs : Array Value} {s b : Nat} (hi : (P.info? t).map (fun i => (i.zero, i.size, i.bytes)) = some (some (.agg cs), s, b))
    (h : ∀ g W1, Mem w W1 ((g, cs, t) :: l) → Below W.heap.size W W1 → wpList P ops Q rest (a.put o.dst (.pointer (some ⟨g, 0, none⟩))) W1) : wpList P ops Q (o :: rest) a W := by
  obtain ⟨i, hi1, hi2, _, _⟩ := info_parts hi
  refine Kd.event_run (w1 := W.alloc (.cells cs t (0, 0))) hgd ?_ (h _ _ (hm.new rfl (blk_new W _) (below_alloc (Below.refl _ _) _)) (below_alloc (Below.refl _ _) _))
  unfold execOp
  simp [ho, Instr.alloc, zeroValue, typeInfo, hi1, hi2, newVar, newRow, newObj, Value.cells, Sem.run_bind, Result.andThen]
  rfl
/-- An aggregate that is given is laid into a block of its own. -/
theorem ev_box (hm : Mem w W l) (hgd : o.guard = none) (t : TypeId) (x : Operand) (ho : o.op = .box t x) {cs : Array Value} (hx : a.eval x = .agg cs)
    (h : ∀ g W1, Mem w W1 ((g, cs, t) :: l) → Below W.heap.size W W1 → wpList P ops Q rest (a.put o.dst (.pointer (some ⟨g, 0, none⟩))) W1) : wpList P ops Q (o :: rest) a W := by
  refine Kd.event_run (w1 := W.alloc (.cells cs t (0, 0))) hgd ?_ (h _ _ (hm.new rfl (blk_new W _) (below_alloc (Below.refl _ _) _)) (below_alloc (Below.refl _ _) _))
  unfold execOp
  simp [ho, Instr.box, hx, newVar, newRow, newObj, Value.cells, Sem.run_bind, Result.andThen]
  rfl
/-- A whole array is read. -/
theorem ev_load {g : Nat} {cs : Array Value} {t : TypeId} (hb : W.heap[g]? = some (.cells cs t (0, 0))) (hgd : o.guard = none) (ty : TypeId) (x : Operand) (ho : o.op = .load ty x)
    (hx : a.eval x = .pointer (some ⟨g, 0, none⟩)) (d : TypeDesc)
    (hu : P.underlying ty = some d) (hd : (match d with | .struct _ | .array _ _ => true | _ => false) = true) {n : Nat} (hi : (P.info? ty).map (·.size) = some n) (hs : cs.size = n)
    (h : wpList P ops Q rest (a.put o.dst (.agg cs)) W) : wpList P ops Q (o :: rest) a W :=
  wpList_load_row hgd ty x ho g hx t cs (0, 0) d hb hu hd (by rw [hi, hs]) h
/-- A whole array is stored into the block that was made last. -/
theorem ev_store {g : Nat} {old cs : Array Value} {t : TypeId} (hm : Mem w W ((g, old, t) :: l)) (hgd : o.guard = none) (ty : TypeId) (x y : Operand) (ho : o.op = .store ty x y)
    (hx : a.eval x = .pointer (some ⟨g, 0, none⟩)) (hy : a.eval y = .agg cs) {n : Nat} (hi : (P.info? ty).map (·.size) = some n) (hold : old.size = n) (hs : cs.size = n) (h1 : cs.all (·.oneCell') = true)
    (h : ∀ W1, Mem w W1 ((g, cs, t) :: l) → W1.heap.size = W.heap.size → wpList P ops Q rest (a.put o.dst undef) W1) : wpList P ops Q (o :: rest) a W :=
  wpList_plain hgd fun _ hK => wp_store_row ty x y ho g cs hx hy t old hm.head (by rw [hi, hs]) (by rw [hold, hs]) h1 (hK _ _ (h _ (hm.row cs) (size_setRow _ _ _)))
end

/-- An element of an array value. -/
theorem run_index_one {P : Program} (t e n : Nat) (cs : Array Value) (i : Nat) (v : Value) (d : TypeDesc) (hu : P.underlying t = some (.array n e)) (he : P.underlying e = some d)
    (hd : (match d with | .struct _ | .array _ _ => true | _ => false) = false) (hs : (P.info? e).map (·.size) = some 1) (hi : i < n) (hv : cs[i]? = some v) (w : World) :
    (Instr.index t (.agg cs) (.int .i64 (i : Int))).run P w = .ok v w := by
  cases hq : P.info? e with
  | none => simp [hq] at hs
  | some ie =>
    have hs' : ie.size = 1 := by simpa [hq] using hs
    have hagg : (isAgg e).run P w = .ok false w := by
      unfold isAgg
      rw [Sem.run_bind, run_underlying he w]
      cases d <;> simp_all
    have h0 : (0 : Int) ≤ (i : Int) ∧ (i : Int) < (n : Int) := by omega
    simp [Instr.index, asIntOf, Sem.run_bind, run_underlying hu w, sizeOf, typeInfo, hq, hs', part, hagg, hv, h0]
    omega

/-- Numbers as cells. -/
theorem size_nums {T : List Int} {n : Nat} (h : T.length = n) : (nums .i64 T).toArray.size = n := by simp [nums, h]
theorem one_nums (T : List Int) : (nums .i64 T).toArray.all (·.oneCell') = true := by
  simp [nums, Value.oneCell']
theorem get_nums (T : List Int) (i : Nat) (h : i < T.length) : (nums .i64 T).toArray[i]? = some (.int .i64 (T.getD i 0)) := by
  simp [nums, List.getD_eq_getElem?_getD, h]
theorem set_nums (T : List Int) (i : Nat) (v : Int) : (nums .i64 T).toArray.setIfInBounds i (.int .i64 v) = (nums .i64 (T.set i v)).toArray := by
  simp [nums, List.map_set]
theorem zero_nums (n : Nat) : Array.replicate n (Value.int .i64 0) = (nums .i64 (List.replicate n 0)).toArray := by
  simp [nums]
end Go.Proofs.Ytbcfphoheijmdaa.H
end
