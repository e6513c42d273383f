/- Part 2 of the texts of a claim about Ytbcfphoheijmdaa, put together by a program of this work: what the Go functions do, and that their calls do so. -/
import Derived.Test.YtbcfphoheijmdaaProg
import Derived.WalkKit
import Derived.KernelRfl
import Derived.Deep.LoopGhost
import Derived.Deep.QuietTactic
import Derived.BigQuiet
import Derived.StillTailTactics
import Derived.Deep.RegionHeld3
import Derived.Deep.DrawnRows
import Derived.WalkSpells
import Derived.Laws.Rows
import Derived.Outline
import Derived.Test.YtbcfphoheijmdaaMK1
import Derived.Laws.StructEq
import Derived.Below
import Derived.Deep.Draws
import Derived.Deep.AppendLies
import Derived.Maps.AppendAt
import Derived.OwnWalk
import Derived.Laws.BytesArg
import Derived.Laws.MakeOwn
import Derived.Laws.OwnMore
import Derived.Deep.OwnRows
import Derived.Tactics
import Derived.Lib.ConvBytes
import Derived.Laws.Slices
import Derived.RowKit3
import Derived.WideLaws
import Derived.Deep.DeepCutAuto
import Derived.Deep.CutBlock
import Derived.Lib.AppendStr
import Derived.ArgAppend
import Derived.Laws.IdiomCopy
import Derived.OrdersHeld
import Derived.Laws.BitsLemmas
import Derived.RowKit
import Derived.Maps.Own
import Derived.Maps.OwnOps
import Derived.Maps.OwnSet
import Derived.Maps.Ext
import Derived.Maps.RangeWalk
import Derived.Deep.RegionHeld
section
/- Small laws on arrays and other blocks that lie in memory, for the walks by hand of this seat: what blocks are known (Mem), new blocks, blocks boxed, read and stored whole. -/
namespace Go.Proofs.Ytbcfphoheijmdaa.H
open Go.RowKit Go.Proofs.YtbcfphoheijmdaaW.PrintWords Go.Proofs.YtbcfphoheijmdaaW.PrintLast Go.Proofs.YtbcfphoheijmdaaW.PrintMore
set_option linter.unusedVariables false
set_option linter.unusedSimpArgs false

/-- What is known of the memory: nothing that was in w has changed, and these blocks are new and hold these cells. -/
structure Mem (w W : World) (l : List (Nat × Array Value × TypeId)) : Prop where
  below : Below w.heap.size w W
  blk : ∀ p, p ∈ l → W.heap[p.1]? = some (.cells p.2.1 p.2.2 (0, 0))
  ge : ∀ p, p ∈ l → w.heap.size ≤ p.1
  apart : l.Pairwise (fun p q => p.1 ≠ q.1)

namespace Mem
variable {w W W1 : World} {l : List (Nat × Array Value × TypeId)} {g i : Nat} {cs cs' : Array Value} {t : TypeId} {v : Value} {q r : Nat × Array Value × TypeId}
theorem start (w : World) : Mem w w [] := ⟨Below.refl _ _, by simp, by simp, .nil⟩
theorem step (h : Mem w W l) (hb : Below W.heap.size W W1) : Mem w W1 l :=
  ⟨below_step h.below hb, fun p hp => blk_below (h.blk p hp) hb, h.ge, h.apart⟩
theorem new (h : Mem w W l) (hg : g = W.heap.size) (hb : W1.heap[g]? = some (.cells cs t (0, 0))) (hl : Below W.heap.size W W1) : Mem w W1 ((g, cs, t) :: l) := by
  have h1 := h.step hl
  refine ⟨h1.below, fun p hp => ?_, fun p hp => ?_, .cons (fun p hp => ?_) h.apart⟩
  · rcases List.mem_cons.1 hp with rfl | hp
    · exact hb
    · exact h1.blk p hp
  · rcases List.mem_cons.1 hp with rfl | hp
    · show _ ≤ g
      rw [hg]; exact h.below.size
    · exact h.ge p hp
  · have := blk_lt (h.blk p hp)
    show g ≠ p.1
    omega
theorem alloc (h : Mem w W l) (o : Obj) : Mem w (W.alloc o) l := h.step (below_alloc (Below.refl _ _) _)
theorem drew (h : Mem w W l) : Mem w W.drew l := ⟨h.below.drew, h.blk, h.ge, h.apart⟩
theorem drewN (h : Mem w W l) (n : Nat) : Mem w (W.drewN n) l := ⟨pw_below_drewN h.below n, h.blk, h.ge, h.apart⟩
theorem grown {row : Option Nat} (h : Mem w W l) (hg : W.grownBy W1 row) (hr : ∀ k, row = some k → w.heap.size ≤ k) (hne : ∀ p, p ∈ l → some p.1 ≠ row) : Mem w W1 l :=
  ⟨h.below.grown hg h.below.size hr, fun p hp => blk_grown (h.blk p hp) hg (hne p hp), h.ge, h.apart⟩
theorem drop (h : Mem w W (q :: l)) : Mem w W l := ⟨h.below, fun p hp => h.blk p (List.mem_cons_of_mem _ hp), fun p hp => h.ge p (List.mem_cons_of_mem _ hp), (List.pairwise_cons.1 h.apart).2⟩
theorem swap (h : Mem w W (q :: r :: l)) : Mem w W (r :: q :: l) := by
  refine ⟨h.below, fun p hp => h.blk p ?_, fun p hp => h.ge p ?_, ?_⟩
  · simp only [List.mem_cons] at hp ⊢; rcases hp with e | e | e <;> simp [e]
  · simp only [List.mem_cons] at hp ⊢; rcases hp with e | e | e <;> simp [e]
  · have a := h.apart
    simp only [List.pairwise_cons, List.mem_cons] at a ⊢
    exact ⟨fun p hp => by
      rcases hp with rfl | hp
      · exact (a.1 _ (.inl rfl)).symm
      · exact a.2.1 p hp, fun p hp => a.1 p (.inr hp), a.2.2⟩
theorem head (h : Mem w W ((g, cs, t) :: l)) : W.heap[g]? = some (.cells cs t (0, 0)) := h.blk _ List.mem_cons_self
theorem second (h : Mem w W (q :: (g, cs, t) :: l)) : W.heap[g]? = some (.cells cs t (0, 0)) := h.blk (g, cs, t) (by simp)
theorem third (h : Mem w W (q :: r :: (g, cs, t) :: l)) : W.heap[g]? = some (.cells cs t (0, 0)) := h.blk (g, cs, t) (by simp)
theorem ne (h : Mem w W ((g, cs, t) :: l)) : ∀ p, p ∈ l → g ≠ p.1 := (List.pairwise_cons.1 h.apart).1
theorem geh (h : Mem w W ((g, cs, t) :: l)) : w.heap.size ≤ g := h.ge _ List.mem_cons_self
theorem cell (h : Mem w W ((g, cs, t) :: l)) (i : Nat) : W.cell? ⟨g, i, none⟩ = cs[i]? := blk_cell h.head i
theorem frozen (h : Mem w W ((g, cs, t) :: l)) (i : Nat) : W.frozen? ⟨g, i, none⟩ = false := blk_frozen h.head i
theorem put (h : Mem w W ((g, cs, t) :: l)) (i : Nat) (v : Value) (e : cs.setIfInBounds i v = cs') : Mem w (W.setCell ⟨g, i, none⟩ v) ((g, cs', t) :: l) := by
  subst e
  refine ⟨below_set h.below h.geh, fun p hp => ?_, fun p hp => ?_, ?_⟩
  · rcases List.mem_cons.1 hp with rfl | hp
    · exact blk_set h.head i v
    · exact blk_far (h.blk p (List.mem_cons_of_mem _ hp)) (h.ne p hp).symm v
  · rcases List.mem_cons.1 hp with rfl | hp
    · exact h.geh
    · exact h.ge p (List.mem_cons_of_mem _ hp)
  · have a := h.apart
    simp only [List.pairwise_cons] at a ⊢
    exact a
theorem row (h : Mem w W ((g, cs, t) :: l)) (cs' : Array Value) : Mem w (W.setRow g cs') ((g, cs', t) :: l) := by
  refine ⟨?_, fun p hp => ?_, fun p hp => ?_, ?_⟩
  · exact ⟨h.below.os, h.below.tape, h.below.output, by rw [size_setRow]; exact h.below.size, fun i hi => by
      rw [setRow_other W g i cs' (by have := h.geh; omega)]; exact h.below.block i hi⟩
  · rcases List.mem_cons.1 hp with rfl | hp
    · exact setRow_heap W g cs cs' t (0, 0) h.head
    · rw [setRow_other W g _ cs' (h.ne p hp).symm]
      exact h.blk p (List.mem_cons_of_mem _ hp)
  · rcases List.mem_cons.1 hp with rfl | hp
    · exact h.geh
    · exact h.ge p (List.mem_cons_of_mem _ hp)
  · have a := h.apart
    simp only [List.pairwise_cons] at a ⊢
    exact a
end Mem

section
variable {P : Program} {ops : Array Oper} {rest : List Oper} {o : Oper} {a : Act} {Q : Exit → Act → World → Prop} {w W : World} {l : List (Nat × Array Value × TypeId)}
/-- A new variable, whose zero value's cells are known. -/
theorem ev_new (hm : Mem w W l) (hgd : o.guard = none) (t : TypeId) (ho : o.op = .alloc t) {cs : Array Value} {s b : Nat} (hi : (P.info? t).map (fun i => (i.zero, i.size, i.bytes)) = some (some (.agg cs), s, b))
    (h : ∀ g W1, Mem w W1 ((g, cs, t) :: l) → Below W.heap.size W W1 → wpList P ops Q rest (a.put o.dst (.pointer (some ⟨g, 0, none⟩))) W1) : wpList P ops Q (o :: rest) a W := by
  obtain ⟨i, hi1, hi2, _, _⟩ := info_parts hi
  refine Kd.event_run (w1 := W.alloc (.cells cs t (0, 0))) hgd ?_ (h _ _ (hm.new rfl (blk_new W _) (below_alloc (Below.refl _ _) _)) (below_alloc (Below.refl _ _) _))
  unfold execOp
  simp [ho, Instr.alloc, zeroValue, typeInfo, hi1, hi2, newVar, newRow, newObj, Value.cells, Sem.run_bind, Result.andThen]
  rfl
/-- An aggregate that is given is laid into a block of its own. -/
theorem ev_box (hm : Mem w W l) (hgd : o.guard = none) (t : TypeId) (x : Operand) (ho : o.op = .box t x) {cs : Array Value} (hx : a.eval x = .agg cs)
    (h : ∀ g W1, Mem w W1 ((g, cs, t) :: l) → Below W.heap.size W W1 → wpList P ops Q rest (a.put o.dst (.pointer (some ⟨g, 0, none⟩))) W1) : wpList P ops Q (o :: rest) a W := by
  refine Kd.event_run (w1 := W.alloc (.cells cs t (0, 0))) hgd ?_ (h _ _ (hm.new rfl (blk_new W _) (below_alloc (Below.refl _ _) _)) (below_alloc (Below.refl _ _) _))
  unfold execOp
  simp [ho, Instr.box, hx, newVar, newRow, newObj, Value.cells, Sem.run_bind, Result.andThen]
  rfl
/-- A whole array is read. -/
theorem ev_load {g : Nat} {cs : Array Value} {t : TypeId} (hb : W.heap[g]? = some (.cells cs t (0, 0))) (hgd : o.guard = none) (ty : TypeId) (x : Operand) (ho : o.op = .load ty x)
    (hx : a.eval x = .pointer (some ⟨g, 0, none⟩)) (d : TypeDesc)
    (hu : P.underlying ty = some d) (hd : (match d with | .struct _ | .array _ _ => true | _ => false) = true) {n : Nat} (hi : (P.info? ty).map (·.size) = some n) (hs : cs.size = n)
    (h : wpList P ops Q rest (a.put o.dst (.agg cs)) W) : wpList P ops Q (o :: rest) a W :=
  wpList_load_row hgd ty x ho g hx t cs (0, 0) d hb hu hd (by rw [hi, hs]) h
/-- A whole array is stored into the block that was made last. -/
theorem ev_store {g : Nat} {old cs : Array Value} {t : TypeId} (hm : Mem w W ((g, old, t) :: l)) (hgd : o.guard = none) (ty : TypeId) (x y : Operand) (ho : o.op = .store ty x y)
    (hx : a.eval x = .pointer (some ⟨g, 0, none⟩)) (hy : a.eval y = .agg cs) {n : Nat} (hi : (P.info? ty).map (·.size) = some n) (hold : old.size = n) (hs : cs.size = n) (h1 : cs.all (·.oneCell') = true)
    (h : ∀ W1, Mem w W1 ((g, cs, t) :: l) → W1.heap.size = W.heap.size → wpList P ops Q rest (a.put o.dst undef) W1) : wpList P ops Q (o :: rest) a W :=
  wpList_plain hgd fun _ hK => wp_store_row ty x y ho g cs hx hy t old hm.head (by rw [hi, hs]) (by rw [hold, hs]) h1 (hK _ _ (h _ (hm.row cs) (size_setRow _ _ _)))
end

/-- An element of an array value. -/
theorem run_index_one {P : Program} (t e n : Nat) (cs : Array Value) (i : Nat) (v : Value) (d : TypeDesc) (hu : P.underlying t = some (.array n e)) (he : P.underlying e = some d)
    (hd : (match d with | .struct _ | .array _ _ => true | _ => false) = false) (hs : (P.info? e).map (·.size) = some 1) (hi : i < n) (hv : cs[i]? = some v) (w : World) :
    (Instr.index t (.agg cs) (.int .i64 (i : Int))).run P w = .ok v w := by
  cases hq : P.info? e with
  | none => simp [hq] at hs
  | some ie =>
    have hs' : ie.size = 1 := by simpa [hq] using hs
    have hagg : (isAgg e).run P w = .ok false w := by
      unfold isAgg
      rw [Sem.run_bind, run_underlying he w]
      cases d <;> simp_all
    have h0 : (0 : Int) ≤ (i : Int) ∧ (i : Int) < (n : Int) := by omega
    simp [Instr.index, asIntOf, Sem.run_bind, run_underlying hu w, sizeOf, typeInfo, hq, hs', part, hagg, hv, h0]
    omega

/-- Numbers as cells. -/
theorem size_nums {T : List Int} {n : Nat} (h : T.length = n) : (nums .i64 T).toArray.size = n := by simp [nums, h]
theorem one_nums (T : List Int) : (nums .i64 T).toArray.all (·.oneCell') = true := by
  simp [nums, Value.oneCell']
theorem get_nums (T : List Int) (i : Nat) (h : i < T.length) : (nums .i64 T).toArray[i]? = some (.int .i64 (T.getD i 0)) := by
  simp [nums, List.getD_eq_getElem?_getD, h]
theorem set_nums (T : List Int) (i : Nat) (v : Int) : (nums .i64 T).toArray.setIfInBounds i (.int .i64 v) = (nums .i64 (T.set i v)).toArray := by
  simp [nums, List.map_set]
theorem zero_nums (n : Nat) : Array.replicate n (Value.int .i64 0) = (nums .i64 (List.replicate n 0)).toArray := by
  simp [nums]
end Go.Proofs.Ytbcfphoheijmdaa.H
end

section
-- PRINTED BY print.sh 35421559b90ae4d0a3588c463048766b98c2df88dd9212a6774a882060cdf62d: not written by this session
/-! ### 50. A region's order in a table, made once a region: each step asks the table (numbers alone), not the operations -/
namespace Go.Proofs.YtbcfphoheijmdaaW.PrintLast
open Go.Proofs.YtbcfphoheijmdaaW.PrintWords (Aside0)
def needsOf (md : Region.Mode) (o : Oper) : List Nat := (o.after.toList.filter (fun e => Region.binds md e)).map (fun e => e.on)
def clashOf (md : Region.Mode) (ops : Array Oper) (i : Nat) (oi : Oper) : List Nat := (List.range ops.size).filter fun j => !(j == i) && match ops[j]? with
  | some oj => !(oj.after.any (fun e => Region.binds md e && e.on == i) || oi.apart ops oj)
  | none => false
/-- No select in it; for each operation: what must have come up before it, and what may not come up behind it if it is taken first. -/
def rtab (md : Region.Mode) (ops : Array Oper) : Bool × List (List Nat × List Nat) := (Region.noSelect ops, (List.range ops.size).map fun i => match ops[i]? with
  | some o => (needsOf md o, clashOf md ops i o)
  | none => ([], []))
def readyAt (T : List (List Nat × List Nat)) (l : List Bool) (i : Nat) : Bool := !l.getD i true && match T[i]? with
  | some r => r.1.all (fun j => l.getD j false)
  | none => false
def readyT (T : List (List Nat × List Nat)) (l : List Bool) : List Nat := (List.range T.length).filter (readyAt T l)
def freeT (T : List (List Nat × List Nat)) (l : List Bool) (i : Nat) : Bool := match T[i]? with
  | some r => r.2.all (fun j => l.getD j true)
  | none => false
def closedT (T : List (List Nat × List Nat)) (l : List Bool) : Bool := (List.range T.length).all fun j => !l.getD j false || match T[j]? with
  | some r => r.1.all (fun k => l.getD k false)
  | none => true
def reachT (T : List (List Nat × List Nat)) (i : Nat) : Nat → Nat → Bool
  | 0, _ => false
  | fuel + 1, d => match T[d]? with
    | some r => r.1.any fun j => j == i || reachT T i fuel j
    | none => false
def lastT (T : List (List Nat × List Nat)) (l : List Bool) (ds : List Nat) (i : Nat) : Bool := ds.all fun d => l.getD d true || reachT T i T.length d
section
variable {md : Region.Mode} {ops : Array Oper} {T : Bool × List (List Nat × List Nat)} {l l' li lj lk : Array Bool} {ds : List Nat} {i j k : Nat}
theorem gd (l : Array Bool) (j : Nat) (b : Bool) : l.getD j b = l.toList.getD j b := by simp [Array.getD_eq_getD_getElem?, List.getD_eq_getElem?_getD]
theorem needs_all (o : Oper) (p : Nat → Bool) : o.after.all (fun e => !Region.binds md e || p e.on) = (needsOf md o).all p := by
  unfold needsOf
  rw [← Array.all_toList]
  induction o.after.toList with
  | nil => rfl
  | cons e r ih =>
    rw [List.all_cons, ih, List.filter_cons]
    cases h : Region.binds md e <;> simp
theorem needs_any (o : Oper) (p : Nat → Bool) : o.after.any (fun e => Region.binds md e && p e.on) = (needsOf md o).any p := by
  unfold needsOf
  rw [← Array.any_toList]
  induction o.after.toList with
  | nil => rfl
  | cons e r ih =>
    rw [List.any_cons, ih, List.filter_cons]
    cases h : Region.binds md e <;> simp
theorem rtab_length : (rtab md ops).2.length = ops.size := by simp [rtab]
theorem rtab_some {o : Oper} (h : ops[i]? = some o) : (rtab md ops).2[i]? = some (needsOf md o, clashOf md ops i o) := by
  have hi := (Array.getElem?_eq_some_iff.1 h).1
  unfold rtab
  rw [List.getElem?_map, List.getElem?_range hi, Option.map_some, h]
theorem rtab_none (h : ops[i]? = none) : (rtab md ops).2[i]? = none := by
  have hi : ops.size ≤ i := Array.getElem?_eq_none_iff.1 h
  exact List.getElem?_eq_none (by rw [rtab_length]; exact hi)
theorem readyAt_eq : readyAt (rtab md ops).2 l.toList i = (!l.getD i true && ((ops[i]?).map (·.after.all fun e => !Region.binds md e || l.getD e.on false)).getD false) := by
  unfold readyAt
  rw [gd]
  cases h : ops[i]? with
  | none => rw [rtab_none h]; rfl
  | some o =>
    rw [rtab_some h]
    simp only [Option.map_some, Option.getD_some]
    rw [← needs_all]
    simp only [gd]
theorem ready_eq : Region.ready md ops l = readyT (rtab md ops).2 l.toList := by
  unfold Region.ready readyT
  rw [rtab_length]
  refine List.filter_congr (fun i _ => ?_)
  rw [readyAt_eq]
theorem free_eq : Region.free md ops l i = freeT (rtab md ops).2 l.toList i := by
  unfold Region.free freeT
  cases h : ops[i]? with
  | none => rw [rtab_none h]
  | some oi =>
    rw [rtab_some h]
    simp only [clashOf]
    rw [List.all_filter]
    congr 1
    funext j
    rw [gd]
    cases hj : ops[j]? with
    | none => cases (j == i) <;> cases (l.toList.getD j true) <;> simp
    | some oj =>
      cases (j == i) <;> cases (l.toList.getD j true) <;> cases (oj.after.any (fun e => Region.binds md e && e.on == i) || oi.apart ops oj) <;> simp_all
theorem closed_eq : Region.closedB md ops l = closedT (rtab md ops).2 l.toList := by
  unfold Region.closedB closedT
  rw [rtab_length]
  congr 1
  funext j
  rw [gd]
  cases h : ops[j]? with
  | none => rw [rtab_none h]
  | some o =>
    rw [rtab_some h]
    simp only
    rw [← needs_all]
    simp only [gd]
theorem reach_eq : ∀ (fuel d : Nat), Region.reachB md ops i fuel d = reachT (rtab md ops).2 i fuel d
  | 0, _ => rfl
  | fuel + 1, d => by
    unfold Region.reachB reachT
    cases h : ops[d]? with
    | none => rw [rtab_none h]
    | some o =>
      rw [rtab_some h]
      simp only
      rw [← needs_any]
      congr 1
      funext e
      rw [reach_eq fuel]
theorem last_eq : Region.lastB md ops l ds i = lastT (rtab md ops).2 l.toList ds i := by
  unfold Region.lastB lastT
  rw [rtab_length]
  congr 1
  funext d
  rw [gd, reach_eq]
theorem readyAt_mem (h : readyAt T.2 l.toList i = true) (hT : rtab md ops = T) : (Region.ready md ops l).contains i = true := by
  subst hT
  rw [ready_eq]
  unfold readyT
  rw [List.contains_iff_mem, List.mem_filter, List.mem_range]
  refine ⟨?_, h⟩
  unfold readyAt at h
  rw [Bool.and_eq_true] at h
  cases hq : (rtab md ops).2[i]? with
  | none => rw [hq] at h; simp at h
  | some r => exact (List.getElem?_eq_some_iff.1 hq).1
theorem set_of (h : (l.toList.set i true == l'.toList) = true) : (l.setIfInBounds i true == l') = true := by
  rw [beq_iff_eq] at h ⊢
  apply Array.ext'
  rw [Array.toList_setIfInBounds]
  exact h
def anyT (T : Bool × List (List Nat × List Nat)) (l l' : List Bool) (i : Nat) : Bool := T.1 && freeT T.2 l i && readyAt T.2 l i && (l.set i true == l')
/-- pure_'s condition out of the table. -/
theorem any_of (hT : rtab md ops = T) (h : anyT T l.toList l'.toList i = true) : anyB md ops l l' i = true := by
  simp only [anyT, Bool.and_eq_true] at h
  obtain ⟨⟨⟨h1, h2⟩, h3⟩, h4⟩ := h
  have h5 := readyAt_mem h3 hT
  have h6 := set_of h4
  subst hT
  simp only [anyB, Bool.and_eq_true]
  exact ⟨⟨⟨h1, by rw [free_eq]; exact h2⟩, h5⟩, h6⟩
def takeT (T : Bool × List (List Nat × List Nat)) (ds : List Nat) (l l' : List Bool) (i : Nat) : Bool := T.1 && freeT T.2 l i && readyAt T.2 l i && closedT T.2 l && lastT T.2 l ds i && (l.set i true == l')
/-- take_'s. -/
theorem take_of (hT : rtab md ops = T) (h : takeT T ds l.toList l'.toList i = true) : takeB md ops ds l l' i = true := by
  simp only [takeT, Bool.and_eq_true] at h
  obtain ⟨⟨⟨⟨⟨h1, h2⟩, h3⟩, h4⟩, h5⟩, h6⟩ := h
  have h7 := readyAt_mem h3 hT
  have h8 := set_of h6
  subst hT
  simp only [takeB, Bool.and_eq_true]
  exact ⟨⟨⟨⟨⟨h1, by rw [free_eq]; exact h2⟩, h7⟩, by rw [closed_eq]; exact h4⟩, by rw [last_eq]; exact h5⟩, h8⟩
/-- one_'s and last_'s. -/
theorem one_of (hT : rtab md ops = T) (h : (readyT T.2 l.toList == [i] && l.toList.set i true == l'.toList) = true) : readyB md ops l l' i = true := by
  simp only [Bool.and_eq_true] at h
  obtain ⟨h1, h2⟩ := h
  subst hT
  simp only [readyB, Bool.and_eq_true]
  exact ⟨by rw [ready_eq]; exact h1, set_of h2⟩
/-- done_'s. -/
theorem done_of (hT : rtab md ops = T) (h : (readyT T.2 l.toList == []) = true) : (Region.ready md ops l == []) = true := by
  subst hT
  rw [ready_eq]
  exact h
/-- What d waits for, as_ bits: told in the table (B), checked in one pass: each bit is a need of d, or a bit of an earlier need's. -/
def upM (B : List Nat) (d : Nat) : List Nat → Nat
  | [] => 0
  | n :: r => (2 ^ n ||| (if n < d then B.getD n 0 else 0)) ||| upM B d r
def waitsOk (T : List (List Nat × List Nat)) (B : List Nat) : Bool := (List.range T.length).all fun d => match T[d]? with
  | some r => (B.getD d 0 ||| upM B d r.1) == upM B d r.1
  | none => false
theorem upM_bit {B : List Nat} {d i : Nat} : ∀ {ns : List Nat}, (upM B d ns).testBit i = true → ∃ n ∈ ns, n = i ∨ (n < d ∧ (B.getD n 0).testBit i = true)
  | [], h => by simp [upM] at h
  | n :: r, h => by
    unfold upM at h
    rw [Nat.testBit_or, Nat.testBit_or, Bool.or_eq_true, Bool.or_eq_true] at h
    rcases h with (h | h) | h
    · rw [Nat.testBit_two_pow] at h
      exact ⟨n, List.mem_cons_self, .inl (by simpa using h)⟩
    · by_cases hn : n < d
      · rw [if_pos hn] at h
        exact ⟨n, List.mem_cons_self, .inr ⟨hn, h⟩⟩
      · rw [if_neg hn] at h
        simp at h
    · obtain ⟨m, hm, h2⟩ := upM_bit h
      exact ⟨m, List.mem_cons_of_mem _ hm, h2⟩
theorem reach_bit {T : List (List Nat × List Nat)} {B : List Nat} (hB : waitsOk T B = true) : ∀ (fuel d : Nat), d < fuel → d < T.length → (B.getD d 0).testBit i = true → reachT T i fuel d = true
  | 0, d, h, _, _ => by omega
  | fuel + 1, d, h, hd, hb => by
    have h1 := List.all_eq_true.1 hB d (List.mem_range.2 hd)
    cases hr : T[d]? with
    | none => rw [hr] at h1; simp at h1
    | some r =>
      rw [hr] at h1
      simp only [beq_iff_eq] at h1
      have h2 : (upM B d r.1).testBit i = true := by rw [← h1, Nat.testBit_or, hb, Bool.true_or]
      obtain ⟨n, hn, h3⟩ := upM_bit h2
      unfold reachT
      rw [hr]
      simp only
      rw [List.any_eq_true]
      refine ⟨n, hn, ?_⟩
      rcases h3 with rfl | ⟨h4, h5⟩
      · simp
      · rw [reach_bit hB fuel n (by omega) (by omega) h5, Bool.or_true]
def lastW (T : List (List Nat × List Nat)) (B : List Nat) (l : List Bool) (ds : List Nat) (i : Nat) : Bool := ds.all fun d => l.getD d true || (decide (d < T.length) && (B.getD d 0).testBit i)
def takeW (T : Bool × List (List Nat × List Nat)) (B : List Nat) (ds : List Nat) (l l' : List Bool) (i : Nat) : Bool := T.1 && freeT T.2 l i && readyAt T.2 l i && closedT T.2 l && lastW T.2 B l ds i && (l.set i true == l')
/-- take_'s, by the bits. -/
theorem take_ofW {B : List Nat} (hT : rtab md ops = T) (hB : waitsOk T.2 B = true) (h : takeW T B ds l.toList l'.toList i = true) : takeB md ops ds l l' i = true := by
  refine take_of hT ?_
  simp only [takeW, takeT, Bool.and_eq_true] at h ⊢
  obtain ⟨⟨⟨⟨⟨h1, h2⟩, h3⟩, h4⟩, h5⟩, h6⟩ := h
  refine ⟨⟨⟨⟨⟨h1, h2⟩, h3⟩, h4⟩, ?_⟩, h6⟩
  unfold lastW at h5
  unfold lastT
  rw [List.all_eq_true] at h5 ⊢
  intro d hd
  have h7 := h5 d hd
  rw [Bool.or_eq_true, Bool.and_eq_true, decide_eq_true_eq] at h7
  rcases h7 with h7 | ⟨h8, h9⟩
  · rw [h7, Bool.true_or]
  · rw [reach_bit hB _ d h8 h8 h9, Bool.or_true]
theorem with_tabW {P : Program} {Q : Exit → Act → World → Prop} {S : World → Prop} {n : Nat} {a : Act} {w : World} {B : List Nat} (hT : rtab md ops = T) (hB : waitsOk T.2 B = true) (h : Aside0 (rtab md ops = T) → Aside0 (waitsOk T.2 B = true) → wpAnyLast P md ops Q S ds n l a w) : wpAnyLast P md ops Q S ds n l a w := h ⟨hT⟩ ⟨hB⟩
end
/-- The operations of a region, by its number. -/
def opsIn : Code → Nat → Option (Array Oper)
  | .region id ops _, k => if id == k then some ops else none
  | .seq a b, k => match opsIn a k with
    | some o => some o
    | none => opsIn b k
  | .cond _ a b, k => match opsIn a k with
    | some o => some o
    | none => opsIn b k
  | .block _ c, k => opsIn c k
  | .loop c, k => opsIn c k
  | .scope c, k => opsIn c k
  | .rangeFunc _ _ a b, k => match opsIn a k with
    | some o => some o
    | none => opsIn b k
  | _, _ => none
def opsOf (f : Func) (k : Nat) : Array Oper := ((f.body.bind fun c => opsIn c k)).getD #[]
end Go.Proofs.YtbcfphoheijmdaaW.PrintLast
end

section
-- PRINTED BY print.sh 35421559b90ae4d0a3588c463048766b98c2df88dd9212a6774a882060cdf62d: not written by this session
/-! ### 56. Four, five, six operations that may come up next, in any order -/
namespace Go.Proofs.YtbcfphoheijmdaaW.PrintLast
section
variable {P : Program} {ops : Array Oper} {Q : Exit → Act → World → Prop} {md : Region.Mode} {S : World → Prop} {ds : List Nat} {T : Bool × List (List Nat × List Nat)}
end
end Go.Proofs.YtbcfphoheijmdaaW.PrintLast
end

section
-- PRINTED BY print.sh 35421559b90ae4d0a3588c463048766b98c2df88dd9212a6774a882060cdf62d: not written by this session
/-! ### 52. A row that stays read whatever happens to a block (a set of blocks) doesn't lie there -/
namespace Go.Proofs.YtbcfphoheijmdaaW.PrintWords
open Go.RowKit
namespace Kd
section
variable {α : Type} {d : Kd α} {W : World} {g n : Nat} {S ok : Nat → Prop} {A : Option Addr} {ad : Addr} {xs : List α}
end
end Kd
end Go.Proofs.YtbcfphoheijmdaaW.PrintWords
end

section
-- PRINTED BY print.sh 35421559b90ae4d0a3588c463048766b98c2df88dd9212a6774a882060cdf62d: not written by this session
/-! ### 54. Behind orders that were drawn quietly: the same facts at the world's new name; a flat row's foot -/
namespace Go.Proofs.YtbcfphoheijmdaaW.PrintWords
open Go.RowKit
section
variable {w w' u : World} {m B g : Nat} {o : Obj} {row : Option Nat} {S : Nat → Prop} {a : Addr} {v : Value}
end
namespace Kd
section
variable {α : Type} {d : Kd α} {e base n m : Nat} {ok : Nat → Prop} {w w' : World} {v : Value} {A : Option Addr} {xs : List α}
end
end Kd
end Go.Proofs.YtbcfphoheijmdaaW.PrintWords
end

section
-- PRINTED BY print.sh 35421559b90ae4d0a3588c463048766b98c2df88dd9212a6774a882060cdf62d: not written by this session
/-! ### 53. '==' of structs as_ one Bool -/
namespace Go.Proofs.YtbcfphoheijmdaaW.PrintWords
open Go.RowKit
section
variable {P : Program} {d : Nat} {xs ys : Array Value} {f : Field} {fs : List Field} {a b : Value} {r s : Bool} {w : World}
/-- The last field that counts. -/
theorem eqf_last (hn : (f.name == "_") = false) (ha : (part f.type xs f.offset).run P w = .ok a w) (hb : (part f.type ys f.offset).run P w = .ok b w) (he : (Op.equalIn d f.type a b).run P w = .ok r w) : (Op.eqFields d xs ys [f]).run P w = .ok r w := by
  have hn' : f.name ≠ "_" := by simpa using hn
  simp only [Op.eqFields, if_pos hn', Sem.run_bind, ha, hb, he, Result.andThen_ok]
  cases r <;> simp
theorem eqf_cons (hn : (f.name == "_") = false) (ha : (part f.type xs f.offset).run P w = .ok a w) (hb : (part f.type ys f.offset).run P w = .ok b w) (he : (Op.equalIn d f.type a b).run P w = .ok r w) (hr : (Op.eqFields d xs ys fs).run P w = .ok s w) : (Op.eqFields d xs ys (f :: fs)).run P w = .ok (r && s) w := by
  have hn' : f.name ≠ "_" := by simpa using hn
  rw [Op.eqFields]
  simp only [if_pos hn', Sem.run_bind, ha, hb, he, Result.andThen_ok]
  cases r
  · simp
  · simpa using hr
theorem eqA_of {t : TypeId} {fs : Array Field} (hu : P.underlying t = some (.struct fs)) (hp : P.stoodInHeld t = false) (h : (Op.eqFields d xs ys fs.toList).run P w = .ok r w) : (Op.equalIn (d + 1) t (.agg xs) (.agg ys)).run P w = .ok r w := by
  have hf : P.fieldsOf t = fs := by simp [Program.fieldsOf, hu]
  rw [run_equalIn_struct (P := P) w d t xs ys (by rw [hf]; exact hu) hp, hf]
  exact h
end
end Go.Proofs.YtbcfphoheijmdaaW.PrintWords
end

section
-- PRINTED BY print.sh 35421559b90ae4d0a3588c463048766b98c2df88dd9212a6774a882060cdf62d: not written by this session
/-! ### 55. Reps told from the front, no append: for rows of one-cell elements and of wider ones -/
namespace Go.Proofs.YtbcfphoheijmdaaW.PrintWords
/-- One cell an element. -/
theorem Reps.one {α : Type} {R : α → List Value → Prop} {ps : List α} {cs : List Value} {p : α} {v : Value} (hp : R p [v]) (h : Reps R 1 ps cs) : Reps R 1 (p :: ps) (v :: cs) := by
  refine ⟨by simp [h.1], fun j q hq => ?_⟩
  cases j with
  | zero =>
    simp only [List.getElem?_cons_zero, Option.some.injEq] at hq
    subst hq
    simpa using hp
  | succ j =>
    simp only [List.getElem?_cons_succ] at hq
    have h1 := h.2 j q hq
    simpa [Nat.mul_one] using h1
/-- More cells an element: told apart by the cells' list. -/
theorem Reps.front {α : Type} {R : α → List Value → Prop} {size : Nat} {ps : List α} {cs c all : List Value} {p : α} (hp : R p c) (hc : c.length = size) (h : Reps R size ps cs) (ha : c ++ cs = all) : Reps R size (p :: ps) all := by
  subst ha
  refine ⟨by rw [List.length_append, hc, h.1, List.length_cons, Nat.succ_mul, Nat.add_comm], fun j q hq => ?_⟩
  cases j with
  | zero =>
    simp only [List.getElem?_cons_zero, Option.some.injEq] at hq
    subst hq
    rw [Nat.zero_mul, List.drop_zero, List.take_append_of_le_length (by omega), List.take_of_length_le (by omega)]
    exact hp
  | succ j =>
    simp only [List.getElem?_cons_succ] at hq
    have h1 := h.2 j q hq
    rw [Nat.succ_mul, List.drop_append, List.drop_of_length_le (by rw [hc]; exact Nat.le_add_left _ _), List.nil_append, hc, Nat.add_sub_cancel]
    exact h1
theorem Reps.c2 {α : Type} {R : α → List Value → Prop} {ps : List α} {cs : List Value} {p : α} {va vb : Value} (hp : R p [va, vb]) (h : Reps R 2 ps cs) : Reps R 2 (p :: ps) (va :: vb :: cs) := Reps.front hp rfl h rfl
theorem Reps.c3 {α : Type} {R : α → List Value → Prop} {ps : List α} {cs : List Value} {p : α} {va vb vc : Value} (hp : R p [va, vb, vc]) (h : Reps R 3 ps cs) : Reps R 3 (p :: ps) (va :: vb :: vc :: cs) := Reps.front hp rfl h rfl
theorem Reps.c4 {α : Type} {R : α → List Value → Prop} {ps : List α} {cs : List Value} {p : α} {va vb vc vd : Value} (hp : R p [va, vb, vc, vd]) (h : Reps R 4 ps cs) : Reps R 4 (p :: ps) (va :: vb :: vc :: vd :: cs) := Reps.front hp rfl h rfl
theorem Reps.c5 {α : Type} {R : α → List Value → Prop} {ps : List α} {cs : List Value} {p : α} {va vb vc vd ve : Value} (hp : R p [va, vb, vc, vd, ve]) (h : Reps R 5 ps cs) : Reps R 5 (p :: ps) (va :: vb :: vc :: vd :: ve :: cs) := Reps.front hp rfl h rfl
theorem Reps.c6 {α : Type} {R : α → List Value → Prop} {ps : List α} {cs : List Value} {p : α} {va vb vc vd ve vf : Value} (hp : R p [va, vb, vc, vd, ve, vf]) (h : Reps R 6 ps cs) : Reps R 6 (p :: ps) (va :: vb :: vc :: vd :: ve :: vf :: cs) := Reps.front hp rfl h rfl
theorem Reps.c7 {α : Type} {R : α → List Value → Prop} {ps : List α} {cs : List Value} {p : α} {va vb vc vd ve vf vg : Value} (hp : R p [va, vb, vc, vd, ve, vf, vg]) (h : Reps R 7 ps cs) : Reps R 7 (p :: ps) (va :: vb :: vc :: vd :: ve :: vf :: vg :: cs) := Reps.front hp rfl h rfl
theorem Reps.c8 {α : Type} {R : α → List Value → Prop} {ps : List α} {cs : List Value} {p : α} {va vb vc vd ve vf vg vh : Value} (hp : R p [va, vb, vc, vd, ve, vf, vg, vh]) (h : Reps R 8 ps cs) : Reps R 8 (p :: ps) (va :: vb :: vc :: vd :: ve :: vf :: vg :: vh :: cs) := Reps.front hp rfl h rfl
theorem Reps.c9 {α : Type} {R : α → List Value → Prop} {ps : List α} {cs : List Value} {p : α} {va vb vc vd ve vf vg vh vi : Value} (hp : R p [va, vb, vc, vd, ve, vf, vg, vh, vi]) (h : Reps R 9 ps cs) : Reps R 9 (p :: ps) (va :: vb :: vc :: vd :: ve :: vf :: vg :: vh :: vi :: cs) := Reps.front hp rfl h rfl
theorem Reps.c10 {α : Type} {R : α → List Value → Prop} {ps : List α} {cs : List Value} {p : α} {va vb vc vd ve vf vg vh vi vj : Value} (hp : R p [va, vb, vc, vd, ve, vf, vg, vh, vi, vj]) (h : Reps R 10 ps cs) : Reps R 10 (p :: ps) (va :: vb :: vc :: vd :: ve :: vf :: vg :: vh :: vi :: vj :: cs) := Reps.front hp rfl h rfl
end Go.Proofs.YtbcfphoheijmdaaW.PrintWords
end

section
-- PRINTED BY print.sh 35421559b90ae4d0a3588c463048766b98c2df88dd9212a6774a882060cdf62d: not written by this session
/-! ### 57. A region of open order by ONE relation over what is listed so far: each operation is shown once, whatever came up before it -/
namespace Go.Proofs.YtbcfphoheijmdaaW.PrintLast
/-- Number i is listed too. -/
def up (b : Nat → Bool) (i : Nat) : Nat → Bool := fun j => if j = i then true else b j
section
variable {P : Program} {ops : Array Oper} {Q : Exit → Act → World → Prop} {md : Region.Mode} {T : Bool × List (List Nat × List Nat)} {B : List Nat} {O : List Nat} {b : Nat → Bool} {i j n : Nat}
/-! The frame: what is listed has its destination filled. -/
end
end Go.Proofs.YtbcfphoheijmdaaW.PrintLast
end

section
-- PRINTED BY print.sh 35421559b90ae4d0a3588c463048766b98c2df88dd9212a6774a882060cdf62d: not written by this session
namespace Go.Proofs.YtbcfphoheijmdaaW.PrintWords
open Go.RowKit
end Go.Proofs.YtbcfphoheijmdaaW.PrintWords
namespace Go.Proofs.YtbcfphoheijmdaaW.PrintLast
section
variable {ops : Array Oper} {a : Act} {o og : Oper} {g : Nat} {t : Tmp} {u : Bool}
end
end Go.Proofs.YtbcfphoheijmdaaW.PrintLast
end

section
-- PRINTED BY print.sh 35421559b90ae4d0a3588c463048766b98c2df88dd9212a6774a882060cdf62d: not written by this session
/-! ### 58. A guarded operation whose guard is known to want it: the same goal without the guard -/
namespace Go.Proofs.YtbcfphoheijmdaaW.PrintWords
open Go.RowKit
section
variable {P : Program} {ops : Array Oper} {rest : List Oper} {o : Oper} {a : Act} {Q : Exit → Act → World → Prop} {W : World}
/-- The gate takes the guard off (hw: 'by rfl', 'by kernel_rfl': the guard's slot holds what is wanted). -/
theorem gate_guard (hw : Region.wanted o (yielded ops a.tmps) = true) (h : wpList P ops Q ({ o with guard := none } :: rest) a W) : wpList P ops Q (o :: rest) a W := by
  have h1 : Region.wanted { o with guard := none } (yielded ops a.tmps) = true := rfl
  unfold wpList at h ⊢
  rw [if_pos h1] at h
  rw [if_pos hw]
  exact h
end
end Go.Proofs.YtbcfphoheijmdaaW.PrintWords
end

section
/- The values' own types, and what is told of them. Printed by a program of this work out of the translation. -/
namespace Go.Proofs.Ytbcfphoheijmdaa.Print
open Go.RowKit Go.Proofs.YtbcfphoheijmdaaW.PrintWords Go.Proofs.YtbcfphoheijmdaaW.PrintLast Go.Proofs.YtbcfphoheijmdaaW.PrintMore
attribute [local go_sem] max2_int min2_int max_two min_two max_three min_three max_four min_four
set_option linter.unusedVariables false
set_option linter.unusedSimpArgs false

def errW : Option Int → Value
 | none => .nilIface
 | some c => .iface 0 (.int .i64 c)
theorem errW_none : errW none = .nilIface := rfl
theorem errW_some (c : Int) : errW (some c) = .iface 0 (.int .i64 c) := rfl

theorem info3 : (Try.prog.info? 3).map (fun i => (i.zero, i.size, i.bytes)) = some (some (.int .i64 0), 1, 8) := by kernel_rfl
theorem info32 : (Try.prog.info? 32).map (fun i => (i.zero, i.size, i.bytes)) = some (some (.agg #[(.int .i64 0), (.int .i64 0)]), 2, 16) := by kernel_rfl
theorem info35 : (Try.prog.info? 35).map (fun i => (i.zero, i.size, i.bytes)) = some (some (.agg #[(.int .i64 0), (.int .i64 0), (.int .i64 0), (.int .i64 0)]), 4, 32) := by kernel_rfl
theorem info45 : (Try.prog.info? 45).map (fun i => (i.zero, i.size, i.bytes)) = some (some (.slice none 0 0), 1, 24) := by kernel_rfl
theorem info57 : (Try.prog.info? 57).map (fun i => (i.zero, i.size, i.bytes)) = some (some (.agg #[(.slice none 0 0), (.slice none 0 0), (.int .i64 0), (.int .i64 0)]), 4, 64) := by kernel_rfl
/-! #### struct type 32 -/
structure S32 where
 f0 : Int
 f1 : Int
def z32 : S32 := ⟨(0 : Int), (0 : Int)⟩
def k32 : Kd S32 := Kd.iso (Kd.pair (Kd.int .i64) (Kd.int .i64)) (fun x : S32 => (x.f0, x.f1))
theorem k32_open {w : World} {x : S32} {cs : List Value} (h : k32.K w x cs) : cs = [.int .i64 x.f0, .int .i64 x.f1] := by
 obtain ⟨_, _, rfl, rfl, rfl⟩ := h
 exact rfl
theorem k32_mkM (w : World) (base : Nat) (ok : Nat → Prop) (x : S32)  : k32.M w base ok x [.int .i64 x.f0, .int .i64 x.f1] := ⟨[.int .i64 x.f0], [.int .i64 x.f1], rfl, rfl, rfl⟩
def rd_T32 (xs : List S32) (i : Int) : S32 := xs.getD i.toNat z32
theorem at_T32 {w : World} {A : Option Addr} {n : Nat} {xs : List S32} (h : Kd.C k32 w A n xs) (i : Int) (h0 : 0 ≤ i) (h1 : i < n) : ∃ ad , A = some ad ∧ w.cell? (ad.add (i.toNat * 2)) = some (.int .i64 (rd_T32 xs i).f0) ∧ w.cell? ⟨(ad.add (i.toNat * 2)).block, (ad.add (i.toNat * 2)).off + 1, none⟩ = some (.int .i64 (rd_T32 xs i).f1) := by
 obtain ⟨ad, c, e, _, hK, hc0⟩ := Kd.C_get h z32 i h0 h1
 have hc : ∀ j u, c[j]? = some u → w.cell? (ad.add (i.toNat * 2 + j)) = some u := hc0
 obtain rfl := k32_open hK
 exact ⟨ad, e, hc 0 _ rfl, by rw [← add_field _ _ 1 (by omega)]; exact hc 1 _ rfl⟩

/-! #### struct type 35 -/
structure S35 where
 f0 : Int
 f1 : Int
 f2 : S32
def z35 : S35 := ⟨(0 : Int), (0 : Int), z32⟩
def k35 : Kd S35 := Kd.iso (Kd.pair (Kd.int .i64) (Kd.pair (Kd.int .i64) k32)) (fun x : S35 => (x.f0, x.f1, x.f2))
theorem k35_open {w : World} {x : S35} {cs : List Value} (h : k35.K w x cs) : cs = [.int .i64 x.f0, .int .i64 x.f1, .int .i64 x.f2.f0, .int .i64 x.f2.f1] := by
 obtain ⟨_, _, rfl, rfl, ⟨_, _, rfl, rfl, s2⟩⟩ := h
 obtain rfl := k32_open s2
 exact rfl
theorem k35_mkM (w : World) (base : Nat) (ok : Nat → Prop) (x : S35)  : k35.M w base ok x [.int .i64 x.f0, .int .i64 x.f1, .int .i64 x.f2.f0, .int .i64 x.f2.f1] := ⟨[.int .i64 x.f0], [.int .i64 x.f1, .int .i64 x.f2.f0, .int .i64 x.f2.f1], rfl, rfl, ⟨[.int .i64 x.f1], [.int .i64 x.f2.f0, .int .i64 x.f2.f1], rfl, rfl, (k32_mkM w base ok x.f2 )⟩⟩
def rd_T35 (xs : List S35) (i : Int) : S35 := xs.getD i.toNat z35
theorem at_T35 {w : World} {A : Option Addr} {n : Nat} {xs : List S35} (h : Kd.C k35 w A n xs) (i : Int) (h0 : 0 ≤ i) (h1 : i < n) : ∃ ad , A = some ad ∧ w.cell? (ad.add (i.toNat * 4)) = some (.int .i64 (rd_T35 xs i).f0) ∧ w.cell? ⟨(ad.add (i.toNat * 4)).block, (ad.add (i.toNat * 4)).off + 1, none⟩ = some (.int .i64 (rd_T35 xs i).f1) ∧ w.cell? ⟨(ad.add (i.toNat * 4)).block, (ad.add (i.toNat * 4)).off + 2, none⟩ = some (.int .i64 (rd_T35 xs i).f2.f0) ∧ w.cell? ⟨(ad.add (i.toNat * 4)).block, (ad.add (i.toNat * 4)).off + 3, none⟩ = some (.int .i64 (rd_T35 xs i).f2.f1) := by
 obtain ⟨ad, c, e, _, hK, hc0⟩ := Kd.C_get h z35 i h0 h1
 have hc : ∀ j u, c[j]? = some u → w.cell? (ad.add (i.toNat * 4 + j)) = some u := hc0
 obtain rfl := k35_open hK
 exact ⟨ad, e, hc 0 _ rfl, by rw [← add_field _ _ 1 (by omega)]; exact hc 1 _ rfl, by rw [← add_field _ _ 2 (by omega)]; exact hc 2 _ rfl, by rw [← add_field _ _ 3 (by omega)]; exact hc 3 _ rfl⟩

/-! #### struct type 27 -/
structure S27 where
 f0 : Int
 f1 : (List S35)
def rd_L6 (xs : List (List S32)) (i : Int) : (List S32) := xs.getD i.toNat ([] : List S32)
theorem at_L6 {w : World} {A : Option Addr} {n : Nat} {xs : List (List S32)} (h : Kd.C (Kd.slice 32 k32) w A n xs) (i : Int) (h0 : 0 ≤ i) (h1 : i < n) : ∃ ad A0 c0, A = some ad ∧ w.cell? (ad.add i.toNat) = some (.slice A0 (rd_L6 xs i).length c0) ∧ (rd_L6 xs i).length ≤ c0 ∧ k32.C w A0 (rd_L6 xs i).length (rd_L6 xs i) := by
 obtain ⟨ad, c, e, _, hK, hc0⟩ := Kd.C_get h ([] : List S32) i h0 h1
 have hc : ∀ j u, c[j]? = some u → w.cell? (ad.add (i.toNat * 1 + j)) = some u := hc0
 obtain ⟨A0, c0, rfl, l0, g0⟩ := hK
 exact ⟨ad, A0, c0, e, by have hq := hc 0 _ rfl; rwa [Nat.mul_one, Nat.add_zero] at hq, l0, g0⟩

/-! #### struct type 57 -/
structure S57 where
 f0 : (List Int)
 f1 : (List Int)
 f2 : Int
 f3 : Int
def z57 : S57 := ⟨([] : List Int), ([] : List Int), (0 : Int), (0 : Int)⟩
def k57 : Kd S57 := Kd.iso (Kd.pair (Kd.slice 3 (Kd.int .i64)) (Kd.pair (Kd.slice 3 (Kd.int .i64)) (Kd.pair (Kd.int .i64) (Kd.int .i64)))) (fun x : S57 => (x.f0, x.f1, x.f2, x.f3))
theorem k57_open {w : World} {x : S57} {cs : List Value} (h : k57.K w x cs) : ∃ A0 c0 A1 c1, cs = [.slice A0 x.f0.length c0, .slice A1 x.f1.length c1, .int .i64 x.f2, .int .i64 x.f3] ∧ x.f0.length ≤ c0 ∧ (Kd.int .i64).C w A0 x.f0.length x.f0 ∧ x.f1.length ≤ c1 ∧ (Kd.int .i64).C w A1 x.f1.length x.f1 := by
 obtain ⟨_, _, rfl, ⟨A0, c0, rfl, l0, g0⟩, ⟨_, _, rfl, ⟨A1, c1, rfl, l1, g1⟩, ⟨_, _, rfl, rfl, rfl⟩⟩⟩ := h
 exact ⟨A0, c0, A1, c1, rfl, l0, g0, l1, g1⟩
theorem k57_mk (w : World) (x : S57) {A0 : Option Addr} {c0 : Nat} (l0 : x.f0.length ≤ c0) (g0 : (Kd.int .i64).C w A0 x.f0.length x.f0) {A1 : Option Addr} {c1 : Nat} (l1 : x.f1.length ≤ c1) (g1 : (Kd.int .i64).C w A1 x.f1.length x.f1) : k57.K w x [.slice A0 x.f0.length c0, .slice A1 x.f1.length c1, .int .i64 x.f2, .int .i64 x.f3] := ⟨[.slice A0 x.f0.length c0], [.slice A1 x.f1.length c1, .int .i64 x.f2, .int .i64 x.f3], rfl, ⟨A0, c0, rfl, l0, g0⟩, ⟨[.slice A1 x.f1.length c1], [.int .i64 x.f2, .int .i64 x.f3], rfl, ⟨A1, c1, rfl, l1, g1⟩, ⟨[.int .i64 x.f2], [.int .i64 x.f3], rfl, rfl, rfl⟩⟩⟩
theorem k57_mkM (w : World) (base : Nat) (ok : Nat → Prop) (x : S57) {v0 : Value} (g0 : (Kd.int .i64).R 3 w base ok v0 x.f0) {v1 : Value} (g1 : (Kd.int .i64).R 3 w base ok v1 x.f1) : k57.M w base ok x [v0, v1, .int .i64 x.f2, .int .i64 x.f3] := ⟨[v0], [v1, .int .i64 x.f2, .int .i64 x.f3], rfl, ⟨v0, rfl, g0⟩, ⟨[v1], [.int .i64 x.f2, .int .i64 x.f3], rfl, ⟨v1, rfl, g1⟩, ⟨[.int .i64 x.f2], [.int .i64 x.f3], rfl, rfl, rfl⟩⟩⟩
theorem k57_mkF (W : World) (ok : Nat → Prop) (x : S57) {A0 : Option Addr} {c0 : Nat} (l0 : x.f0.length ≤ c0) (g0 : Kd.F (Kd.int .i64) W ok A0 x.f0.length x.f0) {A1 : Option Addr} {c1 : Nat} (l1 : x.f1.length ≤ c1) (g1 : Kd.F (Kd.int .i64) W ok A1 x.f1.length x.f1) : Kd.FK k57 W ok x [.slice A0 x.f0.length c0, .slice A1 x.f1.length c1, .int .i64 x.f2, .int .i64 x.f3] := fun W2 hW => k57_mk W2 x l0 (g0 W2 hW) l1 (g1 W2 hW)
def rd_T57 (xs : List S57) (i : Int) : S57 := xs.getD i.toNat z57
theorem at_T57 {w : World} {A : Option Addr} {n : Nat} {xs : List S57} (h : Kd.C k57 w A n xs) (i : Int) (h0 : 0 ≤ i) (h1 : i < n) : ∃ ad A0 c0 A1 c1, A = some ad ∧ w.cell? (ad.add (i.toNat * 4)) = some (.slice A0 (rd_T57 xs i).f0.length c0) ∧ w.cell? ⟨(ad.add (i.toNat * 4)).block, (ad.add (i.toNat * 4)).off + 1, none⟩ = some (.slice A1 (rd_T57 xs i).f1.length c1) ∧ w.cell? ⟨(ad.add (i.toNat * 4)).block, (ad.add (i.toNat * 4)).off + 2, none⟩ = some (.int .i64 (rd_T57 xs i).f2) ∧ w.cell? ⟨(ad.add (i.toNat * 4)).block, (ad.add (i.toNat * 4)).off + 3, none⟩ = some (.int .i64 (rd_T57 xs i).f3) ∧ (rd_T57 xs i).f0.length ≤ c0 ∧ (Kd.int .i64).C w A0 (rd_T57 xs i).f0.length (rd_T57 xs i).f0 ∧ (rd_T57 xs i).f1.length ≤ c1 ∧ (Kd.int .i64).C w A1 (rd_T57 xs i).f1.length (rd_T57 xs i).f1 := by
 obtain ⟨ad, c, e, _, hK, hc0⟩ := Kd.C_get h z57 i h0 h1
 have hc : ∀ j u, c[j]? = some u → w.cell? (ad.add (i.toNat * 4 + j)) = some u := hc0
 obtain ⟨A0, c0, A1, c1, rfl, l0, g0, l1, g1⟩ := k57_open hK
 exact ⟨ad, A0, c0, A1, c1, e, hc 0 _ rfl, by rw [← add_field _ _ 1 (by omega)]; exact hc 1 _ rfl, by rw [← add_field _ _ 2 (by omega)]; exact hc 2 _ rfl, by rw [← add_field _ _ 3 (by omega)]; exact hc 3 _ rfl, l0, g0, l1, g1⟩

/-! #### struct type 49 -/
structure S49 where
 f0 : (List S57)
 f1 : Int
/-! #### struct type 72 -/
structure S72 where
 f0 : Int
 f1 : S32
 f2 : S32
 f3 : S32
 f4 : S32
 f5 : S32
/-! #### struct type 166 -/
structure S166 where
 f0 : Int
 f1 : Int
 f2 : Int
 f3 : Int
 f4 : Int
/-! #### struct type 93 -/
structure S93 where
 f0 : Int
 f1 : Int
 f2 : Bool
 f3 : (List Int)
/-! #### struct type 98 -/
structure S98 where
 f0 : S27
 f1 : (List S166)
 f2 : Int
 f3 : Int
 f4 : Int
 f5 : Bool
end Go.Proofs.Ytbcfphoheijmdaa.Print
end

section
/- What the Go function thermionkit_Dice_next does, as a Lean function, and that its call does so. Printed by a program of this work out of the translation. -/
namespace Go.Proofs.Ytbcfphoheijmdaa.Print
open Go.RowKit Go.Proofs.YtbcfphoheijmdaaW.PrintWords Go.Proofs.YtbcfphoheijmdaaW.PrintLast Go.Proofs.YtbcfphoheijmdaaW.PrintMore
attribute [local go_sem] max2_int min2_int max_two min_two max_three min_three max_four min_four
set_option linter.unusedVariables false
set_option linter.unusedSimpArgs false

/-- A state of type 118 at block g of W; what its slices lead to came in by w0. -/
def IsS118 (w0 W : World) (g : Nat) (f0 : Int) : Prop := W.heap[g]? = some (.cells #[.int .u64 f0] 118 (0, 0)) ∧ w0.heap.size ≤ g
theorem IsS118.grown {w0 W : World} {g : Nat} {f0 : Int} {W1 : World} {row : Option Nat} (h : IsS118 w0 W g f0) (hw : W.grownBy W1 row) (hne : some g ≠ row) : IsS118 w0 W1 g f0 := by
 obtain ⟨hb, hg⟩ := h
 exact ⟨blk_grown hb hw hne, hg⟩
theorem IsS118.kept {w0 W : World} {g : Nat} {f0 : Int} {W1 : World} {S : Nat → Prop} (h : IsS118 w0 W g f0) (hk : Kept W W1 S) (hne : ¬ S g) : IsS118 w0 W1 g f0 := by
 obtain ⟨hb, hg⟩ := h
 exact ⟨blk_kept hb hk hne, hg⟩
theorem IsS118.below {w0 W : World} {g : Nat} {f0 : Int} {W1 : World} (h : IsS118 w0 W g f0) (hw : Below W.heap.size W W1) : IsS118 w0 W1 g f0 := h.grown (grown_of_below hw none) (by simp)
theorem IsS118.alloc {w0 W : World} {g : Nat} {f0 : Int} (h : IsS118 w0 W g f0) (o : Obj) : IsS118 w0 (W.alloc o) g f0 := h.below (below_alloc (Below.refl _ _) o)
theorem IsS118.drewN {w0 W : World} {g : Nat} {f0 : Int} (h : IsS118 w0 W g f0) (m : Nat) : IsS118 w0 (W.drewN m) g f0 := h
theorem IsS118.drew {w0 W : World} {g : Nat} {f0 : Int} (h : IsS118 w0 W g f0) : IsS118 w0 W.drew g f0 := h
theorem IsS118.at_ {w0 W : World} {g : Nat} {f0 : Int} {w' : World} {m : Nat} (hq : W.drewN m = w') (h : IsS118 w0 W g f0) : IsS118 w0 w' g f0 := by subst hq; exact IsS118.drewN h m
theorem IsS118.apart {w0 W : World} {g : Nat} {f0 : Int} {α : Type} {d : Kd α} {e : Nat} {base : Nat} {ok : Nat → Prop} {v : Value} {xs : List α} (h : IsS118 w0 W g f0) (ho : d.R e W base ok v xs) (ht : ∀ q, q ∈ e :: d.E → q ≠ 118) : d.R e W base (fun k => ok k ∧ k ≠ g) v xs := by
 obtain ⟨hb, hg⟩ := h
 exact Kd.R_types ho hb ht
theorem IsS118.own_ne {w0 W : World} {g : Nat} {f0 : Int} {α : Type} {d : Kd α} {e : Nat} {base : Nat} {ok : Nat → Prop} {v : Value} {xs : List α} (h : IsS118 w0 W g f0) (ho : d.R e W base ok v xs) (ht : e ≠ 118) : some g ≠ v.ownBlock := by
 obtain ⟨hb, hg⟩ := h
 exact Kd.R_ne ho hb ht
theorem IsS118.apartS {w0 W : World} {g : Nat} {f0 : Int} {α : Type} {d : Kd α} {e : Nat} {base : Nat} {ok : Nat → Prop} {v : Value} {xs : List α} (h : IsS118 w0 W g f0) (ho : d.S e W base ok v xs) (ht : ∀ q, q ∈ e :: d.E → q ≠ 118) : d.S e W base (fun k => ok k ∧ k ≠ g) v xs := by
 obtain ⟨hb, hg⟩ := h
 exact Kd.S_types ho hb ht
theorem IsS118.own_neS {w0 W : World} {g : Nat} {f0 : Int} {α : Type} {d : Kd α} {e : Nat} {base : Nat} {ok : Nat → Prop} {v : Value} {xs : List α} (h : IsS118 w0 W g f0) (ho : d.S e W base ok v xs) (ht : e ≠ 118) : some g ≠ v.ownBlock := by
 obtain ⟨hb, hg⟩ := h
 exact Kd.S_ne ho hb ht
theorem IsS118.lt {w0 W : World} {g : Nat} {f0 : Int} (h : IsS118 w0 W g f0) : g < W.heap.size := by
 obtain ⟨hb, hg⟩ := h
 exact blk_lt hb
theorem IsS118.ge {w0 W : World} {g : Nat} {f0 : Int} (h : IsS118 w0 W g f0) : w0.heap.size ≤ g := by
 obtain ⟨hb, hg⟩ := h
 exact hg
theorem IsS118.far {w0 W : World} {g : Nat} {f0 : Int} {p : Addr} (h : IsS118 w0 W g f0) (hne : g ≠ p.block) (u : Value) : IsS118 w0 (W.setCell p u) g f0 := by
 obtain ⟨hb, hg⟩ := h
 exact ⟨blk_far hb hne u, hg⟩
theorem cellS118_0 {W : World} {g : Nat} {f0 : Int} (h : W.heap[g]? = some (.cells #[.int .u64 f0] 118 (0, 0))) : W.cell? ⟨g, 0, none⟩ = some (.int .u64 f0) := (blk_cell h 0).trans rfl
theorem IsS118.set_0 {w0 W : World} {g : Nat} {f0 : Int} (h : IsS118 w0 W g f0) (x : Int) : IsS118 w0 (W.setCell ⟨g, 0, none⟩ (.int .u64 x)) g x := by
 obtain ⟨hb, hg⟩ := h
 exact ⟨by simpa using blk_set hb 0 (.int .u64 x), hg⟩
theorem IsS118.new (w0 W : World) (f0 : Int) (hB : Below w0.heap.size w0 W) : IsS118 w0 (W.alloc (.cells #[.int .u64 f0] 118)) W.heap.size f0 := ⟨by simpa using heap_alloc_new W _, hB.size⟩

/-! ### thermionkit_Dice_next: function 85 -/
def thermionkit_Dice_next.f (s0_0 : Int) : Option (Int × Int) := some (Go.bits .xor .u64 (IntKind.u64.wrap ((Go.bits .xor .u64 (IntKind.u64.wrap ((Go.bits .xor .u64 (IntKind.u64.wrap (s0_0 + 11400714819323198485)) ((IntKind.u64.wrap (s0_0 + 11400714819323198485)) / 1073741824)) * 13787848793156543929)) ((IntKind.u64.wrap ((Go.bits .xor .u64 (IntKind.u64.wrap (s0_0 + 11400714819323198485)) ((IntKind.u64.wrap (s0_0 + 11400714819323198485)) / 1073741824)) * 13787848793156543929)) / 134217728)) * 10723151780598845931)) ((IntKind.u64.wrap ((Go.bits .xor .u64 (IntKind.u64.wrap ((Go.bits .xor .u64 (IntKind.u64.wrap (s0_0 + 11400714819323198485)) ((IntKind.u64.wrap (s0_0 + 11400714819323198485)) / 1073741824)) * 13787848793156543929)) ((IntKind.u64.wrap ((Go.bits .xor .u64 (IntKind.u64.wrap (s0_0 + 11400714819323198485)) ((IntKind.u64.wrap (s0_0 + 11400714819323198485)) / 1073741824)) * 13787848793156543929)) / 134217728)) * 10723151780598845931)) / 2147483648), IntKind.u64.wrap (s0_0 + 11400714819323198485))
set_option maxHeartbeats 8000000 in
set_option maxRecDepth 100000 in
theorem thermionkit_Dice_next.calls (g : Nat) (s0_0 : Int) (r1 : Int) (r2 : Int) (w0 w : World) (hI : IsS118 w0 w g s0_0) (hB : Below w0.heap.size w0 w) (h : thermionkit_Dice_next.f s0_0 = some (r1, r2)) :
  Calls Try.prog 85 #[.pointer (some ⟨g, 0, none⟩)] w fun e w' => e = .returned (.int .u64 r1) ∧ IsS118 w0 w' g r2 ∧ Below w0.heap.size w0 w' ∧ KeepBut w w' g none := by
 have HI0 := Aside0.mk hI
 have HK := Aside0.mk (KeepBut.refl w g none)
 have HL := Aside0.mk hB.size
 clear hI
 have HW0 := Aside0.mk hB.size
 have HB := Aside0.mk hB
 clear hB
 have H : (some (Go.bits .xor .u64 (IntKind.u64.wrap ((Go.bits .xor .u64 (IntKind.u64.wrap ((Go.bits .xor .u64 (IntKind.u64.wrap (s0_0 + 11400714819323198485)) ((IntKind.u64.wrap (s0_0 + 11400714819323198485)) / 1073741824)) * 13787848793156543929)) ((IntKind.u64.wrap ((Go.bits .xor .u64 (IntKind.u64.wrap (s0_0 + 11400714819323198485)) ((IntKind.u64.wrap (s0_0 + 11400714819323198485)) / 1073741824)) * 13787848793156543929)) / 134217728)) * 10723151780598845931)) ((IntKind.u64.wrap ((Go.bits .xor .u64 (IntKind.u64.wrap ((Go.bits .xor .u64 (IntKind.u64.wrap (s0_0 + 11400714819323198485)) ((IntKind.u64.wrap (s0_0 + 11400714819323198485)) / 1073741824)) * 13787848793156543929)) ((IntKind.u64.wrap ((Go.bits .xor .u64 (IntKind.u64.wrap (s0_0 + 11400714819323198485)) ((IntKind.u64.wrap (s0_0 + 11400714819323198485)) / 1073741824)) * 13787848793156543929)) / 134217728)) * 10723151780598845931)) / 2147483648), IntKind.u64.wrap (s0_0 + 11400714819323198485))) = some (r1, r2) := h
 clear h
 simp only [Option.some.injEq, Prod.mk.injEq] at H
 obtain ⟨rfl, rfl⟩ := H
 obtain ⟨HGz2, hgz2⟩ := HI0.out
 have hcz2_0 := cellS118_0 HGz2
 have hfz2_0 := blk_frozen HGz2 0
 clear HGz2 hgz2
 go_enter Try.func85, Try.ntmps85
 go_wp2
 go_ret
 exact ⟨by first | rfl | (simp [errW_none, errW_some] <;> rfl) | (simp [*, errW_none, errW_some] <;> rfl), by repeat (first | (with_reducible first | exact HI0.out | apply IsS118.alloc | apply IsS118.drewN | apply IsS118.drew | apply IsS118.set_0) | exact HI0.out), by repeat (first | (with_reducible first | exact HB.out | apply below_alloc | apply pw_below_drewN | apply below_drew1 | refine below_set ?_ (IsS118.ge HI0.out)) | exact HB.out), by repeat (first | (with_reducible first | exact HK.out | apply KeepBut.set_ | apply keep_drewN | apply keep_drew | apply keep_alloc) | exact HK.out)⟩

end Go.Proofs.Ytbcfphoheijmdaa.Print
end

section
/- NewDice: what the Go function makes of a list of numbers, as a Lean function, and that its call does so. -/
namespace Go.Proofs.Ytbcfphoheijmdaa.Print
open Go.RowKit Go.Proofs.YtbcfphoheijmdaaW.PrintWords Go.Proofs.YtbcfphoheijmdaaW.PrintLast Go.Proofs.YtbcfphoheijmdaaW.PrintMore Go.Proofs.Ytbcfphoheijmdaa.H
set_option linter.unusedVariables false
set_option linter.unusedSimpArgs false

theorem at_nat {w : World} {k : IntKind} {A : Option Addr} {n : Nat} {xs : List Int} (h : (Kd.int k).C w A n xs) (i : Nat) (h1 : i < n) : ∃ ad, A = some ad ∧ w.cell? (ad.add i) = some (.int k (xs.getD i 0)) := by
  obtain ⟨ad, e, hc⟩ := Kd.at_int h (i : Int) (by omega) (by omega)
  refine ⟨ad, e, ?_⟩
  simpa [rd] using hc
/-- The dice's word behind a step. -/
def nextWord (s : Int) : Int := ((thermionkit_Dice_next.f s).getD (0, 0)).2
theorem next_eq (s : Int) : ∃ r, thermionkit_Dice_next.f s = some (r, nextWord s) := ⟨_, rfl⟩
/-- The dice's word behind a list of numbers. -/
def wordTo (s : Int) : List Int → Int
  | [] => s
  | x :: xs => wordTo (nextWord (Go.bits .xor .u64 s (IntKind.u64.wrap x))) xs
theorem wordTo_snoc (s : Int) (xs : List Int) (x : Int) : wordTo s (xs ++ [x]) = nextWord (Go.bits .xor .u64 (wordTo s xs) (IntKind.u64.wrap x)) := by
  induction xs generalizing s with
  | nil => rfl
  | cons y ys ih => exact ih _
theorem take_snoc (l : List Int) (k : Nat) (h : k < l.length) : l.take (k + 1) = l.take k ++ [l.getD k 0] := by
  rw [List.take_add_one, List.getD_eq_getElem?_getD]
  simp [h]
def thermionkit_NewDice.f (l0 : List Int) : Option (Int) := some (wordTo ((l0.length : Int) + 1374496523) l0)
theorem Mem.one {w W : World} {g : Nat} {cs : Array Value} {t : TypeId} (hb : W.heap[g]? = some (.cells cs t (0, 0))) (hg : w.heap.size ≤ g) (h : Below w.heap.size w W) : Mem w W [(g, cs, t)] :=
  ⟨h, fun p hp => by rcases List.mem_singleton.1 hp with rfl; exact hb, fun p hp => by rcases List.mem_singleton.1 hp with rfl; exact hg, by simp⟩
set_option maxHeartbeats 800000 in
set_option maxRecDepth 100000 in
theorem thermionkit_NewDice.calls (A0 : Option Addr) (c0 : Nat) (l0 : List Int) (r : Int) (w0 w : World) (hB : Below w0.heap.size w0 w) (hr0 : Kd.C (Kd.int .i64) w0 A0 l0.length l0) (hc0 : l0.length ≤ c0) (h : thermionkit_NewDice.f l0 = some r) :
    Calls Try.prog 19 #[.slice A0 l0.length c0] w fun e w' => ∃ g_ : Nat, e = .returned (.pointer (some ⟨g_, 0, none⟩)) ∧ IsS118 w0 w' g_ r ∧ Below w0.heap.size w0 w' ∧ Below w.heap.size w w' := by
  have HR := Aside0.mk (Kd.C_below hr0 hB)
  have HB0 := Aside0.mk hB
  have HF := Aside0.mk (Option.some.inj h)
  have HM := Aside0.mk (Mem.start w)
  have hlen : l0.length ≤ 9223372036854775807 := by have := (Kd.reads_of_C (enc := Value.int .i64) (d := (0 : Int)) (h1 := fun _ => rfl) hr0).2.1; omega
  clear hr0 h hB
  have hu118 := Try.underlying118
  go_enter Try.func19, Try.ntmps19
  go_wp2_with (first
    | ((with_reducible refine gate_dst (N := 10) rfl ?_); refine ev_box HM.out rfl 118 (.tmp 9) rfl (cs := #[.int .u64 ((l0.length : Int) + 1374496523)]) rfl ?_; intro g1 w1 hm1 hq1; clear hq1; have HM1 := Aside0.mk hm1; clear hm1 HM))
  go_loopg [4] l0.length (fun k v4 w' => ∃ (i : Nat) (S : Int), v4 = .int .i64 i ∧ Aside0 (i + k = l0.length) ∧ Aside0 (S = wordTo ((l0.length : Int) + 1374496523) (l0.take i)) ∧ Aside0 (Mem w w' [(g1, #[.int .u64 S], 118)]))
  case atStart => exact ⟨0, _, rfl, ⟨by omega⟩, ⟨rfl⟩, HM1⟩
  case round =>
    clear HM1
    obtain ⟨i, S, rfl, HK, HS, HM⟩ := hrel
    by_cases hi : i < l0.length
    · obtain ⟨ad, e0, hx⟩ := at_nat (Kd.C_below HR.out HM.out.below) i hi
      cases e0
      generalize hX : l0.getD i 0 = X at hx
      have HX := Aside0.mk hX
      clear hX
      have c1 : wr.cell? ⟨g1, 0, none⟩ = some (.int .u64 S) := by rw [HM.out.cell]; rfl
      have f1 : wr.frozen? ⟨g1, 0, none⟩ = false := HM.out.frozen _
      have i1 : (0 : Int) ≤ (i : Int) := by omega
      have i2 : (i : Int) < (l0.length : Int) := by omega
      go_wp2_with fail
      go_still_tail 13, (by kernel_rfl)
      go_wp2_with fail
      have HM2 := (HM.out.put 0 (.int .u64 (Go.bits .xor .u64 S (IntKind.u64.wrap X))) rfl).drew
      obtain ⟨q, hq⟩ := next_eq (Go.bits .xor .u64 S (IntKind.u64.wrap X))
      refine (thermionkit_Dice_next.calls g1 _ q _ w _ ⟨HM2.head, HM2.geh⟩ HM2.below hq).mono ?_
      rintro e w2 ⟨rfl, ⟨hb2, _⟩, hbl2, _⟩
      have HM3 := Aside0.mk (Mem.one hb2 HM2.geh hbl2)
      clear hb2 hbl2 HM2 hq
      have HS2 : Aside0 (nextWord (Go.bits .xor .u64 S (IntKind.u64.wrap X)) = wordTo ((l0.length : Int) + 1374496523) (l0.take (i + 1))) := ⟨by rw [take_snoc _ _ hi, wordTo_snoc, ← HS.out, HX.out]⟩
      go_wp2_with fail
      go_roundg (l0.length - (i + 1))
      case measure => have := HK.out; omega
      case rel => exact ⟨i + 1, _, by go_num, ⟨by have := HK.out; omega⟩, HS2, HM3⟩
    · go_wp2
      go_ret
      refine ⟨g1, rfl, ⟨?_, Nat.le_trans HB0.out.size HM.out.geh⟩, below_step HB0.out HM.out.below, HM.out.below⟩
      rw [HM.out.head, ← HF.out, HS.out, List.take_of_length_le (by omega)]
end Go.Proofs.Ytbcfphoheijmdaa.Print
end

section
/- What the Go function mount_in does, as a Lean function, and that its call does so. Printed by a program of this work out of the translation. -/
namespace Go.Proofs.Ytbcfphoheijmdaa.Print
open Go.RowKit Go.Proofs.YtbcfphoheijmdaaW.PrintWords Go.Proofs.YtbcfphoheijmdaaW.PrintLast Go.Proofs.YtbcfphoheijmdaaW.PrintMore
attribute [local go_sem] max2_int min2_int max_two min_two max_three min_three max_four min_four
set_option linter.unusedVariables false
set_option linter.unusedSimpArgs false

/-! ### mount_in: function 102 -/
def mount_in.f (a0 : Int) (a1 : Int) (a2 : Int) : Option (Bool) := if a1 ≤ a0 then (some (decide (a0 ≤ a2))) else (some false)
set_option maxHeartbeats 8000000 in
set_option maxRecDepth 100000 in
theorem mount_in.calls (a0 : Int) (a1 : Int) (a2 : Int) (r : Bool) (w : World) (h : mount_in.f a0 a1 a2 = some r) :
  Calls Try.prog 102 #[.int .i64 a0, .int .i64 a1, .int .i64 a2] w fun e w' => e = .returned (.bool r) ∧ Drawn0 w w' := by
 have H : (if a1 ≤ a0 then (some (decide (a0 ≤ a2))) else (some false)) = some r := h
 clear h
 by_cases c4 : a1 ≤ a0
 ·rw [if_pos c4] at H
  have c4b0 : decide (a1 ≤ a0) = true := decide_eq_true c4
  clear c4
  obtain rfl := Option.some.inj H
  go_enter Try.func102, Try.ntmps102
  go_wp2
  go_ret
  exact ⟨by first | rfl | (simp; done) | (simp [*]; done), by repeat (first | exact Drawn0.refl _ | apply Drawn0.step)⟩
 ·rw [if_neg c4] at H
  have c4b0 : decide (a1 ≤ a0) = false := decide_eq_false c4
  clear c4
  obtain rfl := Option.some.inj H
  go_enter Try.func102, Try.ntmps102
  go_wp2
  go_ret
  exact ⟨by first | rfl | (simp; done) | (simp [*]; done), by repeat (first | exact Drawn0.refl _ | apply Drawn0.step)⟩

end Go.Proofs.Ytbcfphoheijmdaa.Print
end

section
/- What the Go function mount_checkLink does, as a Lean function, and that its call does so. Printed by a program of this work out of the translation. -/
namespace Go.Proofs.Ytbcfphoheijmdaa.Print
open Go.RowKit Go.Proofs.YtbcfphoheijmdaaW.PrintWords Go.Proofs.YtbcfphoheijmdaaW.PrintLast Go.Proofs.YtbcfphoheijmdaaW.PrintMore
attribute [local go_sem] max2_int min2_int max_two min_two max_three min_three max_four min_four
set_option linter.unusedVariables false
set_option linter.unusedSimpArgs false

/-! ### mount_checkLink: function 91 -/
def mount_checkLink.j0 : Nat → Bool → Int → Int → Int → Int → Option (Int)
 | 0, _, _, _, _, _ => none
 | k + 1, x5, x108000, x108001, x108002, x108003 => if x5 = true then (some 7) else (if x108000 = x108001 then (some 9) else (if x108002 > x108003 then (some 11) else (if x108002 < (-1000000) then (some 2) else (if x108003 > 1000000 then (some 2) else (some 0)))))
def mount_checkLink.f (k : Nat) (a0 : Int) (a1_0 : Int) (a1_1 : Int) (a1_2 : Int) (a1_3 : Int) : Option (Int) := (mount_in.f a1_0 0 (wrap64 (a0 - 1))).bind fun t108 => (if t108 = true then ((mount_in.f a1_1 0 (wrap64 (a0 - 1))).bind fun t109 => (mount_checkLink.j0 k (!t109) a1_0 a1_1 a1_2 a1_3)) else (mount_checkLink.j0 k true a1_0 a1_1 a1_2 a1_3))
theorem mount_checkLink.mono_l : ∀ k, (∀ y0 y1 y2 y3 y4, LeO (mount_checkLink.j0 k y0 y1 y2 y3 y4) (mount_checkLink.j0 (k + 1) y0 y1 y2 y3 y4))
 | 0 => fun _ _ _ _ _ r h => by simp [mount_checkLink.j0] at h
 | k + 1 => by
  have ih0 := mount_checkLink.mono_l k
  ·intro y0 y1 y2 y3 y4
   unfold mount_checkLink.j0
   repeat' first
   | (with_reducible exact ih0 _ _ _ _ _)
   | (with_reducible exact LeO.refl _)
   | (with_reducible exact LeO.none _)
   | (with_reducible refine LeO.ite ?_ ?_)
   | (with_reducible refine LeO.bind ?_ (fun _ => ?_))
   | exact ih0 _ _ _ _ _
   | exact LeO.none _
   | refine LeO.ite ?_ ?_
   | refine LeO.bind ?_ (fun _ => ?_)
theorem mount_checkLink.mono : ∀ a0 a1 a2 a3 a4 k, LeO (mount_checkLink.f k a0 a1 a2 a3 a4) (mount_checkLink.f (k + 1) a0 a1 a2 a3 a4) := by
 intro a0 a1 a2 a3 a4 k
 have ih0 := mount_checkLink.mono_l k
 unfold mount_checkLink.f
 repeat' first
   | (with_reducible exact ih0 _ _ _ _ _)
   | (with_reducible exact LeO.refl _)
   | (with_reducible exact LeO.none _)
   | (with_reducible refine LeO.ite ?_ ?_)
   | (with_reducible refine LeO.bind ?_ (fun _ => ?_))
   | exact ih0 _ _ _ _ _
   | exact LeO.none _
   | refine LeO.ite ?_ ?_
   | refine LeO.bind ?_ (fun _ => ?_)
set_option maxHeartbeats 8000000 in
set_option maxRecDepth 100000 in
theorem mount_checkLink.calls (k : Nat) (a0 : Int) (a1_0 : Int) (a1_1 : Int) (a1_2 : Int) (a1_3 : Int) (r : Int) (w : World) (h : mount_checkLink.f k a0 a1_0 a1_1 a1_2 a1_3 = some r) :
  Calls Try.prog 91 #[.int .i64 a0, .agg #[.int .i64 a1_0, .int .i64 a1_1, .int .i64 a1_2, .int .i64 a1_3]] w fun e w' => e = .returned (.int .i64 r) ∧ Below w.heap.size w w' := by
 have hu35 := Try.underlying35
 have HB := Aside0.mk (Below.refl w.heap.size w)
 have H : ((mount_in.f a1_0 0 (wrap64 (a0 - 1))).bind fun t108 => (if t108 = true then ((mount_in.f a1_1 0 (wrap64 (a0 - 1))).bind fun t109 => (mount_checkLink.j0 k (!t109) a1_0 a1_1 a1_2 a1_3)) else (mount_checkLink.j0 k true a1_0 a1_1 a1_2 a1_3))) = some r := h
 clear h
 have HC3 := Aside0.mk H
 clear H
 go_enter Try.func91, Try.ntmps91
 go_upto_region 1 with (first | ((with_reducible refine gate_dst (N := 3) rfl ?_); refine box_event ?hg (N := 3) ?hd (cs := #[.int .i64 a1_0, .int .i64 a1_1, .int .i64 a1_2, .int .i64 a1_3]) (t := 35) ?hr ?_; (case hd => rfl); (case hg => rfl); (case hr => first | (go_simp; done) | (go_simp; rfl)); intro gb107 hg w4 hbox hb; have n0_ := Aside0.mk (below_step (by repeat (first | (with_reducible first | exact HB.out | apply below_alloc | apply pw_below_drewN | apply below_drew1) | exact HB.out)) hb); have n1_ := Aside0.mk (hbox); have n2_ := Aside0.mk ((by rw [hg]; exact (below_size (by repeat (first | (with_reducible first | exact HB.out | apply below_alloc | apply pw_below_drewN | apply below_drew1) | exact HB.out))) : w.heap.size ≤ gb107)); have n3_ := Aside0.mk ((by rw [hg]; exact (below_size (by repeat (first | (with_reducible first | exact HB.out | apply below_alloc | apply pw_below_drewN | apply below_drew1) | exact HB.out))) : w.heap.size ≤ gb107)); clear HB; have HB := n0_; have BK107 := n1_; have GW107 := n2_; have GE107 := n3_; clear n0_ n1_ n2_ n3_; clear hb hbox hg))
 (try simp only [Act.put, List.setIfInBounds_toArray, List.set_cons_zero, List.set_cons_succ])
 go_cut [5] (fun v5 wc => ∃ (kq : Nat) (x5_2 : Bool), v5 = .bool x5_2 ∧ Aside0 (mount_checkLink.j0 kq x5_2 a1_0 a1_1 a1_2 a1_3 = some r) ∧ Aside0 (kq ≤ k) ∧ Aside0 (wc.heap[gb107]? = some (.cells #[.int .i64 a1_0, .int .i64 a1_1, .int .i64 a1_2, .int .i64 a1_3] 35 (0, 0))) ∧ Aside0 (Below w.heap.size w wc))
 case first =>
  have H := HC3.out
  clear HC3
  replace H := Option.bind_eq_some_iff.mp H
  obtain ⟨t108, A50, H⟩ := H
  replace H : (if t108 = true then ((mount_in.f a1_1 0 (wrap64 (a0 - 1))).bind fun t109 => (mount_checkLink.j0 k (!t109) a1_0 a1_1 a1_2 a1_3)) else (mount_checkLink.j0 k true a1_0 a1_1 a1_2 a1_3)) = some r := H
  have A5 := Aside0.mk A50
  clear A50
  by_cases c6 : t108 = true
  ·subst c6
   have H1 : ((mount_in.f a1_1 0 (wrap64 (a0 - 1))).bind fun t109 => (mount_checkLink.j0 k (!t109) a1_0 a1_1 a1_2 a1_3)) = some r := by rw [if_pos rfl] at H; exact H
   clear H
   have H := H1
   clear H1
   replace H := Option.bind_eq_some_iff.mp H
   obtain ⟨t109, A70, H⟩ := H
   replace H : (mount_checkLink.j0 k (!t109) a1_0 a1_1 a1_2 a1_3) = some r := H
   have A7 := Aside0.mk A70
   clear A70
   have H' := Aside0.mk H
   clear H
   have hcz8_0 : w4.cell? ⟨gb107, 0, none⟩ = some (.int .i64 a1_0) := (blk_cell BK107.out 0).trans rfl
   have hcz8_1 : w4.cell? ⟨gb107, 1, none⟩ = some (.int .i64 a1_1) := (blk_cell BK107.out 1).trans rfl
   have hcz8_2 : w4.cell? ⟨gb107, 2, none⟩ = some (.int .i64 a1_2) := (blk_cell BK107.out 2).trans rfl
   have hcz8_3 : w4.cell? ⟨gb107, 3, none⟩ = some (.int .i64 a1_3) := (blk_cell BK107.out 3).trans rfl
   have hfz8_0 := blk_frozen BK107.out 0
   have hfz8_1 := blk_frozen BK107.out 1
   have hfz8_2 := blk_frozen BK107.out 2
   have hfz8_3 := blk_frozen BK107.out 3
   go_wp2_with (first | ((with_reducible refine gate_callee (f := 102) rfl ?_); refine goesL_ (some 10) rfl rfl Try.func102 (by kernel_rfl) rfl #[.int .i64 a1_0, .int .i64 0, .int .i64 (wrap64 (a0 - 1))] rfl (by (try simp only [List.map_toArray, List.map_cons, List.map_nil]); first | done | rfl | (simp only [List.length_drop, List.length_take]; rfl)) ?_; (with_reducible refine (mount_in.calls a1_0 0 (wrap64 (a0 - 1)) true _ A5.out).mono ?_); rintro e w' ⟨rfl, ⟨nd, rfl⟩⟩; refine ⟨_, rfl, ?_⟩) | (go_at_call 102; (with_reducible refine (mount_in.calls a1_1 0 (wrap64 (a0 - 1)) t109 _ A7.out).mono ?_); rintro e w' ⟨rfl, ⟨nd, rfl⟩⟩))
   go_meet
   case rel => exact ⟨_, (!t109), (by first | rfl | (simp; done) | (simp [*]; done)), H', ⟨by first | omega | exact Nat.le_refl _⟩, ⟨by (with_reducible repeat (first | refine blk_drewN ?_ _ | refine blk_drew ?_ | refine blk_alloc ?_ _)); exact BK107.out⟩, ⟨by repeat (first | (with_reducible first | exact HB.out | apply below_alloc | apply pw_below_drewN | apply below_drew1 | refine below_set ?_ GE107.out) | exact HB.out)⟩⟩
  ·replace c6 := Bool.eq_false_iff.mpr c6
   subst c6
   have H1 : (mount_checkLink.j0 k true a1_0 a1_1 a1_2 a1_3) = some r := by rw [if_neg (show ¬ (false = true) by decide)] at H; exact H
   clear H
   have H := H1
   clear H1
   have H' := Aside0.mk H
   clear H
   have hcz9_0 : w4.cell? ⟨gb107, 0, none⟩ = some (.int .i64 a1_0) := (blk_cell BK107.out 0).trans rfl
   have hcz9_1 : w4.cell? ⟨gb107, 1, none⟩ = some (.int .i64 a1_1) := (blk_cell BK107.out 1).trans rfl
   have hcz9_2 : w4.cell? ⟨gb107, 2, none⟩ = some (.int .i64 a1_2) := (blk_cell BK107.out 2).trans rfl
   have hcz9_3 : w4.cell? ⟨gb107, 3, none⟩ = some (.int .i64 a1_3) := (blk_cell BK107.out 3).trans rfl
   have hfz9_0 := blk_frozen BK107.out 0
   have hfz9_1 := blk_frozen BK107.out 1
   have hfz9_2 := blk_frozen BK107.out 2
   have hfz9_3 := blk_frozen BK107.out 3
   go_wp2_with (first | ((with_reducible refine gate_callee (f := 102) rfl ?_); refine goesL_ (some 10) rfl rfl Try.func102 (by kernel_rfl) rfl #[.int .i64 a1_0, .int .i64 0, .int .i64 (wrap64 (a0 - 1))] rfl (by (try simp only [List.map_toArray, List.map_cons, List.map_nil]); first | done | rfl | (simp only [List.length_drop, List.length_take]; rfl)) ?_; (with_reducible refine (mount_in.calls a1_0 0 (wrap64 (a0 - 1)) false _ A5.out).mono ?_); rintro e w' ⟨rfl, ⟨nd, rfl⟩⟩; refine ⟨_, rfl, ?_⟩))
   go_meet
   case rel => exact ⟨_, (true), (by first | rfl | (simp; done) | (simp [*]; done)), H', ⟨by first | omega | exact Nat.le_refl _⟩, ⟨by (with_reducible repeat (first | refine blk_drewN ?_ _ | refine blk_drew ?_ | refine blk_alloc ?_ _)); exact BK107.out⟩, ⟨by repeat (first | (with_reducible first | exact HB.out | apply below_alloc | apply pw_below_drewN | apply below_drew1 | refine below_set ?_ GE107.out) | exact HB.out)⟩⟩
 case rest =>
  clear HC3
  try clear c1
  try clear p2
  try clear c6
  try clear p6
  try clear c9
  try clear hcz8_0
  try clear hcz8_1
  try clear hcz8_2
  try clear hcz8_3
  try clear hcz9_0
  try clear hcz9_1
  try clear hcz9_2
  try clear hcz9_3
  try clear hfz8_0
  try clear hfz8_1
  try clear hfz8_2
  try clear hfz8_3
  try clear hfz9_0
  try clear hfz9_1
  try clear hfz9_2
  try clear hfz9_3
  obtain ⟨kq, x5_2, rfl, HA, HJ2, BK107, HB⟩ := hcut
  cases kq with
  | zero => exact absurd HA.out (by simp [mount_checkLink.j0])
  | succ kj2 =>
   have H := HA.out
   clear HA
   simp only [mount_checkLink.j0] at H
   by_cases c10 : x5_2 = true
   ·subst c10
    have H1 : (some 7) = some r := by rw [if_pos rfl] at H; exact H
    clear H
    have H := H1
    clear H1
    obtain rfl := Option.some.inj H
    go_wp2
    go_ret
    exact ⟨by first | rfl | (simp [errW_none, errW_some] <;> rfl) | (simp [*, errW_none, errW_some] <;> rfl), by repeat (first | (with_reducible first | exact HB.out | apply below_alloc | apply pw_below_drewN | apply below_drew1 | refine below_set ?_ GE107.out) | exact HB.out)⟩
   ·replace c10 := Bool.eq_false_iff.mpr c10
    subst c10
    have H1 : (if a1_0 = a1_1 then (some 9) else (if a1_2 > a1_3 then (some 11) else (if a1_2 < (-1000000) then (some 2) else (if a1_3 > 1000000 then (some 2) else (some 0))))) = some r := by rw [if_neg (show ¬ (false = true) by decide)] at H; exact H
    clear H
    have H := H1
    clear H1
    by_cases c11 : a1_0 = a1_1
    ·rw [if_pos c11] at H
     have c11b0 : (a1_0 == a1_1) = true := beq_iff_eq.mpr c11
     have c11b1 : (a1_0 != a1_1) = false := bne_eq_false_iff_eq.mpr c11
     clear c11
     obtain rfl := Option.some.inj H
     have hcz12_0 : wc.cell? ⟨gb107, 0, none⟩ = some (.int .i64 a1_0) := (blk_cell BK107.out 0).trans rfl
     have hcz12_1 : wc.cell? ⟨gb107, 1, none⟩ = some (.int .i64 a1_1) := (blk_cell BK107.out 1).trans rfl
     have hcz12_2 : wc.cell? ⟨gb107, 2, none⟩ = some (.int .i64 a1_2) := (blk_cell BK107.out 2).trans rfl
     have hcz12_3 : wc.cell? ⟨gb107, 3, none⟩ = some (.int .i64 a1_3) := (blk_cell BK107.out 3).trans rfl
     have hfz12_0 := blk_frozen BK107.out 0
     have hfz12_1 := blk_frozen BK107.out 1
     have hfz12_2 := blk_frozen BK107.out 2
     have hfz12_3 := blk_frozen BK107.out 3
     go_wp2
     go_ret
     exact ⟨by first | rfl | (simp [errW_none, errW_some] <;> rfl) | (simp [*, errW_none, errW_some] <;> rfl), by repeat (first | (with_reducible first | exact HB.out | apply below_alloc | apply pw_below_drewN | apply below_drew1 | refine below_set ?_ GE107.out) | exact HB.out)⟩
    ·rw [if_neg c11] at H
     have c11b0 : (a1_0 == a1_1) = false := beq_eq_false_iff_ne.mpr c11
     have c11b1 : (a1_0 != a1_1) = true := bne_iff_ne.mpr c11
     by_cases c13 : a1_2 > a1_3
     ·rw [if_pos c13] at H
      have c13b0 : decide (a1_3 < a1_2) = true := decide_eq_true c13
      clear c13
      obtain rfl := Option.some.inj H
      have hcz14_0 : wc.cell? ⟨gb107, 0, none⟩ = some (.int .i64 a1_0) := (blk_cell BK107.out 0).trans rfl
      have hcz14_1 : wc.cell? ⟨gb107, 1, none⟩ = some (.int .i64 a1_1) := (blk_cell BK107.out 1).trans rfl
      have hcz14_2 : wc.cell? ⟨gb107, 2, none⟩ = some (.int .i64 a1_2) := (blk_cell BK107.out 2).trans rfl
      have hcz14_3 : wc.cell? ⟨gb107, 3, none⟩ = some (.int .i64 a1_3) := (blk_cell BK107.out 3).trans rfl
      have hfz14_0 := blk_frozen BK107.out 0
      have hfz14_1 := blk_frozen BK107.out 1
      have hfz14_2 := blk_frozen BK107.out 2
      have hfz14_3 := blk_frozen BK107.out 3
      go_wp2
      go_ret
      exact ⟨by first | rfl | (simp [errW_none, errW_some] <;> rfl) | (simp [*, errW_none, errW_some] <;> rfl), by repeat (first | (with_reducible first | exact HB.out | apply below_alloc | apply pw_below_drewN | apply below_drew1 | refine below_set ?_ GE107.out) | exact HB.out)⟩
     ·rw [if_neg c13] at H
      have c13b0 : decide (a1_3 < a1_2) = false := decide_eq_false c13
      clear c13
      by_cases c15 : a1_2 < (-1000000)
      ·rw [if_pos c15] at H
       have c15b0 : decide (a1_2 < (-1000000)) = true := decide_eq_true c15
       clear c15
       obtain rfl := Option.some.inj H
       have hcz16_0 : wc.cell? ⟨gb107, 0, none⟩ = some (.int .i64 a1_0) := (blk_cell BK107.out 0).trans rfl
       have hcz16_1 : wc.cell? ⟨gb107, 1, none⟩ = some (.int .i64 a1_1) := (blk_cell BK107.out 1).trans rfl
       have hcz16_2 : wc.cell? ⟨gb107, 2, none⟩ = some (.int .i64 a1_2) := (blk_cell BK107.out 2).trans rfl
       have hcz16_3 : wc.cell? ⟨gb107, 3, none⟩ = some (.int .i64 a1_3) := (blk_cell BK107.out 3).trans rfl
       have hfz16_0 := blk_frozen BK107.out 0
       have hfz16_1 := blk_frozen BK107.out 1
       have hfz16_2 := blk_frozen BK107.out 2
       have hfz16_3 := blk_frozen BK107.out 3
       go_wp2
       go_ret
       exact ⟨by first | rfl | (simp [errW_none, errW_some] <;> rfl) | (simp [*, errW_none, errW_some] <;> rfl), by repeat (first | (with_reducible first | exact HB.out | apply below_alloc | apply pw_below_drewN | apply below_drew1 | refine below_set ?_ GE107.out) | exact HB.out)⟩
      ·rw [if_neg c15] at H
       have c15b0 : decide (a1_2 < (-1000000)) = false := decide_eq_false c15
       clear c15
       by_cases c17 : a1_3 > 1000000
       ·rw [if_pos c17] at H
        have c17b0 : decide (1000000 < a1_3) = true := decide_eq_true c17
        clear c17
        obtain rfl := Option.some.inj H
        have hcz18_0 : wc.cell? ⟨gb107, 0, none⟩ = some (.int .i64 a1_0) := (blk_cell BK107.out 0).trans rfl
        have hcz18_1 : wc.cell? ⟨gb107, 1, none⟩ = some (.int .i64 a1_1) := (blk_cell BK107.out 1).trans rfl
        have hcz18_2 : wc.cell? ⟨gb107, 2, none⟩ = some (.int .i64 a1_2) := (blk_cell BK107.out 2).trans rfl
        have hcz18_3 : wc.cell? ⟨gb107, 3, none⟩ = some (.int .i64 a1_3) := (blk_cell BK107.out 3).trans rfl
        have hfz18_0 := blk_frozen BK107.out 0
        have hfz18_1 := blk_frozen BK107.out 1
        have hfz18_2 := blk_frozen BK107.out 2
        have hfz18_3 := blk_frozen BK107.out 3
        go_wp2
        go_ret
        exact ⟨by first | rfl | (simp [errW_none, errW_some] <;> rfl) | (simp [*, errW_none, errW_some] <;> rfl), by repeat (first | (with_reducible first | exact HB.out | apply below_alloc | apply pw_below_drewN | apply below_drew1 | refine below_set ?_ GE107.out) | exact HB.out)⟩
       ·rw [if_neg c17] at H
        have c17b0 : decide (1000000 < a1_3) = false := decide_eq_false c17
        clear c17
        obtain rfl := Option.some.inj H
        have hcz19_0 : wc.cell? ⟨gb107, 0, none⟩ = some (.int .i64 a1_0) := (blk_cell BK107.out 0).trans rfl
        have hcz19_1 : wc.cell? ⟨gb107, 1, none⟩ = some (.int .i64 a1_1) := (blk_cell BK107.out 1).trans rfl
        have hcz19_2 : wc.cell? ⟨gb107, 2, none⟩ = some (.int .i64 a1_2) := (blk_cell BK107.out 2).trans rfl
        have hcz19_3 : wc.cell? ⟨gb107, 3, none⟩ = some (.int .i64 a1_3) := (blk_cell BK107.out 3).trans rfl
        have hfz19_0 := blk_frozen BK107.out 0
        have hfz19_1 := blk_frozen BK107.out 1
        have hfz19_2 := blk_frozen BK107.out 2
        have hfz19_3 := blk_frozen BK107.out 3
        go_wp2
        go_ret
        exact ⟨by first | rfl | (simp [errW_none, errW_some] <;> rfl) | (simp [*, errW_none, errW_some] <;> rfl), by repeat (first | (with_reducible first | exact HB.out | apply below_alloc | apply pw_below_drewN | apply below_drew1 | refine below_set ?_ GE107.out) | exact HB.out)⟩

end Go.Proofs.Ytbcfphoheijmdaa.Print
end

section
/- Which error a chain has, as a Lean function; small closed facts. -/
namespace Go.Proofs.Ytbcfphoheijmdaa.Print
open Go.RowKit Go.Proofs.YtbcfphoheijmdaaW.PrintWords Go.Proofs.YtbcfphoheijmdaaW.PrintLast Go.Proofs.YtbcfphoheijmdaaW.PrintMore Go.Proofs.Ytbcfphoheijmdaa.H
attribute [local go_sem] max2_int min2_int max_two min_two max_three min_three max_four min_four
set_option linter.unusedVariables false
set_option linter.unusedSimpArgs false

/-- The error of a link of a chain with P points. -/
def linkErr (P : Int) (l : S35) : Int :=
  if l.f0 < 0 ∨ P - 1 < l.f0 ∨ l.f1 < 0 ∨ P - 1 < l.f1 then 7 else if l.f0 = l.f1 then 9 else if l.f2.f1 < l.f2.f0 then 11 else if l.f2.f0 < -1000000 ∨ 1000000 < l.f2.f1 then 2 else 0
theorem checkLink_eq (P : Int) (l : S35) (h1 : -9223372036854775807 ≤ P) (h2 : P ≤ 9223372036854775807) : mount_checkLink.f 1 P l.f0 l.f1 l.f2.f0 l.f2.f1 = some (linkErr P l) := by
  have hw : wrap64 (P - 1) = P - 1 := by unfold wrap64; omega
  simp only [mount_checkLink.f, mount_checkLink.j0, mount_in.f, hw, linkErr]
  repeat' split
  all_goals first | rfl | (exfalso; simp_all; omega) | (simp_all; done) | (simp_all; omega)
/-- The roots behind one link more. -/
def rootVal (a b r : Int) : Int := if r = a ∨ r = b then mn a b else r
def rootStep (R : List Int) (l : S35) : List Int := R.map (rootVal (R.getD l.f0.toNat 0) (R.getD l.f1.toNat 0))
def rootsOf (L : List S35) : List Int := L.foldl rootStep ((List.range 24).map (fun (i : Nat) => (i : Int)))
def chainErr (P : Int) (L : List S35) : Int :=
  if P < 1 ∨ 24 < P then 2 else if 80 < L.length then 8 else
    match L.find? (fun l => linkErr P l != 0) with
    | some l => linkErr P l
    | none => if ((rootsOf L).take P.toNat).all (· == 0) then 0 else 13
def mount_CheckChain.f (a0_0 : Int) (l0_1 : List (S35)) : Option (Int) := some (chainErr a0_0 l0_1)
theorem size35 : (Try.prog.info? 35).map (·.size) = some 4 := by kernel_rfl
theorem info123 : (Try.prog.info? 123).map (fun i => (i.zero, i.size, i.bytes)) = some (some (.agg (Array.replicate 24 (.int .i64 0))), 24, 192) := by kernel_rfl
theorem size123 : (Try.prog.info? 123).map (·.size) = some 24 := by kernel_rfl
theorem size3 : (Try.prog.info? 3).map (·.size) = some 1 := by kernel_rfl

end Go.Proofs.Ytbcfphoheijmdaa.Print
end

section
/- CheckChain: the Go function's call gives the error of the chain. -/
namespace Go.Proofs.Ytbcfphoheijmdaa.Print
open Go.RowKit Go.Proofs.YtbcfphoheijmdaaW.PrintWords Go.Proofs.YtbcfphoheijmdaaW.PrintLast Go.Proofs.YtbcfphoheijmdaaW.PrintMore Go.Proofs.Ytbcfphoheijmdaa.H
attribute [local go_sem] max2_int min2_int max_two min_two max_three min_three max_four min_four
set_option linter.unusedVariables false
set_option linter.unusedSimpArgs false

/-- A list of n numbers, told place by place. -/
def Is (n : Nat) (U : List Int) (f : Nat → Int) : Prop := U.length = n ∧ ∀ j, j < n → U.getD j 0 = f j
theorem Is.list {n : Nat} {U : List Int} {f : Nat → Int} (h : Is n U f) : U = (List.range n).map f := by
  apply List.ext_getElem
  · simp [h.1]
  · intro i h1 h2
    have := h.2 i (by rw [← h.1]; exact h1)
    simp [List.getD_eq_getElem?_getD, h1] at this
    simp [this]
theorem Is.congr {n : Nat} {U : List Int} {f g : Nat → Int} (h : Is n U f) (e : ∀ j, j < n → f j = g j) : Is n U g := ⟨h.1, fun j hj => (h.2 j hj).trans (e j hj)⟩
theorem Is.set {n : Nat} {U : List Int} {f g : Nat → Int} {i : Nat} {v : Int} (h : Is n U f) (hi : i < n) (e1 : g i = v) (e : ∀ j, j < n → j ≠ i → f j = g j) : Is n (U.set i v) g := by
  refine ⟨by simp [h.1], fun j hj => ?_⟩
  by_cases q : j = i
  · subst q
    rw [← e1]
    simp [List.getD_eq_getElem?_getD, h.1, hj, e1]
  · rw [← e j hj q, ← h.2 j hj]
    simp [List.getD_eq_getElem?_getD, List.getElem?_set, Ne.symm q]
theorem Is.zero (n : Nat) : Is n (List.replicate n 0) (fun j => 0) := ⟨by simp, fun j hj => by
  rw [List.getD_eq_getElem?_getD, List.getElem?_replicate]
  split <;> rfl⟩
theorem if_step {i j : Nat} {A B : Int} (q : j ≠ i) : (if j < i then A else B) = (if j < i + 1 then A else B) := by
  by_cases z : j < i
  · rw [if_pos z, if_pos (by omega)]
  · rw [if_neg z, if_neg (by omega)]
theorem Is.of (n : Nat) (U : List Int) (h : U.length = n) : Is n U (fun j => U.getD j 0) := ⟨h, fun _ _ => rfl⟩
theorem rd35 (l : List S35) (k : Nat) (h : k < l.length) : rd_T35 l (k : Int) = l[k] := by simp [rd_T35, h]
theorem at35 {w : World} {A : Option Addr} {xs : List S35} (h : Kd.C k35 w A xs.length xs) (i : Nat) (hi : i < xs.length) : ∃ ad, A = some ad ∧ w.cell? (ad.add (i * 4)) = some (.int .i64 xs[i].f0) ∧ w.cell? ⟨(ad.add (i * 4)).block, (ad.add (i * 4)).off + 1, none⟩ = some (.int .i64 xs[i].f1) ∧ w.cell? ⟨(ad.add (i * 4)).block, (ad.add (i * 4)).off + 2, none⟩ = some (.int .i64 xs[i].f2.f0) ∧ w.cell? ⟨(ad.add (i * 4)).block, (ad.add (i * 4)).off + 3, none⟩ = some (.int .i64 xs[i].f2.f1) := by
  obtain ⟨ad, e, h0, h1, h2, h3⟩ := at_T35 h (i : Int) (by omega) (by omega)
  rw [rd35 _ _ hi] at h0 h1 h2 h3
  rw [Int.toNat_natCast] at h0 h1 h2 h3
  exact ⟨ad, e, h0, h1, h2, h3⟩
/-- The links before k are all right. -/
def OkTo (P : Int) (L : List S35) (k : Nat) : Prop := ∀ l, l ∈ L.take k → linkErr P l = 0
theorem OkTo.start (P : Int) (L : List S35) : OkTo P L 0 := by intro l hl; simp at hl
theorem take_at {α : Type} (L : List α) (k : Nat) (h : k < L.length) : L.take (k + 1) = L.take k ++ [L[k]] := by
  rw [List.take_add_one]
  simp [h]
theorem OkTo.next {P : Int} {L : List S35} {k : Nat} (h : OkTo P L k) (hk : k < L.length) (e : linkErr P L[k] = 0) : OkTo P L (k + 1) := by
  intro l hl
  rw [take_at L k hk] at hl
  rcases List.mem_append.1 hl with hl | hl
  · exact h l hl
  · rw [List.mem_singleton.1 hl]; exact e
theorem find_split {α : Type} (p : α → Bool) (A B : List α) (x : α) (h : ∀ l, l ∈ A → p l = false) (hx : p x = true) : (A ++ x :: B).find? p = some x := by
  rw [List.find?_append]
  have : A.find? p = none := by
    rw [List.find?_eq_none]
    intro l hl
    simp [h l hl]
  rw [this, Option.none_or, List.find?_cons_of_pos hx]
theorem OkTo.find {P : Int} {L : List S35} {k : Nat} (h : OkTo P L k) (hk : k < L.length) (e : linkErr P L[k] ≠ 0) : L.find? (fun l => linkErr P l != 0) = some L[k] := by
  have e1 : L.take k ++ L[k] :: L.drop (k + 1) = L := by
    rw [← List.drop_eq_getElem_cons hk, List.take_append_drop]
  have := find_split (fun l => linkErr P l != 0) (L.take k) (L.drop (k + 1)) L[k] (fun l hl => by simp [h l hl]) (by simpa using e)
  rwa [e1] at this
theorem OkTo.none {P : Int} {L : List S35} (h : OkTo P L L.length) : L.find? (fun l => linkErr P l != 0) = none := by
  rw [List.find?_eq_none]
  intro l hl
  simp [h l (by rw [List.take_length]; exact hl)]
theorem rootsOf_snoc (L : List S35) (l : S35) : rootsOf (L ++ [l]) = rootStep (rootsOf L) l := by simp [rootsOf]
theorem rootsOf_length (L : List S35) : (rootsOf L).length = 24 := by
  have : ∀ (L : List S35) (R : List Int), (L.foldl rootStep R).length = R.length := by
    intro L
    induction L with
    | nil => intro R; rfl
    | cons l L ih => intro R; rw [List.foldl_cons, ih]; simp [rootStep]
  rw [rootsOf, this]
  simp
theorem Is.step {R U : List Int} {l : S35} (hR : R.length = 24) (h : Is 24 U (fun j => if j < 24 then rootVal (R.getD l.f0.toNat 0) (R.getD l.f1.toNat 0) (R.getD j 0) else R.getD j 0)) : U = rootStep R l := by
  rw [h.list]
  apply List.ext_getElem
  · simp [rootStep, hR]
  · intro i h1 h2
    have hi : i < 24 := by simpa using h1
    simp [rootStep, hi, List.getD_eq_getElem?_getD, hR]
theorem linkErr_ok {P : Int} {l : S35} (h : linkErr P l = 0) : 0 ≤ l.f0 ∧ l.f0 < P ∧ 0 ≤ l.f1 ∧ l.f1 < P ∧ l.f0 ≠ l.f1 ∧ l.f2.f0 ≤ l.f2.f1 ∧ -1000000 ≤ l.f2.f0 ∧ l.f2.f1 ≤ 1000000 := by
  unfold linkErr at h
  split at h
  · omega
  · split at h
    · omega
    · split at h
      · omega
      · split at h <;> omega
theorem roots_all {R : List Int} {n : Nat} (h : ∀ x, x < n → R.getD x 0 = 0) (hn : n ≤ R.length) : (R.take ((n : Int).toNat)).all (· == 0) = true := by
  rw [List.all_eq_true]
  intro x hx
  rw [Int.toNat_natCast] at hx
  obtain ⟨i, hi, rfl⟩ := List.mem_iff_getElem.1 hx
  have h1 : i < n := by rw [List.length_take] at hi; omega
  have := h i h1
  rw [List.getElem_take]
  rw [List.getD_eq_getElem?_getD, List.getElem?_eq_getElem (by omega)] at this
  simpa using this
theorem roots_not {R : List Int} {n j : Nat} (hj : j < R.length) (h : R.getD j 0 ≠ 0) (hn : j < n) : ¬ (R.take ((n : Int).toNat)).all (· == 0) = true := by
  intro q
  rw [List.all_eq_true] at q
  apply h
  rw [List.getD_eq_getElem?_getD, List.getElem?_eq_getElem hj]
  have := q R[j] (List.mem_iff_getElem.2 ⟨j, by rw [List.length_take, Int.toNat_natCast]; omega, by rw [List.getElem_take]⟩)
  simpa using this
set_option maxHeartbeats 1600000 in
set_option maxRecDepth 100000 in
theorem mount_CheckChain.calls (a0_0 : Int) (A0_1 : Option Addr) (c0_1 : Nat) (l0_1 : List (S35)) (r : Int) (w : World) (hr0_1 : Kd.C k35 w A0_1 l0_1.length l0_1) (hc0_1 : l0_1.length ≤ c0_1) (h : mount_CheckChain.f a0_0 l0_1 = some r) :
    Calls Try.prog 53 #[.agg #[.int .i64 a0_0, .slice A0_1 l0_1.length c0_1]] w fun e w' => e = .returned (.int .i64 r) ∧ Below w.heap.size w w' := by
  have HF := Aside0.mk (Option.some.inj h)
  have HR := Aside0.mk hr0_1
  have HM := Aside0.mk (Mem.start w)
  clear h hr0_1
  have hu27 := Try.underlying27
  have hu35 := Try.underlying35
  by_cases t1 : 1 ≤ a0_0
  rotate_left
  · have e1 : mount_in.f a0_0 1 24 = some false := by unfold mount_in.f; rw [if_neg t1]
    have HF2 : Aside0 (r = 2) := ⟨by rw [← HF.out]; unfold chainErr; rw [if_pos (by omega)]⟩
    go_enter Try.func53, Try.ntmps53
    go_wp2_with (first
      | ((with_reducible refine gate_dst (N := 1) rfl ?_); refine ev_box HM.out rfl 27 (.tmp 0) rfl (cs := #[.int .i64 a0_0, .slice A0_1 l0_1.length c0_1]) rfl ?_; intro g1 w1 hm1 hq1; clear hq1; have HM1 := Aside0.mk hm1; clear hm1 HM; have c1 : w1.cell? ⟨g1, 0, none⟩ = some (.int .i64 a0_0) := (HM1.out.cell 0).trans rfl)
      | (go_at_call 102; refine (mount_in.calls _ _ _ _ _ e1).mono ?_; rintro e w' ⟨rfl, hd⟩; have HB2 := Aside0.mk hd.below; clear hd))
    go_ret
    exact ⟨by rw [HF2.out]; rfl, below_step HM1.out.below HB2.out⟩
  by_cases t2 : a0_0 ≤ 24
  rotate_left
  · have e1 : mount_in.f a0_0 1 24 = some false := by unfold mount_in.f; rw [if_pos t1, decide_eq_false t2]
    have HF2 : Aside0 (r = 2) := ⟨by rw [← HF.out]; unfold chainErr; rw [if_pos (by omega)]⟩
    go_enter Try.func53, Try.ntmps53
    go_wp2_with (first
      | ((with_reducible refine gate_dst (N := 1) rfl ?_); refine ev_box HM.out rfl 27 (.tmp 0) rfl (cs := #[.int .i64 a0_0, .slice A0_1 l0_1.length c0_1]) rfl ?_; intro g1 w1 hm1 hq1; clear hq1; have HM1 := Aside0.mk hm1; clear hm1 HM; have c1 : w1.cell? ⟨g1, 0, none⟩ = some (.int .i64 a0_0) := (HM1.out.cell 0).trans rfl)
      | (go_at_call 102; refine (mount_in.calls _ _ _ _ _ e1).mono ?_; rintro e w' ⟨rfl, hd⟩; have HB2 := Aside0.mk hd.below; clear hd))
    go_ret
    exact ⟨by rw [HF2.out]; rfl, below_step HM1.out.below HB2.out⟩
  have e1 : mount_in.f a0_0 1 24 = some true := by unfold mount_in.f; rw [if_pos t1, decide_eq_true t2]
  by_cases t3 : 80 < l0_1.length
  · have HF2 : Aside0 (r = 8) := ⟨by rw [← HF.out]; unfold chainErr; rw [if_neg (by omega), if_pos t3]⟩
    have t3' : decide (80 < l0_1.length) = true := decide_eq_true t3
    go_enter Try.func53, Try.ntmps53
    go_wp2_with (first
      | ((with_reducible refine gate_dst (N := 1) rfl ?_); refine ev_box HM.out rfl 27 (.tmp 0) rfl (cs := #[.int .i64 a0_0, .slice A0_1 l0_1.length c0_1]) rfl ?_; intro g1 w1 hm1 hq1; clear hq1; have HM1 := Aside0.mk hm1; clear hm1 HM; have c1 : w1.cell? ⟨g1, 0, none⟩ = some (.int .i64 a0_0) := (HM1.out.cell 0).trans rfl)
      | (go_at_call 102; refine (mount_in.calls _ _ _ _ _ e1).mono ?_; rintro e w' ⟨rfl, hd⟩; have HM2 := Aside0.mk (HM1.out.step hd.below); clear hd HM1; have c2 : w'.cell? ⟨g1, 1, none⟩ = some (.slice A0_1 l0_1.length c0_1) := (HM2.out.cell 1).trans rfl))
    go_ret
    exact ⟨by rw [HF2.out]; rfl, HM2.out.below⟩
  have t3' : decide (80 < l0_1.length) = false := decide_eq_false t3
  obtain ⟨n, rfl⟩ : ∃ n : Nat, a0_0 = n := ⟨a0_0.toNat, by omega⟩
  go_enter Try.func53, Try.ntmps53
  go_wp2_with (first
    | ((with_reducible refine gate_dst (N := 1) rfl ?_); refine ev_box HM.out rfl 27 (.tmp 0) rfl (cs := #[.int .i64 (n : Int), .slice A0_1 l0_1.length c0_1]) rfl ?_; intro g1 w1 hm1 hq1; clear hq1; have HM1 := Aside0.mk hm1; clear hm1 HM; have c1 : w1.cell? ⟨g1, 0, none⟩ = some (.int .i64 (n : Int)) := (HM1.out.cell 0).trans rfl)
    | (go_at_call 102; refine (mount_in.calls _ _ _ _ _ e1).mono ?_; rintro e w' ⟨rfl, hd⟩; have HM2 := Aside0.mk (HM1.out.step hd.below); clear hd HM1; have c2 : w'.cell? ⟨g1, 1, none⟩ = some (.slice A0_1 l0_1.length c0_1) := (HM2.out.cell 1).trans rfl)
    | ((with_reducible refine gate_dst (N := 3) rfl ?_); refine ev_new HM2.out rfl 123 rfl info123 ?_; intro g2 w2 hm2 hq1; clear hq1; have HM3 := Aside0.mk hm2; clear hm2 HM2))
  rw [zero_nums] at HM3
  go_loopg [24] 24 (fun k v24 w' => ∃ (i : Nat) (U : List Int), v24 = .int .i64 i ∧ Aside0 (i + k = 24) ∧ Aside0 (Is 24 U (fun j => if j < i then (j : Int) else 0)) ∧ Aside0 (Mem w w' [(g2, (nums .i64 U).toArray, 123), (g1, #[.int .i64 (n : Int), .slice A0_1 l0_1.length c0_1], 27)]))
  case atStart => exact ⟨0, _, rfl, ⟨rfl⟩, ⟨(Is.zero 24).congr (fun j hj => (if_neg (by omega)).symm)⟩, HM3⟩
  case round =>
    clear HM3
    obtain ⟨i, U, rfl, HK, HU, HM⟩ := hrel
    by_cases hi : i < 24
    · have c1 : wr.cell? ⟨g2, i, none⟩ = some (.int .i64 (U.getD i 0)) := by rw [HM.out.cell, get_nums _ _ (by rw [HU.out.1]; exact hi)]
      have f1 : wr.frozen? ⟨g2, i, none⟩ = false := HM.out.frozen _
      generalize hX : U.getD i 0 = X at c1
      clear hX
      go_wp2_with fail
      go_roundg (24 - (i + 1))
      case measure => have := HK.out; omega
      case rel => exact ⟨i + 1, _, by go_num, ⟨by omega⟩, ⟨HU.out.set hi (if_pos (by omega)) (fun j hj q => if_step q)⟩, ⟨HM.out.put _ _ (set_nums _ _ _)⟩⟩
    · have c1 : wr.cell? ⟨g1, 1, none⟩ = some (.slice A0_1 l0_1.length c0_1) := (blk_cell HM.out.second 1).trans rfl
      have HU2 : Aside0 (U = rootsOf []) := ⟨by rw [(HU.out.congr (g := fun j => (j : Int)) (fun j hj => if_pos (by omega))).list]; rfl⟩
      go_wp2_with fail
      clear c1
      go_loopg [34] l0_1.length (fun k v34 w' => ∃ (i : Nat) (U : List Int), v34 = .int .i64 i ∧ Aside0 (i + k = l0_1.length) ∧ Aside0 (U = rootsOf (l0_1.take i) ∧ OkTo (n : Int) l0_1 i) ∧ Aside0 (Mem w w' [(g2, (nums .i64 U).toArray, 123), (g1, #[.int .i64 (n : Int), .slice A0_1 l0_1.length c0_1], 27)]))
      case atStart => exact ⟨0, U, rfl, ⟨by omega⟩, ⟨HU2.out, OkTo.start _ _⟩, HM⟩
      case round =>
        obtain ⟨k, R, rfl, HK2, HU3, HM5⟩ := hrel
        have HL := Aside0.mk (show R.length = 24 by rw [HU3.out.1]; exact rootsOf_length _)
        by_cases hk : k < l0_1.length
        · obtain ⟨ad, e0, x0, x1, x2, x3⟩ := at35 (Kd.C_below HR.out HM5.out.below) k hk
          have HX := Aside0.mk (show l0_1[k] = l0_1[k] from rfl)
          have HE := checkLink_eq (n : Int) l0_1[k] (by omega) (by omega)
          generalize hX : l0_1[k] = X at x0 x1 x2 x3 HE
          have HXX := Aside0.mk hX
          clear hX HX
          cases e0
          have hk1 : (0 : Int) ≤ (k : Int) := by omega
          have hk2 : (k : Int) < (l0_1.length : Int) := by omega
          have HE2 := Aside0.mk HE
          clear HE
          by_cases tE : linkErr (n : Int) X = 0
          · have HOK := Aside0.mk (HU3.out.2.next hk (by rw [HXX.out]; exact tE))
            rw [tE] at HE2
            obtain ⟨q1, q2, q3, q4, q5, _⟩ := linkErr_ok tE
            clear tE
            have HX2 := Aside0.mk (show rootsOf (l0_1.take (k + 1)) = rootStep R X by rw [take_at _ _ hk, rootsOf_snoc, HU3.out.1, HXX.out])
            go_wp2_with (first
              | ((with_reducible refine gate_dst (N := 6) rfl ?_); refine ev_new HM5.out rfl 35 rfl info35 ?_; intro g3 w3 hm3 hq1; have HM6 := Aside0.mk hm3; clear hm3)
              | (refine ev_store HM6.out rfl 35 (.tmp 6) (.tmp 37) rfl rfl (cs := #[.int .i64 X.f0, .int .i64 X.f1, .int .i64 X.f2.f0, .int .i64 X.f2.f1]) rfl size35 rfl rfl (by simp [Value.oneCell']) ?_; intro w4 hm4 hq1; clear hq1; have HM7 := Aside0.mk hm4; clear hm4 HM6; have c0 : w4.cell? ⟨g1, 0, none⟩ = some (.int .i64 (n : Int)) := (blk_cell HM7.out.third 0).trans rfl)
              | ((with_reducible refine gate_dst (N := 40) rfl ?_); refine ev_load HM7.out.head rfl 35 (.tmp 6) rfl rfl _ Try.underlying35 rfl size35 rfl ?_)
              | (go_at_call 91; refine (mount_checkLink.calls _ _ _ _ _ _ _ _ HE2.out).mono ?_; rintro e w5 ⟨rfl, hd⟩; have HM8 := Aside0.mk (HM7.out.step hd); clear hd))
            have d0 : w5.cell? ⟨g3, 0, none⟩ = some (.int .i64 X.f0) := (HM8.out.cell 0).trans rfl
            have d1 : w5.cell? ⟨g3, 1, none⟩ = some (.int .i64 X.f1) := (HM8.out.cell 1).trans rfl
            have d2 : w5.cell? ⟨g2, X.f0.toNat, none⟩ = some (.int .i64 (R.getD X.f0.toNat 0)) := by rw [blk_cell HM8.out.second, get_nums _ _ (by rw [HL.out]; omega)]
            have d3 : w5.cell? ⟨g2, X.f1.toNat, none⟩ = some (.int .i64 (R.getD X.f1.toNat 0)) := by rw [blk_cell HM8.out.second, get_nums _ _ (by rw [HL.out]; omega)]
            have HST := Aside0.mk (show rootStep R X = R.map (rootVal (R.getD X.f0.toNat 0) (R.getD X.f1.toNat 0)) from rfl)
            have HIS := Aside0.mk (fun U h => Is.step (R := R) (U := U) (l := X) HL.out h)
            generalize hA : R.getD X.f0.toNat 0 = A at d2 HST HIS
            generalize hB : R.getD X.f1.toNat 0 = B at d3 HST HIS
            clear hA hB
            have q6 : X.f0 < 24 := by omega
            have q7 : X.f1 < 24 := by omega
            go_quiet (fail)
            go_wp2_with (first
              | ((with_reducible refine gate_dst (N := 53) rfl ?_); refine ev_load (W := w5.drewN nq) HM8.out.second rfl 123 (.tmp 3) rfl rfl _ Try.underlying123 rfl size123 (size_nums HL.out) ?_))
            clear d0 d1 d2 d3
            have HM9 : Aside0 (Mem w (w5.drewN nq) [(g2, (nums .i64 R).toArray, 123), (g1, #[.int .i64 (n : Int), .slice (some ad) l0_1.length c0_1], 27)]) := ⟨(HM8.out.drewN nq).drop⟩
            clear HM8
            go_loopg [54] 24 (fun k v54 w' => ∃ (j : Nat) (U : List Int), v54 = .int .i64 j ∧ Aside0 (j + k = 24) ∧ Aside0 (Is 24 U (fun x => if x < j then rootVal A B (R.getD x 0) else R.getD x 0)) ∧ Aside0 (Mem w w' [(g2, (nums .i64 U).toArray, 123), (g1, #[.int .i64 (n : Int), .slice (some ad) l0_1.length c0_1], 27)]))
            case atStart => exact ⟨0, R, rfl, ⟨by omega⟩, ⟨(Is.of 24 R HL.out).congr (fun x hx => (if_neg (by omega)).symm)⟩, HM9⟩
            case round =>
              clear HM9
              obtain ⟨j, U2, rfl, HK3, HU4, HM9⟩ := hrel
              by_cases hj : j < 24
              · have hix := run_index_one (P := Try.prog) 123 3 24 (nums .i64 R).toArray j _ _ Try.underlying123 Try.underlying3 rfl size3 hj (get_nums R j (by rw [HL.out]; exact hj))
                have e1 : wr.cell? ⟨g2, j, none⟩ = some (.int .i64 (U2.getD j 0)) := by rw [HM9.out.cell, get_nums _ _ (by rw [HU4.out.1]; exact hj)]
                have e2 : wr.frozen? ⟨g2, j, none⟩ = false := HM9.out.frozen _
                generalize hX : U2.getD j 0 = Y at e1
                clear hX
                generalize hV : R.getD j 0 = V at hix
                have HV := Aside0.mk hV
                clear hV
                by_cases tt : V = A ∨ V = B
                · have HRV : Aside0 (rootVal A B V = if B < A then B else A) := ⟨if_pos tt⟩
                  by_cases tm : B < A
                  all_goals
                    first | rw [if_pos tm] at HRV | rw [if_neg tm] at HRV
                    by_cases ta : V = A
                    · have ta1 : (V == A) = true := by simpa using ta
                      clear ta tt
                      go_wp2_with fail
                      go_roundg (24 - (j + 1))
                      case measure => have := HK3.out; omega
                      case rel => exact ⟨j + 1, _, by go_num, ⟨by omega⟩, ⟨HU4.out.set hj ((if_pos (by omega)).trans (by rw [HV.out]; exact HRV.out)) (fun x hx q => if_step q)⟩, ⟨HM9.out.put _ _ (set_nums _ _ _)⟩⟩
                    · have ta1 : (V == A) = false := by simpa using ta
                      have tb1 : (V == B) = true := by rcases tt with tt | tt; · exact absurd tt ta
                                                       · simpa using tt
                      clear ta tt
                      go_wp2_with fail
                      go_roundg (24 - (j + 1))
                      case measure => have := HK3.out; omega
                      case rel => exact ⟨j + 1, _, by go_num, ⟨by omega⟩, ⟨HU4.out.set hj ((if_pos (by omega)).trans (by rw [HV.out]; exact HRV.out)) (fun x hx q => if_step q)⟩, ⟨HM9.out.put _ _ (set_nums _ _ _)⟩⟩
                · have HRV : Aside0 (rootVal A B V = V) := ⟨if_neg tt⟩
                  have ta1 : (V == A) = false := by simp; exact fun q => tt (.inl q)
                  have tb1 : (V == B) = false := by simp; exact fun q => tt (.inr q)
                  clear tt
                  go_wp2_with fail
                  go_roundg (24 - (j + 1))
                  case measure => have := HK3.out; omega
                  case rel => exact ⟨j + 1, U2, by go_num, ⟨by omega⟩, ⟨HU4.out.congr (fun x hx => by
                    by_cases q : x = j
                    · subst q
                      rw [if_neg (by omega), if_pos (by omega), HV.out, HRV.out]
                    · exact if_step q)⟩, HM9⟩
              · have HEQ : Aside0 (U2 = rootsOf (l0_1.take (k + 1))) := ⟨by rw [HX2.out]; exact HIS.out _ (HU4.out.congr (fun x hx => by rw [if_pos (by omega), if_pos hx]))⟩
                go_wp2_with fail
                go_roundg (l0_1.length - (k + 1))
                case measure => have := HK2.out; omega
                case rel => exact ⟨k + 1, U2, by go_num, ⟨by have := HK2.out; omega⟩, ⟨HEQ.out, HOK.out⟩, HM9⟩
          · generalize hE : linkErr (n : Int) X = E at tE HE2
            have HF2 : Aside0 (r = E) := ⟨by rw [← HF.out]; unfold chainErr; rw [if_neg (by omega), if_neg t3, HU3.out.2.find hk (by rw [HXX.out, hE]; exact tE), HXX.out]; exact hE⟩
            clear hE
            have tE1 : (E != 0) = true := by simpa using tE
            go_wp2_with (first
              | ((with_reducible refine gate_dst (N := 6) rfl ?_); refine ev_new HM5.out rfl 35 rfl info35 ?_; intro g3 w3 hm3 hq1; have HM6 := Aside0.mk hm3; clear hm3)
              | (refine ev_store HM6.out rfl 35 (.tmp 6) (.tmp 37) rfl rfl (cs := #[.int .i64 X.f0, .int .i64 X.f1, .int .i64 X.f2.f0, .int .i64 X.f2.f1]) rfl size35 rfl rfl (by simp [Value.oneCell']) ?_; intro w4 hm4 hq1; clear hq1; have HM7 := Aside0.mk hm4; clear hm4 HM6; have c0 : w4.cell? ⟨g1, 0, none⟩ = some (.int .i64 (n : Int)) := (blk_cell HM7.out.third 0).trans rfl)
              | ((with_reducible refine gate_dst (N := 40) rfl ?_); refine ev_load HM7.out.head rfl 35 (.tmp 6) rfl rfl _ Try.underlying35 rfl size35 rfl ?_)
              | (go_at_call 91; refine (mount_checkLink.calls _ _ _ _ _ _ _ _ HE2.out).mono ?_; rintro e w5 ⟨rfl, hd⟩; have HM8 := Aside0.mk (HM7.out.step hd); clear hd))
            go_ret
            exact ⟨by rw [HF2.out]; rfl, HM8.out.below⟩
        · have d0 : wr.cell? ⟨g1, 0, none⟩ = some (.int .i64 (n : Int)) := (blk_cell HM5.out.second 0).trans rfl
          have HR3 : Aside0 (R = rootsOf l0_1) := ⟨by rw [HU3.out.1, List.take_of_length_le (by omega)]⟩
          have HOK : Aside0 (OkTo (n : Int) l0_1 l0_1.length) := ⟨by have := HU3.out.2; intro l hl; exact this l (by rw [List.take_of_length_le (by omega)]; rwa [List.take_length] at hl)⟩
          have p0 : (0 : Int) ≤ (n : Int) := by omega
          have hu123 := Try.underlying123
          go_wp2_with fail
          go_loopg [77] n (fun k v77 w' => ∃ (j : Nat), v77 = .int .i64 j ∧ Aside0 (j + k = n) ∧ Aside0 (∀ x, x < j → R.getD x 0 = 0) ∧ Aside0 (Mem w w' [(g2, (nums .i64 R).toArray, 123), (g1, #[.int .i64 (n : Int), .slice A0_1 l0_1.length c0_1], 27)]))
          case atStart => exact ⟨0, rfl, ⟨by omega⟩, ⟨fun x hx => absurd hx (by omega)⟩, HM5⟩
          case round =>
            obtain ⟨j, rfl, HK3, HZ, HM9⟩ := hrel
            by_cases hj : j < n
            · have e1 : wr.cell? ⟨g2, j, none⟩ = some (.int .i64 (R.getD j 0)) := by rw [HM9.out.cell, get_nums _ _ (by rw [HL.out]; omega)]
              generalize hV : R.getD j 0 = V at e1
              have HV := Aside0.mk hV
              clear hV
              have j1 : (0 : Int) ≤ (j : Int) := by omega
              have j2 : (j : Int) < (n : Int) := by omega
              by_cases tv : V = 0
              · have HZ2 : Aside0 (∀ x, x < j + 1 → R.getD x 0 = 0) := ⟨fun x hx => by
                  by_cases q : x = j
                  · subst q; rw [HV.out, tv]
                  · exact HZ.out x (by omega)⟩
                have tv1 : (V != 0) = false := by simpa using tv
                clear tv
                go_wp2_with fail
                go_roundg (n - (j + 1))
                case measure => have := HK3.out; omega
                case rel => exact ⟨j + 1, by go_num, ⟨by omega⟩, HZ2, HM9⟩
              · have HF2 : Aside0 (r = 13) := ⟨by rw [← HF.out]; unfold chainErr; rw [if_neg (by omega), if_neg t3, HOK.out.none, ← HR3.out]; exact if_neg (roots_not (j := j) (by rw [HL.out]; omega) (by rw [HV.out]; exact tv) (by omega))⟩
                have tv1 : (V != 0) = true := by simpa using tv
                clear tv
                go_wp2_with fail
                go_ret
                exact ⟨by rw [HF2.out]; rfl, HM9.out.below⟩
            · have HF2 : Aside0 (r = 0) := ⟨by rw [← HF.out]; unfold chainErr; rw [if_neg (by omega), if_neg t3, HOK.out.none, ← HR3.out]; exact if_pos (roots_all (fun x hx => HZ.out x (by omega)) (by rw [HL.out]; omega))⟩
              go_wp2_with fail
              go_ret
              exact ⟨by rw [HF2.out]; rfl, HM9.out.below⟩
end Go.Proofs.Ytbcfphoheijmdaa.Print
end

section
/- CheckKit: which error a kit has, and that the Go function's call gives it. -/
namespace Go.Proofs.Ytbcfphoheijmdaa.Print
open Go.RowKit Go.Proofs.YtbcfphoheijmdaaW.PrintWords Go.Proofs.YtbcfphoheijmdaaW.PrintLast Go.Proofs.YtbcfphoheijmdaaW.PrintMore Go.Proofs.Ytbcfphoheijmdaa.H
attribute [local go_sem] max2_int min2_int max_two min_two max_three min_three max_four min_four
set_option linter.unusedVariables false
set_option linter.unusedSimpArgs false

/-- The first error of n places. -/
def firstErr (e : Nat → Int) (n : Nat) : Int := match (List.range n).find? (fun i => e i != 0) with | some i => e i | none => 0
theorem firstErr_ok {e : Nat → Int} {n : Nat} (h : ∀ i, i < n → e i = 0) : firstErr e n = 0 := by
  unfold firstErr
  have : (List.range n).find? (fun i => e i != 0) = none := by
    rw [List.find?_eq_none]
    intro i hi
    simp [h i (List.mem_range.1 hi)]
  rw [this]
theorem range_split {n i : Nat} (hi : i < n) : List.range n = List.range i ++ i :: (List.range (n - i - 1)).map (fun j => i + 1 + j) := by
  apply List.ext_getElem
  · simp; omega
  · intro k h1 h2
    simp only [List.getElem_range]
    by_cases q : k < i
    · rw [List.getElem_append_left (by simpa using q)]; simp
    · rw [List.getElem_append_right (by simpa using q)]
      simp only [List.length_range]
      by_cases q2 : k = i
      · subst q2; simp
      · obtain ⟨d, hd⟩ : ∃ d, k = i + 1 + d := ⟨k - i - 1, by omega⟩
        subst hd
        have e1 : i + 1 + d - i = d + 1 := by omega
        simp only [e1, List.getElem_cons_succ, List.getElem_map, List.getElem_range]
theorem firstErr_at {e : Nat → Int} {n i : Nat} (hi : i < n) (h : ∀ j, j < i → e j = 0) (hx : e i ≠ 0) : firstErr e n = e i := by
  unfold firstErr
  rw [range_split hi, find_split (fun i => e i != 0) _ _ i (fun l hl => by simp [h l (List.mem_range.1 hl)]) (by simpa using hx)]
theorem firstErr_zero {e : Nat → Int} {n : Nat} (h : firstErr e n = 0) : ∀ i, i < n → e i = 0 := by
  intro i hi
  induction i using Nat.strongRecOn with
  | _ i ih =>
    by_cases q : e i = 0
    · exact q
    · rw [firstErr_at hi (fun j hj => ih j hj (by omega)) q] at h
      exact h
/-- The error of place i of a list of other parts, of the part own of n. -/
def otherErr (n own : Int) (l : List Int) (i : Nat) : Int :=
  if l.getD i 0 < 0 ∨ n - 1 < l.getD i 0 then 7 else if l.getD i 0 = own then 9 else if 0 < i ∧ l.getD i 0 ≤ l.getD (i - 1) 0 then 11 else 0
def othersErr (n own : Int) (l : List Int) : Int := firstErr (otherErr n own l) l.length
/-- The lists of a part. -/
def listOf (p : S57) (i : Nat) : List Int := if i = 0 then p.f0 else p.f1
def partErr (n own : Int) (p : S57) : Int :=
  if firstErr (fun i => othersErr n own (listOf p i)) 2 ≠ 0 then firstErr (fun i => othersErr n own (listOf p i)) 2 else if p.f2 < 0 ∨ 8 < p.f2 ∨ p.f3 < 0 ∨ 10000 < p.f3 then 2 else 0
def kitErr (L : List S57) (c : Int) : Int :=
  if 14 < L.length then 8 else if c < 0 ∨ 10000 < c then 2 else firstErr (fun i => partErr L.length i (L.getD i z57)) L.length
/-- No list of a part is longer than any list that a computer holds. -/
def Holds (L : List S57) : Prop := ∀ p, p ∈ L → p.f0.length ≤ 1000000 ∧ p.f1.length ≤ 1000000
instance (L : List S57) : Decidable (Holds L) := by unfold Holds; infer_instance
def mount_CheckKit.f (l0_0 : List (S57)) (a0_1 : Int) : Option (Int) := if Holds l0_0 then some (kitErr l0_0 a0_1) else none
theorem size22 : (Try.prog.info? 22).map (·.size) = some 1 := by kernel_rfl
theorem size57 : (Try.prog.info? 57).map (·.size) = some 4 := by kernel_rfl
theorem at57 {w : World} {A : Option Addr} {xs : List S57} (h : Kd.C k57 w A xs.length xs) (i : Nat) (hi : i < xs.length) : ∃ ad A0 c0 A1 c1, A = some ad ∧ w.cell? (ad.add (i * 4)) = some (.slice A0 (xs.getD i z57).f0.length c0) ∧ w.cell? ⟨(ad.add (i * 4)).block, (ad.add (i * 4)).off + 1, none⟩ = some (.slice A1 (xs.getD i z57).f1.length c1) ∧ w.cell? ⟨(ad.add (i * 4)).block, (ad.add (i * 4)).off + 2, none⟩ = some (.int .i64 (xs.getD i z57).f2) ∧ w.cell? ⟨(ad.add (i * 4)).block, (ad.add (i * 4)).off + 3, none⟩ = some (.int .i64 (xs.getD i z57).f3) ∧ (xs.getD i z57).f0.length ≤ c0 ∧ (Kd.int .i64).C w A0 (xs.getD i z57).f0.length (xs.getD i z57).f0 ∧ (xs.getD i z57).f1.length ≤ c1 ∧ (Kd.int .i64).C w A1 (xs.getD i z57).f1.length (xs.getD i z57).f1 := by
  have := at_T57 h (i : Int) (by omega) (by omega)
  unfold rd_T57 at this
  rw [Int.toNat_natCast] at this
  exact this
theorem cell_later {w W : World} (h : Below w.heap.size w W) {a : Addr} {v : Value} (hc : w.cell? a = some v) : W.cell? a = some v := (h.cell (World.block_lt_of_cell? _ _ hc)).trans hc
theorem in_eq (a b c : Int) : mount_in.f a b c = some (decide (b ≤ a ∧ a ≤ c)) := by
  unfold mount_in.f
  by_cases h : b ≤ a
  · rw [if_pos h]; simp [h]
  · rw [if_neg h]; simp [h]
theorem cell_int {w : World} {A : Option Addr} {xs : List Int} (h : (Kd.int .i64).C w A xs.length xs) (i : Nat) (hi : i < xs.length) : ∃ ad, A = some ad ∧ w.cell? (ad.add i) = some (.int .i64 (xs.getD i 0)) := by
  have := Kd.at_int h (i : Int) (by omega) (by omega)
  unfold rd at this
  rw [Int.toNat_natCast] at this
  exact this
set_option maxHeartbeats 3200000 in
set_option maxRecDepth 100000 in
theorem mount_CheckKit.calls (A0_0 : Option Addr) (c0_0 : Nat) (l0_0 : List (S57)) (a0_1 : Int) (r : Int) (w : World) (hr0_0 : Kd.C k57 w A0_0 l0_0.length l0_0) (hc0_0 : l0_0.length ≤ c0_0) (h : mount_CheckKit.f l0_0 a0_1 = some r) :
    Calls Try.prog 40 #[.agg #[.slice A0_0 l0_0.length c0_0, .int .i64 a0_1]] w fun e w' => e = .returned (.int .i64 r) ∧ Below w.heap.size w w' := by
  have HH : Aside0 (Holds l0_0) := ⟨by
    unfold mount_CheckKit.f at h
    split at h
    · assumption
    · exact absurd h (by simp)⟩
  have HF : Aside0 (kitErr l0_0 a0_1 = r) := ⟨by unfold mount_CheckKit.f at h; rw [if_pos HH.out] at h; exact Option.some.inj h⟩
  have HR := Aside0.mk hr0_0
  have HM := Aside0.mk (Mem.start w)
  clear h hr0_0
  have hu49 := Try.underlying49
  have hu57 := Try.underlying57
  by_cases t1 : 14 < l0_0.length
  · have HF2 : Aside0 (r = 8) := ⟨by rw [← HF.out]; unfold kitErr; rw [if_pos t1]⟩
    have t1' : decide ((l0_0.length : Int) > 14) = true := decide_eq_true (by omega)
    have t1'' : decide (14 < l0_0.length) = true := decide_eq_true t1
    go_enter Try.func40, Try.ntmps40
    go_wp2_with (first
      | ((with_reducible refine gate_dst (N := 1) rfl ?_); refine ev_box HM.out rfl 49 (.tmp 0) rfl (cs := #[.slice A0_0 l0_0.length c0_0, .int .i64 a0_1]) rfl ?_; intro g1 w1 hm1 hq1; clear hq1; have HM1 := Aside0.mk hm1; clear hm1 HM; have c1 : w1.cell? ⟨g1, 0, none⟩ = some (.slice A0_0 l0_0.length c0_0) := (HM1.out.cell 0).trans rfl; have c2 : w1.cell? ⟨g1, 1, none⟩ = some (.int .i64 a0_1) := (HM1.out.cell 1).trans rfl))
    go_ret
    exact ⟨by rw [HF2.out]; rfl, HM1.out.below⟩
  have t1' : decide ((l0_0.length : Int) > 14) = false := decide_eq_false (by omega)
  have t1'' : decide (14 < l0_0.length) = false := decide_eq_false t1
  by_cases t2 : 0 ≤ a0_1 ∧ a0_1 ≤ 10000
  rotate_left
  · have HF2 : Aside0 (r = 2) := ⟨by rw [← HF.out]; unfold kitErr; rw [if_neg t1, if_pos (by omega)]⟩
    have e1 : mount_in.f a0_1 0 10000 = some false := by rw [in_eq, decide_eq_false t2]
    go_enter Try.func40, Try.ntmps40
    go_wp2_with (first
      | ((with_reducible refine gate_dst (N := 1) rfl ?_); refine ev_box HM.out rfl 49 (.tmp 0) rfl (cs := #[.slice A0_0 l0_0.length c0_0, .int .i64 a0_1]) rfl ?_; intro g1 w1 hm1 hq1; clear hq1; have HM1 := Aside0.mk hm1; clear hm1 HM; have c1 : w1.cell? ⟨g1, 0, none⟩ = some (.slice A0_0 l0_0.length c0_0) := (HM1.out.cell 0).trans rfl; have c2 : w1.cell? ⟨g1, 1, none⟩ = some (.int .i64 a0_1) := (HM1.out.cell 1).trans rfl)
      | (go_at_call 102; refine (mount_in.calls _ _ _ _ _ e1).mono ?_; rintro e w' ⟨rfl, hd⟩; have HB2 := Aside0.mk hd.below; clear hd))
    go_ret
    exact ⟨by rw [HF2.out]; rfl, below_step HM1.out.below HB2.out⟩
  have e1 : mount_in.f a0_1 0 10000 = some true := by rw [in_eq, decide_eq_true t2]
  have HF3 : Aside0 (r = firstErr (fun i => partErr l0_0.length i (l0_0.getD i z57)) l0_0.length) := ⟨by rw [← HF.out]; unfold kitErr; rw [if_neg t1, if_neg (by omega)]⟩
  clear HF t2
  go_enter Try.func40, Try.ntmps40
  go_wp2_with (first
    | ((with_reducible refine gate_dst (N := 1) rfl ?_); refine ev_box HM.out rfl 49 (.tmp 0) rfl (cs := #[.slice A0_0 l0_0.length c0_0, .int .i64 a0_1]) rfl ?_; intro g1 w1 hm1 hq1; clear hq1; have HM1 := Aside0.mk hm1; clear hm1 HM; have c1 : w1.cell? ⟨g1, 0, none⟩ = some (.slice A0_0 l0_0.length c0_0) := (HM1.out.cell 0).trans rfl; have c2 : w1.cell? ⟨g1, 1, none⟩ = some (.int .i64 a0_1) := (HM1.out.cell 1).trans rfl)
    | (go_at_call 102; refine (mount_in.calls _ _ _ _ _ e1).mono ?_; rintro e w' ⟨rfl, hd⟩; have HM2 := Aside0.mk (HM1.out.step hd.below); clear hd HM1 c1 c2; have c1 : w'.cell? ⟨g1, 0, none⟩ = some (.slice A0_0 l0_0.length c0_0) := (HM2.out.cell 0).trans rfl))
  clear c1
  go_loopg [22] l0_0.length (fun k v22 w' => ∃ (i : Nat), v22 = .int .i64 i ∧ Aside0 (i + k = l0_0.length) ∧ Aside0 (∀ j, j < i → partErr l0_0.length j (l0_0.getD j z57) = 0) ∧ Aside0 (Mem w w' [(g1, #[.slice A0_0 l0_0.length c0_0, .int .i64 a0_1], 49)]))
  case atStart => exact ⟨0, rfl, ⟨by omega⟩, ⟨fun j hj => absurd hj (by omega)⟩, HM2⟩
  case round =>
    clear HM2
    obtain ⟨i, rfl, HK, HP, HM⟩ := hrel
    by_cases hi : i < l0_0.length
    · obtain ⟨ad, A0, c0, A1, c1, e0, x0, x1, x2, x3, b0, h0, b1, h1⟩ := at57 HR.out i hi
      cases e0
      generalize hX : l0_0.getD i z57 = X at x0 x1 x2 x3 b0 h0 b1 h1
      have HXX := Aside0.mk hX
      have H0 := Aside0.mk h0
      have H1 := Aside0.mk h1
      clear hX h0 h1
      replace x0 := cell_later HM.out.below x0
      replace x1 := cell_later HM.out.below x1
      replace x2 := cell_later HM.out.below x2
      replace x3 := cell_later HM.out.below x3
      have hk1 : (0 : Int) ≤ (i : Int) := by omega
      have hk2 : (i : Int) < (l0_0.length : Int) := by omega
      have HIX : ∀ q, q < 2 → ∃ A c, Aside0 ((Kd.int .i64).C w A (listOf X q).length (listOf X q)) ∧ (#[Value.slice A0 X.f0.length c0, .slice A1 X.f1.length c1])[q]? = some (.slice A (listOf X q).length c) := by
        intro q hq
        rcases (by omega : q = 0 ∨ q = 1) with rfl | rfl
        · exact ⟨A0, c0, H0, rfl⟩
        · exact ⟨A1, c1, H1, rfl⟩
      have HIX := Aside0.mk HIX
      go_wp2_with (first
        | ((with_reducible refine gate_dst (N := 4) rfl ?_); refine ev_new HM.out rfl 57 rfl info57 ?_; intro g3 w3 hm3 hq1; have HM6 := Aside0.mk hm3; clear hm3 HM)
        | (refine ev_store HM6.out rfl 57 (.tmp 4) (.tmp 26) rfl rfl (cs := #[.slice A0 X.f0.length c0, .slice A1 X.f1.length c1, .int .i64 X.f2, .int .i64 X.f3]) rfl size57 rfl rfl (by simp [Value.oneCell']) ?_; intro w4 hm4 hq2; have HM7 := Aside0.mk hm4; clear hm4 HM6; have d0 : w4.cell? ⟨g3, 0, none⟩ = some (.slice A0 X.f0.length c0) := (HM7.out.cell 0).trans rfl; have d1 : w4.cell? ⟨g3, 1, none⟩ = some (.slice A1 X.f1.length c1) := (HM7.out.cell 1).trans rfl))
      go_loopg [32] 2 (fun k v32 w' => ∃ (q : Nat), v32 = .int .i64 q ∧ Aside0 (q + k = 2) ∧ Aside0 (∀ j, j < q → othersErr l0_0.length i (listOf X j) = 0) ∧ Aside0 (Mem w w' [(g3, #[.slice A0 X.f0.length c0, .slice A1 X.f1.length c1, .int .i64 X.f2, .int .i64 X.f3], 57), (g1, #[.slice (some ad) l0_0.length c0_0, .int .i64 a0_1], 49)]))
      case atStart => exact ⟨0, rfl, ⟨by omega⟩, ⟨fun j hj => absurd hj (by omega)⟩, HM7⟩
      case round =>
        obtain ⟨q, rfl, HK2, HQ, HM8⟩ := hrel
        by_cases hq : q < 2
        · obtain ⟨A, c, HC, hcell⟩ := HIX.out q hq
          have hq1 : (0 : Int) ≤ (q : Int) := by omega
          have hq2 : (q : Int) < 2 := by omega
          have hix := run_index_one (P := Try.prog) 142 22 2 #[Value.slice A0 X.f0.length c0, .slice A1 X.f1.length c1] q _ _ Try.underlying142 Try.underlying22 rfl size22 hq hcell
          clear hcell
          have HLQ := Aside0.mk (show listOf X q = listOf X q from rfl)
          generalize hL : listOf X q = L at hix HC
          have HL := Aside0.mk hL
          clear hL HLQ
          have hll : L.length ≤ 1000000 := by
            have := HH.out X (by rw [← HXX.out, List.getD_eq_getElem?_getD, List.getElem?_eq_getElem hi]; exact List.getElem_mem _)
            rw [← HL.out]; unfold listOf; split <;> omega
          go_wp2_with fail
          go_loopg [37] L.length (fun k v37 w' => ∃ (z : Nat), v37 = .int .i64 z ∧ Aside0 (z + k = L.length) ∧ Aside0 (∀ j, j < z → otherErr l0_0.length i L j = 0) ∧ Aside0 (Mem w w' [(g3, #[.slice A0 X.f0.length c0, .slice A1 X.f1.length c1, .int .i64 X.f2, .int .i64 X.f3], 57), (g1, #[.slice (some ad) l0_0.length c0_0, .int .i64 a0_1], 49)]))
          case atStart => exact ⟨0, rfl, ⟨by omega⟩, ⟨fun j hj => absurd hj (by omega)⟩, HM8⟩
          case round =>
            obtain ⟨z, rfl, HK3, HZ, HM9⟩ := hrel
            by_cases hz : z < L.length
            · obtain ⟨ad2, e2, y0⟩ := cell_int HC.out z hz
              cases e2
              replace y0 := cell_later HM9.out.below y0
              have d0 : wr.cell? ⟨g1, 0, none⟩ = some (.slice (some ad) l0_0.length c0_0) := (blk_cell HM9.out.second 0).trans rfl
              have z1 : (0 : Int) ≤ (z : Int) := by omega
              have z2 : (z : Int) < (L.length : Int) := by omega
              have HOE := Aside0.mk (show otherErr l0_0.length i L z = if L.getD z 0 < 0 ∨ (l0_0.length : Int) - 1 < L.getD z 0 then 7 else if L.getD z 0 = i then 9 else if 0 < z ∧ L.getD z 0 ≤ L.getD (z - 1) 0 then 11 else 0 from rfl)
              have HRES : Aside0 (otherErr l0_0.length i L z ≠ 0 → r = otherErr l0_0.length i L z) := ⟨fun hne => by
                have e1 : othersErr l0_0.length i L = otherErr l0_0.length i L z := firstErr_at hz HZ.out hne
                have e2 : firstErr (fun j => othersErr l0_0.length i (listOf X j)) 2 = otherErr l0_0.length i L z := by
                  rw [firstErr_at (e := fun j => othersErr l0_0.length i (listOf X j)) hq HQ.out (by rw [HL.out, e1]; exact hne), HL.out, e1]
                have e3 : partErr l0_0.length i (l0_0.getD i z57) = otherErr l0_0.length i L z := by
                  rw [HXX.out]; unfold partErr; rw [e2, if_pos hne]
                rw [HF3.out, firstErr_at (e := fun i => partErr l0_0.length i (l0_0.getD i z57)) hi HP.out (by rw [e3]; exact hne), e3]⟩
              generalize hY : L.getD z 0 = Y at y0 HOE
              have HY := Aside0.mk hY
              clear hY
              have w1 : IntKind.i64.wrap ((l0_0.length : Int) - 1) = (l0_0.length : Int) - 1 := IntWalk.i64_in _ (by omega)
              by_cases tin : 0 ≤ Y ∧ Y ≤ (l0_0.length : Int) - 1
              rotate_left
              · have e1 : mount_in.f Y 0 ((l0_0.length : Int) - 1) = some false := by rw [in_eq, decide_eq_false tin]
                have HV : Aside0 (r = 7) := ⟨by
                  have e : otherErr l0_0.length i L z = 7 := by rw [HOE.out, if_pos (by omega)]
                  rw [HRES.out (by rw [e]; decide), e]⟩
                clear tin HOE HRES
                go_wp2_with (first
                  | (go_at_call 102; refine (mount_in.calls _ _ _ _ _ e1).mono ?_; rintro e w' ⟨rfl, hd⟩; have HM2 := Aside0.mk (HM9.out.step hd.below); clear hd HM9))
                go_ret
                exact ⟨by rw [HV.out]; rfl, HM2.out.below⟩
              have e1 : mount_in.f Y 0 ((l0_0.length : Int) - 1) = some true := by rw [in_eq, decide_eq_true tin]
              rw [if_neg (by omega)] at HOE
              clear tin
              by_cases town : Y = (i : Int)
              · have town1 : (Y == (i : Int)) = true := by simpa using town
                have HV : Aside0 (r = 9) := ⟨by
                  have e : otherErr l0_0.length i L z = 9 := by rw [HOE.out, if_pos town]
                  rw [HRES.out (by rw [e]; decide), e]⟩
                clear town HOE HRES
                go_wp2_with (first
                  | (go_at_call 102; refine (mount_in.calls _ _ _ _ _ e1).mono ?_; rintro e w' ⟨rfl, hd⟩; have HM2 := Aside0.mk (HM9.out.step hd.below); clear hd HM9))
                go_ret
                exact ⟨by rw [HV.out]; rfl, HM2.out.below⟩
              have town1 : (Y == (i : Int)) = false := by simpa using town
              rw [if_neg town] at HOE
              clear town
              by_cases tz : 0 < z
              · have tz1 : decide ((z : Int) > 0) = true := decide_eq_true (by omega)
                have tz2 : decide (0 < z) = true := decide_eq_true tz
                obtain ⟨ad3, e3, y1⟩ := cell_int HC.out (z - 1) (by omega)
                cases e3
                replace y1 := cell_later HM9.out.below y1
                generalize hY1 : L.getD (z - 1) 0 = Y1 at y1 HOE
                have HY1 := Aside0.mk hY1
                clear hY1
                have w2 : IntKind.i64.wrap ((z : Int) - 1) = ((z - 1 : Nat) : Int) := (IntWalk.i64_in _ (by omega)).trans (by omega)
                have w3 : (0 : Int) ≤ ((z - 1 : Nat) : Int) := by omega
                have w4 : ((z - 1 : Nat) : Int) < (L.length : Int) := by omega
                by_cases tle : Y ≤ Y1
                · have to1 : decide (Y ≤ Y1) = true := decide_eq_true tle
                  have HV : Aside0 (r = 11) := ⟨by
                    have e : otherErr l0_0.length i L z = 11 := by rw [HOE.out, if_pos ⟨tz, tle⟩]
                    rw [HRES.out (by rw [e]; decide), e]⟩
                  clear tle HOE HRES
                  go_wp2_with (first
                    | (go_at_call 102; refine (mount_in.calls _ _ _ _ _ e1).mono ?_; rintro e w' ⟨rfl, hd⟩; have HM2 := Aside0.mk (HM9.out.step hd.below); replace y1 := cell_later hd.below y1; clear hd HM9))
                  go_ret
                  exact ⟨by rw [HV.out]; rfl, HM2.out.below⟩
                · have to1 : decide (Y ≤ Y1) = false := decide_eq_false tle
                  have HV : Aside0 (otherErr l0_0.length i L z = 0) := ⟨by rw [HOE.out, if_neg (fun q => tle q.2)]⟩
                  clear tle HOE HRES
                  go_wp2_with (first
                    | (go_at_call 102; refine (mount_in.calls _ _ _ _ _ e1).mono ?_; rintro e w' ⟨rfl, hd⟩; have HM2 := Aside0.mk (HM9.out.step hd.below); replace y1 := cell_later hd.below y1; clear hd HM9))
                  go_roundg (L.length - (z + 1))
                  case measure => have := HK3.out; omega
                  case rel => exact ⟨z + 1, by go_num, ⟨by omega⟩, ⟨fun j hj => by
                    by_cases qq : j = z
                    · subst qq; exact HV.out
                    · exact HZ.out j (by omega)⟩, HM2⟩
              · have tz1 : decide ((z : Int) > 0) = false := decide_eq_false (by omega)
                have tz2 : decide (0 < z) = false := decide_eq_false tz
                have HV : Aside0 (otherErr l0_0.length i L z = 0) := ⟨by rw [HOE.out, if_neg (fun q => tz q.1)]⟩
                clear HOE HRES
                go_wp2_with (first
                  | (go_at_call 102; refine (mount_in.calls _ _ _ _ _ e1).mono ?_; rintro e w' ⟨rfl, hd⟩; have HM2 := Aside0.mk (HM9.out.step hd.below); clear hd HM9))
                go_roundg (L.length - (z + 1))
                case measure => have := HK3.out; omega
                case rel => exact ⟨z + 1, by go_num, ⟨by omega⟩, ⟨fun j hj => by
                  by_cases qq : j = z
                  · subst qq; exact HV.out
                  · exact HZ.out j (by omega)⟩, HM2⟩
            · have HV : Aside0 (othersErr l0_0.length i (listOf X q) = 0) := ⟨by rw [HL.out]; exact firstErr_ok (fun j hj => HZ.out j (by omega))⟩
              go_wp2_with fail
              go_roundg (2 - (q + 1))
              case measure => have := HK2.out; omega
              case rel => exact ⟨q + 1, by go_num, ⟨by omega⟩, ⟨fun j hj => by
                by_cases qq : j = q
                · subst qq; exact HV.out
                · exact HQ.out j (by omega)⟩, HM9⟩
        · have d2 : wr.cell? ⟨g3, 2, none⟩ = some (.int .i64 X.f2) := (HM8.out.cell 2).trans rfl
          have d3 : wr.cell? ⟨g3, 3, none⟩ = some (.int .i64 X.f3) := (HM8.out.cell 3).trans rfl
          have HPE : Aside0 (partErr l0_0.length i (l0_0.getD i z57) = if X.f2 < 0 ∨ 8 < X.f2 ∨ X.f3 < 0 ∨ 10000 < X.f3 then 2 else 0) := ⟨by
            rw [HXX.out]; unfold partErr; rw [firstErr_ok (fun j hj => HQ.out j (by omega)), if_neg (by decide)]⟩
          have HRES : Aside0 (partErr l0_0.length i (l0_0.getD i z57) ≠ 0 → r = partErr l0_0.length i (l0_0.getD i z57)) := ⟨fun hne => by
            rw [HF3.out, firstErr_at (e := fun i => partErr l0_0.length i (l0_0.getD i z57)) hi HP.out hne]⟩
          generalize X.f2 = J at d2 HPE
          generalize X.f3 = T at d3 HPE
          by_cases tj : 0 ≤ J ∧ J ≤ 8
          · have ej : mount_in.f J 0 8 = some true := by rw [in_eq, decide_eq_true tj]
            by_cases tt : 0 ≤ T ∧ T ≤ 10000
            · have et : mount_in.f T 0 10000 = some true := by rw [in_eq, decide_eq_true tt]
              have HV : Aside0 (partErr l0_0.length i (l0_0.getD i z57) = 0) := ⟨by rw [HPE.out, if_neg (by omega)]⟩
              clear tj tt HPE HRES
              go_wp2_with (first
                | (go_at_call 102; refine (mount_in.calls _ _ _ _ _ ej).mono ?_; rintro e w' ⟨rfl, hd⟩; have HM2 := Aside0.mk (HM8.out.step hd.below); replace d3 := cell_later hd.below d3; clear hd HM8 ej)
                | (go_at_call 102; refine (mount_in.calls _ _ _ _ _ et).mono ?_; rintro e w' ⟨rfl, hd⟩; have HM3 := Aside0.mk (HM2.out.step hd.below); clear hd HM2))
              go_roundg (l0_0.length - (i + 1))
              case measure => have := HK.out; omega
              case rel => exact ⟨i + 1, by go_num, ⟨by omega⟩, ⟨fun j hj => by
                by_cases qq : j = i
                · subst qq; exact HV.out
                · exact HP.out j (by omega)⟩, ⟨HM3.out.drop⟩⟩
            · have et : mount_in.f T 0 10000 = some false := by rw [in_eq, decide_eq_false tt]
              have HV : Aside0 (r = 2) := ⟨by
                have e : partErr l0_0.length i (l0_0.getD i z57) = 2 := by rw [HPE.out, if_pos (by omega)]
                rw [HRES.out (by rw [e]; decide), e]⟩
              clear tj tt HPE HRES
              go_wp2_with (first
                | (go_at_call 102; refine (mount_in.calls _ _ _ _ _ ej).mono ?_; rintro e w' ⟨rfl, hd⟩; have HM2 := Aside0.mk (HM8.out.step hd.below); replace d3 := cell_later hd.below d3; clear hd HM8 ej)
                | (go_at_call 102; refine (mount_in.calls _ _ _ _ _ et).mono ?_; rintro e w' ⟨rfl, hd⟩; have HM3 := Aside0.mk (HM2.out.step hd.below); clear hd HM2))
              go_ret
              exact ⟨by rw [HV.out]; rfl, HM3.out.below⟩
          · have ej : mount_in.f J 0 8 = some false := by rw [in_eq, decide_eq_false tj]
            have HV : Aside0 (r = 2) := ⟨by
              have e : partErr l0_0.length i (l0_0.getD i z57) = 2 := by rw [HPE.out, if_pos (by omega)]
              rw [HRES.out (by rw [e]; decide), e]⟩
            clear tj HPE HRES
            go_wp2_with (first
              | (go_at_call 102; refine (mount_in.calls _ _ _ _ _ ej).mono ?_; rintro e w' ⟨rfl, hd⟩; have HM2 := Aside0.mk (HM8.out.step hd.below); clear hd HM8))
            go_ret
            exact ⟨by rw [HV.out]; rfl, HM2.out.below⟩
    · have HF4 : Aside0 (r = 0) := ⟨by rw [HF3.out]; exact firstErr_ok (fun j hj => HP.out j (by omega))⟩
      go_wp2_with fail
      go_ret
      exact ⟨by rw [HF4.out]; rfl, HM.out.below⟩
end Go.Proofs.Ytbcfphoheijmdaa.Print
end

section
/- What the Go function mount_set_with does, as a Lean function, and that its call does so. Printed by a program of this work out of the translation. -/
namespace Go.Proofs.Ytbcfphoheijmdaa.Print
open Go.RowKit Go.Proofs.YtbcfphoheijmdaaW.PrintWords Go.Proofs.YtbcfphoheijmdaaW.PrintLast Go.Proofs.YtbcfphoheijmdaaW.PrintMore
attribute [local go_sem] max2_int min2_int max_two min_two max_three min_three max_four min_four
set_option linter.unusedVariables false
set_option linter.unusedSimpArgs false

/-! ### mount_set_with: function 100 -/
def mount_set_with.f (a0 : Int) (a1 : Int) : Option (Int) := if 0 ≤ a1 then (some (Go.bits .or .u32 a0 (shl .u32 1 a1))) else (none)
set_option maxHeartbeats 8000000 in
set_option maxRecDepth 100000 in
theorem mount_set_with.calls (a0 : Int) (a1 : Int) (r : Int) (w : World) (h : mount_set_with.f a0 a1 = some r) :
  Calls Try.prog 100 #[.int .u32 a0, .int .i64 a1] w fun e w' => e = .returned (.int .u32 r) ∧ Drawn0 w w' := by
 have H : (if 0 ≤ a1 then (some (Go.bits .or .u32 a0 (shl .u32 1 a1))) else (none)) = some r := h
 clear h
 by_cases c3 : 0 ≤ a1
 ·rw [if_pos c3] at H
  have c3b0 := eq_true c3
  have c3b1 : decide (0 ≤ a1) = true := decide_eq_true c3
  clear c3
  obtain ⟨ji4, hji4⟩ : ∃ j_ : Int, (shl .u32 1 a1) = j_ := ⟨_, rfl⟩
  replace H : (some (Go.bits .or .u32 a0 (ji4))) = some r := by first | (rw [hji4] at H; exact H) | (simp only [hji4] at H ⊢; exact H)
  have hji4_ : (IntKind.u32.wrap (1 * 2 ^ min a1.toNat 32)) = ji4 := hji4
  have hji4z : a1 ≤ 32 → (IntKind.u32.wrap (1 * 2 ^ a1.toNat)) = ji4 := shl_small hji4
  have hji4u : (IntKind.u32.wrap (2 ^ min a1.toNat 32)) = ji4 := by have h_ := hji4_; rw [Int.one_mul] at h_; exact h_
  have hji4v : a1 ≤ 32 → (IntKind.u32.wrap (2 ^ a1.toNat)) = ji4 := fun hle_ => by have h_ := hji4z hle_; rw [Int.one_mul] at h_; exact h_
  obtain rfl := Option.some.inj H
  go_enter Try.func100, Try.ntmps100
  go_wp2
  go_ret
  exact ⟨by first | rfl | (simp; done) | (simp only [← hji4] <;> (first | rfl | simp)) | (simp [*]; done), by repeat (first | exact Drawn0.refl _ | apply Drawn0.step)⟩
 ·rw [if_neg c3] at H
  exact absurd H (by simp)

end Go.Proofs.Ytbcfphoheijmdaa.Print
end

section
/- What the Go function mount_setOf does, as a Lean function, and that its call does so. Printed by a program of this work out of the translation. -/
namespace Go.Proofs.Ytbcfphoheijmdaa.Print
open Go.RowKit Go.Proofs.YtbcfphoheijmdaaW.PrintWords Go.Proofs.YtbcfphoheijmdaaW.PrintLast Go.Proofs.YtbcfphoheijmdaaW.PrintMore
attribute [local go_sem] max2_int min2_int max_two min_two max_three min_three max_four min_four
set_option linter.unusedVariables false
set_option linter.unusedSimpArgs false

/-! ### mount_setOf: function 134 -/
def mount_setOf.l0 : Nat → Int → List Int → Int → Int → Option (Int)
 | 0, _, _, _, _ => none
 | k + 1, x3, x6, x7, x8 => if x8 < x7 then (if 0 ≤ x8 then (if x8 < (x6.length : Int) then ((mount_set_with.f x3 (rd x6 x8)).bind fun t111 => (mount_setOf.l0 k t111 x6 x7 (wrap64 (x8 + 1)))) else (none)) else (none)) else (some x3)
def mount_setOf.f (k : Nat) (l0 : List Int) : Option (Int) := mount_setOf.l0 k 0 l0 (l0.length : Int) 0
theorem mount_setOf.mono_l : ∀ k, (∀ y0 y1 y2 y3, LeO (mount_setOf.l0 k y0 y1 y2 y3) (mount_setOf.l0 (k + 1) y0 y1 y2 y3))
 | 0 => fun _ _ _ _ r h => by simp [mount_setOf.l0] at h
 | k + 1 => by
  have ih0 := mount_setOf.mono_l k
  ·intro y0 y1 y2 y3
   unfold mount_setOf.l0
   repeat' first
   | (with_reducible exact ih0 _ _ _ _)
   | (with_reducible exact LeO.refl _)
   | (with_reducible exact LeO.none _)
   | (with_reducible refine LeO.ite ?_ ?_)
   | (with_reducible refine LeO.bind ?_ (fun _ => ?_))
   | exact ih0 _ _ _ _
   | exact LeO.none _
   | refine LeO.ite ?_ ?_
   | refine LeO.bind ?_ (fun _ => ?_)
theorem mount_setOf.mono : ∀ a0 k, LeO (mount_setOf.f k a0) (mount_setOf.f (k + 1) a0) := by
 intro a0 k
 have ih0 := mount_setOf.mono_l k
 unfold mount_setOf.f
 repeat' first
   | (with_reducible exact ih0 _ _ _ _)
   | (with_reducible exact LeO.refl _)
   | (with_reducible exact LeO.none _)
   | (with_reducible refine LeO.ite ?_ ?_)
   | (with_reducible refine LeO.bind ?_ (fun _ => ?_))
   | exact ih0 _ _ _ _
   | exact LeO.none _
   | refine LeO.ite ?_ ?_
   | refine LeO.bind ?_ (fun _ => ?_)
set_option maxHeartbeats 8000000 in
set_option maxRecDepth 100000 in
theorem mount_setOf.calls (k : Nat) (A0 : Option Addr) (c0 : Nat) (l0 : List Int) (r : Int) (w : World) (hr0 : Kd.C (Kd.int .i64) w A0 l0.length l0) (hc0 : l0.length ≤ c0) (h : mount_setOf.f k l0 = some r) :
  Calls Try.prog 134 #[.slice A0 l0.length c0] w fun e w' => e = .returned (.int .u32 r) ∧ Drawn0 w w' := by
 have HR0 := Aside0.mk hr0
 have HC0 := Aside0.mk hc0
 clear hr0 hc0
 have H : (mount_setOf.l0 k 0 l0 (l0.length : Int) 0) = some r := h
 clear h
 have H' := Aside0.mk H
 clear H
 go_enter Try.func134, Try.ntmps134
 go_wp2
 go_loopg [3, 8] k (fun kq v3 v8 w' => ∃ (x3_1 : Int) (x8_1 : Int), v3 = .int .u32 x3_1 ∧ v8 = .int .i64 x8_1 ∧ Aside0 (mount_setOf.l0 kq x3_1 l0 (l0.length : Int) x8_1 = some r) ∧ Aside0 (kq ≤ k) ∧ Drawn0 w w')
 case atStart => exact ⟨(0), (0), (by first | rfl | (simp; done) | (simp [*]; done)), (by first | rfl | (simp; done) | (simp [*]; done)), H', ⟨Nat.le_refl _⟩, by repeat (first | exact Drawn0.refl _ | apply Drawn0.step)⟩
 case round =>
  clear H'
  try clear c1
  obtain ⟨x3_1, x8_1, rfl, rfl, HA, HK1, ⟨m1, rfl⟩⟩ := hrel
  cases gk with
  | zero => exact absurd HA.out (by simp [mount_setOf.l0])
  | succ k1 =>
   have H := HA.out
   clear HA
   simp only [mount_setOf.l0] at H
   by_cases c2 : x8_1 < (l0.length : Int)
   ·rw [if_pos c2] at H
    have c2b0 : decide (x8_1 < (l0.length : Int)) = true := decide_eq_true c2
    clear c2
    by_cases c3 : 0 ≤ x8_1
    ·rw [if_pos c3] at H
     have c3b0 : decide (0 ≤ x8_1) = true := decide_eq_true c3
     clear c3
     by_cases c4 : x8_1 < (l0.length : Int)
     ·rw [if_pos c4] at H
      have c4b0 : decide (x8_1 < (l0.length : Int)) = true := decide_eq_true c4
      clear c4
      replace H := Option.bind_eq_some_iff.mp H
      obtain ⟨t111, A50, H⟩ := H
      replace H : (mount_setOf.l0 k1 t111 l0 (l0.length : Int) (wrap64 (x8_1 + 1))) = some r := H
      have A5 := Aside0.mk A50
      clear A50
      have H' := Aside0.mk H
      clear H
      have p110 : 0 ≤ (x8_1 : Int) := of_decide_eq_true (by first | (with_reducible assumption) | assumption)
      have q110 : x8_1 < (l0.length : Int) := of_decide_eq_true (by first | (with_reducible assumption) | assumption)
      obtain ⟨ad110, e110, hx110_0⟩ := Kd.at_int HR0.out x8_1 p110 q110
      cases e110
      replace p110 := eq_true p110
      replace q110 := eq_true q110
      go_wp2_with (first | ((with_reducible refine gate_callee (f := 100) rfl ?_); refine goesL_ (some 14) rfl rfl Try.func100 (by kernel_rfl) rfl #[.int .u32 x3_1, .int .i64 (rd l0 x8_1)] rfl (by (try simp only [List.map_toArray, List.map_cons, List.map_nil]); first | done | rfl | (simp only [List.length_drop, List.length_take]; rfl)) ?_; (with_reducible refine (mount_set_with.calls x3_1 (rd l0 x8_1) t111 _ A5.out).mono ?_); rintro e w' ⟨rfl, ⟨nd, rfl⟩⟩; refine ⟨_, rfl, ?_⟩))
      go_roundg k1
      case measure => have := HK1.out; omega
      case rel => exact ⟨(t111), (wrap64 (x8_1 + 1)), (by first | rfl | (simp; done) | (simp [*]; done)), (by first | rfl | (simp; done) | (simp [*]; done)), H', ⟨by have := HK1.out; omega⟩, by repeat (first | exact Drawn0.refl _ | apply Drawn0.step)⟩
     ·rw [if_neg c4] at H
      exact absurd H (by simp)
    ·rw [if_neg c3] at H
     exact absurd H (by simp)
   ·rw [if_neg c2] at H
    have c2b0 : decide (x8_1 < (l0.length : Int)) = false := decide_eq_false c2
    clear c2
    obtain rfl := Option.some.inj H
    go_wp2
    go_ret
    exact ⟨by first | rfl | (simp; done) | (simp [*]; done), by repeat (first | exact Drawn0.refl _ | apply Drawn0.step)⟩

end Go.Proofs.Ytbcfphoheijmdaa.Print
end

section
/- What the Go function mount_set_has does, as a Lean function, and that its call does so. Printed by a program of this work out of the translation. -/
namespace Go.Proofs.Ytbcfphoheijmdaa.Print
open Go.RowKit Go.Proofs.YtbcfphoheijmdaaW.PrintWords Go.Proofs.YtbcfphoheijmdaaW.PrintLast Go.Proofs.YtbcfphoheijmdaaW.PrintMore
attribute [local go_sem] max2_int min2_int max_two min_two max_three min_three max_four min_four
set_option linter.unusedVariables false
set_option linter.unusedSimpArgs false

/-! ### mount_set_has: function 135 -/
def mount_set_has.f (a0 : Int) (a1 : Int) : Option (Bool) := if 0 ≤ a1 then (some ((Go.bits .and .u32 (shr .u32 a0 a1) 1) == 1)) else (none)
set_option maxHeartbeats 8000000 in
set_option maxRecDepth 100000 in
theorem mount_set_has.calls (a0 : Int) (a1 : Int) (r : Bool) (w : World) (h : mount_set_has.f a0 a1 = some r) :
  Calls Try.prog 135 #[.int .u32 a0, .int .i64 a1] w fun e w' => e = .returned (.bool r) ∧ Drawn0 w w' := by
 have H : (if 0 ≤ a1 then (some ((Go.bits .and .u32 (shr .u32 a0 a1) 1) == 1)) else (none)) = some r := h
 clear h
 by_cases c3 : 0 ≤ a1
 ·rw [if_pos c3] at H
  have c3b0 := eq_true c3
  have c3b1 : decide (0 ≤ a1) = true := decide_eq_true c3
  clear c3
  obtain ⟨ji4, hji4⟩ : ∃ j_ : Int, (shr .u32 a0 a1) = j_ := ⟨_, rfl⟩
  replace H : (some ((Go.bits .and .u32 (ji4) 1) == 1)) = some r := by first | (rw [hji4] at H; exact H) | (simp only [hji4] at H ⊢; exact H)
  have hji4_ : (a0 / 2 ^ min a1.toNat 32) = ji4 := hji4
  have hji4z : a1 ≤ 32 → (a0 / 2 ^ a1.toNat) = ji4 := shr_small hji4
  obtain rfl := Option.some.inj H
  go_enter Try.func135, Try.ntmps135
  go_wp2
  go_ret
  exact ⟨by first | rfl | (simp; done) | (simp only [← hji4] <;> (first | rfl | simp)) | (simp [*]; done), by repeat (first | exact Drawn0.refl _ | apply Drawn0.step)⟩
 ·rw [if_neg c3] at H
  exact absurd H (by simp)

end Go.Proofs.Ytbcfphoheijmdaa.Print
end

section
/- What the Go function thermionref04_in does, as a Lean function, and that its call does so. Printed by a program of this work out of the translation. -/
namespace Go.Proofs.Ytbcfphoheijmdaa.Print
open Go.RowKit Go.Proofs.YtbcfphoheijmdaaW.PrintWords Go.Proofs.YtbcfphoheijmdaaW.PrintLast Go.Proofs.YtbcfphoheijmdaaW.PrintMore
attribute [local go_sem] max2_int min2_int max_two min_two max_three min_three max_four min_four
set_option linter.unusedVariables false
set_option linter.unusedSimpArgs false

/-! ### thermionref04_in: function 136 -/
def thermionref04_in.f (a0 : Int) (a1 : Int) : Option (Bool) := if 0 ≤ a1 then (some ((Go.bits .and .i64 (shr .i64 a0 a1) 1) == 1)) else (none)
set_option maxHeartbeats 8000000 in
set_option maxRecDepth 100000 in
theorem thermionref04_in.calls (a0 : Int) (a1 : Int) (r : Bool) (w : World) (h : thermionref04_in.f a0 a1 = some r) :
  Calls Try.prog 136 #[.int .i64 a0, .int .i64 a1] w fun e w' => e = .returned (.bool r) ∧ Drawn0 w w' := by
 have H : (if 0 ≤ a1 then (some ((Go.bits .and .i64 (shr .i64 a0 a1) 1) == 1)) else (none)) = some r := h
 clear h
 by_cases c3 : 0 ≤ a1
 ·rw [if_pos c3] at H
  have c3b0 := eq_true c3
  have c3b1 : decide (0 ≤ a1) = true := decide_eq_true c3
  clear c3
  obtain ⟨ji4, hji4⟩ : ∃ j_ : Int, (shr .i64 a0 a1) = j_ := ⟨_, rfl⟩
  replace H : (some ((Go.bits .and .i64 (ji4) 1) == 1)) = some r := by first | (rw [hji4] at H; exact H) | (simp only [hji4] at H ⊢; exact H)
  have hji4_ : (a0 / 2 ^ min a1.toNat 64) = ji4 := hji4
  have hji4z : a1 ≤ 64 → (a0 / 2 ^ a1.toNat) = ji4 := shr_small hji4
  obtain rfl := Option.some.inj H
  go_enter Try.func136, Try.ntmps136
  go_wp2
  go_ret
  exact ⟨by first | rfl | (simp; done) | (simp only [← hji4] <;> (first | rfl | simp)) | (simp [*]; done), by repeat (first | exact Drawn0.refl _ | apply Drawn0.step)⟩
 ·rw [if_neg c3] at H
  exact absurd H (by simp)

end Go.Proofs.Ytbcfphoheijmdaa.Print
end

section
/- Sets of parts as bits of a natural number: what the program's operations on them come to. -/
namespace Go.Proofs.Ytbcfphoheijmdaa.Print
open Go.RowKit Go.Proofs.YtbcfphoheijmdaaW.PrintWords Go.Proofs.YtbcfphoheijmdaaW.PrintLast Go.Proofs.YtbcfphoheijmdaaW.PrintMore Go.Proofs.Ytbcfphoheijmdaa.H
set_option linter.unusedVariables false
set_option linter.unusedSimpArgs false

theorem wrap_u32 {a : Nat} (h : a < 2 ^ 32) : IntKind.u32.wrap (a : Int) = (a : Int) := by
  simp [IntKind.wrap, IntKind.signed, IntKind.bits]
  omega
theorem ofInt_u32 (a : Nat) : (BitVec.ofInt IntKind.u32.bits (a : Int)).toNat = a % 2 ^ 32 := by
  rw [BitVec.toNat_ofInt]
  show ((a : Int) % ((2 ^ 32 : Nat) : Int)).toNat = _
  omega
theorem and_u32 {a b : Nat} (ha : a < 2 ^ 32) (hb : b < 2 ^ 32) : Go.bits .and .u32 (a : Int) (b : Int) = ((a &&& b : Nat) : Int) := by
  unfold Go.bits
  simp only
  rw [BitVec.toNat_and, ofInt_u32, ofInt_u32, Nat.mod_eq_of_lt ha, Nat.mod_eq_of_lt hb]
  exact wrap_u32 (Nat.lt_of_le_of_lt Nat.and_le_left ha)
theorem or_u32 {a b : Nat} (ha : a < 2 ^ 32) (hb : b < 2 ^ 32) : Go.bits .or .u32 (a : Int) (b : Int) = ((a ||| b : Nat) : Int) := by
  unfold Go.bits
  simp only
  rw [BitVec.toNat_or, ofInt_u32, ofInt_u32, Nat.mod_eq_of_lt ha, Nat.mod_eq_of_lt hb]
  exact wrap_u32 (Nat.or_lt_two_pow ha hb)
theorem shl_u32 {p : Nat} (hp : p < 32) : shl .u32 1 (p : Int) = ((2 ^ p : Nat) : Int) := by
  have h2 : (2 : Nat) ^ p < 2 ^ 32 := Nat.pow_lt_pow_right (by omega) hp
  have e : min ((p : Int).toNat) 32 = p := by omega
  show IntKind.u32.wrap (1 * 2 ^ min ((p : Int).toNat) 32) = _
  rw [e, Int.one_mul]
  have := wrap_u32 h2
  rw [Int.natCast_pow] at this ⊢
  exact this
theorem with_u32 {s p : Nat} (hs : s < 2 ^ 32) (hp : p < 32) : mount_set_with.f (s : Int) (p : Int) = some ((s ||| 2 ^ p : Nat) : Int) := by
  have h2 : (2 : Nat) ^ p < 2 ^ 32 := Nat.pow_lt_pow_right (by omega) hp
  unfold mount_set_with.f
  rw [if_pos (by omega), shl_u32 hp, or_u32 hs h2]
theorem shr_u32 {s p : Nat} (hp : p < 32) : shr .u32 (s : Int) (p : Int) = ((s / 2 ^ p : Nat) : Int) := by
  show (s : Int) / 2 ^ min ((p : Int).toNat) 32 = _
  have e : min ((p : Int).toNat) 32 = p := by omega
  rw [e, Int.natCast_ediv, Int.natCast_pow]
  rfl
theorem has_u32 {s p : Nat} (hs : s < 2 ^ 32) (hp : p < 32) : mount_set_has.f (s : Int) (p : Int) = some (s.testBit p) := by
  unfold mount_set_has.f
  rw [if_pos (by omega), shr_u32 hp]
  have h1 : s / 2 ^ p < 2 ^ 32 := Nat.lt_of_le_of_lt (Nat.div_le_self _ _) hs
  have := and_u32 h1 (b := 1) (by omega)
  rw [show ((1 : Nat) : Int) = 1 from rfl] at this
  rw [this, Nat.testBit_eq_decide_div_mod_eq]
  rw [Nat.and_one_is_mod]
  congr 1
  by_cases q : s / 2 ^ p % 2 = 1
  · rw [q]; simp
  · rw [decide_eq_false q]
    have : s / 2 ^ p % 2 = 0 := by omega
    rw [this]; rfl
/-- The set of some parts. -/
def setN (l : List Int) : Nat := l.foldl (fun s p => s ||| 2 ^ p.toNat) 0
theorem setN_lt {n : Nat} (l : List Int) (h : ∀ p, p ∈ l → 0 ≤ p ∧ p < n) : setN l < 2 ^ n := by
  have : ∀ (l : List Int) (s : Nat), s < 2 ^ n → (∀ p, p ∈ l → 0 ≤ p ∧ p < n) → l.foldl (fun s p => s ||| 2 ^ p.toNat) s < 2 ^ n := by
    intro l
    induction l with
    | nil => intro s hs _; exact hs
    | cons a l ih =>
      intro s hs h
      refine ih _ (Nat.or_lt_two_pow hs (Nat.pow_lt_pow_right (by omega) (by have := h a (by simp); omega))) (fun p hp => h p (by simp [hp]))
  exact this l 0 (Nat.two_pow_pos n) h
theorem testBit_with (s p q : Nat) : (s ||| 2 ^ p).testBit q = (s.testBit q || decide (p = q)) := by
  rw [Nat.testBit_or, Nat.testBit_two_pow]
theorem testBit_setN (l : List Int) (q : Nat) (h : ∀ p, p ∈ l → 0 ≤ p) : (setN l).testBit q = decide ((q : Int) ∈ l) := by
  have : ∀ (l : List Int) (s : Nat), (∀ p, p ∈ l → 0 ≤ p) → (l.foldl (fun s p => s ||| 2 ^ p.toNat) s).testBit q = (s.testBit q || decide ((q : Int) ∈ l)) := by
    intro l
    induction l with
    | nil => intro s _; simp
    | cons a l ih =>
      intro s h
      rw [List.foldl_cons, ih _ (fun p hp => h p (by simp [hp])), testBit_with, Bool.or_assoc]
      congr 1
      have h0 := h a (by simp)
      by_cases e : a = (q : Int)
      · subst e; simp
      · have e1 : ¬ a.toNat = q := by omega
        have e2 : ¬ (q : Int) = a := fun z => e z.symm
        simp [e1, e2]
  have := this l 0 h
  simpa [setN] using this
theorem setOf_at (l : List Int) (h : ∀ p, p ∈ l → 0 ≤ p ∧ p < 32) (hl : l.length ≤ 2 ^ 62) : ∀ (k i s : Nat), i + k = l.length + 1 → 0 < k → s < 2 ^ 32 → mount_setOf.l0 k (s : Int) l (l.length : Int) (i : Int) = some (((l.drop i).foldl (fun s p => s ||| 2 ^ p.toNat) s : Nat) : Int) := by
  intro k
  induction k with
  | zero => intro i s _ h0 _; omega
  | succ k ih =>
    intro i s hk _ hs
    unfold mount_setOf.l0
    by_cases hi : i < l.length
    · have e0 : rd l (i : Int) = l[i] := by simp [rd, hi]
      have hp := h l[i] (List.getElem_mem _)
      obtain ⟨p, hpe⟩ : ∃ p : Nat, l[i] = (p : Int) := ⟨l[i].toNat, by omega⟩
      rw [if_pos (by omega), if_pos (by omega), if_pos (by omega), e0, hpe, with_u32 hs (by omega)]
      have hw : wrap64 ((i : Int) + 1) = ((i + 1 : Nat) : Int) := by unfold wrap64; omega
      simp only [Option.bind_some]
      rw [hw, ih (i + 1) _ (by omega) (by omega) (Nat.or_lt_two_pow hs (Nat.pow_lt_pow_right (by omega) (by omega))), List.drop_eq_getElem_cons hi, List.foldl_cons, hpe]
      rfl
    · rw [if_neg (by omega), List.drop_eq_nil_of_le (by omega)]
      rfl
theorem setOf_eq (l : List Int) (h : ∀ p, p ∈ l → 0 ≤ p ∧ p < 32) (hl : l.length ≤ 2 ^ 62) : mount_setOf.f (l.length + 1) l = some ((setN l : Nat) : Int) :=
  setOf_at l h hl (l.length + 1) 0 0 (by omega) (by omega) (by omega)
end Go.Proofs.Ytbcfphoheijmdaa.Print
end

section
/- Rows of rows that a call makes itself: each inner row with blocks of its own, the outer row's block known whole. -/
namespace Go.Proofs.Ytbcfphoheijmdaa.H
open Go.RowKit Go.Proofs.YtbcfphoheijmdaaW.PrintWords Go.Proofs.YtbcfphoheijmdaaW.PrintLast Go.Proofs.YtbcfphoheijmdaaW.PrintMore
set_option linter.unusedVariables false
set_option linter.unusedSimpArgs false

/-- The rows xs (elements of type e, told by d) are held by the values vs; row j's blocks are those k with f k = j; none is go. -/
def RowsAt {α : Type} (d : Kd α) (e : Nat) (W : World) (base go : Nat) (f : Nat → Nat) (vs : List Value) (xs : List (List α)) : Prop :=
  vs.length = xs.length ∧ ∀ j, j < xs.length → d.R e W base (fun k => f k = j ∧ k ≠ go) (vs.getD j undef) (xs.getD j [])
namespace RowsAt
variable {α : Type} {d : Kd α} {e E2 : Nat} {W W1 : World} {base go : Nat} {f g : Nat → Nat} {vs : List Value} {xs : List (List α)}
theorem start (d : Kd α) (e : Nat) (W : World) (base go n : Nat) (f : Nat → Nat) : RowsAt d e W base go f (List.replicate n (.slice none 0 0)) (List.replicate n []) := by
  refine ⟨by simp, fun j hj => ?_⟩
  rw [List.length_replicate] at hj
  have h1 : (List.replicate n (Value.slice none 0 0)).getD j undef = .slice none 0 0 := by simp [List.getD_eq_getElem?_getD, hj]
  have h2 : (List.replicate n ([] : List α)).getD j [] = [] := by simp [List.getD_eq_getElem?_getD, hj]
  rw [h1, h2]
  exact Kd.R_nil _ _ _ _ _
theorem below (h : RowsAt d e W base go f vs xs) (hb : Below W.heap.size W W1) : RowsAt d e W1 base go f vs xs :=
  ⟨h.1, fun j hj => Kd.R_below (h.2 j hj) hb⟩
/-- Blocks that are not there yet may be given to whom one likes. -/
theorem owner (h : RowsAt d e W base go f vs xs) (hg : ∀ k, k < W.heap.size → g k = f k) : RowsAt d e W base go g vs xs :=
  ⟨h.1, fun j hj => Kd.R_mono (Kd.R_bound (h.2 j hj)) (fun k hk => ⟨by rw [hg k hk.2.2.1]; exact hk.1.1, hk.1.2⟩)⟩
/-- A cell of the outer row's block has been written. -/
theorem far (h : RowsAt d e W base go f vs xs) (i : Nat) (u : Value) : RowsAt d e (W.setCell ⟨go, i, none⟩ u) base go f vs xs :=
  ⟨h.1, fun j hj => Kd.R_far (p := ⟨go, i, none⟩) (h.2 j hj) (fun k hk => hk.2) u⟩
/-- Row a has been written (appended to): the others stand. -/
theorem put {a : Nat} {v v1 : Value} {x1 : List α} (h : RowsAt d e W base go f vs xs) (ha : a < xs.length) (hv : vs.getD a undef = v) (hg : W.grownBy W1 v.ownBlock)
    (h1 : d.R e W1 base (fun k => f k = a ∧ k ≠ go) v1 x1) : RowsAt d e W1 base go f (vs.set a v1) (xs.set a x1) := by
  refine ⟨by simp [h.1], fun j hj => ?_⟩
  rw [List.length_set] at hj
  by_cases q : j = a
  · subst q
    have e1 : (vs.set j v1).getD j undef = v1 := by simp [List.getD_eq_getElem?_getD, h.1, hj]
    have e2 : (xs.set j x1).getD j [] = x1 := by simp [List.getD_eq_getElem?_getD, hj]
    rw [e1, e2]
    exact h1
  · have e1 : (vs.set a v1).getD j undef = vs.getD j undef := by simp [List.getD_eq_getElem?_getD, List.getElem?_set, Ne.symm q]
    have e2 : (xs.set a x1).getD j [] = xs.getD j [] := by simp [List.getD_eq_getElem?_getD, List.getElem?_set, Ne.symm q]
    rw [e1, e2]
    refine Kd.R_grown (h.2 j hj) hg (fun k hk he => ?_)
    have := ((h.2 a ha).1 k (by rw [hv]; exact he.symm)).1
    exact q (hk.1.symm.trans this)
/-- The whole, as the print tells it. -/
theorem whole (h : RowsAt d e W base go f vs xs) (hb : W.heap[go]? = some (.cells vs.toArray E2 (0, 0))) (hgo : base ≤ go) (hn : xs.length ≤ maxLen) :
    Kd.S (Kd.slice e d) E2 W base (fun _ => True) (.slice (some ⟨go, 0, none⟩) xs.length xs.length) xs := by
  refine ⟨f, fun _ _ => trivial, vs, ?_, ?_⟩
  · refine ⟨by rw [List.length_zipIdx]; show _ = _ * 1; rw [h.1]; omega, .inr ⟨go, xs.length, vs.toArray, by rw [List.length_zipIdx], hgo, hb, by rw [List.length_zipIdx]; exact Nat.le_refl _, hn, ?_, ?_⟩⟩
    · show vs.toArray.size = xs.length * 1
      simp [h.1]
    · rw [List.length_zipIdx]
      show vs.toArray.toList.take (xs.length * 1) = vs
      rw [Nat.mul_one, ← h.1]
      simp
  · refine ⟨by rw [List.length_zipIdx]; show _ = _ * 1; rw [h.1]; omega, fun j p hj => ?_⟩
    rw [List.getElem?_zipIdx, Nat.zero_add] at hj
    obtain ⟨x, hx, rfl⟩ := Option.map_eq_some_iff.1 hj
    have hjl : j < xs.length := (List.getElem?_eq_some_iff.1 hx).1
    have hR := h.2 j hjl
    have e2 : xs.getD j [] = x := by rw [List.getD_eq_getElem?_getD, hx]; rfl
    rw [e2] at hR
    refine ⟨vs.getD j undef, ?_, Kd.R_mono hR (fun k hk => ⟨⟨trivial, fun he => hk.2 (by simpa [Value.ownBlock] using he)⟩, hk.1⟩)⟩
    show (vs.drop (j * 1)).take 1 = _
    rw [Nat.mul_one]
    have hv : j < vs.length := by rw [h.1]; exact hjl
    rw [List.drop_eq_getElem_cons hv, List.take_succ_cons, List.take_zero, List.getD_eq_getElem?_getD, List.getElem?_eq_getElem hv]
    rfl
end RowsAt
end Go.Proofs.Ytbcfphoheijmdaa.H
namespace Go.Proofs.Ytbcfphoheijmdaa.H
open Go.RowKit Go.Proofs.YtbcfphoheijmdaaW.PrintWords Go.Proofs.YtbcfphoheijmdaaW.PrintLast Go.Proofs.YtbcfphoheijmdaaW.PrintMore
theorem Mem.grownR {w W W1 : World} {l : List (Nat × Array Value × TypeId)} {α : Type} {d : Kd α} {e : Nat} {ok : Nat → Prop} {v : Value} {xs : List α} (h : Mem w W l) (hR : d.R e W w.heap.size ok v xs) (hg : W.grownBy W1 v.ownBlock) (ht : ∀ p, p ∈ l → e ≠ p.2.2) : Mem w W1 l :=
  h.grown hg (Kd.R_base hR) (fun p hp => Kd.R_ne hR (h.blk p hp) (ht p hp))
theorem made_one (z : Value) (hz : z.cells = #[z]) : ∀ n, (madeCells z.cells (n * 1)).toList = List.replicate n z := by
  intro n
  rw [hz, Nat.mul_one]
  exact toList_madeCells_one z n
section
variable {P : Program} {ops : Array Oper} {rest : List Oper} {o : Oper} {a : Act} {Q : Exit → Act → World → Prop} {w W : World} {l : List (Nat × Array Value × TypeId)}
/-- make([]T, n), T of one cell: a block of n zeros. -/
theorem ev_make (hm : Mem w W l) (hgd : o.guard = none) (t : TypeId) (x : Operand) (ho : o.op = .makeSlice t x x) (n : Nat) (hx : a.eval x = .int .i64 (n : Int)) (e : TypeId) (z : Value) (bytes : Nat)
    (ht : P.underlying t = some (.slice e)) (hi : (P.info? e).map (fun i => (i.zero, i.size, i.bytes)) = some (some z, 1, bytes)) (hz : z.cells = #[z]) (hb : bytes * n ≤ 281474976710656) (hn : n ≤ maxLen)
    (h : ∀ g W1, Mem w W1 ((g, (List.replicate n z).toArray, e) :: l) → Below W.heap.size W W1 → wpList P ops Q rest (a.put o.dst (.slice (some ⟨g, 0, none⟩) n n)) W1) : wpList P ops Q (o :: rest) a W := by
  obtain ⟨i, hi1, hi2, hi3, hi4⟩ := info_parts hi
  refine wpList_make_full W hgd x x t ho W.heap.size e i z 1 ht hi1 hi2 hi3 .i64 .i64 _ _ n hx hx rfl rfl (by rw [hi4]; exact hb) hn (Nat.le_refl _) ?_
  intro W1 hown hg
  have hbl : Below W.heap.size W W1 := ⟨hg.os, hg.tape, hg.output, hg.size, fun i hi => hg.block i hi (by simp)⟩
  rcases hown.2 with ⟨h1, _⟩ | ⟨g, cap, cur, h1, h2, h3, h4, h5, h6, h7⟩
  · cases h1
  · injection h1 with ha hn' hc
    injection ha with ha
    injection ha with ha
    subst ha
    subst hc
    rw [made_one z hz] at h7
    have hcur : cur = (List.replicate n z).toArray := by
      rw [← h7, List.take_of_length_le (by simp [h6])]
    rw [hcur] at h3
    exact h _ W1 (hm.new rfl h3 hbl) hbl
end
end Go.Proofs.Ytbcfphoheijmdaa.H
end

section
/- The work of a kit in memory, and the parts that may go in: what they are, and that the Go function's call gives them. -/
namespace Go.Proofs.Ytbcfphoheijmdaa.Print
open Go.RowKit Go.Proofs.YtbcfphoheijmdaaW.PrintWords Go.Proofs.YtbcfphoheijmdaaW.PrintLast Go.Proofs.YtbcfphoheijmdaaW.PrintMore Go.Proofs.Ytbcfphoheijmdaa.H
attribute [local go_sem] max2_int min2_int max_two min_two max_three min_three max_four min_four
attribute [local go_sem ↓] Go.wp_at_zero Go.wp_at_succ
set_option linter.unusedVariables false
set_option linter.unusedSimpArgs false

def needsN (L : List S57) (p : Nat) : Nat := setN (L.getD p z57).f0
def barsN (L : List S57) (p : Nat) : Nat := setN (L.getD p z57).f1
/-- May part p go into state s? -/
def canGo (L : List S57) (s p : Nat) : Bool := !(s.testBit p) && (s &&& needsN L p == needsN L p) && (s &&& barsN L p == 0)
def partsTo (L : List S57) (s : Nat) (is : Nat → Bool) (i : Nat) : List Nat := (List.range i).filter (fun p => canGo L s p && is p)
def partsOf (L : List S57) (s : Nat) (is : Nat → Bool) : List Nat := partsTo L s is L.length
def ints (l : List Nat) : List Int := l.map (fun (p : Nat) => (p : Int))
theorem partsTo_next (L : List S57) (s : Nat) (is : Nat → Bool) (i : Nat) : partsTo L s is (i + 1) = partsTo L s is i ++ (if canGo L s i && is i then [i] else []) := by
  unfold partsTo
  rw [List.range_succ, List.filter_append]
  congr 1
  rw [List.filter_cons, List.filter_nil]
theorem partsTo_length (L : List S57) (s : Nat) (is : Nat → Bool) (i : Nat) : (partsTo L s is i).length ≤ i := by
  unfold partsTo
  exact Nat.le_trans (List.length_filter_le _ _) (by simp)
/-- The sets of the first i parts. -/
def setsTo (L : List S57) (f : S57 → List Int) (i : Nat) : List Int := (List.range i).map (fun p => ((setN (f (L.getD p z57)) : Nat) : Int))
/-- A kit that is valid enough for its work. -/
structure Fine (L : List S57) : Prop where
  short : L.length ≤ 14
  needs : ∀ p, p < L.length → ∀ x, x ∈ (L.getD p z57).f0 → 0 ≤ x ∧ x < L.length
  bars : ∀ p, p < L.length → ∀ x, x ∈ (L.getD p z57).f1 → 0 ≤ x ∧ x < L.length
theorem Fine.needs_lt {L : List S57} (h : Fine L) {p : Nat} (hp : p < L.length) : needsN L p < 2 ^ L.length := setN_lt _ (fun x hx => h.needs p hp x hx)
theorem Fine.bars_lt {L : List S57} (h : Fine L) {p : Nat} (hp : p < L.length) : barsN L p < 2 ^ L.length := setN_lt _ (fun x hx => h.bars p hp x hx)
theorem Fine.small {L : List S57} (h : Fine L) : 2 ^ L.length ≤ 2 ^ 14 := Nat.pow_le_pow_right (by omega) h.short
/-- The work of a kit, at block wb; its map is at block mb. -/
structure Work (w0 W : World) (wb mb : Nat) (L : List S57) (c : Int) (A0 : Option Addr) (c0 : Nat) (vn vb : Value) : Prop where
  blk : W.heap[wb]? = some (.cells #[.slice A0 L.length c0, .int .i64 c, vn, vb, .int .u32 ((2 ^ L.length - 1 : Nat) : Int), .map (some mb)] 158 (0, 0))
  needs : (Kd.int .u32).R 133 W w0.heap.size (fun k => k ≠ wb ∧ k ≠ mb) vn (setsTo L S57.f0 L.length)
  bars : (Kd.int .u32).R 133 W w0.heap.size (fun k => k ≠ wb ∧ k ≠ mb) vb (setsTo L S57.f1 L.length)
  ne : wb ≠ mb
  gew : w0.heap.size ≤ wb
  gem : w0.heap.size ≤ mb
  below : Below w0.heap.size w0 W
namespace Work
variable {w0 W W1 : World} {wb mb : Nat} {L : List S57} {c : Int} {A0 : Option Addr} {c0 : Nat} {vn vb : Value}
theorem grown (h : Work w0 W wb mb L c A0 c0 vn vb) (hg : W.grownBy W1 (some mb)) : Work w0 W1 wb mb L c A0 c0 vn vb :=
  ⟨blk_grown h.blk hg (by intro e; exact h.ne (Option.some.inj e)), Kd.R_grown h.needs hg (fun k hk e => hk.2 (Option.some.inj e)), Kd.R_grown h.bars hg (fun k hk e => hk.2 (Option.some.inj e)), h.ne, h.gew, h.gem, h.below.grown hg h.below.size (fun k hk => by rw [← Option.some.inj hk]; exact h.gem)⟩
theorem later (h : Work w0 W wb mb L c A0 c0 vn vb) (hb : Below W.heap.size W W1) : Work w0 W1 wb mb L c A0 c0 vn vb :=
  ⟨blk_below h.blk hb, Kd.R_below h.needs hb, Kd.R_below h.bars hb, h.ne, h.gew, h.gem, below_step h.below hb⟩
theorem lt (h : Work w0 W wb mb L c A0 c0 vn vb) : wb < W.heap.size := blk_lt h.blk
/-- The cells that the work of a part reads. -/
theorem at_ (h : Work w0 W wb mb L c A0 c0 vn vb) {p : Nat} (hp : p < L.length) : ∃ an cn ab cb, vn = .slice (some an) L.length cn ∧ vb = .slice (some ab) L.length cb ∧ W.cell? (an.add p) = some (.int .u32 ((needsN L p : Nat) : Int)) ∧ W.cell? (ab.add p) = some (.int .u32 ((barsN L p : Nat) : Int)) := by
  have key : ∀ (v : Value) (f : S57 → List Int), (Kd.int .u32).R 133 W w0.heap.size (fun k => k ≠ wb ∧ k ≠ mb) v (setsTo L f L.length) → ∃ a cc, v = .slice (some a) L.length cc ∧ W.cell? (a.add p) = some (.int .u32 ((setN (f (L.getD p z57)) : Nat) : Int)) := by
    intro v f hR
    obtain ⟨A, cc, he, hl, hC⟩ := Kd.R_reads hR
    have e1 : (setsTo L f L.length).length = L.length := by simp [setsTo]
    have := Kd.at_int hC (p : Int) (by omega) (by rw [e1]; omega)
    obtain ⟨ad, ea, hc⟩ := this
    refine ⟨ad, cc, by rw [he, ea, e1], ?_⟩
    rw [Int.toNat_natCast] at hc
    rw [hc]
    simp [rd, setsTo, hp]
  obtain ⟨an, cn, e1, h1⟩ := key vn S57.f0 h.needs
  obtain ⟨ab, cb, e2, h2⟩ := key vb S57.f1 h.bars
  exact ⟨an, cn, ab, cb, e1, e2, h1, h2⟩
theorem cell_n (h : Work w0 W wb mb L c A0 c0 vn vb) {p : Nat} (hp : p < L.length) {N cn : Nat} {an : Addr} (hN : needsN L p = N) (e : vn = .slice (some an) L.length cn) : W.cell? (an.add p) = some (.int .u32 (N : Int)) := by
  obtain ⟨an', cn', ab, cb, e1, _, h1, _⟩ := h.at_ hp
  rw [e] at e1
  injection e1 with q1 _ _
  injection q1 with q1
  rw [q1, h1, hN]
theorem cell_b (h : Work w0 W wb mb L c A0 c0 vn vb) {p : Nat} (hp : p < L.length) {B cb : Nat} {ab : Addr} (hB : barsN L p = B) (e : vb = .slice (some ab) L.length cb) : W.cell? (ab.add p) = some (.int .u32 (B : Int)) := by
  obtain ⟨an', cn', ab', cb', _, e1, _, h1⟩ := h.at_ hp
  rw [e] at e1
  injection e1 with q1 _ _
  injection q1 with q1
  rw [q1, h1, hB]
end Work
theorem grown_below {W W1 : World} (h : Below W.heap.size W W1) : W.grownBy W1 none := ⟨h.os, h.tape, h.output, h.size, fun k hk _ => h.block k hk⟩
theorem drawn_some {W W1 : World} (h : Drawn0 W W1) : ∃ m, W1 = W.drewN m := by
  obtain ⟨m, rfl⟩ := h
  exact ⟨m, rfl⟩
theorem has_quiet {s p : Int} {r : Bool} (h : mount_set_has.f s p = some r) {W : World} {n : Nat} : Calls Try.prog 135 #[.int .u32 s, .int .i64 p] (W.drewN n) fun e w'' => e = .returned (.bool r) ∧ ∃ m, w'' = W.drewN m :=
  Calls.quiet_of ((mount_set_has.calls s p r _ h).mono fun e w7 hh => ⟨hh.1, drawn_some hh.2⟩)
set_option maxHeartbeats 3200000 in
set_option maxRecDepth 100000 in
theorem parts_calls {w0 w : World} {wb mb : Nat} {L : List S57} {c : Int} {A0 : Option Addr} {c0 : Nat} {vn vb : Value} (hF : Fine L) (s : Nat) (hs : s < 2 ^ L.length) (id : Nat) (cap : Array Value) (is : Nat → Bool) (I : World → Prop)
    (hent : ∀ args W, Sem.run Try.prog (callFunc id args) W = .ok (.enter id args) W)
    (hW : Work w0 w wb mb L c A0 c0 vn vb) (hmw : mb < w.heap.size) (hI : I w) (hgrow : ∀ W W1 row, I W → W.grownBy W1 row → (∀ j, row = some j → w.heap.size ≤ j) → I W1)
    (hcall : ∀ p W, p < L.length → canGo L s p = true → I W → Work w0 W wb mb L c A0 c0 vn vb → Calls Try.prog id (#[.int .i64 (p : Int)] ++ cap) W fun e w' => e = .returned (.bool (is p)) ∧ I w' ∧ W.grownBy w' (some mb)) :
    Calls Try.prog 95 #[.pointer (some ⟨wb, 0, none⟩), .int .u32 (s : Int), .func (.func id) #[] cap] w fun e w' => ∃ v, e = .returned v ∧ (Kd.int .i64).R 3 w' w0.heap.size (fun k => w.heap.size ≤ k) v (ints (partsOf L s is)) ∧ I w' ∧ w.grownBy w' (some mb) ∧ Work w0 w' wb mb L c A0 c0 vn vb := by
  have HW := Aside0.mk hW
  have HI := Aside0.mk hI
  have HMW := Aside0.mk hmw
  have HG := Aside0.mk hgrow
  have HC := Aside0.mk hcall
  clear hW hI hgrow hcall hmw
  have h14 := hF.short
  have hs32 : s < 2 ^ 32 := by have := hF.small; omega
  have c0_ : w.cell? ⟨wb, 0, none⟩ = some (.slice A0 L.length c0) := (blk_cell HW.out.blk 0).trans rfl
  have hu158 := Try.underlying158
  go_enter Try.func95, Try.ntmps95
  go_wp2_with fail
  clear c0_
  go_loopg [7, 15] L.length (fun k v7 v15 w' => ∃ (i : Nat), v15 = .int .i64 i ∧ Aside0 (i + k = L.length) ∧ Aside0 ((Kd.int .i64).R 3 w' w0.heap.size (fun k => w.heap.size ≤ k) v7 (ints (partsTo L s is i))) ∧ Aside0 (I w' ∧ w.grownBy w' (some mb) ∧ Work w0 w' wb mb L c A0 c0 vn vb))
  case atStart => exact ⟨0, rfl, ⟨by omega⟩, ⟨Kd.R_nil _ _ _ _ _⟩, ⟨HI.out, World.grownBy.refl _ _, HW.out⟩⟩
  case round =>
    obtain ⟨i, rfl, HK, HR, HJ⟩ := hrel
    by_cases hi : i < L.length
    · obtain ⟨an, cn, ab, cb, rfl, rfl, n1, n2⟩ := HJ.out.2.2.at_ hi
      have i1 : (0 : Int) ≤ (i : Int) := by omega
      have i2 : (i : Int) < (L.length : Int) := by omega
      have d1 : wr.cell? ⟨wb, 1 + 1, none⟩ = some (.slice (some an) L.length cn) := (blk_cell HJ.out.2.2.blk 2).trans rfl
      have d2 : wr.cell? ⟨wb, 1 + 1 + 1, none⟩ = some (.slice (some ab) L.length cb) := (blk_cell HJ.out.2.2.blk 3).trans rfl
      have eh := has_u32 (s := s) (p := i) hs32 (by omega)
      have b1 : needsN L i < 2 ^ 32 := by have := hF.needs_lt hi; have := hF.small; omega
      have b2 : barsN L i < 2 ^ 32 := by have := hF.bars_lt hi; have := hF.small; omega
      have a1 := and_u32 hs32 b1
      have a2 := and_u32 hs32 b2
      generalize hN : needsN L i = N at n1 a1
      generalize hB : barsN L i = B at n2 a2
      have HCG : Aside0 (canGo L s i = (!(s.testBit i) && (s &&& N == N) && (s &&& B == 0))) := ⟨by rw [← hN, ← hB]; rfl⟩
      clear b1 b2
      have HN := Aside0.mk hN
      have HBB := Aside0.mk hB
      clear hN hB
      by_cases th : s.testBit i = true
      · have HNX : Aside0 (partsTo L s is (i + 1) = partsTo L s is i) := ⟨by rw [partsTo_next, HCG.out]; simp [th]⟩
        have HIW := Aside0.mk HJ.out.1
        rw [th] at eh
        clear th
        go_wp2_with fail
        go_quiet (exact has_quiet eh)
        have HB7 : Aside0 (Below wr.heap.size wr (wr.drewN nq)) := ⟨pw_below_drewN (Below.refl _ _) _⟩
        have HJ8 : Aside0 (w.grownBy (wr.drewN nq) (some mb)) := ⟨HJ.out.2.1.andThen (row' := none) (grown_below HB7.out) (by simp)⟩
        go_wp2_with fail
        go_roundg (L.length - (i + 1))
        case measure => have := HK.out; omega
        case rel => exact ⟨i + 1, by go_num, ⟨by omega⟩, ⟨by rw [HNX.out]; exact Kd.R_below HR.out HB7.out⟩, ⟨HG.out _ _ none HIW.out (grown_below HB7.out) (by simp), HJ8.out, HW.out.grown HJ8.out⟩⟩
      · by_cases tn : s &&& N = N
        · by_cases tb : s &&& B = 0
          · have tn1 : (((s &&& N : Nat) : Int) == (N : Int)) = true := by rw [tn]; simp
            have tb1 : (((s &&& B : Nat) : Int) == 0) = true := by rw [tb]; rfl
            have HCT : Aside0 (canGo L s i = true) := ⟨by rw [HCG.out]; simp [th, tn, tb]⟩
            rw [show s.testBit i = false by simpa using th] at eh
            clear th tn tb
            generalize hb : is i = b
            have HB := Aside0.mk hb
            clear hb
            have hfun : ∀ W, I W → Work w0 W wb mb L c A0 c0 (.slice (some an) L.length cn) (.slice (some ab) L.length cb) → Calls Try.prog id (#[.int .i64 (i : Int)] ++ cap) W fun e w' => e = .returned (.bool b) ∧ I w' ∧ W.grownBy w' (some mb) := fun W hI hW => by rw [← HB.out]; exact HC.out i W hi HCT.out hI hW
            have HFUN := Aside0.mk hfun
            clear hfun
            have HX := Aside0.mk HJ.out.2.2
            have HIW := Aside0.mk HJ.out.1
            go_wp2_with fail
            go_region_held3 (fun w' => w'.cell? ⟨wb, 2, none⟩ = some (.slice (some an) L.length cn) ∧ w'.cell? ⟨wb, 3, none⟩ = some (.slice (some ab) L.length cb) ∧ w'.cell? (an.add i) = some (.int .u32 (N : Int)) ∧ w'.cell? (ab.add i) = some (.int .u32 (B : Int))) (first | exact ⟨d1, d2, n1, n2⟩ | exact ⟨k1, k2, k3, k4⟩ | exact ⟨m1, m2, m3, m4⟩) (first
              | (go_at_call 135; refine (mount_set_has.calls _ _ _ _ eh).mono ?_; rintro e w7 ⟨rfl, hd7⟩; have HB7 : Aside0 (Below wr.heap.size wr w7) := ⟨below_step (below_drew1 (Below.refl _ _)) hd7.below⟩; have k1 := cell_later hd7.below (W := w7) d1; have k2 := cell_later hd7.below (W := w7) d2; have k3 := cell_later hd7.below (W := w7) n1; have k4 := cell_later hd7.below (W := w7) n2; clear eh hd7)
              | (refine (HFUN.out _ (HG.out _ _ none HIW.out (grown_below HB7.out) (by simp)) (HX.out.later HB7.out)).mono ?_; rintro e w8 ⟨rfl, hI8, hg8⟩; have HI8 := Aside0.mk hI8; have HG8 := Aside0.mk hg8; have HX8 := Aside0.mk ((HX.out.later HB7.out).grown hg8); have m1 : w8.cell? ⟨wb, 2, none⟩ = some (.slice (some an) L.length cn) := (blk_cell HX8.out.blk 2).trans rfl; have m2 : w8.cell? ⟨wb, 3, none⟩ = some (.slice (some ab) L.length cb) := (blk_cell HX8.out.blk 3).trans rfl; have m3 := HX8.out.cell_n hi HN.out rfl; have m4 := HX8.out.cell_b hi HBB.out rfl; clear hI8 hg8))
            have HJ8 : Aside0 (w.grownBy w8 (some mb)) := ⟨(HJ.out.2.1.andThen (row' := none) (grown_below HB7.out) (by simp)).andThen HG8.out (fun j hj => .inr hj)⟩
            have HR8 : Aside0 ((Kd.int .i64).R 3 w8 w0.heap.size (fun k => w.heap.size ≤ k) u7 (ints (partsTo L s is i))) := ⟨by
              have h1 := Kd.R_below HR.out HB7.out
              have h2 : (Kd.int .i64).R 3 w7 w0.heap.size (fun k => w.heap.size ≤ k ∧ k ≠ mb) u7 (ints (partsTo L s is i)) := Kd.R_mono (Kd.R_bound h1) (fun k hk => ⟨hk.1, by have := HMW.out; omega⟩)
              exact Kd.R_mono (Kd.R_grown h2 HG8.out (fun k hk e => hk.2 (Option.some.inj e))) (fun k hk => hk.1)⟩
            cases b
            · have HNX : Aside0 (partsTo L s is (i + 1) = partsTo L s is i) := ⟨by rw [partsTo_next, HB.out, Bool.and_false, if_neg (by simp), List.append_nil]⟩
              go_wp2_with fail
              go_roundg (L.length - (i + 1))
              case measure => have := HK.out; omega
              case rel => exact ⟨i + 1, by go_num, ⟨by omega⟩, ⟨by rw [HNX.out]; exact HR8.out⟩, ⟨HI8.out, HJ8.out, HX8.out⟩⟩
            · have HNX : Aside0 (partsTo L s is (i + 1) = partsTo L s is i ++ [i]) := ⟨by rw [partsTo_next, HB.out, HCT.out]; rfl⟩
              have HLE := Aside0.mk (partsTo_length L s is i)
              go_wp2_with (first
                | (refine Kd.R_append (Kd.int .i64) (w0 := w0) w0.heap.size rfl (.tmp 58) (.tmp 60) 22 3 (.int .i64 0) 8 rfl Try.underlying22 info3 rfl (by decide) (by omega) u7 (ints (partsTo L s is i)) (i : Int) [.int .i64 (i : Int)] (fun k => w.heap.size ≤ k) (fun _ => False) rfl rfl rfl (fun _ hk => hk.elim) (fun k hk => Nat.le_trans HJ8.out.size hk) HR8.out HX8.out.below HX8.out.below.size (by have := HLE.out; simp only [ints, List.length_map]; omega) ?_; intro v1 w9 hR9 hB9 hg9 hat9; have HR9 := Aside0.mk hR9; have HG9 := Aside0.mk hg9; clear hR9 hB9 hg9 hat9))
              have HOB : Aside0 (∀ j, u7.ownBlock = some j → w.heap.size ≤ j) := ⟨fun j hj => HR8.out.1 j hj⟩
              go_roundg (L.length - (i + 1))
              case measure => have := HK.out; omega
              case rel => exact ⟨i + 1, by go_num, ⟨by omega⟩, ⟨by rw [HNX.out]; simpa [ints] using HR9.out⟩, ⟨HG.out _ _ _ HI8.out HG9.out HOB.out, HJ8.out.andThen HG9.out (fun j hj => .inl (HOB.out j hj)), HW.out.grown (HJ8.out.andThen HG9.out (fun j hj => .inl (HOB.out j hj)))⟩⟩
          · have tn1 : (((s &&& N : Nat) : Int) == (N : Int)) = true := by rw [tn]; simp
            have tb1 : (((s &&& B : Nat) : Int) == 0) = false := by simp; omega
            have HNX : Aside0 (partsTo L s is (i + 1) = partsTo L s is i) := ⟨by rw [partsTo_next, HCG.out]; simp [th, tn, tb]⟩
            have HIW := Aside0.mk HJ.out.1
            rw [show s.testBit i = false by simpa using th] at eh
            clear th tn tb
            go_wp2_with fail
            go_quiet (exact has_quiet eh)
            have HB7 : Aside0 (Below wr.heap.size wr (wr.drewN nq)) := ⟨pw_below_drewN (Below.refl _ _) _⟩
            have HJ8 : Aside0 (w.grownBy (wr.drewN nq) (some mb)) := ⟨HJ.out.2.1.andThen (row' := none) (grown_below HB7.out) (by simp)⟩
            go_wp2_with fail
            go_roundg (L.length - (i + 1))
            case measure => have := HK.out; omega
            case rel => exact ⟨i + 1, by go_num, ⟨by omega⟩, ⟨by rw [HNX.out]; exact Kd.R_below HR.out HB7.out⟩, ⟨HG.out _ _ none HIW.out (grown_below HB7.out) (by simp), HJ8.out, HW.out.grown HJ8.out⟩⟩
        · have tn1 : (((s &&& N : Nat) : Int) == (N : Int)) = false := by simp; omega
          have HNX : Aside0 (partsTo L s is (i + 1) = partsTo L s is i) := ⟨by rw [partsTo_next, HCG.out]; simp [th, tn]⟩
          have HIW := Aside0.mk HJ.out.1
          rw [show s.testBit i = false by simpa using th] at eh
          clear th tn
          go_wp2_with fail
          go_quiet (exact has_quiet eh)
          have HB7 : Aside0 (Below wr.heap.size wr (wr.drewN nq)) := ⟨pw_below_drewN (Below.refl _ _) _⟩
          have HJ8 : Aside0 (w.grownBy (wr.drewN nq) (some mb)) := ⟨HJ.out.2.1.andThen (row' := none) (grown_below HB7.out) (by simp)⟩
          go_wp2_with fail
          go_roundg (L.length - (i + 1))
          case measure => have := HK.out; omega
          case rel => exact ⟨i + 1, by go_num, ⟨by omega⟩, ⟨by rw [HNX.out]; exact Kd.R_below HR.out HB7.out⟩, ⟨HG.out _ _ none HIW.out (grown_below HB7.out) (by simp), HJ8.out, HW.out.grown HJ8.out⟩⟩
    · have HPE : Aside0 (partsTo L s is i = partsOf L s is) := ⟨by have := HK.out; rw [show i = L.length by omega]; rfl⟩
      go_wp2_with fail
      go_ret
      exact ⟨_, rfl, by rw [← HPE.out]; exact HR.out, HJ.out.1, HJ.out.2.1, HJ.out.2.2⟩
end Go.Proofs.Ytbcfphoheijmdaa.Print
end

section
/- What the work of a kit remembers: a map from states to numbers. -/
namespace Go.Proofs.Ytbcfphoheijmdaa.Print
open Go.RowKit Go.Proofs.YtbcfphoheijmdaaW.PrintWords Go.Proofs.YtbcfphoheijmdaaW.PrintLast Go.Proofs.YtbcfphoheijmdaaW.PrintMore Go.Proofs.Ytbcfphoheijmdaa.H
open Go.Maps (Keyed)
set_option linter.unusedVariables false
set_option linter.unusedSimpArgs false

/-- Numbers that differ and are all less than N are at most N. -/
theorem few (N : Nat) : ∀ (l : List Nat), l.Pairwise (· ≠ ·) → (∀ x, x ∈ l → x < N) → l.length ≤ N := by
  induction N with
  | zero =>
    intro l _ h
    cases l with
    | nil => simp
    | cons a l => have := h a (by simp); omega
  | succ N ih =>
    intro l hp h
    by_cases hm : N ∈ l
    · obtain ⟨s, t, rfl⟩ := List.append_of_mem hm
      rw [List.pairwise_append, List.pairwise_cons] at hp
      have := ih (s ++ t) (by rw [List.pairwise_append]; exact ⟨hp.1, hp.2.1.2, fun a ha b hb => hp.2.2 a ha b (by simp [hb])⟩) (fun x hx => by
        have h1 : x < N + 1 := h x (by rcases List.mem_append.1 hx with q | q <;> simp [q])
        have h2 : x ≠ N := by
          rcases List.mem_append.1 hx with q | q
          · exact hp.2.2 x q N (by simp)
          · exact (hp.2.1.1 x q).symm
        omega)
      simp only [List.length_append, List.length_cons] at this ⊢
      omega
    · have := ih l hp (fun x hx => by
        have h1 := h x hx
        have h2 : x ≠ N := fun e => hm (e ▸ hx)
        omega)
      omega
theorem mem_insert_iff {H : Type} (x y : Lit × DataW H) : ∀ l : List (Lit × DataW H), y ∈ DataW.insert x l ↔ y = x ∨ y ∈ l := by
  intro l
  induction l with
  | nil => simp [DataW.insert]
  | cons a l ih =>
    unfold DataW.insert
    split
    · simp
    · simp only [List.mem_cons, ih]
      constructor
      · rintro (h | h | h) <;> simp [h]
      · rintro (h | h | h) <;> simp [h]
/-- What is remembered of each state is its number. -/
def MemoD (D : DataW Unit) (val : Nat → Int) : Prop := ∃ l, D = .map l ∧ l.Pairwise (fun p q => p.1 ≠ q.1) ∧ ∀ p, p ∈ l → ∃ s : Nat, s < 2 ^ 32 ∧ p = (.int .u32 (s : Int), .lit (.int .i64 (val s)))
def Memo (W : World) (mb : Nat) (val : Nat → Int) : Prop := ∃ n D, n < 2 ^ 33 ∧ W.ownsMap Try.prog 133 (plainElem (H := Unit) Try.prog 3) mb n D ∧ MemoD D val
theorem keyed133 : Keyed Try.prog 133 := Go.Maps.int_keyed Try.underlying133
theorem wf_u32 {s : Nat} (h : s < 2 ^ 32) : (Lit.int .u32 (s : Int)).wf = true := by
  have := wrap_u32 h
  simp [Lit.wf, IntKind.min, IntKind.max, IntKind.signed, IntKind.bits]
  omega
theorem key_u32 {s : Nat} (h : s < 2 ^ 32) : keyOf Try.prog 133 (.int .u32 (s : Int)) = some (.int .u32 (s : Int)) := Go.Maps.keyOf_int_mk Try.underlying133 (wf_u32 h)
theorem wf_i64 {v : Int} (h1 : -9223372036854775808 ≤ v) (h2 : v ≤ 9223372036854775807) : (Lit.int .i64 v).wf = true := by
  simp [Lit.wf, IntKind.min, IntKind.max, IntKind.signed, IntKind.bits]
  omega
theorem MemoD.few {D : DataW Unit} {val : Nat → Int} (h : MemoD D val) : Maps.size D ≤ 2 ^ 32 := by
  obtain ⟨l, rfl, hp, hk⟩ := h
  show l.length ≤ 2 ^ 32
  have := Print.few (2 ^ 32) (l.map (fun p => match p.1 with | .int _ a => a.toNat | _ => 0)) (by
    rw [List.pairwise_map]
    refine List.Pairwise.imp_of_mem ?_ hp
    intro a b ha hb hne e
    obtain ⟨s, _, rfl⟩ := hk a ha
    obtain ⟨t, _, rfl⟩ := hk b hb
    simp only [Int.toNat_natCast] at e
    exact hne (by rw [e])) (fun x hx => by
    obtain ⟨p, hp, rfl⟩ := List.mem_map.1 hx
    obtain ⟨s, hs, rfl⟩ := hk p hp
    simpa using hs)
  simpa using this
theorem own_tight {W : World} {mb n : Nat} {D : DataW Unit} (h : W.ownsMap Try.prog 133 (plainElem (H := Unit) Try.prog 3) mb n D) : W.ownsMap Try.prog 133 (plainElem (H := Unit) Try.prog 3) mb (Maps.size D) D := by
  obtain ⟨es, clock, hb, F, _, rfl⟩ := h
  exact ⟨es, clock, hb, F, by rw [Maps.size_eq, length_read]; exact Nat.le_refl _, rfl⟩
theorem Memo.made (W : World) (val : Nat → Int) : Memo (W.alloc (.map #[] 0)) W.heap.size val :=
  ⟨0, _, by omega, World.ownsMap_made _ _ _ _, [], rfl, .nil, by simp⟩
theorem Memo.kept {W W1 : World} {mb : Nat} {val : Nat → Int} {row : Option Nat} (h : Memo W mb val) (hg : W.grownBy W1 row) (hne : some mb ≠ row) : Memo W1 mb val := by
  obtain ⟨n, D, hn, ho, hD⟩ := h
  exact ⟨n, D, hn, ho.kept hg hne, hD⟩
theorem Memo.later {W W1 : World} {mb : Nat} {val : Nat → Int} (h : Memo W mb val) (hb : Below W.heap.size W W1) : Memo W1 mb val := h.kept (grown_below hb) (by simp)
theorem MemoD.look {D : DataW Unit} {val : Nat → Int} (h : MemoD D val) {s : Nat} (hh : Maps.has D (.int .u32 (s : Int)) = true) : D.atKey (.int .u32 (s : Int)) (.lit (.int .i64 0)) = .lit (.int .i64 (val s)) := by
  obtain ⟨l, rfl, hp, hk⟩ := h
  rw [Maps.has_eq, List.any_eq_true] at hh
  obtain ⟨p, hp1, hp2⟩ := hh
  obtain ⟨t, ht, rfl⟩ := hk p hp1
  have e := WideAt.sameKey_eq hp2
  have e2 : t = s := by injection e with _ q; omega
  subst e2
  exact WideAt.atKey_mem _ trivial hp hp1
theorem MemoD.put {D : DataW Unit} {val : Nat → Int} (h : MemoD D val) {s : Nat} (hs : s < 2 ^ 32) : MemoD (D.put (.int .u32 (s : Int)) (.lit (.int .i64 (val s)))) val := by
  obtain ⟨l, rfl, hp, hk⟩ := h
  obtain ⟨es, e1, e2⟩ := Maps.Tidy.put (D := DataW.map l) ⟨l, rfl, hp⟩ (k := .int .u32 (s : Int)) trivial (.lit (.int .i64 (val s)))
  refine ⟨es, e1, e2, fun p hpm => ?_⟩
  have e3 : es = DataW.insert (.int .u32 (s : Int), .lit (.int .i64 (val s))) (l.filter fun p => !p.1.sameKey (.int .u32 (s : Int))) := by
    have : DataW.map _ = DataW.map es := e1
    injection this with q
    exact q.symm
  rw [e3, mem_insert_iff] at hpm
  rcases hpm with rfl | hpm
  · exact ⟨s, hs, rfl⟩
  · exact hk p (List.mem_filter.1 hpm).1
/-- What the walk takes at a look-up, and at a store. -/
theorem Memo.open_ {W : World} {mb : Nat} {val : Nat → Int} (h : Memo W mb val) : ∃ n D, n < maxLen ∧ W.ownsMap Try.prog 133 (plainElem (H := Unit) Try.prog 3) mb n D ∧ MemoD D val := by
  obtain ⟨n, D, hn, ho, hD⟩ := h
  exact ⟨n, D, by unfold maxLen; omega, ho, hD⟩
theorem Memo.close {W : World} {mb n : Nat} {val : Nat → Int} {D : DataW Unit} (ho : W.ownsMap Try.prog 133 (plainElem (H := Unit) Try.prog 3) mb n D) (hD : MemoD D val) : Memo W mb val :=
  ⟨Maps.size D, D, Nat.lt_of_le_of_lt hD.few (by omega), own_tight ho, hD⟩
theorem zero3 (w : World) : (zeroValue 3).run Try.prog w = .ok (.int .i64 0) w := by
  obtain ⟨i, hi1, hi2, _, _⟩ := info_parts info3
  simp [zeroValue, typeInfo, hi1, hi2]
end Go.Proofs.Ytbcfphoheijmdaa.Print
end

section
/- In how many orders all parts of a kit go in. -/
namespace Go.Proofs.Ytbcfphoheijmdaa.Print
open Go.RowKit Go.Proofs.YtbcfphoheijmdaaW.PrintWords Go.Proofs.YtbcfphoheijmdaaW.PrintLast Go.Proofs.YtbcfphoheijmdaaW.PrintMore Go.Proofs.Ytbcfphoheijmdaa.H
attribute [local go_sem] max2_int min2_int max_two min_two max_three min_three max_four min_four
attribute [local go_sem ↓] Go.wp_at_zero Go.wp_at_succ
set_option linter.unusedVariables false
set_option linter.unusedSimpArgs false

/-- How many parts are missing? -/
def missing (n s : Nat) : Nat := ((List.range n).filter (fun p => !s.testBit p)).length
def ways (L : List S57) : Nat → Nat → Int
  | 0, s => if s = 2 ^ L.length - 1 then 1 else 0
  | k + 1, s => if s = 2 ^ L.length - 1 then 1 else (partsOf L s (fun _ => true)).foldl (fun a p => wrap64 (a + ways L k (s ||| 2 ^ p))) 0
/-- In how many orders all other parts can go into state s. -/
def waysOf (L : List S57) (s : Nat) : Int := ways L (missing L.length s) s
theorem missing_with {n s p : Nat} (hp : p < n) (hs : s.testBit p = false) : missing n (s ||| 2 ^ p) + 1 = missing n s := by
  unfold missing
  have key : ∀ l : List Nat, l.Pairwise (· ≠ ·) → p ∈ l → (l.filter (fun q => !(s ||| 2 ^ p).testBit q)).length + 1 = (l.filter (fun q => !s.testBit q)).length := by
    intro l
    induction l with
    | nil => intro _ h; simp at h
    | cons a l ih =>
      intro hl hm
      rw [List.pairwise_cons] at hl
      rw [List.filter_cons, List.filter_cons, testBit_with]
      by_cases e : p = a
      · subst e
        rw [hs]
        have same : ∀ m : List Nat, (∀ q, q ∈ m → p ≠ q) → m.filter (fun q => !(s ||| 2 ^ p).testBit q) = m.filter (fun q => !s.testBit q) := by
          intro m hm
          apply List.filter_congr
          intro q hq
          rw [testBit_with, decide_eq_false (hm q hq), Bool.or_false]
        rw [same l hl.1]
        simp
      · have hm2 : p ∈ l := by simpa [e] using hm
        have := ih hl.2 hm2
        rw [decide_eq_false e, Bool.or_false]
        split
        · simp only [List.length_cons]; omega
        · exact this
  refine key (List.range n) ?_ (List.mem_range.2 hp)
  exact List.Pairwise.imp (fun h => Nat.ne_of_lt h) List.pairwise_lt_range
theorem partsOf_mem {L : List S57} {s : Nat} {is : Nat → Bool} {p : Nat} (h : p ∈ partsOf L s is) : p < L.length ∧ s.testBit p = false ∧ canGo L s p = true ∧ is p = true := by
  unfold partsOf partsTo at h
  rw [List.mem_filter, List.mem_range] at h
  obtain ⟨h1, h2⟩ := h
  rw [Bool.and_eq_true] at h2
  have h3 := h2.1
  unfold canGo at h3
  rw [Bool.and_eq_true, Bool.and_eq_true] at h3
  exact ⟨h1, by simpa using h3.1.1, h2.1, h2.2⟩
theorem waysOf_all (L : List S57) : waysOf L (2 ^ L.length - 1) = 1 := by
  unfold waysOf
  cases missing L.length (2 ^ L.length - 1) <;> simp [ways]
/-- The sum over some parts. -/
def sumW (L : List S57) (s : Nat) (l : List Nat) : Int := l.foldl (fun a p => wrap64 (a + waysOf L (s ||| 2 ^ p))) 0
theorem sumW_snoc (L : List S57) (s : Nat) (l : List Nat) (p : Nat) : sumW L s (l ++ [p]) = wrap64 (sumW L s l + waysOf L (s ||| 2 ^ p)) := by simp [sumW]
theorem waysOf_step {L : List S57} {s : Nat} (h : s ≠ 2 ^ L.length - 1) : waysOf L s = sumW L s (partsOf L s (fun _ => true)) := by
  unfold waysOf
  cases hm : missing L.length s with
  | zero =>
    rw [ways, if_neg h]
    have : partsOf L s (fun _ => true) = [] := by
      cases hq : partsOf L s (fun _ => true) with
      | nil => rfl
      | cons p l =>
        have := partsOf_mem (L := L) (s := s) (is := fun _ => true) (p := p) (by rw [hq]; simp)
        have := missing_with this.1 this.2.1
        omega
    rw [this]
    rfl
  | succ k =>
    rw [ways, if_neg h]
    unfold sumW
    have key : ∀ (l : List Nat) (a : Int), (∀ p, p ∈ l → missing L.length (s ||| 2 ^ p) = k) → l.foldl (fun a p => wrap64 (a + ways L k (s ||| 2 ^ p))) a = l.foldl (fun a p => wrap64 (a + waysOf L (s ||| 2 ^ p))) a := by
      intro l
      induction l with
      | nil => intro a _; rfl
      | cons p l ih =>
        intro a h
        rw [List.foldl_cons, List.foldl_cons, ih _ (fun q hq => h q (by simp [hq]))]
        unfold waysOf
        rw [h p (by simp)]
    refine key _ _ (fun p hp => ?_)
    have h1 := partsOf_mem hp
    have := missing_with h1.1 h1.2.1
    omega
theorem wrap64_in (x : Int) : -9223372036854775808 ≤ wrap64 x ∧ wrap64 x ≤ 9223372036854775807 := by unfold wrap64; omega
theorem sumW_in (L : List S57) (s : Nat) (l : List Nat) : -9223372036854775808 ≤ sumW L s l ∧ sumW L s l ≤ 9223372036854775807 := by
  rcases List.eq_nil_or_concat l with rfl | ⟨m, p, rfl⟩
  · unfold sumW; simp
  · rw [List.concat_eq_append, sumW_snoc]; exact wrap64_in _
theorem with_lt {L : List S57} {s p : Nat} (hs : s < 2 ^ L.length) (hp : p < L.length) : s ||| 2 ^ p < 2 ^ L.length := Nat.or_lt_two_pow hs (Nat.pow_lt_pow_right (by omega) hp)
end Go.Proofs.Ytbcfphoheijmdaa.Print
end

section
/- orders: that the Go function's call counts the orders. -/
namespace Go.Proofs.Ytbcfphoheijmdaa.Print
open Go.RowKit Go.Proofs.YtbcfphoheijmdaaW.PrintWords Go.Proofs.YtbcfphoheijmdaaW.PrintLast Go.Proofs.YtbcfphoheijmdaaW.PrintMore Go.Proofs.Ytbcfphoheijmdaa.H
attribute [local go_sem] max2_int min2_int max_two min_two max_three min_three max_four min_four
attribute [local go_sem ↓] Go.wp_at_zero Go.wp_at_succ
set_option linter.unusedVariables false
set_option linter.unusedSimpArgs false

theorem every_calls (p : Int) (w : World) : Calls Try.prog 96 #[.int .i64 p] w fun e w' => e = .returned (.bool true) ∧ Drawn0 w w' := by
  go_enter Try.func96, Try.ntmps96
  go_wp2
  go_ret
  exact ⟨rfl, Drawn0.refl _⟩
theorem every_enters (args : Array Value) (W : World) : Sem.run Try.prog (callFunc 96 args) W = .ok (.enter 96 args) W := by
  have h1 : ¬ Try.f96.name = "runtime.NumGoroutine" := by decide
  have h2 : ¬ Try.f96.body = none := fun h => by
    have : Try.f96.body.isSome = false := by rw [h]; rfl
    exact absurd this (by show ¬ (true = false); decide)
  simp [callFunc, go_sem, Try.func96, h1, h2]
set_option maxHeartbeats 3200000 in
set_option maxRecDepth 100000 in
theorem orders_walk {w0 w : World} {wb mb : Nat} {L : List S57} {c : Int} {A0 : Option Addr} {c0 : Nat} {vn vb : Value} (hF : Fine L) (s : Nat) (hs : s < 2 ^ L.length)
    (hIH : ∀ p, p ∈ partsOf L s (fun _ => true) → ∀ W, Work w0 W wb mb L c A0 c0 vn vb → Memo W mb (waysOf L) → Calls Try.prog 93 #[.pointer (some ⟨wb, 0, none⟩), .int .u32 ((s ||| 2 ^ p : Nat) : Int)] W fun e w' => e = .returned (.int .i64 (waysOf L (s ||| 2 ^ p))) ∧ Memo w' mb (waysOf L) ∧ W.grownBy w' (some mb))
    (hW : Work w0 w wb mb L c A0 c0 vn vb) (hM : Memo w mb (waysOf L)) :
    Calls Try.prog 93 #[.pointer (some ⟨wb, 0, none⟩), .int .u32 (s : Int)] w fun e w' => e = .returned (.int .i64 (waysOf L s)) ∧ Memo w' mb (waysOf L) ∧ w.grownBy w' (some mb) := by
  have hs32 : s < 2 ^ 32 := by have := hF.small; omega
  obtain ⟨n, D, hn, hown, hD⟩ := hM.open_
  have HMW := Aside0.mk hown.lt
  have HW := Aside0.mk hW
  have HIH := Aside0.mk hIH
  have HM := Aside0.mk hM
  have HO := Aside0.mk hown
  have HD := Aside0.mk hD
  have HN := Aside0.mk hn
  clear hIH hM hown hD hn
  have c3 : w.cell? ⟨wb, 4, none⟩ = some (.int .u32 ((2 ^ L.length - 1 : Nat) : Int)) := (blk_cell HW.out.blk 4).trans rfl
  have c4 : w.cell? ⟨wb, 5, none⟩ = some (.map (some mb)) := (blk_cell HW.out.blk 5).trans rfl
  have hu158 := Try.underlying158
  have HPC := Aside0.mk (parts_calls hF s hs 96 #[] (fun _ => true) (fun W => Memo W mb (waysOf L)) every_enters hW HMW.out HM.out (fun W W1 row h hg hr => h.kept hg (fun e => by have := hr mb e.symm; have := HMW.out; omega)) (fun p W _ _ hI hWW => (every_calls (p : Int) W).mono fun e w' h => ⟨h.1, hI.later h.2.below, (grown_below h.2.below).but _⟩))
  clear hW
  by_cases te : s = 2 ^ L.length - 1
  · have te1 : ((s : Int) == ((2 ^ L.length - 1 : Nat) : Int)) = true := by rw [← te]; simp
    have HV : Aside0 (waysOf L s = 1) := ⟨by rw [te]; exact waysOf_all L⟩
    clear te
    generalize 2 ^ L.length - 1 = ALL at te1 c3
    go_enter Try.func93, Try.ntmps93
    go_wp2_with fail
    go_ret
    exact ⟨by rw [HV.out]; rfl, HM.out, World.grownBy.refl _ _⟩
  have te1 : ((s : Int) == ((2 ^ L.length - 1 : Nat) : Int)) = false := by simp; omega
  have HV := Aside0.mk (waysOf_step te)
  clear te
  generalize 2 ^ L.length - 1 = ALL at te1 c3
  generalize hb : Maps.has D (.int .u32 (s : Int)) = b
  have HB := Aside0.mk hb
  cases b with
  | true =>
    have HL := Aside0.mk (HD.out.look hb)
    clear hb
    go_enter Try.func93, Try.ntmps93
    go_wp2_with (first
      | (at_lookup; refine wpList_lookup_own_ok_int (H := Unit) _ rfl _ _ 156 rfl 133 3 .i64 keyed133 Try.underlying156 Try.underlying3 (zero3 _) mb n D rfl HO.out (.int .u32 (s : Int)) (.int .u32 (s : Int)) rfl (key_u32 hs32) ?_; intro cc hat hwc; rw [HB.out]; have HA := Aside0.mk hat; clear hat hwc))
    go_ret
    have e : cc = waysOf L s := by
      have := HA.out.symm.trans HL.out
      injection this with q
      injection q
    exact ⟨by rw [← e]; rfl, HM.out, World.grownBy.refl _ _⟩
  | false =>
    clear hb
    go_enter Try.func93, Try.ntmps93
    go_wp2_with (first
      | (at_lookup; refine wpList_lookup_own_ok_int (H := Unit) _ rfl _ _ 156 rfl 133 3 .i64 keyed133 Try.underlying156 Try.underlying3 (zero3 _) mb n D rfl HO.out (.int .u32 (s : Int)) (.int .u32 (s : Int)) rfl (key_u32 hs32) ?_; intro cc hat hwc; rw [HB.out]; clear hat hwc)
      | (go_at_call 95; refine (HPC.out).mono ?_; rintro e w1 ⟨v, rfl, hR, hM1, hg1, hW1⟩; obtain ⟨A1, n1, rfl⟩ := Kd.R_slice hR; have HR := Aside0.mk hR; have HM1 := Aside0.mk hM1; have HG1 := Aside0.mk hg1; have HW1 := Aside0.mk hW1; clear hR hM1 hg1 hW1))
    have HPL := Aside0.mk (partsTo_length L s (fun _ => true) L.length)
    have hlen : (ints (partsOf L s (fun _ => true))).length = (partsOf L s (fun _ => true)).length := by simp [ints]
    rw [hlen] at HR
    rw [hlen]
    clear hlen HPC
    have HPM : Aside0 (∀ p, p ∈ partsOf L s (fun _ => true) → p < L.length) := ⟨fun p hp => (partsOf_mem hp).1⟩
    generalize hPS : partsOf L s (fun _ => true) = PS at HR HV HIH HPM
    have HPL2 : Aside0 (PS.length ≤ L.length) := ⟨by rw [← hPS]; exact HPL.out⟩
    clear hPS HPL c3 c4
    have hpl : PS.length ≤ 14 := Nat.le_trans HPL2.out hF.short
    go_loopg [7, 31] PS.length (fun k v7 v31 w' => ∃ (i : Nat), v31 = .int .i64 i ∧ v7 = .int .i64 (sumW L s (PS.take i)) ∧ Aside0 (i + k = PS.length) ∧ Aside0 (Memo w' mb (waysOf L) ∧ w.grownBy w' (some mb) ∧ (Kd.int .i64).R 3 w' w0.heap.size (fun k => w.heap.size ≤ k) (.slice A1 PS.length n1) (ints PS)))
    case atStart => exact ⟨0, rfl, rfl, ⟨by omega⟩, ⟨HM1.out, HG1.out, HR.out⟩⟩
    case round =>
      clear HM1 HG1 HR HW1
      obtain ⟨i, rfl, rfl, HK, HJ⟩ := hrel
      by_cases hi : i < PS.length
      · have HSN := Aside0.mk (show sumW L s (PS.take (i + 1)) = wrap64 (sumW L s (PS.take i) + waysOf L (s ||| 2 ^ PS[i])) by rw [take_at _ _ hi, sumW_snoc])
        have hp : PS[i] < L.length := HPM.out _ (List.getElem_mem _)
        have HC := Aside0.mk (HIH.out PS[i] (List.getElem_mem _))
        obtain ⟨ad, e0, x0⟩ : ∃ ad, A1 = some ad ∧ wr.cell? (ad.add i) = some (.int .i64 ((PS[i] : Nat) : Int)) := by
          obtain ⟨_, _, hC⟩ := Kd.R_reads' HJ.out.2.2
          obtain ⟨ad, e, hc⟩ := cell_int hC i (by simpa [ints] using hi)
          refine ⟨ad, e, ?_⟩
          rw [hc]
          simp [ints, hi]
        cases e0
        generalize PS[i] = p at hp HC HSN x0
        generalize sumW L s (PS.take i) = X at HSN
        have hw1 := with_u32 (s := s) (p := p) hs32 (by have := hF.short; omega)
        have HW2 := Aside0.mk (HW.out.grown HJ.out.2.1)
        have i1 : (0 : Int) ≤ (i : Int) := by omega
        have i2 : (i : Int) < (PS.length : Int) := by omega
        generalize hY : waysOf L (s ||| 2 ^ p) = Y at HSN HC
        clear hY
        generalize s ||| 2 ^ p = S2 at hw1 HC
        go_wp2_with (first
          | (go_at_call 100; refine (mount_set_with.calls _ _ _ _ hw1).mono ?_; rintro e w2 ⟨rfl, hd⟩; have HB2 := Aside0.mk hd.below; clear hd hw1)
          | (go_at_call 93; refine (HC.out _ (HW2.out.later HB2.out) (HJ.out.1.later HB2.out)).mono ?_; rintro e w3 ⟨rfl, hM3, hg3⟩; have HM3 := Aside0.mk hM3; have HG3 := Aside0.mk hg3; clear hM3 hg3))
        have HJ3 : Aside0 (w.grownBy w3 (some mb)) := ⟨(HJ.out.2.1.andThen (row' := none) (grown_below HB2.out) (by simp)).andThen HG3.out (fun j hj => .inr hj)⟩
        have HR3 : Aside0 ((Kd.int .i64).R 3 w3 w0.heap.size (fun k => w.heap.size ≤ k) (.slice (some ad) PS.length n1) (ints PS)) := ⟨by
          have h1 := Kd.R_below HJ.out.2.2 HB2.out
          have h2 : (Kd.int .i64).R 3 w2 w0.heap.size (fun k => w.heap.size ≤ k ∧ k ≠ mb) (.slice (some ad) PS.length n1) (ints PS) := Kd.R_mono (Kd.R_bound h1) (fun k hk => ⟨hk.1, by have := HMW.out; omega⟩)
          exact Kd.R_mono (Kd.R_grown h2 HG3.out (fun k hk e => hk.2 (Option.some.inj e))) (fun k hk => hk.1)⟩
        go_roundg (PS.length - (i + 1))
        case measure => have := HK.out; omega
        case rel => exact ⟨i + 1, by go_num, by rw [HSN.out, ← IntWalk.i64_left], ⟨by omega⟩, ⟨HM3.out, HJ3.out, HR3.out⟩⟩
      · have HV2 : Aside0 (sumW L s (PS.take i) = waysOf L s) := ⟨by rw [HV.out, List.take_of_length_le (by omega)]⟩
        obtain ⟨n2, D2, hn2, hown2, hD2⟩ := HJ.out.1.open_
        have HO2 := Aside0.mk hown2
        have HD2 := Aside0.mk hD2
        have HN2 := Aside0.mk hn2
        have HIN : Aside0 ((Lit.int .i64 (waysOf L s)).wf = true) := ⟨by rw [← HV2.out]; have := sumW_in L s (PS.take i); exact wf_i64 this.1 this.2⟩
        clear hown2 hD2 hn2
        have d4 : wr.cell? ⟨wb, 5, none⟩ = some (.map (some mb)) := (blk_cell (HW.out.grown HJ.out.2.1).blk 5).trans rfl
        rw [HV2.out]
        go_wp2_with (first
          | (at_mapUpdate; refine wpList_mapUpdate_own (H := Unit) _ rfl _ _ _ 156 rfl 133 3 keyed133 Try.underlying156 (plainElem Try.prog 3) mb n2 D2 rfl HO2.out HN2.out (.int .u32 (s : Int)) (.int .i64 (waysOf L s)) (.int .u32 (s : Int)) rfl rfl (key_u32 hs32) (.lit (.int .i64 (waysOf L s))) [] (plainElem_int Try.underlying3 HIN.out) ?_; intro w5 hown5 hg5; have HO5 := Aside0.mk hown5; have HG5 := Aside0.mk hg5; clear hown5 hg5))
        go_ret
        exact ⟨rfl, Memo.close HO5.out (HD2.out.put hs32), HJ.out.2.1.andThen HG5.out (fun j hj => .inr hj)⟩
theorem orders_calls {w0 : World} {wb mb : Nat} {L : List S57} {c : Int} {A0 : Option Addr} {c0 : Nat} {vn vb : Value} (hF : Fine L) : ∀ (k s : Nat), missing L.length s ≤ k → s < 2 ^ L.length → ∀ w, Work w0 w wb mb L c A0 c0 vn vb → Memo w mb (waysOf L) →
    Calls Try.prog 93 #[.pointer (some ⟨wb, 0, none⟩), .int .u32 (s : Int)] w fun e w' => e = .returned (.int .i64 (waysOf L s)) ∧ Memo w' mb (waysOf L) ∧ w.grownBy w' (some mb) := by
  intro k
  induction k with
  | zero =>
    intro s hk hs w hW hM
    refine orders_walk hF s hs (fun p hp => ?_) hW hM
    have h1 := partsOf_mem hp
    have := missing_with h1.1 h1.2.1
    omega
  | succ k ih =>
    intro s hk hs w hW hM
    refine orders_walk hF s hs (fun p hp W hW1 hM1 => ?_) hW hM
    have h1 := partsOf_mem hp
    have := missing_with h1.1 h1.2.1
    exact ih _ (by omega) (with_lt hs h1.1) W hW1 hM1
end Go.Proofs.Ytbcfphoheijmdaa.Print
end

section
/- A region that draws its order and ends in stores: a load may be taken first although a store at the end writes its cell, since every such store waits for the load. By the pattern of the kit's laws on held regions. -/
namespace Go.Proofs.Ytbcfphoheijmdaa.H
open Go
set_option linter.unusedVariables false
section
variable {P : Program} {ops : Array Oper} {Q : Exit → Act → World → Prop} {md : Region.Mode} {S : World → Prop} {T : Nat → Bool}

/-- Whatever order is picked: S holds behind every operation that is carried out before the first one of T. -/
def wpAnyT (P : Program) (md : Region.Mode) (ops : Array Oper) (Q : Exit → Act → World → Prop) (S : World → Prop) (T : Nat → Bool) : Nat → Array Bool → Act → World → Prop
  | 0, listed, a, w => Region.ready md ops listed = [] ∧ Q .normal a w
  | fuel + 1, listed, a, w =>
    (Region.ready md ops listed = [] → Q .normal a w) ∧
    ∀ i ∈ Region.ready md ops listed,
      (T i = true → wpOp P ops Q i (fun a' w' => wpAny P md ops Q fuel (listed.setIfInBounds i true) a' w') a w) ∧
      (T i = false → wpOp P ops Q i (fun a' w' => S w' ∧ wpAnyT P md ops Q S T fuel (listed.setIfInBounds i true) a' w') a w)
theorem wpAny_of_T : ∀ (fuel : Nat) (listed : Array Bool) (a : Act) (w : World), wpAnyT P md ops Q S T fuel listed a w → wpAny P md ops Q fuel listed a w
  | 0, _, _, _, h => h
  | fuel + 1, listed, a, w, h => ⟨h.1, fun i hi => by
    cases ht : T i with
    | true => exact (h.2 i hi).1 ht
    | false => exact wpOp_mono (fun a' w' h' => wpAny_of_T fuel _ a' w' h'.2) ((h.2 i hi).2 ht)⟩
theorem wpAnyT_first {i : Nat} {oi : Oper} {v : Value} (hi : ops[i]? = some oi) (hTi : T i = false) (hsel : ∀ (j : Nat) (o : Oper) cs b, ops[j]? = some o → o.op ≠ .select cs b)
    (hQ : ∀ c a w, Q (.panic c) (a.put oi.dst v) w → Q (.panic c) a w) :
    ∀ (fuel : Nat) (listed : Array Bool) (a : Act) (w : World),
      (∀ j oj, ops[j]? = some oj → j ≠ i → listed.getD j true = false → (∀ e ∈ oj.after, Region.binds md e = true → e.on ≠ i) → oi.apart ops oj = true) →
      (∀ j oj, T j = true → ops[j]? = some oj → ∃ e, e ∈ oj.after ∧ Region.binds md e = true ∧ (e.on = i ∨ (listed.getD e.on true = false ∧ ∃ ou, ops[e.on]? = some ou ∧ ∃ e2, e2 ∈ ou.after ∧ Region.binds md e2 = true ∧ e2.on = i))) →
      i ∈ Region.ready md ops listed → YieldsIf P ops S oi v a → S w →
      wpAnyT P md ops Q S T fuel (listed.setIfInBounds i true) (a.put oi.dst v) w → wpAnyT P md ops Q S T (fuel + 1) listed a w := by
  intro fuel
  induction fuel with
  | zero =>
    intro listed a w _ _ hr hy hS H
    refine ⟨fun h => (by rw [h] at hr; cases hr), fun j hj => ?_⟩
    by_cases hji : j = i
    · subst hji; exact ⟨fun q => absurd (hTi.symm.trans q) (by decide), fun _ => hy.wpOp hi hS ⟨hS, H⟩⟩
    · have := ready_mono hj hji
      rw [H.1] at this
      cases this
  | succ fuel ih =>
    intro listed a w hfree hT hr hy hS H
    refine ⟨fun h => (by rw [h] at hr; cases hr), fun j hj => ?_⟩
    by_cases hji : j = i
    · subst hji; exact ⟨fun q => absurd (hTi.symm.trans q) (by decide), fun _ => hy.wpOp hi hS ⟨hS, H⟩⟩
    · obtain ⟨hjun, oj, hoj, hall⟩ := mem_ready.1 hj
      have hnot : ∀ e ∈ oj.after, Region.binds md e = true → e.on ≠ i := fun e he hb heq => by
        have h1 := hall e he hb
        have h0 := (mem_ready.1 hr).1
        rw [heq] at h1
        rcases Nat.lt_or_ge i listed.size with h' | h'
        · simp [h'] at h0 h1; rw [h0] at h1; cases h1
        · simp [Array.getElem?_eq_none h'] at h1
      have hTj : T j = false := by
        cases q : T j with
        | false => rfl
        | true =>
          obtain ⟨e, he, hb, hon | ⟨hu, _⟩⟩ := hT j oj q hoj
          · exact absurd hon (hnot e he hb)
          · have h1 := hall e he hb
            rcases Nat.lt_or_ge e.on listed.size with h' | h'
            · simp [h'] at hu h1; rw [hu] at h1; cases h1
            · simp [Array.getElem?_eq_none h'] at hu
      refine ⟨fun q => absurd (hTj.symm.trans q) (by decide), fun _ => ?_⟩
      have h1 := (H.2 j (ready_mono hj hji)).2 hTj
      have h2 := wpOp_putIf hoj (hfree j oj hoj hji hjun hnot) (fun cs b => hsel i oi cs b hi) (fun cs b => hsel j oj cs b hoj) hQ hy h1
      have hfree' : ∀ k ok, ops[k]? = some ok → k ≠ i → (listed.setIfInBounds j true).getD k true = false →
          (∀ e ∈ ok.after, Region.binds md e = true → e.on ≠ i) → oi.apart ops ok = true := fun k ok hk hki hun hno => by
        refine hfree k ok hk hki ?_ hno
        by_cases hjk : j = k
        · subst hjk; exact hjun
        · rw [Go.getD_set_ne true hjk] at hun; exact hun
      have hT' : ∀ k ok, T k = true → ops[k]? = some ok → ∃ e, e ∈ ok.after ∧ Region.binds md e = true ∧ (e.on = i ∨ ((listed.setIfInBounds j true).getD e.on true = false ∧ ∃ ou, ops[e.on]? = some ou ∧ ∃ e2, e2 ∈ ou.after ∧ Region.binds md e2 = true ∧ e2.on = i)) := fun k ok hk ho => by
        obtain ⟨e, he, hb, hon | ⟨hu, ou, hou, e2, he2, hb2, hon2⟩⟩ := hT k ok hk ho
        · exact ⟨e, he, hb, .inl hon⟩
        · refine ⟨e, he, hb, .inr ⟨?_, ou, hou, e2, he2, hb2, hon2⟩⟩
          by_cases hje : j = e.on
          · subst hje
            rw [hou] at hoj
            cases hoj
            exact absurd hon2 (hnot e2 he2 hb2)
          · rw [Go.getD_set_ne true hje]; exact hu
      refine wpOp_mono (fun a' w' h3 => ⟨h3.2.1, ih (listed.setIfInBounds j true) a' w' hfree' hT' (ready_mono hr (Ne.symm hji)) h3.1 h3.2.1 ?_⟩) h2
      rw [Array.setIfInBounds_comm _ _ hji]
      exact h3.2.2
theorem yields_of {o : Oper} {v : Value} {a : Act} (h : YieldsIf P ops (fun _ => True) o v a) : Yields P ops o v a :=
  h.imp (fun ⟨hw, hv⟩ => ⟨hw, fun w => hv w trivial⟩) id
/-- What yields in whatever world may be taken first, whoever waits for it. -/
theorem wpAnyT_firstY {i : Nat} {oi : Oper} {v : Value} (hi : ops[i]? = some oi) (hTi : T i = false) (hsel : ∀ (j : Nat) (o : Oper) cs b, ops[j]? = some o → o.op ≠ .select cs b)
    (hQ : ∀ c a w, Q (.panic c) (a.put oi.dst v) w → Q (.panic c) a w) :
    ∀ (fuel : Nat) (listed : Array Bool) (a : Act) (w : World),
      (∀ j oj, ops[j]? = some oj → j ≠ i → listed.getD j true = false → (∀ e ∈ oj.after, Region.binds md e = true → e.on ≠ i) → oi.apart ops oj = true) →
      i ∈ Region.ready md ops listed → YieldsIf P ops (fun _ => True) oi v a → S w →
      wpAnyT P md ops Q S T fuel (listed.setIfInBounds i true) (a.put oi.dst v) w → wpAnyT P md ops Q S T (fuel + 1) listed a w := by
  intro fuel
  induction fuel with
  | zero =>
    intro listed a w _ hr hy hS H
    refine ⟨fun h => (by rw [h] at hr; cases hr), fun j hj => ?_⟩
    by_cases hji : j = i
    · subst hji; exact ⟨fun q => absurd (hTi.symm.trans q) (by decide), fun _ => hy.wpOp hi trivial ⟨hS, H⟩⟩
    · have := ready_mono hj hji
      rw [H.1] at this
      cases this
  | succ fuel ih =>
    intro listed a w hfree hr hy hS H
    refine ⟨fun h => (by rw [h] at hr; cases hr), fun j hj => ?_⟩
    by_cases hji : j = i
    · subst hji; exact ⟨fun q => absurd (hTi.symm.trans q) (by decide), fun _ => hy.wpOp hi trivial ⟨hS, H⟩⟩
    · obtain ⟨hjun, oj, hoj, hall⟩ := mem_ready.1 hj
      have hnot : ∀ e ∈ oj.after, Region.binds md e = true → e.on ≠ i := fun e he hb heq => by
        have h1 := hall e he hb
        have h0 := (mem_ready.1 hr).1
        rw [heq] at h1
        rcases Nat.lt_or_ge i listed.size with h' | h'
        · simp [h'] at h0 h1; rw [h0] at h1; cases h1
        · simp [Array.getElem?_eq_none h'] at h1
      have hfree' : ∀ k ok, ops[k]? = some ok → k ≠ i → (listed.setIfInBounds j true).getD k true = false →
          (∀ e ∈ ok.after, Region.binds md e = true → e.on ≠ i) → oi.apart ops ok = true := fun k ok hk hki hun hno => by
        refine hfree k ok hk hki ?_ hno
        by_cases hjk : j = k
        · subst hjk; exact hjun
        · rw [Go.getD_set_ne true hjk] at hun; exact hun
      refine ⟨fun hTj => ?_, fun hTj => ?_⟩
      · have h1 := (H.2 j (ready_mono hj hji)).1 hTj
        have h2 := wpOp_putIf hoj (hfree j oj hoj hji hjun hnot) (fun cs b => hsel i oi cs b hi) (fun cs b => hsel j oj cs b hoj) hQ hy h1
        refine wpOp_mono (fun a' w' h3 => wpAny_first hi hsel hQ fuel (listed.setIfInBounds j true) a' w' hfree' (ready_mono hr (Ne.symm hji)) (yields_of h3.1) ?_) h2
        rw [Array.setIfInBounds_comm _ _ hji]
        exact h3.2
      · have h1 := (H.2 j (ready_mono hj hji)).2 hTj
        have h2 := wpOp_putIf hoj (hfree j oj hoj hji hjun hnot) (fun cs b => hsel i oi cs b hi) (fun cs b => hsel j oj cs b hoj) hQ hy h1
        refine wpOp_mono (fun a' w' h3 => ⟨h3.2.1, ih (listed.setIfInBounds j true) a' w' hfree' (ready_mono hr (Ne.symm hji)) h3.1 h3.2.1 ?_⟩) h2
        rw [Array.setIfInBounds_comm _ _ hji]
        exact h3.2.2
/-- Do all of T wait for number i, or for one that has not come up and waits for it? -/
def waitsFor (md : Region.Mode) (ops : Array Oper) (ts : List Nat) (listed : Array Bool) (i : Nat) : Bool :=
  ts.all fun j => match ops[j]? with
    | some oj => oj.after.any fun e => Region.binds md e && (e.on == i || (!(listed.getD e.on true) && match ops[e.on]? with | some ou => ou.after.any fun e2 => Region.binds md e2 && e2.on == i | none => false))
    | none => true
theorem waitsFor_spec {ts : List Nat} {listed : Array Bool} {i : Nat} (h : waitsFor md ops ts listed i = true) : ∀ j oj, ts.contains j = true → ops[j]? = some oj → ∃ e, e ∈ oj.after ∧ Region.binds md e = true ∧ (e.on = i ∨ (listed.getD e.on true = false ∧ ∃ ou, ops[e.on]? = some ou ∧ ∃ e2, e2 ∈ ou.after ∧ Region.binds md e2 = true ∧ e2.on = i)) := by
  intro j oj hj ho
  unfold waitsFor at h
  rw [List.all_eq_true] at h
  have := h j (by simpa using hj)
  rw [ho] at this
  simp only [Array.any_eq_true] at this
  obtain ⟨k, hk, hb⟩ := this
  rw [Bool.and_eq_true, Bool.or_eq_true] at hb
  refine ⟨_, Array.getElem_mem hk, hb.1, ?_⟩
  rcases hb.2 with q | q
  · exact .inl (by simpa using q)
  · rw [Bool.and_eq_true] at q
    refine .inr ⟨by simpa using q.1, ?_⟩
    have q2 := q.2
    cases hu : ops[(oj.after[k]).on]? with
    | none => rw [hu] at q2; cases q2
    | some ou =>
      rw [hu] at q2
      simp only [Array.any_eq_true] at q2
      obtain ⟨m, hm, hc⟩ := q2
      rw [Bool.and_eq_true] at hc
      exact ⟨ou, rfl, _, Array.getElem_mem hm, hc.1, by simpa using hc.2⟩
theorem wpAnyT_take {i : Nat} {oi : Oper} {v : Value} {fuel : Nat} {ts : List Nat} {listed : Array Bool} {a : Act} {w : World} (hi : ops[i]? = some oi) (hTi : ts.contains i = false)
    (hs : Region.noSelect ops = true) (hf : Region.free md ops listed i = true) (hr : (Region.ready md ops listed).contains i = true) (hT : waitsFor md ops ts listed i = true)
    (hQ : ∀ c a w, Q (.panic c) (a.put oi.dst v) w → Q (.panic c) a w) (hy : YieldsIf P ops S oi v a) (hS : S w)
    (h : wpAnyT P md ops Q S ts.contains fuel (listed.setIfInBounds i true) (a.put oi.dst v) w) : wpAnyT P md ops Q S ts.contains (fuel + 1) listed a w :=
  wpAnyT_first hi hTi (Region.noSelect_spec hs) hQ fuel listed a w (Region.free_spec hi hf) (waitsFor_spec hT) (by simpa using hr) hy hS h
theorem wpAnyT_takeY {i : Nat} {oi : Oper} {v : Value} {fuel : Nat} {ts : List Nat} {listed : Array Bool} {a : Act} {w : World} (hi : ops[i]? = some oi) (hTi : ts.contains i = false)
    (hs : Region.noSelect ops = true) (hf : Region.free md ops listed i = true) (hr : (Region.ready md ops listed).contains i = true)
    (hQ : ∀ c a w, Q (.panic c) (a.put oi.dst v) w → Q (.panic c) a w) (hy : YieldsIf P ops (fun _ => True) oi v a) (hS : S w)
    (h : wpAnyT P md ops Q S ts.contains fuel (listed.setIfInBounds i true) (a.put oi.dst v) w) : wpAnyT P md ops Q S ts.contains (fuel + 1) listed a w :=
  wpAnyT_firstY hi hTi (Region.noSelect_spec hs) hQ fuel listed a w (Region.free_spec hi hf) (by simpa using hr) hy hS h
/-- Each of the operations that may come up comes up. -/
def AllT (P : Program) (md : Region.Mode) (ops : Array Oper) (Q : Exit → Act → World → Prop) (S : World → Prop) (T : Nat → Bool) (fuel : Nat) (listed : Array Bool) (a : Act) (w : World) (rs : List Nat) : Prop :=
  ∀ i ∈ rs, (T i = true → wpOp P ops Q i (fun a' w' => wpAny P md ops Q fuel (listed.setIfInBounds i true) a' w') a w) ∧
      (T i = false → wpOp P ops Q i (fun a' w' => S w' ∧ wpAnyT P md ops Q S T fuel (listed.setIfInBounds i true) a' w') a w)
theorem AllT.nil {fuel : Nat} {listed : Array Bool} {a : Act} {w : World} : AllT P md ops Q S T fuel listed a w [] := fun _ h => by cases h
theorem wpAnyT_ready {rs : List Nat} {fuel : Nat} {listed : Array Bool} {a : Act} {w : World} (hr : Region.ready md ops listed = rs) (hne : rs ≠ [])
    (h : AllT P md ops Q S T fuel listed a w rs) : wpAnyT P md ops Q S T (fuel + 1) listed a w := ⟨fun h0 => absurd (hr ▸ h0) hne, hr ▸ h⟩
theorem AllT.cons {fuel : Nat} {listed : Array Bool} {a : Act} {w : World} {i : Nat} {o : Oper} {rs : List Nat} (ho : ops[i]? = some o) (hTi : T i = false)
    (h : ∀ K' : Act → World → Prop, Shut (∀ a w, S w → (S w → wpAnyT P md ops Q S T fuel (listed.setIfInBounds i true) a w) → K' a w) → if Region.wanted o (yielded ops a.tmps) = true then Oper.wp P o a w K' Q else K' (a.put o.dst undef) w)
    (hs : AllT P md ops Q S T fuel listed a w rs) : AllT P md ops Q S T fuel listed a w (i :: rs) := fun j hj => by
  rcases List.mem_cons.1 hj with rfl | hj
  · exact ⟨fun q => absurd (hTi.symm.trans q) (by decide), fun _ => wpOp_step ho (fun K' hK => h K' (fun a w hS hW => hK a w ⟨hS, hW hS⟩))⟩
  · exact hs j hj
theorem AllT.last {fuel : Nat} {listed : Array Bool} {a : Act} {w : World} {i : Nat} {o : Oper} {rs : List Nat} (ho : ops[i]? = some o) (hTi : T i = true)
    (h : ∀ K' : Act → World → Prop, Shut (∀ a w, wpAny P md ops Q fuel (listed.setIfInBounds i true) a w → K' a w) → if Region.wanted o (yielded ops a.tmps) = true then Oper.wp P o a w K' Q else K' (a.put o.dst undef) w)
    (hs : AllT P md ops Q S T fuel listed a w rs) : AllT P md ops Q S T fuel listed a w (i :: rs) := fun j hj => by
  rcases List.mem_cons.1 hj with rfl | hj
  · exact ⟨fun _ => wpOp_step ho (fun K' hK => h K' (fun a w hW => hK a w hW)), fun q => absurd (hTi.symm.trans q) (by decide)⟩
  · exact hs j hj
theorem wp_region_T (ts : List Nat) {id : Nat} {a : Act} {w : World} (hm : P.follows .mixedOrders = true) (hS : S w.drew)
    (h : S w.drew → wpAnyT P .any ops Q S ts.contains ops.size (Array.replicate ops.size false) a w.drew) : (Code.region id ops true).wp P Q a w :=
  wp_region_any hm (wpAny_of_T _ _ _ _ (h hS))
end
end Go.Proofs.Ytbcfphoheijmdaa.H
end

section
/- The work of a kit while it is made: two rows that grow side by side. -/
namespace Go.Proofs.Ytbcfphoheijmdaa.Print
open Go.RowKit Go.Proofs.YtbcfphoheijmdaaW.PrintWords Go.Proofs.YtbcfphoheijmdaaW.PrintLast Go.Proofs.YtbcfphoheijmdaaW.PrintMore Go.Proofs.Ytbcfphoheijmdaa.H
set_option linter.unusedVariables false
set_option linter.unusedSimpArgs false

theorem info133 : (Try.prog.info? 133).map (fun i => (i.zero, i.size, i.bytes)) = some (some (.int .u32 0), 1, 4) := by kernel_rfl
/-- Two rows of sets, side by side; the blocks l; an empty map; single sets q that are to be appended. -/
structure Bg (w0 W : World) (l : List (Nat × Array Value × TypeId)) (mb : Nat) (vn : Value) (xs : List Int) (vb : Value) (ys : List Int) (q : List (Nat × Int)) : Prop where
  mem : Mem w0 W l
  types : ∀ p, p ∈ l → 133 ≠ p.2.2
  map : W.heap[mb]? = some (.map #[] 0)
  gem : w0.heap.size ≤ mb
  rn : (Kd.int .u32).R 133 W w0.heap.size (fun _ => True) vn xs
  rb : (Kd.int .u32).R 133 W w0.heap.size (fun _ => True) vb ys
  sep : ∀ k, vn.ownBlock = some k → some k ≠ vb.ownBlock
  src : ∀ p, p ∈ q → W.heap[p.1]? = some (.cells #[.int .u32 p.2] 133 (0, 0)) ∧ some p.1 ≠ vn.ownBlock ∧ some p.1 ≠ vb.ownBlock
namespace Bg
variable {w0 W W1 : World} {l : List (Nat × Array Value × TypeId)} {mb : Nat} {vn vb v1 : Value} {xs ys : List Int} {q : List (Nat × Int)}
theorem later (h : Bg w0 W l mb vn xs vb ys q) (hb : Below W.heap.size W W1) : Bg w0 W1 l mb vn xs vb ys q :=
  ⟨h.mem.step hb, h.types, blk_below h.map hb, h.gem, Kd.R_below h.rn hb, Kd.R_below h.rb hb, h.sep, fun p hp => ⟨blk_below (h.src p hp).1 hb, (h.src p hp).2⟩⟩
theorem swap (h : Bg w0 W l mb vn xs vb ys q) : Bg w0 W l mb vb ys vn xs q :=
  ⟨h.mem, h.types, h.map, h.gem, h.rb, h.rn, fun k hk e => h.sep k e.symm hk.symm, fun p hp => ⟨(h.src p hp).1, (h.src p hp).2.2, (h.src p hp).2.1⟩⟩
theorem mapNe (h : (Kd.int .u32).R 133 W w0.heap.size (fun _ => True) vn xs) (hm : W.heap[mb]? = some (.map #[] 0)) : some mb ≠ vn.ownBlock := fun e => by
  obtain ⟨cells, hc⟩ := Kd.R_typed h mb e.symm
  rw [hm] at hc
  exact absurd hc (by simp)
theorem built (h : Bg w0 W l mb vn xs vb ys q) (x : Int) : Bg w0 (W.alloc (.cells #[.int .u32 x] 133)) l mb vn xs vb ys ((W.heap.size, x) :: q) := by
  have h1 := h.later (below_alloc (Below.refl _ _) (.cells #[.int .u32 x] 133))
  refine ⟨h1.mem, h1.types, h1.map, h1.gem, h1.rn, h1.rb, h1.sep, fun p hp => ?_⟩
  rcases List.mem_cons.1 hp with rfl | hp
  · exact ⟨blk_new W _, fun e => by have := Kd.R_lt h.rn _ e.symm; simp at this, fun e => by have := Kd.R_lt h.rb _ e.symm; simp at this⟩
  · exact h1.src p hp
theorem app (h : Bg w0 W l mb vn xs vb ys q) {x : Int} (hg : W.grownBy W1 vn.ownBlock) (hR : (Kd.int .u32).R 133 W1 w0.heap.size (fun _ => True) v1 (xs ++ [x])) (hat : v1.ownBlock = vn.ownBlock ∨ ∃ b, v1.ownBlock = some b ∧ W.heap.size ≤ b) : Bg w0 W1 l mb v1 (xs ++ [x]) vb ys q :=
  ⟨h.mem.grownR h.rn hg h.types, h.types, (hg.block mb (blk_lt h.map) (mapNe h.rn h.map)).trans h.map, h.gem, hR, Kd.R_grown2 h.rb rfl hg (fun k hk => h.sep k hk), fun k hk e => by
    rcases hat with q | ⟨b, q, hb⟩
    · exact h.sep k (q ▸ hk) e
    · have e1 : k = b := Option.some.inj (hk.symm.trans q)
      have := Kd.R_lt h.rb k e.symm
      omega, fun p hp => ⟨(hg.block _ (blk_lt (h.src p hp).1) (h.src p hp).2.1).trans (h.src p hp).1, fun e => by
    rcases hat with q | ⟨b, q, hb⟩
    · exact (h.src p hp).2.1 (e.trans q)
    · have e1 : p.1 = b := Option.some.inj (e.trans q)
      have := blk_lt (h.src p hp).1
      omega, (h.src p hp).2.2⟩⟩
theorem row {b : Nat} {x : Int} (h : Bg w0 W l mb vn xs vb ys q) (hm : (b, x) ∈ q) : ReadsRow (fun (x : Int) (cs : List Value) => cs = [.int .u32 x]) 1 W (some ⟨b, 0, none⟩) 1 [x] := by
  refine ⟨rfl, by omega, fun _ => ⟨_, rfl, fun j p hj => ?_⟩⟩
  cases j with
  | zero =>
    simp only [List.getElem?_cons_zero, Option.some.injEq] at hj
    subst hj
    refine ⟨_, rfl, rfl, fun i u hu => ?_⟩
    cases i with
    | zero =>
      simp only [List.getElem?_cons_zero, Option.some.injEq] at hu
      subst hu
      exact (blk_cell (h.src _ hm).1 0).trans rfl
    | succ i => simp at hu
  | succ j => simp at hj
end Bg
end Go.Proofs.Ytbcfphoheijmdaa.Print
end

section
/- begun: that the Go function's call makes the work of a kit. -/
namespace Go.Proofs.Ytbcfphoheijmdaa.Print
open Go.RowKit Go.Proofs.YtbcfphoheijmdaaW.PrintWords Go.Proofs.YtbcfphoheijmdaaW.PrintLast Go.Proofs.YtbcfphoheijmdaaW.PrintMore Go.Proofs.Ytbcfphoheijmdaa.H
attribute [local go_sem] max2_int min2_int max_two min_two max_three min_three max_four min_four
attribute [local go_sem ↓] Go.wp_at_zero Go.wp_at_succ
set_option linter.unusedVariables false
set_option linter.unusedSimpArgs false

theorem setsTo_next (L : List S57) (f : S57 → List Int) (i : Nat) : setsTo L f (i + 1) = setsTo L f i ++ [((setN (f (L.getD i z57)) : Nat) : Int)] := by
  unfold setsTo
  rw [List.range_succ, List.map_append]
  rfl
theorem Mem.add {w W W1 : World} {l : List (Nat × Array Value × TypeId)} {g : Nat} {cs : Array Value} {t : TypeId} (h : Mem w W l) (h2 : Mem W W1 [(g, cs, t)]) : Mem w W1 ((g, cs, t) :: l) := by
  refine ⟨below_step h.below h2.below, fun p hp => ?_, fun p hp => ?_, .cons (fun p hp => ?_) h.apart⟩
  · rcases List.mem_cons.1 hp with rfl | hp
    · exact h2.head
    · exact blk_below (h.blk p hp) h2.below
  · rcases List.mem_cons.1 hp with rfl | hp
    · exact Nat.le_trans h.below.size h2.geh
    · exact h.ge p hp
  · have := blk_lt (h.blk p hp)
    have := h2.geh
    show g ≠ p.1
    omega
theorem Bg.add {w0 W W1 : World} {l : List (Nat × Array Value × TypeId)} {mb : Nat} {vn vb : Value} {xs ys : List Int} {q : List (Nat × Int)} {g : Nat} {cs : Array Value} {t : TypeId} (h : Bg w0 W l mb vn xs vb ys q) (h2 : Mem W W1 [(g, cs, t)]) (ht : 133 ≠ t) : Bg w0 W1 ((g, cs, t) :: l) mb vn xs vb ys q := by
  have h3 := h.later h2.below
  refine ⟨Mem.add h.mem h2, fun p hp => ?_, h3.map, h3.gem, h3.rn, h3.rb, h3.sep, h3.src⟩
  rcases List.mem_cons.1 hp with rfl | hp
  · exact ht
  · exact h.types p hp
theorem Bg.drop {w0 W : World} {l : List (Nat × Array Value × TypeId)} {p : Nat × Array Value × TypeId} {mb : Nat} {vn vb : Value} {xs ys : List Int} {q : List (Nat × Int)} (h : Bg w0 W (p :: l) mb vn xs vb ys q) : Bg w0 W l mb vn xs vb ys q :=
  ⟨h.mem.drop, fun p hp => h.types p (List.mem_cons_of_mem _ hp), h.map, h.gem, h.rn, h.rb, h.sep, h.src⟩
theorem Memo.of_map {W : World} {mb : Nat} {val : Nat → Int} (h : W.heap[mb]? = some (.map #[] 0)) : Memo W mb val := by
  obtain ⟨n, D, hn, ⟨es, clock, hb, F, hs, hD⟩, hM⟩ := Memo.made W val
  have hb2 : (W.alloc (.map #[] 0)).heap[W.heap.size]? = some (.map #[] 0) := blk_new W _
  rw [hb2] at hb
  injection hb with hb
  injection hb with e1 e2
  subst e1
  subst e2
  exact ⟨n, D, hn, ⟨#[], 0, h, F, hs, hD⟩, hM⟩
theorem cellsOf {w0 W : World} {l : List (Nat × Array Value × TypeId)} {mb g wb : Nat} {vn vb vn0 vb0 a b c d e f m n : Value} {xs ys : List Int} {q : List (Nat × Int)} (h : Bg w0 W ((g, #[a, b, c, d], 57) :: (wb, #[e, f, vn0, vb0, m, n], 158) :: l) mb vn xs vb ys q) :
    W.cell? ⟨wb, 2, none⟩ = some vn0 ∧ W.cell? ⟨wb, 3, none⟩ = some vb0 ∧ W.cell? ⟨g, 0, none⟩ = some a ∧ W.cell? ⟨g, 1, none⟩ = some b :=
  ⟨(blk_cell h.mem.second 2).trans rfl, (blk_cell h.mem.second 3).trans rfl, (h.mem.cell 0).trans rfl, (h.mem.cell 1).trans rfl⟩
theorem Bg.put2 {w0 W : World} {l : List (Nat × Array Value × TypeId)} {mb g wb : Nat} {vn vb vn0 vb0 e f m n v : Value} {cs : Array Value} {xs ys : List Int} {q : List (Nat × Int)} (h : Bg w0 W ((g, cs, 57) :: (wb, #[e, f, vn0, vb0, m, n], 158) :: l) mb vn xs vb ys q) (hv : v = vn) :
    Bg w0 (W.setCell ⟨wb, 2, none⟩ v) ((g, cs, 57) :: (wb, #[e, f, v, vb0, m, n], 158) :: l) mb vn xs vb ys q := by
  have hm := (h.mem.swap.put 2 v (cs' := #[e, f, v, vb0, m, n]) rfl).swap
  have hw : ∀ k, k ≠ wb → (W.setCell ⟨wb, 2, none⟩ v).heap[k]? = W.heap[k]? := fun k hk => Below.heap_setCell W ⟨wb, 2, none⟩ v k hk
  have hty : ∀ k cells, W.heap[k]? = some (.cells cells 133 (0, 0)) → k ≠ wb := fun k cells hc e => by
    subst e
    rw [h.mem.second] at hc
    simp at hc
  have hmb : mb ≠ wb := fun e => by
    have := h.map
    rw [e, h.mem.second] at this
    simp at this
  refine ⟨hm, fun p hp => ?_, (hw mb hmb).trans h.map, h.gem, Kd.R_mono (Kd.R_step (Kd.R_bound h.rn) (fun k hk _ => hw k ?_)) (fun _ _ => trivial), Kd.R_mono (Kd.R_step (Kd.R_bound h.rb) (fun k hk _ => hw k ?_)) (fun _ _ => trivial), h.sep, fun p hp => ⟨(hw _ (hty _ _ (h.src p hp).1)).trans (h.src p hp).1, (h.src p hp).2⟩⟩
  · have := h.types
    simp only [List.mem_cons] at hp this
    rcases hp with rfl | rfl | hp
    · exact this _ (.inl rfl)
    · show (133 : Nat) ≠ 158; decide
    · exact this _ (.inr (.inr hp))
  · obtain ⟨_, _, _, t, ht, cells, hc⟩ := hk
    have : t = 133 := by simpa [Kd.int, Kd.scalar] using ht
    subst this
    exact hty _ _ hc
  · obtain ⟨_, _, _, t, ht, cells, hc⟩ := hk
    have : t = 133 := by simpa [Kd.int, Kd.scalar] using ht
    subst this
    exact hty _ _ hc
theorem Bg.put3 {w0 W : World} {l : List (Nat × Array Value × TypeId)} {mb g wb : Nat} {vn vb vn0 vb0 e f m n v : Value} {cs : Array Value} {xs ys : List Int} {q : List (Nat × Int)} (h : Bg w0 W ((g, cs, 57) :: (wb, #[e, f, vn0, vb0, m, n], 158) :: l) mb vn xs vb ys q) (hv : v = vb) :
    Bg w0 (W.setCell ⟨wb, 3, none⟩ v) ((g, cs, 57) :: (wb, #[e, f, vn0, v, m, n], 158) :: l) mb vn xs vb ys q := by
  have hm := (h.mem.swap.put 3 v (cs' := #[e, f, vn0, v, m, n]) rfl).swap
  have hw : ∀ k, k ≠ wb → (W.setCell ⟨wb, 3, none⟩ v).heap[k]? = W.heap[k]? := fun k hk => Below.heap_setCell W ⟨wb, 3, none⟩ v k hk
  have hty : ∀ k cells, W.heap[k]? = some (.cells cells 133 (0, 0)) → k ≠ wb := fun k cells hc e => by
    subst e
    rw [h.mem.second] at hc
    simp at hc
  have hmb : mb ≠ wb := fun e => by
    have := h.map
    rw [e, h.mem.second] at this
    simp at this
  refine ⟨hm, fun p hp => ?_, (hw mb hmb).trans h.map, h.gem, Kd.R_mono (Kd.R_step (Kd.R_bound h.rn) (fun k hk _ => hw k ?_)) (fun _ _ => trivial), Kd.R_mono (Kd.R_step (Kd.R_bound h.rb) (fun k hk _ => hw k ?_)) (fun _ _ => trivial), h.sep, fun p hp => ⟨(hw _ (hty _ _ (h.src p hp).1)).trans (h.src p hp).1, (h.src p hp).2⟩⟩
  · have := h.types
    simp only [List.mem_cons] at hp this
    rcases hp with rfl | rfl | hp
    · exact this _ (.inl rfl)
    · show (133 : Nat) ≠ 158; decide
    · exact this _ (.inr (.inr hp))
  · obtain ⟨_, _, _, t, ht, cells, hc⟩ := hk
    have : t = 133 := by simpa [Kd.int, Kd.scalar] using ht
    subst this
    exact hty _ _ hc
  · obtain ⟨_, _, _, t, ht, cells, hc⟩ := hk
    have : t = 133 := by simpa [Kd.int, Kd.scalar] using ht
    subst this
    exact hty _ _ hc
set_option maxHeartbeats 3200000 in
set_option maxRecDepth 100000 in
theorem begun_calls {w : World} {L : List S57} {c : Int} {A0 : Option Addr} {c0 : Nat} (hF : Fine L) (hH : Holds L) (hR : Kd.C k57 w A0 L.length L) (hc : L.length ≤ c0) :
    Calls Try.prog 92 #[.agg #[.slice A0 L.length c0, .int .i64 c]] w fun e w' => ∃ wb mb vn vb, e = .returned (.pointer (some ⟨wb, 0, none⟩)) ∧ Work w w' wb mb L c A0 c0 vn vb ∧ Memo w' mb (waysOf L) ∧ Below w.heap.size w w' := by
  have HR := Aside0.mk hR
  have HM := Aside0.mk (Mem.start w)
  have HH := Aside0.mk hH
  clear hR hH
  have hu49 := Try.underlying49
  have hu57 := Try.underlying57
  have hu158 := Try.underlying158
  have h14 := hF.short
  go_enter Try.func92, Try.ntmps92
  go_wp2_with (first
    | ((with_reducible refine gate_dst (N := 1) rfl ?_); refine ev_box HM.out rfl 49 (.tmp 0) rfl (cs := #[.slice A0 L.length c0, .int .i64 c]) rfl ?_; intro g1 w1 hm1 hq1; clear hq1; have HM1 := Aside0.mk hm1; clear hm1 HM; have c1 : w1.cell? ⟨g1, 0, none⟩ = some (.slice A0 L.length c0) := (HM1.out.cell 0).trans rfl; have c2 : w1.cell? ⟨g1, 1, none⟩ = some (.int .i64 c) := (HM1.out.cell 1).trans rfl))
  have i0 : (0 : Int) ≤ (L.length : Int) := by omega
  have i1 : (L.length : Int) ≤ 32 := by omega
  have hmk := fun W => run_makeMap (P := Try.prog) 156 W
  have hp2 : (2 : Nat) ^ L.length ≤ 2 ^ 14 := hF.small
  have hp1 : 0 < (2 : Nat) ^ L.length := Nat.two_pow_pos _
  have u1 : IntKind.u32.wrap (2 ^ L.length) = ((2 ^ L.length : Nat) : Int) := by
    have := wrap_u32 (a := 2 ^ L.length) (by omega)
    rw [Int.natCast_pow] at this ⊢
    exact this
  have u2 : IntKind.u32.wrap (((2 ^ L.length : Nat) : Int) - 1) = ((2 ^ L.length - 1 : Nat) : Int) := by
    have := wrap_u32 (a := 2 ^ L.length - 1) (by omega)
    rw [show (((2 ^ L.length : Nat) : Int) - 1) = ((2 ^ L.length - 1 : Nat) : Int) by omega]
    exact this
  generalize hALL : 2 ^ L.length - 1 = ALL at u2
  have HALL := Aside0.mk hALL
  clear hALL
  generalize hALL0 : ((2 ^ L.length : Nat) : Int) = ALL0 at u1 u2
  clear hALL0 hp1 hp2
  go_region_held3 (fun w' => w'.cell? ⟨g1, 0, none⟩ = some (.slice A0 L.length c0) ∧ w'.cell? ⟨g1, 1, none⟩ = some (.int .i64 c)) (first | exact ⟨c1, c2⟩ | exact ⟨(HM1.out.drew.alloc _).cell 0, (HM1.out.drew.alloc _).cell 1⟩ | exact ⟨((HM1.out.drew.alloc _).alloc _).cell 0, ((HM1.out.drew.alloc _).alloc _).cell 1⟩) (fail)
  clear hmk
  go_wp2_with fail
  have HB0 : Aside0 (Bg w (((w1.alloc (Obj.map #[] 0)).alloc (Obj.cells #[Value.slice A0 L.length c0, Value.int IntKind.i64 c, Value.slice none 0 0, Value.slice none 0 0, Value.int IntKind.u32 ↑ALL, Value.map (some w1.heap.size)] 158)).drew) [(w1.heap.size + 1, #[Value.slice A0 L.length c0, Value.int IntKind.i64 c, Value.slice none 0 0, Value.slice none 0 0, Value.int IntKind.u32 ↑ALL, Value.map (some w1.heap.size)], 158), (g1, #[.slice A0 L.length c0, .int .i64 c], 49)] w1.heap.size (.slice none 0 0) (setsTo L S57.f0 0) (.slice none 0 0) (setsTo L S57.f1 0) []) := ⟨by
    have h1 := HM1.out.alloc (Obj.map #[] 0)
    have h2 := (h1.new (g := w1.heap.size + 1) (by simp) (by have := blk_new (w1.alloc (Obj.map #[] 0)) (Obj.cells #[Value.slice A0 L.length c0, Value.int IntKind.i64 c, Value.slice none 0 0, Value.slice none 0 0, Value.int IntKind.u32 ↑ALL, Value.map (some w1.heap.size)] 158); simpa using this) (below_alloc (Below.refl _ _) _)).drew
    exact ⟨h2, by simp, by have := blk_new w1 (Obj.map #[] 0); exact (blk_below (blk_below this (below_alloc (Below.refl _ _) _)) (below_drew1 (Below.refl _ _))), HM1.out.below.size, Kd.R_nil _ _ _ _ _, Kd.R_nil _ _ _ _ _, by simp [Value.ownBlock], by simp⟩⟩
  have HMZ := Aside0.mk (show w1.heap.size ≠ w1.heap.size + 1 by omega)
  generalize w1.heap.size + 1 = wb at HB0 HMZ
  generalize w1.heap.size = mb at HB0 HMZ
  go_loopg [18] L.length (fun k v18 w' => ∃ (i : Nat) (vn vb : Value) (q : List (Nat × Int)), v18 = .int .i64 i ∧ Aside0 (i + k = L.length) ∧ Aside0 (Bg w w' [(wb, #[Value.slice A0 L.length c0, Value.int IntKind.i64 c, vn, vb, Value.int IntKind.u32 ↑ALL, Value.map (some mb)], 158), (g1, #[.slice A0 L.length c0, .int .i64 c], 49)] mb vn (setsTo L S57.f0 i) vb (setsTo L S57.f1 i) q))
  case atStart => exact ⟨0, _, _, [], rfl, ⟨by omega⟩, HB0⟩
  case round =>
    clear HB0 HM1 c1 c2
    obtain ⟨i, vn, vb, q, rfl, HK, HBG⟩ := hrel
    by_cases hi : i < L.length
    · obtain ⟨ad, A3, c3, A4, c4, e0, x0, x1, x2, x3, b0, h0, b1, h1⟩ := at57 HR.out i hi
      cases e0
      have HXN := Aside0.mk (setsTo_next L S57.f0 i)
      have HXB := Aside0.mk (setsTo_next L S57.f1 i)
      have HEN := Aside0.mk (setOf_eq (L.getD i z57).f0 (fun p hp => by have := hF.needs i hi p hp; omega) (by have := HH.out (L.getD i z57) (by rw [List.getD_eq_getElem?_getD, List.getElem?_eq_getElem hi]; exact List.getElem_mem _); omega))
      have HEB := Aside0.mk (setOf_eq (L.getD i z57).f1 (fun p hp => by have := hF.bars i hi p hp; omega) (by have := HH.out (L.getD i z57) (by rw [List.getD_eq_getElem?_getD, List.getElem?_eq_getElem hi]; exact List.getElem_mem _); omega))
      generalize L.getD i z57 = X at x0 x1 x2 x3 b0 h0 b1 h1 HXN HXB HEN HEB
      generalize ((setN X.f0 : Nat) : Int) = xn at HXN HEN
      generalize ((setN X.f1 : Nat) : Int) = xb at HXB HEB
      have HCN := Aside0.mk (fun W (hB : Below w.heap.size w W) => mount_setOf.calls _ A3 c3 X.f0 xn W (Kd.C_below h0 hB) b0 HEN.out)
      have HCB := Aside0.mk (fun W (hB : Below w.heap.size w W) => mount_setOf.calls _ A4 c4 X.f1 xb W (Kd.C_below h1 hB) b1 HEB.out)
      clear h0 h1 b0 b1
      replace x0 := cell_later HBG.out.mem.below x0
      replace x1 := cell_later HBG.out.mem.below x1
      replace x2 := cell_later HBG.out.mem.below x2
      replace x3 := cell_later HBG.out.mem.below x3
      have hk1 : (0 : Int) ≤ (i : Int) := by omega
      have hk2 : (i : Int) < (L.length : Int) := by omega
      have HMR := Aside0.mk (Mem.start wr)
      go_wp2_with (first
        | ((with_reducible refine gate_dst (N := 5) rfl ?_); refine ev_new HMR.out rfl 57 rfl info57 ?_; intro g3 w3 hm3 hq1; have HM6 := Aside0.mk hm3; clear hm3 hq1 HMR)
        | (refine ev_store HM6.out rfl 57 (.tmp 5) (.tmp 21) rfl rfl (cs := #[.slice A3 X.f0.length c3, .slice A4 X.f1.length c4, .int .i64 X.f2, .int .i64 X.f3]) rfl size57 rfl rfl (by simp [Value.oneCell']) ?_; intro w4 hm4 hq2; have HBG := Aside0.mk (HBG.out.add hm4 (by decide)); clear hm4 hq2 HM6))
      clear x0 x1 x2 x3
      have HBG := Aside0.mk (HBG.out.later (below_drew1 (Below.refl _ _)))
      refine wp_region_noPanic ?_
      refine H.wp_region_T [22, 25] (S := fun w' => w'.cell? ⟨wb, 2, none⟩ = some vn ∧ w'.cell? ⟨wb, 3, none⟩ = some vb ∧ w'.cell? ⟨g3, 0, none⟩ = some (.slice A3 X.f0.length c3) ∧ w'.cell? ⟨g3, 1, none⟩ = some (.slice A4 X.f1.length c4)) (by kernel_rfl) (cellsOf HBG.out) (fun hHeld => ?_)
      clear hi
      refine H.wpAnyT_takeY (i := 0) (v := .pointer (some ⟨wb, 0, none⟩)) rfl (by decide) (by kernel_rfl) (by kernel_rfl) (by kernel_rfl) (fun _ _ _ h => h) (Or.inl ⟨by rfl, ?_⟩) hHeld ?_
      · (intro w_ hSw; go_simp; try rfl)
      try simp only [Act.put, List.setIfInBounds_toArray, List.set_cons_zero, List.set_cons_succ]
      refine H.wpAnyT_takeY (i := 1) (v := .pointer (some ⟨wb, 0, none⟩)) rfl (by decide) (by kernel_rfl) (by kernel_rfl) (by kernel_rfl) (fun _ _ _ h => h) (Or.inl ⟨by rfl, ?_⟩) hHeld ?_
      · (intro w_ hSw; go_simp; try rfl)
      try simp only [Act.put, List.setIfInBounds_toArray, List.set_cons_zero, List.set_cons_succ]
      refine H.wpAnyT_takeY (i := 2) (v := .pointer (some ⟨wb, 0, none⟩)) rfl (by decide) (by kernel_rfl) (by kernel_rfl) (by kernel_rfl) (fun _ _ _ h => h) (Or.inl ⟨by rfl, ?_⟩) hHeld ?_
      · (intro w_ hSw; go_simp; try rfl)
      try simp only [Act.put, List.setIfInBounds_toArray, List.set_cons_zero, List.set_cons_succ]
      refine H.wpAnyT_takeY (i := 3) (v := .pointer (some ⟨wb, 0, none⟩)) rfl (by decide) (by kernel_rfl) (by kernel_rfl) (by kernel_rfl) (fun _ _ _ h => h) (Or.inl ⟨by rfl, ?_⟩) hHeld ?_
      · (intro w_ hSw; go_simp; try rfl)
      try simp only [Act.put, List.setIfInBounds_toArray, List.set_cons_zero, List.set_cons_succ]
      refine H.wpAnyT_takeY (i := 4) (v := .pointer (some ⟨wb, 2, none⟩)) rfl (by decide) (by kernel_rfl) (by kernel_rfl) (by kernel_rfl) (fun _ _ _ h => h) (Or.inl ⟨by rfl, ?_⟩) hHeld ?_
      · (intro w_ hSw; go_simp; try rfl)
      try simp only [Act.put, List.setIfInBounds_toArray, List.set_cons_zero, List.set_cons_succ]
      refine H.wpAnyT_take (i := 5) (v := vn) rfl (by decide) (by kernel_rfl) (by kernel_rfl) (by kernel_rfl) (by kernel_rfl) (fun _ _ _ h => h) (Or.inl ⟨by rfl, ?_⟩) hHeld ?_
      · (intro w_ hSw; (try dsimp only at hSw); obtain ⟨q1, q2, q3, q4⟩ := hSw; go_simp; try rfl)
      try simp only [Act.put, List.setIfInBounds_toArray, List.set_cons_zero, List.set_cons_succ]
      refine H.wpAnyT_takeY (i := 6) (v := .pointer (some ⟨g3, 0, none⟩)) rfl (by decide) (by kernel_rfl) (by kernel_rfl) (by kernel_rfl) (fun _ _ _ h => h) (Or.inl ⟨by rfl, ?_⟩) hHeld ?_
      · (intro w_ hSw; go_simp; try rfl)
      try simp only [Act.put, List.setIfInBounds_toArray, List.set_cons_zero, List.set_cons_succ]
      refine H.wpAnyT_take (i := 7) (v := .slice A3 X.f0.length c3) rfl (by decide) (by kernel_rfl) (by kernel_rfl) (by kernel_rfl) (by kernel_rfl) (fun _ _ _ h => h) (Or.inl ⟨by rfl, ?_⟩) hHeld ?_
      · (intro w_ hSw; (try dsimp only at hSw); obtain ⟨q1, q2, q3, q4⟩ := hSw; go_simp; try rfl)
      try simp only [Act.put, List.setIfInBounds_toArray, List.set_cons_zero, List.set_cons_succ]
      refine H.wpAnyT_takeY (i := 11) (v := .pointer (some ⟨wb, 0, none⟩)) rfl (by decide) (by kernel_rfl) (by kernel_rfl) (by kernel_rfl) (fun _ _ _ h => h) (Or.inl ⟨by rfl, ?_⟩) hHeld ?_
      · (intro w_ hSw; go_simp; try rfl)
      try simp only [Act.put, List.setIfInBounds_toArray, List.set_cons_zero, List.set_cons_succ]
      refine H.wpAnyT_takeY (i := 12) (v := .pointer (some ⟨wb, 0, none⟩)) rfl (by decide) (by kernel_rfl) (by kernel_rfl) (by kernel_rfl) (fun _ _ _ h => h) (Or.inl ⟨by rfl, ?_⟩) hHeld ?_
      · (intro w_ hSw; go_simp; try rfl)
      try simp only [Act.put, List.setIfInBounds_toArray, List.set_cons_zero, List.set_cons_succ]
      refine H.wpAnyT_takeY (i := 13) (v := .pointer (some ⟨wb, 3, none⟩)) rfl (by decide) (by kernel_rfl) (by kernel_rfl) (by kernel_rfl) (fun _ _ _ h => h) (Or.inl ⟨by rfl, ?_⟩) hHeld ?_
      · (intro w_ hSw; go_simp; try rfl)
      try simp only [Act.put, List.setIfInBounds_toArray, List.set_cons_zero, List.set_cons_succ]
      refine H.wpAnyT_take (i := 14) (v := vb) rfl (by decide) (by kernel_rfl) (by kernel_rfl) (by kernel_rfl) (by kernel_rfl) (fun _ _ _ h => h) (Or.inl ⟨by rfl, ?_⟩) hHeld ?_
      · (intro w_ hSw; (try dsimp only at hSw); obtain ⟨q1, q2, q3, q4⟩ := hSw; go_simp; try rfl)
      try simp only [Act.put, List.setIfInBounds_toArray, List.set_cons_zero, List.set_cons_succ]
      refine H.wpAnyT_takeY (i := 15) (v := .pointer (some ⟨g3, 1, none⟩)) rfl (by decide) (by kernel_rfl) (by kernel_rfl) (by kernel_rfl) (fun _ _ _ h => h) (Or.inl ⟨by rfl, ?_⟩) hHeld ?_
      · (intro w_ hSw; go_simp; try rfl)
      try simp only [Act.put, List.setIfInBounds_toArray, List.set_cons_zero, List.set_cons_succ]
      refine H.wpAnyT_take (i := 16) (v := .slice A4 X.f1.length c4) rfl (by decide) (by kernel_rfl) (by kernel_rfl) (by kernel_rfl) (by kernel_rfl) (fun _ _ _ h => h) (Or.inl ⟨by rfl, ?_⟩) hHeld ?_
      · (intro w_ hSw; (try dsimp only at hSw); obtain ⟨q1, q2, q3, q4⟩ := hSw; go_simp; try rfl)
      try simp only [Act.put, List.setIfInBounds_toArray, List.set_cons_zero, List.set_cons_succ]
      refine H.wpAnyT_ready (rs := [8]) (by kernel_rfl) (by simp) ?_
      refine H.AllT.cons (i := 8) rfl (by decide) (fun K hK => ?_) H.AllT.nil
      go_simp
      go_at_call 134
      refine (HCN.out _ HBG.out.mem.below).mono ?_
      rintro e W5n ⟨rfl, hd⟩
      have HBG := Aside0.mk (HBG.out.later hd.below)
      refine hK.out _ _ (cellsOf HBG.out) (fun hHeld => ?_)
      clear hK K
      try simp only [Act.put, List.setIfInBounds_toArray, List.set_cons_zero, List.set_cons_succ]
      refine H.wpAnyT_ready (rs := [9]) (by kernel_rfl) (by simp) ?_
      refine H.AllT.cons (i := 9) rfl (by decide) (fun K hK => ?_) H.AllT.nil
      go_simp
      have HBG := Aside0.mk (HBG.out.built xn)
      refine hK.out _ _ (cellsOf HBG.out) (fun hHeld => ?_)
      clear hK K
      try simp only [Act.put, List.setIfInBounds_toArray, List.set_cons_zero, List.set_cons_succ]
      refine H.wpAnyT_ready (rs := [10]) (by kernel_rfl) (by simp) ?_
      refine H.AllT.cons (i := 10) rfl (by decide) (fun K hK => ?_) H.AllT.nil
      refine Kd.R_append_rows_step (Kd.int .u32) (Rr := fun (x : Int) (cs : List Value) => cs = [.int .u32 x]) (w0 := w) w.heap.size (by rfl) (.tmp 27) (.tmp 31) 155 133 (.int .u32 0) 4 rfl Try.underlying155 info133 rfl (by decide) (by omega) vn _ [xn] _ 1 1 (fun _ => True) (fun _ => False) (by rfl) (by rfl) HBG.out.rn (HBG.out.row (x := xn) (by simp)) (fun x cs h => h) (fun _ hk => hk.elim) (fun _ _ => trivial) HBG.out.mem.below HBG.out.mem.below.size (by simp only [setsTo, List.length_map, List.length_range]; omega) ?_
      intro vn1 W6n hR6 hB6 hg6 hat6
      have HBG := Aside0.mk (HBG.out.app hg6 hR6 hat6)
      clear hR6 hB6 hg6 hat6
      refine hK.out _ _ (cellsOf HBG.out) (fun hHeld => ?_)
      clear hK K
      try simp only [Act.put, List.setIfInBounds_toArray, List.set_cons_zero, List.set_cons_succ]
      refine H.wpAnyT_ready (rs := [17]) (by kernel_rfl) (by simp) ?_
      refine H.AllT.cons (i := 17) rfl (by decide) (fun K hK => ?_) H.AllT.nil
      go_simp
      go_at_call 134
      refine (HCB.out _ HBG.out.mem.below).mono ?_
      rintro e W5b ⟨rfl, hd⟩
      have HBG := Aside0.mk (HBG.out.later hd.below)
      refine hK.out _ _ (cellsOf HBG.out) (fun hHeld => ?_)
      clear hK K
      try simp only [Act.put, List.setIfInBounds_toArray, List.set_cons_zero, List.set_cons_succ]
      refine H.wpAnyT_ready (rs := [18]) (by kernel_rfl) (by simp) ?_
      refine H.AllT.cons (i := 18) rfl (by decide) (fun K hK => ?_) H.AllT.nil
      go_simp
      have HBG := Aside0.mk (HBG.out.built xb)
      refine hK.out _ _ (cellsOf HBG.out) (fun hHeld => ?_)
      clear hK K
      try simp only [Act.put, List.setIfInBounds_toArray, List.set_cons_zero, List.set_cons_succ]
      refine H.wpAnyT_ready (rs := [19]) (by kernel_rfl) (by simp) ?_
      refine H.AllT.cons (i := 19) rfl (by decide) (fun K hK => ?_) H.AllT.nil
      refine Kd.R_append_rows_step (Kd.int .u32) (Rr := fun (x : Int) (cs : List Value) => cs = [.int .u32 x]) (w0 := w) w.heap.size (by rfl) (.tmp 36) (.tmp 40) 155 133 (.int .u32 0) 4 rfl Try.underlying155 info133 rfl (by decide) (by omega) vb _ [xb] _ 1 1 (fun _ => True) (fun _ => False) (by rfl) (by rfl) HBG.out.swap.rn (HBG.out.swap.row (x := xb) (by simp)) (fun x cs h => h) (fun _ hk => hk.elim) (fun _ _ => trivial) HBG.out.mem.below HBG.out.mem.below.size (by simp only [setsTo, List.length_map, List.length_range]; omega) ?_
      intro vb1 W6b hR6 hB6 hg6 hat6
      have HBG := Aside0.mk (HBG.out.swap.app hg6 hR6 hat6).swap
      clear hR6 hB6 hg6 hat6
      refine hK.out _ _ (cellsOf HBG.out) (fun hHeld => ?_)
      clear hK K
      try simp only [Act.put, List.setIfInBounds_toArray, List.set_cons_zero, List.set_cons_succ]
      obtain ⟨An, cn, rfl⟩ := Kd.R_slice HBG.out.rn
      obtain ⟨Ab, cb, rfl⟩ := Kd.R_slice HBG.out.rb
      simp only [List.length_append, List.length_cons, List.length_nil, Nat.zero_add] at HBG
      refine H.wpAnyT_takeY (i := 20) (v := .pointer (some ⟨wb, 0, none⟩)) rfl (by decide) (by kernel_rfl) (by kernel_rfl) (by kernel_rfl) (fun _ _ _ h => h) (Or.inl ⟨by rfl, ?_⟩) hHeld ?_
      · (intro w_ hSw; go_simp; try rfl)
      try simp only [Act.put, List.setIfInBounds_toArray, List.set_cons_zero, List.set_cons_succ]
      refine H.wpAnyT_takeY (i := 21) (v := .pointer (some ⟨wb, 2, none⟩)) rfl (by decide) (by kernel_rfl) (by kernel_rfl) (by kernel_rfl) (fun _ _ _ h => h) (Or.inl ⟨by rfl, ?_⟩) hHeld ?_
      · (intro w_ hSw; go_simp; try rfl)
      try simp only [Act.put, List.setIfInBounds_toArray, List.set_cons_zero, List.set_cons_succ]
      have f2 : W6b.frozen? ⟨wb, 2, none⟩ = false := blk_frozen HBG.out.mem.second _
      have s2 := hHeld.1
      refine H.wpAnyT_ready (rs := [22]) (by kernel_rfl) (by simp) ?_
      refine H.AllT.last (i := 22) rfl (by decide) (fun K hK => ?_) H.AllT.nil
      go_simp
      refine hK.out _ _ ?_
      clear hK K s2 f2
      have s4 := hHeld.2.1
      have f4 : W6b.frozen? ⟨wb, 3, none⟩ = false := blk_frozen HBG.out.mem.second _
      clear hHeld
      try simp only [Act.put, List.setIfInBounds_toArray, List.set_cons_zero, List.set_cons_succ]
      have HP := Aside0.mk (HBG.out.put2 rfl)
      have f3 := blk_frozen HP.out.mem.second 3
      have s3 := (blk_cell HP.out.mem.second 3).trans rfl
      refine wpAny_take (i := 23) (v := .pointer (some ⟨wb, 0, none⟩)) rfl (by kernel_rfl) (by kernel_rfl) (by kernel_rfl) (fun _ _ _ h => h) (Or.inl ⟨by rfl, ?_⟩) ?_
      · (intro w_; go_simp; try rfl)
      try simp only [Act.put, List.setIfInBounds_toArray, List.set_cons_zero, List.set_cons_succ]
      refine wpAny_take (i := 24) (v := .pointer (some ⟨wb, 3, none⟩)) rfl (by kernel_rfl) (by kernel_rfl) (by kernel_rfl) (fun _ _ _ h => h) (Or.inl ⟨by rfl, ?_⟩) ?_
      · (intro w_; go_simp; try rfl)
      try simp only [Act.put, List.setIfInBounds_toArray, List.set_cons_zero, List.set_cons_succ]
      refine wpAny_ready (rs := [25]) (by kernel_rfl) (by simp) ?_
      refine AllReady.cons (i := 25) rfl (fun K hK => ?_) AllReady.nil
      have HKK := Aside0.mk hK
      clear hK
      go_simp
      refine HKK.out _ _ ?_
      clear HKK s3 f3 s4 f4
      try simp only [Act.put, List.setIfInBounds_toArray, List.set_cons_zero, List.set_cons_succ]
      refine wpAny_done (by kernel_rfl) ?_ _
      have HQ := Aside0.mk (HP.out.put3 rfl)
      clear HP
      refine NoPanic.normal ?_
      go_wp2_with fail
      go_roundg (L.length - (i + 1))
      case measure => have := HK.out; omega
      case rel => exact ⟨i + 1, _, _, _, by go_num, ⟨by omega⟩, ⟨by rw [HXN.out, HXB.out]; exact HQ.out.drop⟩⟩
    · have HIL : Aside0 (i = L.length) := ⟨by have := HK.out; omega⟩
      go_wp2_with fail
      go_ret
      refine ⟨wb, mb, vn, vb, rfl, ?_, ?_, HBG.out.mem.below⟩
      · have hBB := HBG.out
        rw [HIL.out] at hBB
        refine ⟨by rw [HALL.out]; exact hBB.mem.head, ?_, ?_, HMZ.out.symm, hBB.mem.geh, hBB.gem, hBB.mem.below⟩
        · exact Kd.R_reok rfl hBB.rn (fun k hk => ⟨fun e => Kd.R_ne hBB.rn hBB.mem.head (by decide) (by rw [hk, e]), fun e => Bg.mapNe hBB.rn hBB.map (by rw [hk, e])⟩)
        · exact Kd.R_reok rfl hBB.rb (fun k hk => ⟨fun e => Kd.R_ne hBB.rb hBB.mem.head (by decide) (by rw [hk, e]), fun e => Bg.mapNe hBB.rb hBB.map (by rw [hk, e])⟩)
      · exact Memo.of_map HBG.out.map
end Go.Proofs.Ytbcfphoheijmdaa.Print
end

section
/- Orders: the Go function's call gives the number of orders of a kit. -/
namespace Go.Proofs.Ytbcfphoheijmdaa.Print
open Go.RowKit Go.Proofs.YtbcfphoheijmdaaW.PrintWords Go.Proofs.YtbcfphoheijmdaaW.PrintLast Go.Proofs.YtbcfphoheijmdaaW.PrintMore Go.Proofs.Ytbcfphoheijmdaa.H
attribute [local go_sem] max2_int min2_int max_two min_two max_three min_three max_four min_four
set_option linter.unusedVariables false
set_option linter.unusedSimpArgs false

theorem otherErr_ok {n own : Int} {l : List Int} {i : Nat} (h : otherErr n own l i = 0) : 0 ≤ l.getD i 0 ∧ l.getD i 0 ≤ n - 1 := by
  unfold otherErr at h
  split at h
  · omega
  · omega
theorem listed_ok {n own : Int} {l : List Int} (h : othersErr n own l = 0) : ∀ x, x ∈ l → 0 ≤ x ∧ x < n := by
  intro x hx
  obtain ⟨i, hi, rfl⟩ := List.mem_iff_getElem.1 hx
  have h1 := otherErr_ok (firstErr_zero h i hi)
  rw [List.getD_eq_getElem?_getD, List.getElem?_eq_getElem hi] at h1
  have h2 : 0 ≤ l[i] ∧ l[i] ≤ n - 1 := h1
  omega
theorem partErr_ok {n own : Int} {p : S57} (h : partErr n own p = 0) : (∀ x, x ∈ p.f0 → 0 ≤ x ∧ x < n) ∧ (∀ x, x ∈ p.f1 → 0 ≤ x ∧ x < n) ∧ 0 ≤ p.f2 ∧ p.f2 ≤ 8 ∧ 0 ≤ p.f3 ∧ p.f3 ≤ 10000 := by
  unfold partErr at h
  split at h
  · rename_i q
    exact absurd h q
  · rename_i q
    have q : firstErr (fun i => othersErr n own (listOf p i)) 2 = 0 := by
      by_cases z : firstErr (fun i => othersErr n own (listOf p i)) 2 = 0
      · exact z
      · exact absurd z q
    have z0 := firstErr_zero q 0 (by omega)
    have z1 := firstErr_zero q 1 (by omega)
    refine ⟨listed_ok z0, listed_ok z1, ?_⟩
    split at h
    · omega
    · omega
theorem kitErr_ok {L : List S57} {c : Int} (h : kitErr L c = 0) : L.length ≤ 14 ∧ 0 ≤ c ∧ c ≤ 10000 ∧ ∀ i, i < L.length → partErr L.length i (L.getD i z57) = 0 := by
  unfold kitErr at h
  split at h
  · omega
  · split at h
    · omega
    · exact ⟨by omega, by omega, by omega, firstErr_zero h⟩
theorem kitErr_fine {L : List S57} {c : Int} (h : kitErr L c = 0) : Fine L := by
  obtain ⟨h1, _, _, h2⟩ := kitErr_ok h
  exact ⟨h1, fun p hp x hx => (partErr_ok (h2 p hp)).1 x hx, fun p hp x hx => (partErr_ok (h2 p hp)).2.1 x hx⟩
def mount_Orders.f (l0_0 : List (S57)) (a0_1 : Int) : Option (Int × Int) := if Holds l0_0 then (if kitErr l0_0 a0_1 = 0 then some (waysOf l0_0 0, 0) else some (0, kitErr l0_0 a0_1)) else none
set_option maxHeartbeats 3200000 in
set_option maxRecDepth 100000 in
theorem mount_Orders.calls (A0_0 : Option Addr) (c0_0 : Nat) (l0_0 : List (S57)) (a0_1 : Int) (r1 : Int) (r2 : Int) (w : World) (hr0_0 : Kd.C k57 w A0_0 l0_0.length l0_0) (hc0_0 : l0_0.length ≤ c0_0) (h : mount_Orders.f l0_0 a0_1 = some (r1, r2)) :
    Calls Try.prog 30 #[.agg #[.slice A0_0 l0_0.length c0_0, .int .i64 a0_1]] w fun e w' => e = .returned (.tuple #[.int .i64 r1, .int .i64 r2]) ∧ Below w.heap.size w w' := by
  have HH : Holds l0_0 := by
    unfold mount_Orders.f at h
    split at h
    · assumption
    · exact absurd h (by simp)
  unfold mount_Orders.f at h
  rw [if_pos HH] at h
  have HR := Aside0.mk hr0_0
  have HM := Aside0.mk (Mem.start w)
  have hck : mount_CheckKit.f l0_0 a0_1 = some (kitErr l0_0 a0_1) := by unfold mount_CheckKit.f; rw [if_pos HH]
  have HCK := Aside0.mk (fun W (hB : Below w.heap.size w W) => mount_CheckKit.calls A0_0 c0_0 l0_0 a0_1 _ W (Kd.C_below hr0_0 hB) hc0_0 hck)
  have hu49 := Try.underlying49
  by_cases te : kitErr l0_0 a0_1 = 0
  · rw [if_pos te] at h
    have HF := Aside0.mk (Option.some.inj h)
    have HFI := kitErr_fine te
    have HBC := Aside0.mk (fun W (hB : Below w.heap.size w W) => begun_calls HFI HH (c := a0_1) (Kd.C_below hr0_0 hB) hc0_0)
    have HOC := Aside0.mk (fun (w0 W : World) (wb mb : Nat) (vn vb : Value) (hW : Work w0 W wb mb l0_0 a0_1 A0_0 c0_0 vn vb) (hM : Memo W mb (waysOf l0_0)) => orders_calls HFI _ 0 (Nat.le_refl _) (Nat.two_pow_pos _) W hW hM)
    rw [te] at HCK
    clear h te hr0_0 hck HFI
    go_enter Try.func30, Try.ntmps30
    go_wp2_with (first
      | ((with_reducible refine gate_dst (N := 1) rfl ?_); refine ev_box HM.out rfl 49 (.tmp 0) rfl (cs := #[.slice A0_0 l0_0.length c0_0, .int .i64 a0_1]) rfl ?_; intro g1 w1 hm1 hq1; clear hq1; have HM1 := Aside0.mk hm1; clear hm1 HM; have c1 : w1.cell? ⟨g1, 0, none⟩ = some (.slice A0_0 l0_0.length c0_0) := (HM1.out.cell 0).trans rfl; have c2 : w1.cell? ⟨g1, 1, none⟩ = some (.int .i64 a0_1) := (HM1.out.cell 1).trans rfl)
      | (go_at_call 40; refine (HCK.out _ HM1.out.below).mono ?_; rintro e w2 ⟨rfl, hd⟩; have HM2 := Aside0.mk (HM1.out.step hd); clear hd HM1 c1 c2; have c1 : w2.cell? ⟨g1, 0, none⟩ = some (.slice A0_0 l0_0.length c0_0) := (HM2.out.cell 0).trans rfl; have c2 : w2.cell? ⟨g1, 1, none⟩ = some (.int .i64 a0_1) := (HM2.out.cell 1).trans rfl)
      | (go_at_call 92; refine (HBC.out _ HM2.out.below).mono ?_; rintro e w3 ⟨wb, mb, vn, vb, rfl, hW3, hM3, hB3⟩; have HW3 := Aside0.mk hW3; have HM3 := Aside0.mk hM3; have HB3 := Aside0.mk hB3; clear hW3 hM3 hB3 c1 c2)
      | (go_at_call 93; refine (HOC.out _ _ _ _ _ _ HW3.out HM3.out).mono ?_; rintro e w4 ⟨rfl, hM4, hg4⟩; have HG4 := Aside0.mk hg4; clear hM4 hg4))
    go_ret2
    have e := HF.out
    injection e with e1 e2
    exact ⟨by rw [← e1, ← e2]; rfl, (HM2.out.step HB3.out).below.grown HG4.out (HM2.out.step HB3.out).below.size (fun k hk => by rw [← Option.some.inj hk]; exact Nat.le_trans HM2.out.below.size HW3.out.gem)⟩
  · rw [if_neg te] at h
    have HF := Aside0.mk (Option.some.inj h)
    have te1 : (kitErr l0_0 a0_1 != 0) = true := by simpa using te
    generalize kitErr l0_0 a0_1 = E at HF te1 HCK
    clear h te hr0_0 hck
    go_enter Try.func30, Try.ntmps30
    go_wp2_with (first
      | ((with_reducible refine gate_dst (N := 1) rfl ?_); refine ev_box HM.out rfl 49 (.tmp 0) rfl (cs := #[.slice A0_0 l0_0.length c0_0, .int .i64 a0_1]) rfl ?_; intro g1 w1 hm1 hq1; clear hq1; have HM1 := Aside0.mk hm1; clear hm1 HM; have c1 : w1.cell? ⟨g1, 0, none⟩ = some (.slice A0_0 l0_0.length c0_0) := (HM1.out.cell 0).trans rfl; have c2 : w1.cell? ⟨g1, 1, none⟩ = some (.int .i64 a0_1) := (HM1.out.cell 1).trans rfl)
      | (go_at_call 40; refine (HCK.out _ HM1.out.below).mono ?_; rintro e w2 ⟨rfl, hd⟩; have HM2 := Aside0.mk (HM1.out.step hd); clear hd HM1 c1 c2))
    go_ret2
    have e := HF.out
    injection e with e1 e2
    exact ⟨by rw [← e1, ← e2]; rfl, HM2.out.below⟩
end Go.Proofs.Ytbcfphoheijmdaa.Print
end

section
/- state: which error a kit and a list of parts have, and that the Go function's call gives it, or the work of the kit. -/
namespace Go.Proofs.Ytbcfphoheijmdaa.Print
open Go.RowKit Go.Proofs.YtbcfphoheijmdaaW.PrintWords Go.Proofs.YtbcfphoheijmdaaW.PrintLast Go.Proofs.YtbcfphoheijmdaaW.PrintMore Go.Proofs.Ytbcfphoheijmdaa.H
attribute [local go_sem] max2_int min2_int max_two min_two max_three min_three max_four min_four
set_option linter.unusedVariables false
set_option linter.unusedSimpArgs false

/-- The error of place i of a list of parts that are in. -/
def inErr (n : Int) (l : List Int) (i : Nat) : Int := if l.getD i 0 < 0 ∨ n - 1 < l.getD i 0 then 7 else if 0 < i ∧ l.getD i 0 ≤ l.getD (i - 1) 0 then 11 else 0
def stErr (L : List S57) (c : Int) (l : List Int) : Int := if kitErr L c ≠ 0 then kitErr L c else firstErr (inErr L.length l) l.length
theorem inErr_ok {n : Int} {l : List Int} {i : Nat} (h : inErr n l i = 0) : 0 ≤ l.getD i 0 ∧ l.getD i 0 ≤ n - 1 := by
  unfold inErr at h
  split at h
  · omega
  · omega
theorem stErr_ok {L : List S57} {c : Int} {l : List Int} (h : stErr L c l = 0) : kitErr L c = 0 ∧ ∀ x, x ∈ l → 0 ≤ x ∧ x < L.length := by
  unfold stErr at h
  split at h
  · rename_i q; exact absurd h q
  · rename_i q
    refine ⟨by omega, fun x hx => ?_⟩
    obtain ⟨i, hi, rfl⟩ := List.mem_iff_getElem.1 hx
    have h1 := inErr_ok (firstErr_zero h i hi)
    rw [List.getD_eq_getElem?_getD, List.getElem?_eq_getElem hi] at h1
    have h2 : 0 ≤ l[i] ∧ l[i] ≤ (L.length : Int) - 1 := h1
    omega
/-- What state gives. -/
def StRes (w : World) (L : List S57) (c : Int) (A0 : Option Addr) (c0 : Nat) (l : List Int) (e : Ending) (w' : World) : Prop :=
  (stErr L c l ≠ 0 ∧ e = .returned (.tuple #[.pointer none, .int .u32 0, .int .i64 (stErr L c l)]) ∧ Below w.heap.size w w') ∨
  (stErr L c l = 0 ∧ ∃ wb mb vn vb, e = .returned (.tuple #[.pointer (some ⟨wb, 0, none⟩), .int .u32 ((setN l : Nat) : Int), .int .i64 0]) ∧ Work w w' wb mb L c A0 c0 vn vb ∧ Memo w' mb (waysOf L) ∧ Below w.heap.size w w')
theorem Work.from_ {w w0 W : World} {wb mb : Nat} {L : List S57} {c : Int} {A0 : Option Addr} {c0 : Nat} {vn vb : Value} (h : Work w0 W wb mb L c A0 c0 vn vb) (hb : Below w.heap.size w w0) : Work w W wb mb L c A0 c0 vn vb :=
  ⟨h.blk, Kd.R_lower h.needs hb.size, Kd.R_lower h.bars hb.size, h.ne, Nat.le_trans hb.size h.gew, Nat.le_trans hb.size h.gem, below_step hb h.below⟩
set_option maxHeartbeats 3200000 in
set_option maxRecDepth 100000 in
theorem state_calls {w : World} {L : List S57} {c : Int} {A0 : Option Addr} {c0 : Nat} {A1 : Option Addr} {c1 : Nat} {l : List Int} (hH : Holds L) (hR : Kd.C k57 w A0 L.length L) (hc : L.length ≤ c0) (hl : Kd.C (Kd.int .i64) w A1 l.length l) (hc1 : l.length ≤ c1) (hll : l.length ≤ 1000000) :
    Calls Try.prog 94 #[.agg #[.slice A0 L.length c0, .int .i64 c], .slice A1 l.length c1] w (StRes w L c A0 c0 l) := by
  have HM := Aside0.mk (Mem.start w)
  have hck : mount_CheckKit.f L c = some (kitErr L c) := by unfold mount_CheckKit.f; rw [if_pos hH]
  have HCK := Aside0.mk (fun W (hB : Below w.heap.size w W) => mount_CheckKit.calls A0 c0 L c _ W (Kd.C_below hR hB) hc hck)
  have HL := Aside0.mk hl
  have hu49 := Try.underlying49
  by_cases te : kitErr L c = 0
  rotate_left
  · have te1 : (kitErr L c != 0) = true := by simpa using te
    have HE : Aside0 (stErr L c l = kitErr L c ∧ stErr L c l ≠ 0) := ⟨by unfold stErr; rw [if_pos te]; exact ⟨rfl, te⟩⟩
    generalize kitErr L c = E at HE te1 HCK
    clear te hR hl hck hH
    go_enter Try.func94, Try.ntmps94
    go_wp2_with (first
      | ((with_reducible refine gate_dst (N := 2) rfl ?_); refine ev_box HM.out rfl 49 (.tmp 0) rfl (cs := #[.slice A0 L.length c0, .int .i64 c]) rfl ?_; intro g1 w1 hm1 hq1; clear hq1; have HM1 := Aside0.mk hm1; clear hm1 HM; have q1 : w1.cell? ⟨g1, 0, none⟩ = some (.slice A0 L.length c0) := (HM1.out.cell 0).trans rfl; have q2 : w1.cell? ⟨g1, 1, none⟩ = some (.int .i64 c) := (HM1.out.cell 1).trans rfl)
      | (go_at_call 40; refine (HCK.out _ HM1.out.below).mono ?_; rintro e w2 ⟨rfl, hd⟩; have HM2 := Aside0.mk (HM1.out.step hd); clear hd HM1 q1 q2))
    go_ret3
    exact .inl ⟨HE.out.2, by rw [HE.out.1]; rfl, HM2.out.below⟩
  have HE : Aside0 (stErr L c l = firstErr (inErr L.length l) l.length) := ⟨by unfold stErr; rw [if_neg (by omega)]⟩
  have HFI := Aside0.mk (kitErr_fine te)
  have h14 := HFI.out.short
  have HBC := Aside0.mk (fun W (hB : Below w.heap.size w W) => begun_calls HFI.out hH (c := c) (Kd.C_below hR hB) hc)
  rw [te] at HCK
  have HST := Aside0.mk (fun (h : ∀ x, x ∈ l → 0 ≤ x ∧ x < (32 : Int)) W (hB : Below w.heap.size w W) => mount_setOf.calls (l.length + 1) A1 c1 l _ W (Kd.C_below hl hB) hc1 (setOf_eq l h (by omega)))
  clear te hR hl hck hH
  go_enter Try.func94, Try.ntmps94
  go_wp2_with (first
    | ((with_reducible refine gate_dst (N := 2) rfl ?_); refine ev_box HM.out rfl 49 (.tmp 0) rfl (cs := #[.slice A0 L.length c0, .int .i64 c]) rfl ?_; intro g1 w1 hm1 hq1; clear hq1; have HM1 := Aside0.mk hm1; clear hm1 HM; have q1 : w1.cell? ⟨g1, 0, none⟩ = some (.slice A0 L.length c0) := (HM1.out.cell 0).trans rfl; have q2 : w1.cell? ⟨g1, 1, none⟩ = some (.int .i64 c) := (HM1.out.cell 1).trans rfl)
    | (go_at_call 40; refine (HCK.out _ HM1.out.below).mono ?_; rintro e w2 ⟨rfl, hd⟩; have HM2 := Aside0.mk (HM1.out.step hd); clear hd HM1 q1 q2))
  go_loopg [17] l.length (fun k v17 w' => ∃ (i : Nat), v17 = .int .i64 i ∧ Aside0 (i + k = l.length) ∧ Aside0 (∀ j, j < i → inErr L.length l j = 0) ∧ Aside0 (Mem w w' [(g1, #[.slice A0 L.length c0, .int .i64 c], 49)]))
  case atStart => exact ⟨0, rfl, ⟨by omega⟩, ⟨fun j hj => absurd hj (by omega)⟩, HM2⟩
  case round =>
    clear HM2
    obtain ⟨z, rfl, HK3, HZ, HM9⟩ := hrel
    by_cases hz : z < l.length
    · obtain ⟨ad2, e2, y0⟩ := cell_int HL.out z hz
      cases e2
      replace y0 := cell_later HM9.out.below y0
      have d0 : wr.cell? ⟨g1, 0, none⟩ = some (.slice A0 L.length c0) := (HM9.out.cell 0).trans rfl
      have z1 : (0 : Int) ≤ (z : Int) := by omega
      have z2 : (z : Int) < (l.length : Int) := by omega
      have HOE := Aside0.mk (show inErr L.length l z = if l.getD z 0 < 0 ∨ (L.length : Int) - 1 < l.getD z 0 then 7 else if 0 < z ∧ l.getD z 0 ≤ l.getD (z - 1) 0 then 11 else 0 from rfl)
      have HRES : Aside0 (inErr L.length l z ≠ 0 → stErr L c l = inErr L.length l z) := ⟨fun hne => by rw [HE.out]; exact firstErr_at hz HZ.out hne⟩
      generalize hY : l.getD z 0 = Y at y0 HOE
      have HY := Aside0.mk hY
      clear hY
      have w1 : IntKind.i64.wrap ((L.length : Int) - 1) = (L.length : Int) - 1 := IntWalk.i64_in _ (by omega)
      by_cases tin : 0 ≤ Y ∧ Y ≤ (L.length : Int) - 1
      rotate_left
      · have e1 : mount_in.f Y 0 ((L.length : Int) - 1) = some false := by rw [in_eq, decide_eq_false tin]
        have HV : Aside0 (stErr L c l = 7) := ⟨by
          have e : inErr L.length l z = 7 := by rw [HOE.out, if_pos (by omega)]
          rw [HRES.out (by rw [e]; decide), e]⟩
        clear tin HOE HRES
        go_wp2_with (first
          | (go_at_call 102; refine (mount_in.calls _ _ _ _ _ e1).mono ?_; rintro e w' ⟨rfl, hd⟩; have HM2 := Aside0.mk (HM9.out.step hd.below); clear hd HM9))
        go_ret3
        exact .inl ⟨by rw [HV.out]; decide, by rw [HV.out]; rfl, HM2.out.below⟩
      have e1 : mount_in.f Y 0 ((L.length : Int) - 1) = some true := by rw [in_eq, decide_eq_true tin]
      rw [if_neg (by omega)] at HOE
      clear tin
      by_cases tz : 0 < z
      · have tz1 : decide ((z : Int) > 0) = true := decide_eq_true (by omega)
        have tz2 : decide (0 < z) = true := decide_eq_true tz
        obtain ⟨ad3, e3, y1⟩ := cell_int HL.out (z - 1) (by omega)
        cases e3
        replace y1 := cell_later HM9.out.below y1
        generalize hY1 : l.getD (z - 1) 0 = Y1 at y1 HOE
        have HY1 := Aside0.mk hY1
        clear hY1
        have w2 : IntKind.i64.wrap ((z : Int) - 1) = ((z - 1 : Nat) : Int) := (IntWalk.i64_in _ (by omega)).trans (by omega)
        have w3 : (0 : Int) ≤ ((z - 1 : Nat) : Int) := by omega
        have w4 : ((z - 1 : Nat) : Int) < (l.length : Int) := by omega
        by_cases tle : Y ≤ Y1
        · have to1 : decide (Y ≤ Y1) = true := decide_eq_true tle
          have HV : Aside0 (stErr L c l = 11) := ⟨by
            have e : inErr L.length l z = 11 := by rw [HOE.out, if_pos ⟨tz, tle⟩]
            rw [HRES.out (by rw [e]; decide), e]⟩
          clear tle HOE HRES
          go_wp2_with (first
            | (go_at_call 102; refine (mount_in.calls _ _ _ _ _ e1).mono ?_; rintro e w' ⟨rfl, hd⟩; have HM2 := Aside0.mk (HM9.out.step hd.below); replace y1 := cell_later hd.below y1; clear hd HM9))
          go_ret3
          exact .inl ⟨by rw [HV.out]; decide, by rw [HV.out]; rfl, HM2.out.below⟩
        · have to1 : decide (Y ≤ Y1) = false := decide_eq_false tle
          have HV : Aside0 (inErr L.length l z = 0) := ⟨by rw [HOE.out, if_neg (fun q => tle q.2)]⟩
          clear tle HOE HRES
          go_wp2_with (first
            | (go_at_call 102; refine (mount_in.calls _ _ _ _ _ e1).mono ?_; rintro e w' ⟨rfl, hd⟩; have HM2 := Aside0.mk (HM9.out.step hd.below); replace y1 := cell_later hd.below y1; clear hd HM9))
          go_roundg (l.length - (z + 1))
          case measure => have := HK3.out; omega
          case rel => exact ⟨z + 1, by go_num, ⟨by omega⟩, ⟨fun j hj => by
            by_cases qq : j = z
            · subst qq; exact HV.out
            · exact HZ.out j (by omega)⟩, HM2⟩
      · have tz1 : decide ((z : Int) > 0) = false := decide_eq_false (by omega)
        have tz2 : decide (0 < z) = false := decide_eq_false tz
        have HV : Aside0 (inErr L.length l z = 0) := ⟨by rw [HOE.out, if_neg (fun q => tz q.1)]⟩
        clear HOE HRES
        go_wp2_with (first
          | (go_at_call 102; refine (mount_in.calls _ _ _ _ _ e1).mono ?_; rintro e w' ⟨rfl, hd⟩; have HM2 := Aside0.mk (HM9.out.step hd.below); clear hd HM9))
        go_roundg (l.length - (z + 1))
        case measure => have := HK3.out; omega
        case rel => exact ⟨z + 1, by go_num, ⟨by omega⟩, ⟨fun j hj => by
          by_cases qq : j = z
          · subst qq; exact HV.out
          · exact HZ.out j (by omega)⟩, HM2⟩
    · have HV : Aside0 (stErr L c l = 0) := ⟨by rw [HE.out]; exact firstErr_ok (fun j hj => HZ.out j (by omega))⟩
      have d0 : wr.cell? ⟨g1, 0, none⟩ = some (.slice A0 L.length c0) := (HM9.out.cell 0).trans rfl
      have d1 : wr.cell? ⟨g1, 1, none⟩ = some (.int .i64 c) := (HM9.out.cell 1).trans rfl
      go_wp2_with (first
        | (go_at_call 92; refine (HBC.out _ HM9.out.below).mono ?_; rintro e w3 ⟨wb, mb, vn, vb, rfl, hW3, hM3, hB3⟩; have HW3 := Aside0.mk hW3; have HM3 := Aside0.mk hM3; have HB3 := Aside0.mk (HM9.out.step hB3); clear hW3 hM3 hB3 d0 d1)
        | (go_at_call 134; refine (HST.out (fun x hx => by have := (stErr_ok HV.out).2 x hx; omega) _ HB3.out.below).mono ?_; rintro e w4 ⟨rfl, hd⟩; have HB4 := Aside0.mk hd.below; clear hd))
      go_ret3
      exact .inr ⟨HV.out, wb, mb, vn, vb, rfl, (HW3.out.later HB4.out).from_ HM9.out.below, HM3.out.later HB4.out, (HB3.out.step HB4.out).below⟩
end Go.Proofs.Ytbcfphoheijmdaa.Print
end

section
/- May and Guard: the parts that may go in, and that the Go functions' calls give them. -/
namespace Go.Proofs.Ytbcfphoheijmdaa.Print
open Go.RowKit Go.Proofs.YtbcfphoheijmdaaW.PrintWords Go.Proofs.YtbcfphoheijmdaaW.PrintLast Go.Proofs.YtbcfphoheijmdaaW.PrintMore Go.Proofs.Ytbcfphoheijmdaa.H
attribute [local go_sem] max2_int min2_int max_two min_two max_three min_three max_four min_four
attribute [local go_sem ↓] Go.wp_at_zero Go.wp_at_succ
set_option linter.unusedVariables false
set_option linter.unusedSimpArgs false

theorem state_err {w : World} {L : List S57} {c : Int} {A0 : Option Addr} {c0 : Nat} {A1 : Option Addr} {c1 : Nat} {l : List Int} (hH : Holds L) (hR : Kd.C k57 w A0 L.length L) (hc : L.length ≤ c0) (hl : Kd.C (Kd.int .i64) w A1 l.length l) (hc1 : l.length ≤ c1) (hll : l.length ≤ 1000000) (he : stErr L c l ≠ 0) :
    Calls Try.prog 94 #[.agg #[.slice A0 L.length c0, .int .i64 c], .slice A1 l.length c1] w fun e w' => e = .returned (.tuple #[.pointer none, .int .u32 0, .int .i64 (stErr L c l)]) ∧ Below w.heap.size w w' :=
  (state_calls hH hR hc hl hc1 hll).mono fun e w' h => by
    rcases h with ⟨_, h1, h2⟩ | ⟨h0, _⟩
    · exact ⟨h1, h2⟩
    · exact absurd h0 he
theorem state_ok {w : World} {L : List S57} {c : Int} {A0 : Option Addr} {c0 : Nat} {A1 : Option Addr} {c1 : Nat} {l : List Int} (hH : Holds L) (hR : Kd.C k57 w A0 L.length L) (hc : L.length ≤ c0) (hl : Kd.C (Kd.int .i64) w A1 l.length l) (hc1 : l.length ≤ c1) (hll : l.length ≤ 1000000) (he : stErr L c l = 0) :
    Calls Try.prog 94 #[.agg #[.slice A0 L.length c0, .int .i64 c], .slice A1 l.length c1] w fun e w' => ∃ wb mb vn vb, e = .returned (.tuple #[.pointer (some ⟨wb, 0, none⟩), .int .u32 ((setN l : Nat) : Int), .int .i64 0]) ∧ Work w w' wb mb L c A0 c0 vn vb ∧ Memo w' mb (waysOf L) ∧ Below w.heap.size w w' :=
  (state_calls hH hR hc hl hc1 hll).mono fun e w' h => by
    rcases h with ⟨hne, _⟩ | ⟨_, h1⟩
    · exact absurd he hne
    · exact h1
theorem Memo.lt {W : World} {mb : Nat} {val : Nat → Int} (h : Memo W mb val) : mb < W.heap.size := by
  obtain ⟨_, _, _, ho, _⟩ := h
  exact ho.lt
theorem setN_fine {L : List S57} {c : Int} {l : List Int} (h : stErr L c l = 0) : setN l < 2 ^ L.length := setN_lt _ (stErr_ok h).2
def mount_May.f (l0_0 : List (S57)) (a0_1 : Int) (l1 : List Int) : Option (List Int × Int) :=
  if Holds l0_0 ∧ l1.length ≤ 1000000 then (if stErr l0_0 a0_1 l1 = 0 then some (ints (partsOf l0_0 (setN l1) (fun _ => true)), 0) else some ([], stErr l0_0 a0_1 l1)) else none
set_option maxHeartbeats 3200000 in
set_option maxRecDepth 100000 in
theorem mount_May.calls (A0_0 : Option Addr) (c0_0 : Nat) (l0_0 : List (S57)) (a0_1 : Int) (A1 : Option Addr) (c1 : Nat) (l1 : List Int) (r1 : List Int) (r2 : Int) (w : World) (hr0_0 : Kd.C k57 w A0_0 l0_0.length l0_0) (hc0_0 : l0_0.length ≤ c0_0) (hr1 : Kd.C (Kd.int .i64) w A1 l1.length l1) (hc1 : l1.length ≤ c1) (h : mount_May.f l0_0 a0_1 l1 = some (r1, r2)) :
    Calls Try.prog 36 #[.agg #[.slice A0_0 l0_0.length c0_0, .int .i64 a0_1], .slice A1 l1.length c1] w fun e w' => ∃ v0_ : Value, e = .returned (.tuple #[v0_, .int .i64 r2]) ∧ Kd.R (Kd.int .i64) 3 w' w.heap.size (fun _ => True) v0_ r1 ∧ Below w.heap.size w w' := by
  unfold mount_May.f at h
  by_cases hH : Holds l0_0 ∧ l1.length ≤ 1000000
  rotate_left
  · rw [if_neg hH] at h; exact absurd h (by simp)
  rw [if_pos hH] at h
  have HM := Aside0.mk (Mem.start w)
  have hu49 := Try.underlying49
  by_cases te : stErr l0_0 a0_1 l1 = 0
  · rw [if_pos te] at h
    have HF := Aside0.mk (Option.some.inj h)
    have HSC := Aside0.mk (fun W (hB : Below w.heap.size w W) => state_ok hH.1 (Kd.C_below hr0_0 hB) hc0_0 (Kd.C_below hr1 hB) hc1 hH.2 te)
    have HPC := Aside0.mk (fun (W : World) (wb mb : Nat) (vn vb : Value) (hW : Work w W wb mb l0_0 a0_1 A0_0 c0_0 vn vb) (hM : Memo W mb (waysOf l0_0)) => parts_calls (kitErr_fine (stErr_ok te).1) (setN l1) (setN_fine te) 96 #[] (fun _ => true) (fun W => Memo W mb (waysOf l0_0)) every_enters hW hM.lt hM (fun W W1 row h hg hr => h.kept hg (fun e => by have := hr mb e.symm; have := hM.lt; omega)) (fun p W _ _ hI hWW => (every_calls (p : Int) W).mono fun e w' h => ⟨h.1, hI.later h.2.below, (grown_below h.2.below).but _⟩))
    clear h te hr0_0 hr1 hH
    go_enter Try.func36, Try.ntmps36
    go_wp2_with (first
      | ((with_reducible refine gate_dst (N := 2) rfl ?_); refine ev_box HM.out rfl 49 (.tmp 0) rfl (cs := #[.slice A0_0 l0_0.length c0_0, .int .i64 a0_1]) rfl ?_; intro g1 w1 hm1 hq1; clear hq1; have HM1 := Aside0.mk hm1; clear hm1 HM; have q1 : w1.cell? ⟨g1, 0, none⟩ = some (.slice A0_0 l0_0.length c0_0) := (HM1.out.cell 0).trans rfl; have q2 : w1.cell? ⟨g1, 1, none⟩ = some (.int .i64 a0_1) := (HM1.out.cell 1).trans rfl)
      | (go_at_call 94; refine (HSC.out _ HM1.out.below).mono ?_; rintro e w3 ⟨wb, mb, vn, vb, rfl, hW3, hM3, hB3⟩; have HW3 := Aside0.mk (hW3.from_ HM1.out.below); have HM3 := Aside0.mk hM3; clear hW3 hM3 hB3 q1 q2)
      | (go_at_call 95; refine (HPC.out _ _ _ _ _ HW3.out HM3.out).mono ?_; rintro e w4 ⟨v, rfl, hR4, hM4, hg4, hW4⟩; have HR4 := Aside0.mk hR4; have HW4 := Aside0.mk hW4; clear hR4 hM4 hg4 hW4))
    go_ret2
    have e := HF.out
    injection e with e1 e2
    exact ⟨v, by rw [← e2]; rfl, by rw [← e1]; exact Kd.R_mono HR4.out (fun _ _ => trivial), HW4.out.below⟩
  · rw [if_neg te] at h
    have HF := Aside0.mk (Option.some.inj h)
    have HSC := Aside0.mk (fun W (hB : Below w.heap.size w W) => state_err hH.1 (Kd.C_below hr0_0 hB) hc0_0 (Kd.C_below hr1 hB) hc1 hH.2 te)
    have te1 : (stErr l0_0 a0_1 l1 != 0) = true := by simpa using te
    generalize stErr l0_0 a0_1 l1 = E at HF te1 HSC
    clear h te hr0_0 hr1 hH
    go_enter Try.func36, Try.ntmps36
    go_wp2_with (first
      | ((with_reducible refine gate_dst (N := 2) rfl ?_); refine ev_box HM.out rfl 49 (.tmp 0) rfl (cs := #[.slice A0_0 l0_0.length c0_0, .int .i64 a0_1]) rfl ?_; intro g1 w1 hm1 hq1; clear hq1; have HM1 := Aside0.mk hm1; clear hm1 HM; have q1 : w1.cell? ⟨g1, 0, none⟩ = some (.slice A0_0 l0_0.length c0_0) := (HM1.out.cell 0).trans rfl; have q2 : w1.cell? ⟨g1, 1, none⟩ = some (.int .i64 a0_1) := (HM1.out.cell 1).trans rfl)
      | (go_at_call 94; refine (HSC.out _ HM1.out.below).mono ?_; rintro e w3 ⟨rfl, hB3⟩; have HM3 := Aside0.mk (HM1.out.step hB3); clear hB3 q1 q2))
    go_ret2
    have e := HF.out
    injection e with e1 e2
    exact ⟨.slice none 0 0, by rw [← e2]; rfl, by rw [← e1]; exact Kd.R_nil _ _ _ _ _, HM3.out.below⟩
theorem guard_enters (args : Array Value) (W : World) : Sem.run Try.prog (callFunc 99 args) W = .ok (.enter 99 args) W := by
  have h1 : ¬ Try.f99.name = "runtime.NumGoroutine" := by decide
  have h2 : ¬ Try.f99.body = none := fun h => by
    have : Try.f99.body.isSome = false := by rw [h]; rfl
    exact absurd this (by show ¬ (true = false); decide)
  simp [callFunc, go_sem, Try.func99, h1, h2]
/-- Can all other parts still go in behind part p? -/
def leads (L : List S57) (s p : Nat) : Bool := decide (0 < waysOf L (s ||| 2 ^ p))
set_option maxHeartbeats 3200000 in
set_option maxRecDepth 100000 in
theorem guard_one {w0 W : World} {wb mb g6 g7 : Nat} {L : List S57} {c : Int} {A0 : Option Addr} {c0 : Nat} {vn vb : Value} (hF : Fine L) (s p : Nat) (hs : s < 2 ^ L.length) (hp : p < L.length) (hW : Work w0 W wb mb L c A0 c0 vn vb) (hM : Memo W mb (waysOf L))
    (h6 : W.cell? ⟨g6, 0, none⟩ = some (.pointer (some ⟨wb, 0, none⟩))) (h7 : W.cell? ⟨g7, 0, none⟩ = some (.int .u32 (s : Int))) (hn6 : g6 ≠ mb) (hn7 : g7 ≠ mb) :
    Calls Try.prog 99 #[.int .i64 (p : Int), .pointer (some ⟨g6, 0, none⟩), .pointer (some ⟨g7, 0, none⟩)] W fun e w' => e = .returned (.bool (leads L s p)) ∧ (Memo w' mb (waysOf L) ∧ w'.cell? ⟨g6, 0, none⟩ = some (.pointer (some ⟨wb, 0, none⟩)) ∧ w'.cell? ⟨g7, 0, none⟩ = some (.int .u32 (s : Int))) ∧ W.grownBy w' (some mb) := by
  have hs32 : s < 2 ^ 32 := by have := hF.small; omega
  have hw1 := with_u32 (s := s) (p := p) hs32 (by have := hF.short; omega)
  have HOC := Aside0.mk (fun (V : World) (hW : Work w0 V wb mb L c A0 c0 vn vb) (hM : Memo V mb (waysOf L)) => orders_calls hF _ (s ||| 2 ^ p) (Nat.le_refl _) (with_lt hs hp) V hW hM)
  have HW := Aside0.mk hW
  have HM := Aside0.mk hM
  have HLE : Aside0 (leads L s p = decide (0 < waysOf L (s ||| 2 ^ p))) := ⟨rfl⟩
  have HN := Aside0.mk (show some (Addr.mk g6 0 none).block ≠ some mb ∧ some (Addr.mk g7 0 none).block ≠ some mb from ⟨fun e => hn6 (Option.some.inj e), fun e => hn7 (Option.some.inj e)⟩)
  generalize waysOf L (s ||| 2 ^ p) = Y at HOC HLE
  generalize s ||| 2 ^ p = S2 at hw1 HOC
  clear hW hM hn6 hn7
  go_enter Try.func99, Try.ntmps99
  go_wp2_with fail
  go_region_held3 (fun w' => w'.cell? ⟨g6, 0, none⟩ = some (.pointer (some ⟨wb, 0, none⟩)) ∧ w'.cell? ⟨g7, 0, none⟩ = some (.int .u32 (s : Int))) (first | exact ⟨h6, h7⟩ | exact ⟨cell_later HB5.out h6, cell_later HB5.out h7⟩ | exact ⟨HG6.out.cell (cell_later HB5.out h6) HN.out.1, HG6.out.cell (cell_later HB5.out h7) HN.out.2⟩) (first
    | (go_at_call 100; refine (mount_set_with.calls _ _ _ _ hw1).mono ?_; rintro e w5 ⟨rfl, hd⟩; have HB5 : Aside0 (Below W.heap.size W w5) := ⟨below_step (below_drew1 (Below.refl _ _)) hd.below⟩; clear hd hw1)
    | (go_at_call 93; refine (HOC.out _ (HW.out.later HB5.out) (HM.out.later HB5.out)).mono ?_; rintro e w6 ⟨rfl, hM6, hg6⟩; have HM6 := Aside0.mk hM6; have HG6 := Aside0.mk hg6; clear hM6 hg6))
  go_wp2_with fail
  go_ret
  refine ⟨by rw [HLE.out]; rfl, ⟨HM6.out, HG6.out.cell (cell_later HB5.out h6) HN.out.1, HG6.out.cell (cell_later HB5.out h7) HN.out.2⟩, ?_⟩
  exact ((grown_below HB5.out).but (some mb)).andThen HG6.out (fun j hj => .inr hj)
/-- Guard's choice among the parts, its two captured variables in new blocks. -/
theorem guard_parts {w0 w3 : World} {wb mb : Nat} {L : List S57} {c : Int} {A0 : Option Addr} {c0 : Nat} {vn vb : Value} (hF : Fine L) (s : Nat) (hs : s < 2 ^ L.length) (hW : Work w0 w3 wb mb L c A0 c0 vn vb) (hM : Memo w3 mb (waysOf L)) :
    Calls Try.prog 95 #[.pointer (some ⟨wb, 0, none⟩), .int .u32 (s : Int), .func (.func 99) #[] #[.pointer (some ⟨w3.heap.size, 0, none⟩), .pointer (some ⟨w3.heap.size + 1, 0, none⟩)]]
      ((w3.alloc (.cells #[.pointer (some ⟨wb, 0, none⟩)] 129)).alloc (.cells #[.int .u32 (s : Int)] 133)) fun e w' => ∃ v, e = .returned v ∧ (Kd.int .i64).R 3 w' w0.heap.size (fun _ => True) v (ints (partsOf L s (leads L s))) ∧ Below w0.heap.size w0 w' := by
  have hmb := hM.lt
  have b1 : Below w3.heap.size w3 ((w3.alloc (.cells #[.pointer (some ⟨wb, 0, none⟩)] 129)).alloc (.cells #[.int .u32 (s : Int)] 133)) := below_step (below_alloc (Below.refl _ _) _) (below_alloc (Below.refl _ _) _)
  have h6 : ((w3.alloc (.cells #[.pointer (some ⟨wb, 0, none⟩)] 129)).alloc (.cells #[.int .u32 (s : Int)] 133)).heap[w3.heap.size]? = some (.cells #[.pointer (some ⟨wb, 0, none⟩)] 129 (0, 0)) := blk_below (blk_new w3 _) (below_alloc (Below.refl _ _) _)
  have h7 : ((w3.alloc (.cells #[.pointer (some ⟨wb, 0, none⟩)] 129)).alloc (.cells #[.int .u32 (s : Int)] 133)).heap[w3.heap.size + 1]? = some (.cells #[.int .u32 (s : Int)] 133 (0, 0)) := by
    have := blk_new (w3.alloc (.cells #[.pointer (some ⟨wb, 0, none⟩)] 129)) (.cells #[.int .u32 (s : Int)] 133)
    simpa using this
  have hsz : ((w3.alloc (.cells #[.pointer (some ⟨wb, 0, none⟩)] 129)).alloc (.cells #[.int .u32 (s : Int)] 133)).heap.size = w3.heap.size + 2 := by simp
  generalize (w3.alloc (.cells #[.pointer (some ⟨wb, 0, none⟩)] 129)).alloc (.cells #[.int .u32 (s : Int)] 133) = W at b1 h6 h7 hsz
  have hW1 := hW.later b1
  have hM1 := hM.later b1
  refine (parts_calls hF s hs 99 #[.pointer (some ⟨w3.heap.size, 0, none⟩), .pointer (some ⟨w3.heap.size + 1, 0, none⟩)] (leads L s)
    (fun V => Memo V mb (waysOf L) ∧ V.cell? ⟨w3.heap.size, 0, none⟩ = some (.pointer (some ⟨wb, 0, none⟩)) ∧ V.cell? ⟨w3.heap.size + 1, 0, none⟩ = some (.int .u32 (s : Int)))
    guard_enters hW1 hM1.lt ⟨hM1, (blk_cell h6 0).trans rfl, (blk_cell h7 0).trans rfl⟩ (fun V V1 row h hg hr => ?_) (fun p V hp _ hI hWV => ?_)).mono ?_
  · refine ⟨h.1.kept hg (fun e => by have := hr mb e.symm; omega), hg.cell h.2.1 (fun e => ?_), hg.cell h.2.2 (fun e => ?_)⟩
    · have := hr _ e.symm
      have e2 : w3.heap.size < W.heap.size := by omega
      exact absurd (Nat.lt_of_lt_of_le e2 this) (Nat.lt_irrefl _)
    · have := hr _ e.symm
      have e2 : w3.heap.size + 1 < W.heap.size := by omega
      exact absurd (Nat.lt_of_lt_of_le e2 this) (Nat.lt_irrefl _)
  · exact guard_one hF s p hs hp hWV hI.1 hI.2.1 hI.2.2 (by omega) (by omega)
  · rintro e w' ⟨v, rfl, hR, _, _, hW2⟩
    exact ⟨v, rfl, Kd.R_mono hR (fun _ _ => trivial), hW2.below⟩
def mount_Guard.f (l0_0 : List (S57)) (a0_1 : Int) (l1 : List Int) : Option (List Int × Int) :=
  if Holds l0_0 ∧ l1.length ≤ 1000000 then (if stErr l0_0 a0_1 l1 = 0 then some (ints (partsOf l0_0 (setN l1) (leads l0_0 (setN l1))), 0) else some ([], stErr l0_0 a0_1 l1)) else none
set_option maxHeartbeats 3200000 in
set_option maxRecDepth 100000 in
theorem mount_Guard.calls (A0_0 : Option Addr) (c0_0 : Nat) (l0_0 : List (S57)) (a0_1 : Int) (A1 : Option Addr) (c1 : Nat) (l1 : List Int) (r1 : List Int) (r2 : Int) (w : World) (hr0_0 : Kd.C k57 w A0_0 l0_0.length l0_0) (hc0_0 : l0_0.length ≤ c0_0) (hr1 : Kd.C (Kd.int .i64) w A1 l1.length l1) (hc1 : l1.length ≤ c1) (h : mount_Guard.f l0_0 a0_1 l1 = some (r1, r2)) :
    Calls Try.prog 38 #[.agg #[.slice A0_0 l0_0.length c0_0, .int .i64 a0_1], .slice A1 l1.length c1] w fun e w' => ∃ v0_ : Value, e = .returned (.tuple #[v0_, .int .i64 r2]) ∧ Kd.R (Kd.int .i64) 3 w' w.heap.size (fun _ => True) v0_ r1 ∧ Below w.heap.size w w' := by
  unfold mount_Guard.f at h
  by_cases hH : Holds l0_0 ∧ l1.length ≤ 1000000
  rotate_left
  · rw [if_neg hH] at h; exact absurd h (by simp)
  rw [if_pos hH] at h
  have HM := Aside0.mk (Mem.start w)
  have hu49 := Try.underlying49
  by_cases te : stErr l0_0 a0_1 l1 = 0
  · rw [if_pos te] at h
    have HF := Aside0.mk (Option.some.inj h)
    have HSC := Aside0.mk (fun W (hB : Below w.heap.size w W) => state_ok hH.1 (Kd.C_below hr0_0 hB) hc0_0 (Kd.C_below hr1 hB) hc1 hH.2 te)
    have HFI := Aside0.mk (kitErr_fine (stErr_ok te).1)
    have HSL := Aside0.mk (setN_fine te)
    have HGP := Aside0.mk (fun (w3 : World) (wb mb : Nat) (vn vb : Value) (hW : Work w w3 wb mb l0_0 a0_1 A0_0 c0_0 vn vb) (hM : Memo w3 mb (waysOf l0_0)) => guard_parts HFI.out (setN l1) HSL.out hW hM)
    clear h te hr0_0 hr1 hH
    go_enter Try.func38, Try.ntmps38
    go_wp2_with (first
      | ((with_reducible refine gate_dst (N := 2) rfl ?_); refine ev_box HM.out rfl 49 (.tmp 0) rfl (cs := #[.slice A0_0 l0_0.length c0_0, .int .i64 a0_1]) rfl ?_; intro g1 w1 hm1 hq1; clear hq1; have HM1 := Aside0.mk hm1; clear hm1 HM; have q1 : w1.cell? ⟨g1, 0, none⟩ = some (.slice A0_0 l0_0.length c0_0) := (HM1.out.cell 0).trans rfl; have q2 : w1.cell? ⟨g1, 1, none⟩ = some (.int .i64 a0_1) := (HM1.out.cell 1).trans rfl)
      | (go_at_call 94; refine (HSC.out _ HM1.out.below).mono ?_; rintro e w3 ⟨wb, mb, vn, vb, rfl, hW3, hM3, hB3⟩; have HW3 := Aside0.mk (hW3.from_ HM1.out.below); have HM3 := Aside0.mk hM3; clear hW3 hM3 hB3 q1 q2)
      | (go_at_call 95; refine (HGP.out _ _ _ _ _ HW3.out HM3.out).mono ?_; rintro e w4 ⟨v, rfl, hR4, hB4⟩; have HR4 := Aside0.mk hR4; have HB4 := Aside0.mk hB4; clear hR4 hB4))
    go_ret2
    have e := HF.out
    injection e with e1 e2
    exact ⟨v, by rw [← e2]; rfl, by rw [← e1]; exact HR4.out, HB4.out⟩
  · rw [if_neg te] at h
    have HF := Aside0.mk (Option.some.inj h)
    have HSC := Aside0.mk (fun W (hB : Below w.heap.size w W) => state_err hH.1 (Kd.C_below hr0_0 hB) hc0_0 (Kd.C_below hr1 hB) hc1 hH.2 te)
    have te1 : (stErr l0_0 a0_1 l1 != 0) = true := by simpa using te
    generalize stErr l0_0 a0_1 l1 = E at HF te1 HSC
    clear h te hr0_0 hr1 hH
    go_enter Try.func38, Try.ntmps38
    go_wp2_with (first
      | ((with_reducible refine gate_dst (N := 2) rfl ?_); refine ev_box HM.out rfl 49 (.tmp 0) rfl (cs := #[.slice A0_0 l0_0.length c0_0, .int .i64 a0_1]) rfl ?_; intro g1 w1 hm1 hq1; clear hq1; have HM1 := Aside0.mk hm1; clear hm1 HM; have q1 : w1.cell? ⟨g1, 0, none⟩ = some (.slice A0_0 l0_0.length c0_0) := (HM1.out.cell 0).trans rfl; have q2 : w1.cell? ⟨g1, 1, none⟩ = some (.int .i64 a0_1) := (HM1.out.cell 1).trans rfl)
      | (go_at_call 94; refine (HSC.out _ HM1.out.below).mono ?_; rintro e w3 ⟨rfl, hB3⟩; have HM3 := Aside0.mk (HM1.out.step hB3); clear hB3 q1 q2))
    go_ret2
    have e := HF.out
    injection e with e1 e2
    refine ⟨.slice none 0 0, by rw [← e2]; rfl, by rw [← e1]; exact Kd.R_nil _ _ _ _ _, ?_⟩
    first
      | exact HM3.out.below
      | exact below_step HM3.out.below (below_step (below_alloc (Below.refl _ _) _) (below_alloc (Below.refl _ _) _))
end Go.Proofs.Ytbcfphoheijmdaa.Print
end
