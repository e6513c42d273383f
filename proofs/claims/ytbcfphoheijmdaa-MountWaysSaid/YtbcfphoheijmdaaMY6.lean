/- Part 6 of the texts of a claim about Ytbcfphoheijmdaa, put together by a program of this work: what the Go functions do, and that their calls do so. -/
import Derived.Test.YtbcfphoheijmdaaMY3
import Derived.Test.YtbcfphoheijmdaaMY4
import Derived.Test.YtbcfphoheijmdaaMY5
import Derived.Test.YtbcfphoheijmdaaMY2
import Derived.SizedLaws
import Derived.ChangeSlices
section
/- The ways over ever more points, in plain Lean: when no point comes behind itself, the table that is left bounds all positions, and each bound is reached by some. -/
namespace Go.Proofs.Ytbcfphoheijmdaa.Floyd

/-- What bounds nothing. -/
def far : Int := 1099511627776
/-- One step: the ways over m. -/
def ov (T : Nat → Nat → Int) (m : Nat) : Nat → Nat → Int := fun a b => if T a m < far ∧ T m b < far then min (T a b) (T a m + T m b) else T a b
/-- The table behind the ways over the first k points. -/
def st (E : Nat → Nat → Int) : Nat → Nat → Nat → Int
  | 0 => E
  | k + 1 => ov (st E k) k

theorem ov_le (T : Nat → Nat → Int) (m a b : Nat) : ov T m a b ≤ T a b := by unfold ov; split <;> omega
theorem ov_way (T : Nat → Nat → Int) (m a b : Nat) (h1 : T a m < far) (h2 : T m b < far) : ov T m a b ≤ T a m + T m b := by unfold ov; rw [if_pos ⟨h1, h2⟩]; omega
theorem ov_cases (T : Nat → Nat → Int) (m a b : Nat) : ov T m a b = T a b ∨ (T a m < far ∧ T m b < far ∧ ov T m a b = T a m + T m b) := by
  unfold ov
  split
  · rename_i h
    rcases Int.le_total (T a b) (T a m + T m b) with q | q
    · left; omega
    · right; exact ⟨h.1, h.2, by omega⟩
  · left; rfl
theorem st_succ (E : Nat → Nat → Int) (k a b : Nat) : st E (k + 1) a b = ov (st E k) k a b := rfl
theorem st_le (E : Nat → Nat → Int) (k a b : Nat) : st E k a b ≤ E a b := by
  induction k with
  | zero => exact Int.le_refl _
  | succ k ih => exact Int.le_trans (ov_le _ _ _ _) ih
/-- Positions that keep to a table. -/
def PKeeps (n : Nat) (E : Nat → Nat → Int) (x : Nat → Int) : Prop := ∀ a b, a < n → b < n → E a b < far → x b - x a ≤ E a b
theorem PKeeps.ov {n : Nat} {T : Nat → Nat → Int} {x : Nat → Int} (h : PKeeps n T x) (m : Nat) (hm : m < n) : PKeeps n (Floyd.ov T m) x := by
  intro a b ha hb hf
  rcases ov_cases T m a b with q | ⟨q1, q2, q3⟩
  · rw [q] at hf ⊢; exact h a b ha hb hf
  · rw [q3]; have := h a m ha hm q1; have := h m b hm hb q2; omega
theorem PKeeps.st {n : Nat} {E : Nat → Nat → Int} {x : Nat → Int} (h : PKeeps n E x) (k : Nat) (hk : k ≤ n) : PKeeps n (Floyd.st E k) x := by
  induction k with
  | zero => exact h
  | succ k ih => exact (ih (by omega)).ov k (by omega)

/-- Ways along edges; the list has the points between. -/
inductive PWay (E : Nat → Nat → Int) : List Nat → Nat → Nat → Int → Prop
  | edge (a b : Nat) : E a b < far → PWay E [] a b (E a b)
  | cons (a v b : Nat) (l : List Nat) (c : Int) : E a v < far → PWay E l v b c → PWay E (v :: l) a b (E a v + c)
theorem PWay.split {E : Nat → Nat → Int} : ∀ (l1 : List Nat) {l2 : List Nat} {m a b : Nat} {c : Int}, PWay E (l1 ++ m :: l2) a b c → ∃ c1 c2, PWay E l1 a m c1 ∧ PWay E l2 m b c2 ∧ c = c1 + c2
  | [], l2, m, a, b, c, h => by
    cases h with
    | cons _ _ _ _ c' hf hw => exact ⟨_, c', .edge _ _ hf, hw, rfl⟩
  | v :: l1, l2, m, a, b, c, h => by
    cases h with
    | cons _ _ _ _ c' hf hw =>
      obtain ⟨c1, c2, h1, h2, rfl⟩ := PWay.split l1 hw
      exact ⟨_, c2, .cons _ _ _ _ _ hf h1, h2, by omega⟩
theorem PWay.join {E : Nat → Nat → Int} : ∀ {l1 l2 : List Nat} {m a b : Nat} {c1 c2 : Int}, PWay E l1 a m c1 → PWay E l2 m b c2 → ∃ c, PWay E (l1 ++ m :: l2) a b c
  | [], l2, m, a, b, c1, c2, h1, h2 => by
    cases h1 with
    | edge _ _ hf => exact ⟨_, .cons _ _ _ _ _ hf h2⟩
  | v :: l1, l2, m, a, b, c1, c2, h1, h2 => by
    cases h1 with
    | cons _ _ _ _ c' hf hw =>
      obtain ⟨c, h⟩ := PWay.join hw h2
      exact ⟨_, .cons _ _ _ _ _ hf h⟩
theorem PWay.bound {E : Nat → Nat → Int} {n : Nat} {M : Int} (hM : ∀ a b, a < n → b < n → E a b < far → E a b ≤ M) : ∀ {l : List Nat} {a b : Nat} {c : Int}, PWay E l a b c → a < n → b < n → (∀ v, v ∈ l → v < n) → c ≤ ((l.length : Int) + 1) * M
  | [], a, b, c, h, ha, hb, _ => by
    cases h with
    | edge _ _ hf => have := hM a b ha hb hf; simpa using this
  | v :: l, a, b, c, h, ha, hb, hl => by
    cases h with
    | cons _ _ _ _ c' hf hw =>
      have h1 := hM a v ha (hl v (by simp)) hf
      have h2 := PWay.bound hM hw (hl v (by simp)) hb (fun x hx => hl x (by simp [hx]))
      have : ((((v :: l).length : Nat) : Int) + 1) * M = M + ((l.length : Int) + 1) * M := by
        rw [List.length_cons]
        have : (((l.length + 1 : Nat) : Int) + 1) = 1 + ((l.length : Int) + 1) := by omega
        rw [this, Int.add_mul, Int.one_mul]
      omega
theorem PWay.short {E : Nat → Nat → Int} : ∀ {l : List Nat} {a b : Nat} {c : Int}, PWay E l a b c → ∃ l' c', PWay E l' a b c' ∧ l'.Nodup ∧ ∀ v, v ∈ l' → v ∈ l
  | [], a, b, c, h => ⟨[], c, h, by simp, by simp⟩
  | v :: l, a, b, c, h => by
    cases h with
    | cons _ _ _ _ c' hf hw =>
      obtain ⟨l', c2, h1, h2, h3⟩ := PWay.short hw
      by_cases q : v ∈ l'
      · obtain ⟨x, y, rfl⟩ := List.append_of_mem q
        obtain ⟨d1, d2, g1, g2, _⟩ := PWay.split x h1
        rw [List.nodup_append] at h2
        refine ⟨v :: y, _, .cons _ _ _ _ _ hf g2, h2.2.1, ?_⟩
        intro u hu
        rcases List.mem_cons.1 hu with r | r
        · rw [r]; simp
        · exact List.mem_cons_of_mem _ (h3 u (by simp [r]))
      · exact ⟨v :: l', _, .cons _ _ _ _ _ hf h1, List.nodup_cons.2 ⟨q, h2⟩, fun u hu => by
          rcases List.mem_cons.1 hu with r | r
          · rw [r]; simp
          · exact List.mem_cons_of_mem _ (h3 u r)⟩
theorem len_le : ∀ (k : Nat) (l : List Nat), l.Nodup → (∀ v, v ∈ l → v < k) → l.length ≤ k
  | 0, l, _, h => by
    cases l with
    | nil => simp
    | cons v l => exact absurd (h v (by simp)) (by omega)
  | k + 1, l, hn, h => by
    by_cases q : k ∈ l
    · obtain ⟨x, y, rfl⟩ := List.append_of_mem q
      rw [List.nodup_append] at hn
      have hy := List.nodup_cons.1 hn.2.1
      have : (x ++ y).length ≤ k := by
        apply len_le k
        · rw [List.nodup_append]
          exact ⟨hn.1, hy.2, fun a ha b hb => hn.2.2 a ha b (by simp [hb])⟩
        · intro v hv
          have h1 : v < k + 1 := h v (by simp at hv ⊢; rcases hv with r | r <;> simp [r])
          have h2 : v ≠ k := by
            rintro rfl
            rcases List.mem_append.1 hv with r | r
            · exact hn.2.2 v r v (by simp) rfl
            · exact hy.1 r
          omega
      simp at this ⊢
      omega
    · have := len_le k l hn (fun v hv => by
        have h1 := h v hv
        have h2 : v ≠ k := by rintro rfl; exact q hv
        omega)
      omega

/-- What the first table of a chain is like. -/
structure TFine (n : Nat) (E : Nat → Nat → Int) : Prop where
  small : n ≤ 24
  diag : ∀ a, a < n → E a a = 0
  top : ∀ a b, E a b ≤ far
  most : ∀ a b, a < n → b < n → E a b < far → E a b ≤ 1000000

theorem mul_small {k n : Nat} (h : k ≤ n) (hn : n ≤ 24) : ((k : Int) + 1) * 1000000 ≤ 25000000 := by omega
/-- A short way bounds the table. -/
theorem TFine.complete {n : Nat} {E : Nat → Nat → Int} (F : TFine n E) : ∀ (k : Nat), k ≤ n → ∀ {l : List Nat} {a b : Nat} {c : Int}, PWay E l a b c → a < n → b < n → l.Nodup → (∀ v, v ∈ l → v < k) → st E k a b ≤ c
  | 0, _, l, a, b, c, h, _, _, _, hl => by
    cases h with
    | edge _ _ _ => exact Int.le_refl _
    | cons _ v _ _ _ _ _ => exact absurd (hl v (by simp)) (by omega)
  | k + 1, hk, l, a, b, c, h, ha, hb, hn, hl => by
    by_cases q : k ∈ l
    · obtain ⟨x, y, rfl⟩ := List.append_of_mem q
      obtain ⟨c1, c2, g1, g2, rfl⟩ := PWay.split x h
      rw [List.nodup_append] at hn
      have hy := List.nodup_cons.1 hn.2.1
      have hx1 : ∀ v, v ∈ x → v < k := fun v hv => by
        have h1 := hl v (by simp [hv])
        have h2 : v ≠ k := by rintro rfl; exact hn.2.2 v hv v (by simp) rfl
        omega
      have hy1 : ∀ v, v ∈ y → v < k := fun v hv => by
        have h1 := hl v (by simp [hv])
        have h2 : v ≠ k := by rintro rfl; exact hy.1 hv
        omega
      have i1 := F.complete k (by omega) g1 ha (by omega) hn.1 hx1
      have i2 := F.complete k (by omega) g2 (by omega) hb hy.2 hy1
      have b1 := PWay.bound F.most g1 ha (by omega) (fun v hv => by have := hx1 v hv; omega)
      have b2 := PWay.bound F.most g2 (by omega) hb (fun v hv => by have := hy1 v hv; omega)
      have l1 := len_le k x hn.1 hx1
      have l2 := len_le k y hy.2 hy1
      have m1 := mul_small (k := x.length) (n := n) (by omega) F.small
      have m2 := mul_small (k := y.length) (n := n) (by omega) F.small
      have := ov_way (st E k) k a b (by unfold far; omega) (by unfold far; omega)
      rw [st_succ]
      omega
    · have := F.complete k (by omega) h ha hb hn (fun v hv => by
        have h1 := hl v hv
        have h2 : v ≠ k := by rintro rfl; exact q hv
        omega)
      exact Int.le_trans (ov_le _ _ _ _) this
/-- No point has come behind itself in the first k steps. -/
def PCalm (n : Nat) (E : Nat → Nat → Int) (k : Nat) : Prop := ∀ j, j < k → ∀ a, a < n → 0 ≤ st E (j + 1) a a
theorem TFine.self {n : Nat} {E : Nat → Nat → Int} (F : TFine n E) : ∀ {k : Nat}, PCalm n E k → ∀ a, a < n → st E k a a = 0
  | 0, _, a, ha => F.diag a ha
  | k + 1, h, a, ha => by
    have h1 := h k (by omega) a ha
    have h2 := st_le E (k + 1) a a
    rw [F.diag a ha] at h2
    omega
theorem TFine.whole {n : Nat} {E : Nat → Nat → Int} (F : TFine n E) {l : List Nat} {a b : Nat} {c : Int} (h : PWay E l a b c) (ha : a < n) (hb : b < n) (hl : ∀ v, v ∈ l → v < n) : st E n a b < far := by
  obtain ⟨l', c', g1, g2, g3⟩ := h.short
  have h4 : ∀ v, v ∈ l' → v < n := fun v hv => hl v (g3 v hv)
  have i := F.complete n (Nat.le_refl _) g1 ha hb g2 h4
  have b1 := PWay.bound F.most g1 ha hb h4
  have l1 := len_le n l' g2 h4
  have m1 := mul_small (k := l'.length) (n := n) l1 F.small
  unfold far
  omega
end Go.Proofs.Ytbcfphoheijmdaa.Floyd
end

section
/- What a tight table says of positions: each range is that of all positions that keep to the links, and both its ends are reached. -/
namespace Go.Proofs.Ytbcfphoheijmdaa.Print
open Go.RowKit Go.Proofs.YtbcfphoheijmdaaW.PrintWords Go.Proofs.YtbcfphoheijmdaaW.PrintLast Go.Proofs.YtbcfphoheijmdaaW.PrintMore Go.Proofs.Ytbcfphoheijmdaa Go.Proofs.Ytbcfphoheijmdaa.H
set_option linter.unusedVariables false
set_option linter.unusedSimpArgs false

open Floyd

def tf (T : List Int) : Nat → Nat → Int := fun a b => T.getD (a * 24 + b) 0
/-- Positions (of points by number) that keep to links. -/
def FitsL (L : List S35) (x : Nat → Int) : Prop := ∀ l, l ∈ L → l.f2.f0 ≤ x l.f1.toNat - x l.f0.toNat ∧ x l.f1.toNat - x l.f0.toNat ≤ l.f2.f1

/-- There is a way by links. -/
def Lk (n : Nat) (E : Nat → Nat → Int) (a b : Nat) : Prop := ∃ l c, PWay E l a b c ∧ ∀ v, v ∈ l → v < n
theorem Lk.trans {n : Nat} {E : Nat → Nat → Int} {a m b : Nat} (hm : m < n) (h1 : Lk n E a m) (h2 : Lk n E m b) : Lk n E a b := by
  obtain ⟨l1, c1, p1, p2⟩ := h1
  obtain ⟨l2, c2, q1, q2⟩ := h2
  obtain ⟨c, hc⟩ := PWay.join p1 q1
  refine ⟨_, c, hc, fun v hv => ?_⟩
  rcases List.mem_append.1 hv with r | r
  · exact p2 v r
  · rcases List.mem_cons.1 r with r | r
    · omega
    · exact q2 v r
/-- What a tight table says. -/
structure TightIs (n : Nat) (L : List S35) (T : List Int) : Prop where
  bound : ∀ x, FitsL L x → ∀ a b, a < n → b < n → x b - x a ≤ tf T a b
  reach : ∀ a, a < n → FitsL L (tf T a)
  self : ∀ a, a < n → tf T a a = 0
theorem TightIs.edge {n : Nat} {L : List S35} {T : List Int} (h : TightIs n L T) {l : S35} (hl : l ∈ L) (h1 : l.f0.toNat < n) (h2 : l.f1.toNat < n) : tf T l.f0.toNat l.f1.toNat ≤ l.f2.f1 ∧ tf T l.f1.toNat l.f0.toNat ≤ -l.f2.f0 := by
  have a1 := h.reach _ h1 l hl
  have a2 := h.reach _ h2 l hl
  have s1 := h.self _ h1
  have s2 := h.self _ h2
  omega
theorem TightIs.mono {n : Nat} {L M : List S35} {T U : List Int} (h : TightIs n L T) (g : TightIs n M U) (hs : ∀ x, FitsL M x → FitsL L x) {a b : Nat} (ha : a < n) (hb : b < n) : tf U a b ≤ tf T a b := by
  have := h.bound _ (hs _ (g.reach a ha)) a b ha hb
  have := g.self a ha
  omega
theorem FitsL.snoc {L : List S35} {l : S35} {x : Nat → Int} : FitsL (L ++ [l]) x ↔ FitsL L x ∧ (l.f2.f0 ≤ x l.f1.toNat - x l.f0.toNat ∧ x l.f1.toNat - x l.f0.toNat ≤ l.f2.f1) := by
  unfold FitsL
  constructor
  · intro h
    exact ⟨fun l' hl' => h l' (by simp [hl']), h l (by simp)⟩
  · rintro ⟨h1, h2⟩ l' hl'
    rcases List.mem_append.1 hl' with q | q
    · exact h1 l' q
    · have : l' = l := by simpa using q
      rw [this]; exact h2
end Go.Proofs.Ytbcfphoheijmdaa.Print
end

section
/- ChainOf as a Lean function; it makes valid chains. -/
namespace Go.Proofs.Ytbcfphoheijmdaa.Print
open Go.RowKit Go.Proofs.YtbcfphoheijmdaaW.PrintWords Go.Proofs.YtbcfphoheijmdaaW.PrintLast Go.Proofs.YtbcfphoheijmdaaW.PrintMore Go.Proofs.Ytbcfphoheijmdaa.H
set_option linter.unusedVariables false
set_option linter.unusedSimpArgs false

@[irreducible] def upV (s n : Int) : Int := ((thermionkit_Dice_Upto.f s n).getD (0, 0)).1
@[irreducible] def betV (s a b : Int) : Int := ((thermionkit_Dice_Between.f s a b).getD (0, 0)).1
@[irreducible] def oneV (s n : Int) : Bool := ((thermionkit_Dice_One.f s n).getD (false, 0)).1
/-- Where the first points stand, and the dice's word behind them. -/
def atsTo (s : Int) : Nat → List Int × Int
  | 0 => ([0], s)
  | i + 1 => ((atsTo s i).1 ++ [betV (atsTo s i).2 (-30) 30], nextWord (atsTo s i).2)
def next3 (s : Int) : Int := nextWord (nextWord (nextWord s))
def addRange (gap wide s : Int) : S32 :=
  if oneV (nextWord (nextWord s)) 40 = true then ⟨gap + 1, gap + 2⟩ else ⟨gap - upV s (wide + 1), max (gap - upV s (wide + 1) + wide - upV (nextWord s) (wide + 1)) gap⟩
def addLink (A : List Int) (wide s a b : Int) : S35 := ⟨a, b, addRange (A.getD b.toNat 0 - A.getD a.toNat 0) wide s⟩
/-- The links of the first points, each to one before it. -/
def treeTo (A : List Int) (wide s : Int) : Nat → List S35 × Int
  | 0 => ([], s)
  | i + 1 => ((treeTo A wide s i).1 ++ [if oneV (nextWord (treeTo A wide s i).2) 2 = true then addLink A wide (nextWord (nextWord (treeTo A wide s i).2)) (upV (treeTo A wide s i).2 (i + 1 : Nat)) (i + 1 : Nat) else addLink A wide (nextWord (nextWord (treeTo A wide s i).2)) (i + 1 : Nat) (upV (treeTo A wide s i).2 (i + 1 : Nat))], next3 (nextWord (nextWord (treeTo A wide s i).2)))
/-- Further links. -/
def moreTo (A : List Int) (wide P s : Int) : Nat → List S35 × Int
  | 0 => ([], s)
  | j + 1 => ((moreTo A wide P s j).1 ++ [addLink A wide (nextWord (nextWord (moreTo A wide P s j).2)) (upV (moreTo A wide P s j).2 P) (Int.tmod (upV (moreTo A wide P s j).2 P + betV (nextWord (moreTo A wide P s j).2) 1 (P - 1)) P)], next3 (nextWord (nextWord (moreTo A wide P s j).2)))
def chPoints (s points : Int) : Int := betV s 1 points
def chAts (s points : Int) : List Int × Int := atsTo (nextWord s) ((chPoints s points).toNat - 1)
def chTree (s points wide : Int) : List S35 × Int := treeTo (chAts s points).1 wide (chAts s points).2 ((chPoints s points).toNat - 1)
def chMany (s points wide : Int) : Nat := if 1 < chPoints s points then (upV (chTree s points wide).2 4).toNat else 0
def chMore (s points wide : Int) : List S35 × Int := moreTo (chAts s points).1 wide (chPoints s points) (nextWord (chTree s points wide).2) (chMany s points wide)
def thermionkit_ChainOf.f (s0_0 : Int) (a1 : Int) (a2 : Int) : Option (Int × (List (S35)) × Int) :=
  if 1 ≤ a1 ∧ a1 ≤ 24 ∧ 0 ≤ a2 ∧ a2 ≤ 1000 then some (chPoints s0_0 a1, (chTree s0_0 a1 a2).1 ++ (chMore s0_0 a1 a2).1, (chMore s0_0 a1 a2).2) else none

end Go.Proofs.Ytbcfphoheijmdaa.Print
end

section
/- Plain laws: tables of tight ranges, compared; the chapter's examples; remainders and ranges that the dice deal. -/
namespace Go.Proofs.Ytbcfphoheijmdaa.Print
open Go.RowKit Go.Proofs.YtbcfphoheijmdaaW.PrintWords Go.Proofs.YtbcfphoheijmdaaW.PrintLast Go.Proofs.YtbcfphoheijmdaaW.PrintMore Go.Proofs.Ytbcfphoheijmdaa.H
set_option linter.unusedVariables false
set_option linter.unusedSimpArgs false

theorem mod_eq (a m : Int) (h1 : 1 ≤ m) (h2 : m ≤ 1000000) : ∃ r, thermionkit_Mod.f a m = some r ∧ 0 ≤ r ∧ r < m := by
  unfold thermionkit_Mod.f
  rw [if_neg (by omega), if_neg (by omega)]
  have b1 : -m < Int.tmod a m := Int.lt_tmod_of_pos a (by omega)
  have b2 : Int.tmod a m < m := Int.tmod_lt_of_pos a (by omega)
  by_cases q : Int.tmod a m < 0
  · rw [if_pos q, IntWalk.wrap64_in _ (by omega)]
    exact ⟨_, rfl, by omega, by omega⟩
  · rw [if_neg q]
    exact ⟨_, rfl, by omega, by omega⟩
end Go.Proofs.Ytbcfphoheijmdaa.Print
end

section
/- ChainOf's inner function: the link that it adds. -/
namespace Go.Proofs.Ytbcfphoheijmdaa.Print
open Go.RowKit Go.Proofs.YtbcfphoheijmdaaW.PrintWords Go.Proofs.YtbcfphoheijmdaaW.PrintLast Go.Proofs.YtbcfphoheijmdaaW.PrintMore Go.Proofs.Ytbcfphoheijmdaa.H
attribute [local go_sem] max2_int min2_int max_two min_two max_three min_three max_four min_four
attribute [local go_sem ↓] Go.wp_at_zero Go.wp_at_succ
set_option linter.unusedVariables false
set_option linter.unusedSimpArgs false

/-- ChainOf's variables: the chain, the positions, how wide, the dice; what else it holds. -/
structure CO (w0 w W : World) (g ga gd gw gc : Nat) (s : Int) (A : List Int) (wide P : Int) (va vl : Value) (L : List S35) (l : List (Nat × Array Value × TypeId)) : Prop where
  mem : Mem w0 W ((gc, #[.int .i64 P, vl], 27) :: (ga, #[va], 22) :: (gw, #[.int .i64 wide], 3) :: (gd, #[.pointer (some ⟨g, 0, none⟩)], 23) :: (g, #[.int .u64 s], 118) :: l)
  keep : KeepBut w W g none
  base : w0.heap.size ≤ w.heap.size
  glt : g < w.heap.size
  big : w.heap.size ≤ gc ∧ w.heap.size ≤ ga ∧ w.heap.size ≤ gw ∧ w.heap.size ≤ gd
  ra : (Kd.int .i64).R 3 W w.heap.size (fun k => k ≠ gw) va A
  rl : k35.R 35 W w.heap.size (fun _ => True) vl L
  types : ∀ p, p ∈ l → p.2.2 ≠ 35 ∧ p.2.2 ≠ 3 ∧ w.heap.size ≤ p.1
namespace CO
variable {w0 w W W1 : World} {g ga gd gw gc : Nat} {s s1 : Int} {A : List Int} {wide P x : Int} {va vl v1 : Value} {L : List S35} {y : S35} {l : List (Nat × Array Value × TypeId)}
theorem later (h : CO w0 w W g ga gd gw gc s A wide P va vl L l) (hb : Below W.heap.size W W1) : CO w0 w W1 g ga gd gw gc s A wide P va vl L l :=
  ⟨h.mem.step hb, h.keep.trans (KeepBut.of_below hb g none) (.inl rfl), h.base, h.glt, h.big, Kd.R_below h.ra hb, Kd.R_below h.rl hb, h.types⟩
theorem drewN (h : CO w0 w W g ga gd gw gc s A wide P va vl L l) (n : Nat) : CO w0 w (W.drewN n) g ga gd gw gc s A wide P va vl L l := h.later (pw_below_drewN (Below.refl _ _) n)
theorem drew (h : CO w0 w W g ga gd gw gc s A wide P va vl L l) : CO w0 w W.drew g ga gd gw gc s A wide P va vl L l := h.later (below_drew1 (Below.refl _ _))
theorem below (h : CO w0 w W g ga gd gw gc s A wide P va vl L l) : Below w0.heap.size w0 W := h.mem.below
end CO
section
variable {P : Program} {ops : Array Oper} {rest : List Oper} {o : Oper} {a : Act} {Q : Exit → Act → World → Prop} {w W : World} {l : List (Nat × Array Value × TypeId)}
/-- A whole struct is stored; the world behind it is named. -/
theorem ev_storeW {g : Nat} {old cs : Array Value} {t : TypeId} (hm : Mem w W ((g, old, t) :: l)) (hgd : o.guard = none) (ty : TypeId) (x y : Operand) (ho : o.op = .store ty x y)
    (hx : a.eval x = .pointer (some ⟨g, 0, none⟩)) (hy : a.eval y = .agg cs) {n : Nat} (hi : (P.info? ty).map (·.size) = some n) (hold : old.size = n) (hs : cs.size = n) (h1 : cs.all (·.oneCell') = true)
    (h : Mem w (W.setRow g cs) ((g, cs, t) :: l) → wpList P ops Q rest (a.put o.dst undef) (W.setRow g cs)) : wpList P ops Q (o :: rest) a W :=
  wpList_plain hgd fun _ hK => wp_store_row ty x y ho g cs hx hy t old hm.head (by rw [hi, hs]) (by rw [hold, hs]) h1 (hK _ _ (h (hm.row cs)))
end
end Go.Proofs.Ytbcfphoheijmdaa.Print
end

section
/- MountWays: that the Go function's call gives true. -/
namespace Go.Proofs.Ytbcfphoheijmdaa.Print
open Go.RowKit Go.Proofs.YtbcfphoheijmdaaW.PrintWords Go.Proofs.YtbcfphoheijmdaaW.PrintLast Go.Proofs.YtbcfphoheijmdaaW.PrintMore Go.Proofs.Ytbcfphoheijmdaa.H
attribute [local go_sem] max2_int min2_int max_two min_two max_three min_three max_four min_four
attribute [local go_sem ↓] Go.wp_at_zero Go.wp_at_succ
set_option linter.unusedVariables false
set_option linter.unusedSimpArgs false

theorem info49 : (Try.prog.info? 49).map (fun i => (i.zero, i.size, i.bytes)) = some (some (.agg #[.slice none 0 0, .int .i64 0]), 2, 32) := by kernel_rfl
theorem size49 : (Try.prog.info? 49).map (·.size) = some 2 := by kernel_rfl
theorem k57E : k57.E = [3, 3] := rfl
theorem q57 {q : Nat} (hq : q ∈ 57 :: k57.E) : q = 57 ∨ q = 3 := by
  rw [k57E] at hq
  simpa using hq
theorem R_row57 {W : World} {base g2 : Nat} {v : Value} {L : List S57} {old cs : Array Value} (h : k57.R 57 W base (fun _ => True) v L) (hb : W.heap[g2]? = some (.cells old 49 (0, 0))) : k57.R 57 (W.setRow g2 cs) base (fun _ => True) v L :=
  Kd.R_mono (Kd.R_step (Kd.R_types h hb (fun q hq => by
    rcases q57 hq with rfl | rfl
    · decide
    · decide)) (fun k hk2 _ => setRow_other _ _ _ _ hk2.2)) (fun _ hk => hk.1)
theorem drawn_some3 {W W1 : World} (h : Drawn0 W W1) : ∃ m, W1 = W.drewN m := by
  obtain ⟨m, rfl⟩ := h
  exact ⟨m, rfl⟩
theorem mod_quiet3 {a m r : Int} (h : thermionkit_Mod.f a m = some r) {W : World} {n : Nat} : Calls Try.prog 22 #[.int .i64 a, .int .i64 m] (W.drewN n) fun e w'' => e = .returned (.int .i64 r) ∧ ∃ m, w'' = W.drewN m :=
  Calls.quiet_of ((thermionkit_Mod.calls a m r _ h).mono fun e w7 hh => ⟨hh.1, drawn_some3 hh.2⟩)
theorem store_stepM {w : World} {l : List (Nat × Array Value × TypeId)} {ops : Array Oper} {o : Oper} {a : Act} {Kc : Act → World → Prop} {Q : Exit → Act → World → Prop} {W : World} {ty : TypeId} {p q : Tmp} {g : Nat} {cs old : Array Value} {t : TypeId} {n : Nat} (hw : Region.wanted o (yielded ops a.tmps) = true) (ho : o.op = .store ty (.tmp p) (.tmp q))
    (hx : a.eval (.tmp p) = .pointer (some ⟨g, 0, none⟩)) (hy : a.eval (.tmp q) = .agg cs) (hm : Mem w W ((g, old, t) :: l)) (hi : (Try.prog.info? ty).map (·.size) = some n) (hold : old.size = n) (hs : cs.size = n) (h1 : cs.all (·.oneCell') = true) (h : Kc (a.put o.dst undef) (W.setRow g cs)) :
    if Region.wanted o (yielded ops a.tmps) = true then Oper.wp Try.prog o a W Kc Q else Kc (a.put o.dst undef) W := by
  rw [if_pos hw]
  exact wp_store_row ty (.tmp p) (.tmp q) ho g cs hx hy t old hm.head (by rw [hi, hs]) (by rw [hold, hs]) h1 h
theorem mem_base {w w2 W : World} {l : List (Nat × Array Value × TypeId)} (h : Mem w2 W l) (hB : Below w.heap.size w w2) : Mem w W l := ⟨below_step hB h.below, h.blk, fun p hp => Nat.le_trans hB.size (h.ge p hp), h.apart⟩
theorem below_grown0 {W W' : World} (h : W.grownBy W' none) : Below W.heap.size W W' := ⟨h.os, h.tape, h.output, h.size, fun k hk => h.block k hk (by simp)⟩
theorem below_grown1 {W0 W W' : World} {v : Value} (hb : Below W0.heap.size W0 W) (h : W.grownBy W' v.ownBlock) (hv : ∃ b, v.ownBlock = some b ∧ W0.heap.size ≤ b) : Below W0.heap.size W0 W' := by
  obtain ⟨b, e, hb2⟩ := hv
  refine ⟨h.os.trans hb.os, h.tape.trans hb.tape, h.output.trans hb.output, Nat.le_trans hb.size h.size, fun k hk => (h.block k (Nat.lt_of_lt_of_le hk hb.size) ?_).trans (hb.block k hk)⟩
  rw [e]
  intro q
  have := Option.some.inj q
  omega
theorem orders_more {M : List S57} {c : Int} {n : Nat} (h : KitFine 8 M c) (hl : M.length = n) (A : Option Addr) (nM : Nat) (W : World) (hC : Kd.C k57 W A n M) (hc : n ≤ nM) :
    Calls Try.prog 30 #[.agg #[.slice A n nM, .int .i64 c]] W fun e w' => e = .returned (.tuple #[.int .i64 (waysOf M 0), .int .i64 0]) ∧ Below W.heap.size W w' := by
  subst hl
  exact mount_Orders.calls A nM M c (waysOf M 0) 0 W hC hc (by
    unfold mount_Orders.f
    rw [if_pos (h.holds (by omega)), if_pos (h.err (by omega))])
theorem KitFine.wide {L : List S57} {c : Int} (h : KitFine 5 L c) : KitFine 8 L c := ⟨by have := h.length; omega, h.change, h.part⟩
theorem orders_fine {L : List S57} {c : Int} (h : KitFine 8 L c) : mount_Orders.f L c = some (waysOf L 0, 0) := by
  unfold mount_Orders.f
  rw [if_pos (h.holds (by omega)), if_pos (h.err (by omega))]
def waysm.T10 : Bool × List (List Nat × List Nat) := (true, [([], []), ([], []), ([1], [1]), ([0, 2], [0, 2]), ([], []), ([4], [4]), ([3, 5], [3, 5]), ([], []), ([7, 6, 3, 0, 1, 2, 3, 4, 5, 6, 7], [6, 7])])
def waysm.B10 : List Nat := [0, 0, 2, 7, 0, 16, 63, 0, 255]
theorem waysm.tab10 : rtab .any (opsOf Try.f4 10) = waysm.T10 := by kernel_rfl
theorem waysm.bits10 : waitsOk waysm.T10.2 waysm.B10 = true := by kernel_rfl
set_option maxHeartbeats 16000000 in
set_option maxRecDepth 100000 in
theorem moreWays_calls (A0 : Option Addr) (c0 : Nat) (l0 : List Int) (a1 a2 : Int) (b3 : Bool) (w : World) (hr0 : Kd.C (Kd.int .i64) w A0 l0.length l0) (hc0 : l0.length ≤ c0) :
    Calls Try.prog 4 #[.slice A0 l0.length c0, .int .i64 a1, .int .i64 a2, .bool b3] w fun e w' => e = .returned (.bool true) ∧ Below w.heap.size w w' := by
  have HR0 := Aside0.mk hr0
  clear hr0
  have HND := Aside0.mk (show thermionkit_NewDice.f l0 = some (wordTo ((l0.length : Int) + 1374496523) l0) from rfl)
  generalize wordTo ((l0.length : Int) + 1374496523) l0 = s0 at HND
  have HAW := Aside0.mk awake_true
  have hu49 := Try.underlying49
  have hu57 := Try.underlying57
  obtain ⟨kk, L, c, s1, hko, hfine⟩ := kitOf_fine s0 5 (by omega)
  have HKO := Aside0.mk hko
  have hL5 := hfine.length
  obtain ⟨le, hmany⟩ := many_eq hfine.wide L.length [] (-1) (200 + 60 * L.length) (In.nil _) (by simp) (by omega)
  have hmany2 : thermionlaw04_many.f (200 + 60 * L.length + 1) L c [] (-1) = some (waysOf L 0, le) := hmany
  have HMN := Aside0.mk hmany2
  have HOR := Aside0.mk (orders_fine hfine.wide)
  have HFI := Aside0.mk hfine
  have hnil : ∀ W : World, Kd.C (Kd.int .i64) W none 0 [] := fun W => ⟨rfl, by omega, fun h => absurd h (by omega)⟩
  have HNIL := Aside0.mk hnil
  have hfew : L.length < 2 → waysOf L 0 = 1 := ways_few hfine
  clear hko hmany hmany2 hfine hnil
  by_cases hn : L.length < 2
  · have hn3 : (L.length : Int) < 2 := by omega
    have hone := hfew hn
    rw [hone] at HMN HOR
    clear hfew
    go_enter Try.func4, Try.ntmps4
    go_wp2_with (first
      | (go_at_call 19; refine (thermionkit_NewDice.calls A0 c0 l0 s0 w w (Below.refl _ _) HR0.out hc0 HND.out).mono ?_; rintro e w1 ⟨g, rfl, hI1, hB1, hB1b⟩; have HI1 := Aside0.mk hI1; have HB1 := Aside0.mk hB1; clear hI1 hB1 hB1b HND HR0)
      | (go_at_call 29; refine (thermionkit_KitOf.calls kk g s0 5 L c s1 w w1 HI1.out HB1.out HKO.out).mono ?_; rintro e w2 ⟨vL, rfl, hS2, hI2, hB2, hK2⟩; obtain ⟨AL, nL, rfl⟩ := Kd.S_slice hS2; have HR2 := Aside0.mk (Kd.R_lower (Kd.S_R hS2) HB1.out.size); have HN2 := Aside0.mk (mem_base (Mem.start w2) hB2); clear hS2 hI2 hB2 hK2 HKO HI1 HB1)
      | ((with_reducible refine gate_dst (N := 9) rfl ?_); refine ev_new HN2.out rfl 49 rfl info49 ?_; intro g9 w3 hm3 hq1; have HN3 := Aside0.mk hm3; have HR3 := Aside0.mk (Kd.R_below HR2.out hq1); clear hm3 hq1 HN2 HR2)
      | ((with_reducible refine gate_store (t := 49) (p := 9) rfl ?_); refine ev_storeW HN3.out rfl 49 (.tmp 9) (.tmp 20) rfl rfl (cs := #[.slice AL L.length nL, .int .i64 c]) rfl size49 rfl rfl (by simp [Value.oneCell']) ?_; intro hm4; have HR4 := Aside0.mk (R_row57 (cs := #[.slice AL L.length nL, .int .i64 c]) HR3.out HN3.out.head); have HN4 := Aside0.mk hm4; clear hm4 HN3 HR3; generalize w3.setRow g9 #[.slice AL L.length nL, .int .i64 c] = w4 at HN4 HR4 ⊢)
      | ((with_reducible refine gate_dst (N := 22) rfl ?_); refine ev_load HN4.out.head rfl 49 (.tmp 9) rfl rfl _ Try.underlying49 rfl size49 rfl ?_)
      | (go_at_call 30; refine (mount_Orders.calls AL nL L c 1 0 _ (Kd.R_reads' HR4.out).2.2 (Kd.R_reads' HR4.out).2.1 HOR.out).mono ?_; rintro e w5 ⟨rfl, hd⟩; have HN5 := Aside0.mk (HN4.out.step hd); have HR5 := Aside0.mk (Kd.R_below HR4.out hd); clear hd HN4 HR4 HOR)
      | ((with_reducible refine gate_dst (N := 27) rfl ?_); refine ev_load HN5.out.head rfl 49 (.tmp 9) rfl rfl _ Try.underlying49 rfl size49 rfl ?_)
      | (go_at_call 31; refine (thermionlaw04_many.calls (200 + 60 * L.length + 1) AL nL L c none 0 [] (-1) 1 le _ (Kd.R_reads' HR5.out).2.2 (Kd.R_reads' HR5.out).2.1 (HNIL.out _) (by simp) HMN.out).mono ?_; rintro e w7 ⟨rfl, hd⟩; have HN7 := Aside0.mk (HN5.out.step hd); have HR7 := Aside0.mk (Kd.R_below HR5.out hd); have c9 : w7.cell? ⟨g9, 0, none⟩ = some (.slice AL L.length nL) := (HN7.out.cell 0).trans rfl; clear hd HN5 HR5 HMN)
      | (go_at_call 21; refine (thermionlaw04_awake.calls 8 true _ HAW.out).mono ?_; rintro e w8 ⟨rfl, hd⟩; have HN8 := Aside0.mk (HN7.out.step hd); clear hd))
    go_ret
    exact ⟨rfl, HN8.out.below⟩
  have hn3 : ¬ (L.length : Int) < 2 := by omega
  clear hfew
  obtain ⟨fI, hmod1, hf0, hf1⟩ := mod_eq a1 L.length (by omega) (by omega)
  obtain ⟨dI, hmod2, hd0, hd1⟩ := mod_eq a2 ((L.length : Int) - 1) (by omega) (by omega)
  obtain ⟨p, rfl⟩ : ∃ p : Nat, fI = p := ⟨fI.toNat, by omega⟩
  have hm0 := Int.emod_nonneg ((p : Int) + 1 + dI) (show (L.length : Int) ≠ 0 by omega)
  have hm1 := Int.emod_lt_of_pos ((p : Int) + 1 + dI) (show 0 < (L.length : Int) by omega)
  obtain ⟨o, ho⟩ : ∃ o : Nat, Int.tmod ((p : Int) + 1 + dI) L.length = (o : Int) := ⟨(((p : Int) + 1 + dI) % L.length).toNat, by rw [Int.tmod_eq_emod_of_nonneg (by omega)]; omega⟩
  have hon : o < L.length := by rw [Int.tmod_eq_emod_of_nonneg (by omega)] at ho; omega
  have hpn : p < L.length := by omega
  have hpo : (o : Int) ≠ p := by
    rw [Int.tmod_eq_emod_of_nonneg (by omega)] at ho
    intro e
    by_cases q : (p : Int) + 1 + dI < L.length
    · rw [Int.emod_eq_of_lt (by omega) q] at ho; omega
    · have : ((p : Int) + 1 + dI) % L.length = (p : Int) + 1 + dI - L.length := by rw [← Int.sub_emod_right, Int.emod_eq_of_lt (by omega) (by omega)]
      omega
  have HM1 := Aside0.mk hmod1
  have HM2 := Aside0.mk hmod2
  have n1 : IntKind.i64.wrap ((p : Int) + 1) = (p : Int) + 1 := IntWalk.i64_in _ (by omega)
  have n2 : IntKind.i64.wrap ((L.length : Int) - 1) = (L.length : Int) - 1 := IntWalk.i64_in _ (by omega)
  have n3 : IntKind.i64.wrap ((p : Int) + 1 + dI) = (p : Int) + 1 + dI := IntWalk.i64_in _ (by omega)
  have n4 : IntKind.i64.wrap (o : Int) = (o : Int) := IntWalk.i64_in _ (by omega)
  have z1 : ¬ L.length = 0 := by omega
  have z2 : ¬ (L.length : Int) = 0 := by omega
  clear hm0 hm1 hmod1 hmod2 hd0 hd1 hf0 hf1
  generalize hwl : waysOf L 0 = wl at HMN HOR
  have HWL := Aside0.mk hwl
  clear hwl
  go_enter Try.func4, Try.ntmps4
  go_upto_region 9 with (first
      | (go_at_call 19; refine (thermionkit_NewDice.calls A0 c0 l0 s0 w w (Below.refl _ _) HR0.out hc0 HND.out).mono ?_; rintro e w1 ⟨g, rfl, hI1, hB1, hB1b⟩; have HI1 := Aside0.mk hI1; have HB1 := Aside0.mk hB1; clear hI1 hB1 hB1b HND HR0)
      | (go_at_call 29; refine (thermionkit_KitOf.calls kk g s0 5 L c s1 w w1 HI1.out HB1.out HKO.out).mono ?_; rintro e w2 ⟨vL, rfl, hS2, hI2, hB2, hK2⟩; obtain ⟨AL, nL, rfl⟩ := Kd.S_slice hS2; have HR2 := Aside0.mk (Kd.R_lower (Kd.S_R hS2) HB1.out.size); have HN2 := Aside0.mk (mem_base (Mem.start w2) hB2); clear hS2 hI2 hB2 hK2 HKO HI1 HB1)
      | ((with_reducible refine gate_dst (N := 9) rfl ?_); refine ev_new HN2.out rfl 49 rfl info49 ?_; intro g9 w3 hm3 hq1; have HN3 := Aside0.mk hm3; have HR3 := Aside0.mk (Kd.R_below HR2.out hq1); clear hm3 hq1 HN2 HR2)
      | ((with_reducible refine gate_store (t := 49) (p := 9) rfl ?_); refine ev_storeW HN3.out rfl 49 (.tmp 9) (.tmp 20) rfl rfl (cs := #[.slice AL L.length nL, .int .i64 c]) rfl size49 rfl rfl (by simp [Value.oneCell']) ?_; intro hm4; have HR4 := Aside0.mk (R_row57 (cs := #[.slice AL L.length nL, .int .i64 c]) HR3.out HN3.out.head); have HN4 := Aside0.mk hm4; clear hm4 HN3 HR3; generalize w3.setRow g9 #[.slice AL L.length nL, .int .i64 c] = w4 at HN4 HR4 ⊢)
      | ((with_reducible refine gate_dst (N := 22) rfl ?_); refine ev_load HN4.out.head rfl 49 (.tmp 9) rfl rfl _ Try.underlying49 rfl size49 rfl ?_)
      | (go_at_call 30; refine (mount_Orders.calls AL nL L c wl 0 _ (Kd.R_reads' HR4.out).2.2 (Kd.R_reads' HR4.out).2.1 HOR.out).mono ?_; rintro e w5 ⟨rfl, hd⟩; have HN5 := Aside0.mk (HN4.out.step hd); have HR5 := Aside0.mk (Kd.R_below HR4.out hd); clear hd HN4 HR4 HOR)
      | ((with_reducible refine gate_dst (N := 27) rfl ?_); refine ev_load HN5.out.head rfl 49 (.tmp 9) rfl rfl _ Try.underlying49 rfl size49 rfl ?_)
      | (go_at_call 31; refine (thermionlaw04_many.calls (200 + 60 * L.length + 1) AL nL L c none 0 [] (-1) wl le _ (Kd.R_reads' HR5.out).2.2 (Kd.R_reads' HR5.out).2.1 (HNIL.out _) (by simp) HMN.out).mono ?_; rintro e w7 ⟨rfl, hd⟩; have HN7 := Aside0.mk (HN5.out.step hd); have HR7 := Aside0.mk (Kd.R_below HR5.out hd); have c9 : w7.cell? ⟨g9, 0, none⟩ = some (.slice AL L.length nL) := (HN7.out.cell 0).trans rfl; clear hd HN5 HR5 HMN)
      | (go_at_call 22; refine (thermionkit_Mod.calls a1 L.length p _ HM1.out).mono ?_; rintro e w8 ⟨rfl, hd⟩; have HN8 := Aside0.mk (HN7.out.step hd.below); have HR8 := Aside0.mk (Kd.R_below HR7.out hd.below); clear hd HN7 HR7 c9; have c9 : w8.cell? ⟨g9, 0, none⟩ = some (.slice AL L.length nL) := (HN8.out.cell 0).trans rfl))
  go_quiet (exact mod_quiet3 HM2.out)
  have HN10 := Aside0.mk (HN8.out.drewN nq)
  have HR10 := Aside0.mk (Kd.R_below HR8.out (pw_below_drewN (Below.refl _ _) nq))
  clear HN8 HR8 c9
  generalize w8.drewN nq = wX at HN10 HR10 ⊢
  have HCL := Aside0.mk ((HN10.out.drew.cell 0).trans (show _ = some (.slice AL L.length nL) from rfl))
  have HCC := Aside0.mk ((HN10.out.drew.cell 1).trans (show _ = some (.int .i64 c) from rfl))
  go_upto_region 10 with fail
  go_cut [14] (fun v14 wc => ∃ (g14 : Nat) (AM : Option Addr) (nM : Nat), v14 = .pointer (some ⟨g14, 0, none⟩) ∧ Aside0 (Mem wX wc [(g14, #[.slice AM L.length nM, .int .i64 c], 49)]) ∧ Aside0 (k57.R 57 wc w.heap.size (fun _ => True) (.slice AM L.length nM) L))
  case first =>
    have HRd := Aside0.mk (Kd.R_below HR10.out (below_drew1 (Below.refl _ _)))
    have HBd := Aside0.mk (below_drew1 (Below.refl wX.heap.size wX))
    refine start_ (n := 9) (S := fun w' => w'.cell? ⟨g9, 0, none⟩ = some (.slice AL L.length nL) ∧ w'.cell? ⟨g9, 1, none⟩ = some (.int .i64 c)) (ds := []) #[false, false, false, false, false, false, false, false, false] (by kernel_rfl) rfl rfl ⟨HCL.out, HCC.out⟩ (fun hHeld => ?_); refine with_tabW waysm.tab10 waysm.bits10 (fun HT_ HW_ => ?_)
    generalize wX.drew = wd at HBd hHeld HCL HCC HRd ⊢
    refine pure_ (i := 1) (N := some 66) (v := ?_) (a' := ?_) #[false, true, false, false, false, false, false, false, false] rfl rfl (any_of HT_.out (by kernel_rfl)) (fun _ _ _ h => h) (Or.inl ⟨by rfl, ?_⟩) ?_ ?_
    rotate_left
    · intro w'
      go_simp
      with_reducible rfl
    rotate_left
    · simp only [Act.put, List.setIfInBounds_toArray, List.set_cons_zero, List.set_cons_succ, i64_w, i32_w]
      rfl
    refine pure_ (i := 4) (N := some 69) (v := ?_) (a' := ?_) #[false, true, false, false, true, false, false, false, false] rfl rfl (any_of HT_.out (by kernel_rfl)) (fun _ _ _ h => h) (Or.inl ⟨by rfl, ?_⟩) ?_ ?_
    rotate_left
    · intro w'
      go_simp
      with_reducible rfl
    rotate_left
    · simp only [Act.put, List.setIfInBounds_toArray, List.set_cons_zero, List.set_cons_succ, i64_w, i32_w]
      rfl
    refine take_ (i := 2) (N := some 67) (v := ?_) (a' := ?_) #[false, true, true, false, true, false, false, false, false] rfl rfl (take_ofW HT_.out HW_.out (by kernel_rfl)) (fun _ _ _ h => h) (Or.inl ⟨by rfl, ?_⟩) hHeld ?_ ?_
    rotate_left
    · rintro w' ⟨s0, s1⟩
      go_simp
      with_reducible rfl
    rotate_left
    · simp only [Act.put, List.setIfInBounds_toArray, List.set_cons_zero, List.set_cons_succ, i64_w, i32_w]
      rfl
    refine take_ (i := 5) (N := some 70) (v := ?_) (a' := ?_) #[false, true, true, false, true, true, false, false, false] rfl rfl (take_ofW HT_.out HW_.out (by kernel_rfl)) (fun _ _ _ h => h) (Or.inl ⟨by rfl, ?_⟩) hHeld ?_ ?_
    rotate_left
    · rintro w' ⟨s0, s1⟩
      go_simp
      with_reducible rfl
    rotate_left
    · simp only [Act.put, List.setIfInBounds_toArray, List.set_cons_zero, List.set_cons_succ, i64_w, i32_w]
      rfl
    have HRR : Aside0 (ReadsRow (k57.M wd w.heap.size (fun k => k < wd.heap.size)) 4 wd AL L.length L) := ⟨by obtain ⟨A, c', e1, _, hr⟩ := (Kd.R_bound HRd.out).2.reads; injection e1 with e1 _ _; rw [e1]; exact hr.imp_ (Below.refl _ _) (fun _ _ hp => k57.M_mono (fun k hk => hk.1.2.2.1) hp)⟩
    have HBw : Aside0 (Below w.heap.size w wd) := ⟨below_step HN10.out.below HBd.out⟩
    have HB := Aside0.mk (Below.refl wd.heap.size wd)
    refine two_ (i := 0) (j := 7) (Ni := some 65) (Nj := some 14) #[true, true, true, false, true, true, false, false, false] #[false, true, true, false, true, true, false, true, false] rfl rfl rfl rfl (two_of HT_.out (by kernel_rfl)) (by decide) (by decide) (fun K hK => ?_) (fun K hK => ?_)
    · refine Kd.R_lit_step k57 (w0 := w) (W := wd) w.heap.size 57 ?hg (N := 65) ?hd (xs := ([] : List S57)) (inner := []) (ok := fun _ => True) (okp := fun _ => False) ?hr ?hp (fun _ h => h.elim) trivial (below_step HBw.out HB.out) (below_step HBw.out HB.out).size (by simp) ?_; (case hd => rfl); (case hg => rfl); (case hr => first | (go_simp; done) | (go_simp; rfl)); (case hp => exact Reps.none _ _)
      intro v65 wda hR hBx hg hat
      have hb := below_grown0 hg
      have HL := Aside0.mk hR
      have HAT : Aside0 (∃ b, v65.ownBlock = some b ∧ wd.heap.size ≤ b) := ⟨by obtain ⟨b, h1, h2⟩ := hat; exact ⟨b, h1, Nat.le_trans HB.out.size h2⟩⟩
      have HB_ := Aside0.mk (below_step HB.out hb)
      clear HB
      have HB := HB_
      clear HB_
      clear hR hBx hg hat hb hHeld
      refine hK.out _ _ ⟨cell_later HB.out HCL.out, cell_later HB.out HCC.out⟩ (fun hHeld => ?_)
      clear hK K
      refine norm_ (a' := ?_) ?_ ?_
      rotate_left
      · show Act.put _ (some 65) _ = _
        simp only [Act.put, List.setIfInBounds_toArray, List.set_cons_zero, List.set_cons_succ, i64_w, i32_w]
        rfl
      refine two_ (i := 3) (j := 7) (Ni := some 68) (Nj := some 14) #[true, true, true, true, true, true, false, false, false] #[true, true, true, false, true, true, false, true, false] rfl rfl rfl rfl (two_of HT_.out (by kernel_rfl)) (by decide) (by decide) (fun K hK => ?_) (fun K hK => ?_)
      · refine Kd.R_append_rows_step k57 (Rr := k57.M wd w.heap.size (fun k => k < wd.heap.size)) (w0 := w) w.heap.size (by rfl) (.tmp 65) (.tmp 67) 47 57 (.agg #[.slice none 0 0, .slice none 0 0, .int .i64 0, .int .i64 0]) 64 rfl Try.underlying47 info57 rfl (by decide) (by omega) v65 ([] : List S57) L AL L.length nL (fun _ => True) (fun k => k < wd.heap.size) rfl rfl HL.out (HRR.out.imp_ HB.out (fun _ _ hp => hp)) (fun _ _ hp => Kd.M_below hp HB.out) (fun k hk => ⟨trivial, fun e => by obtain ⟨b, hb1, hb2⟩ := HAT.out; rw [← e] at hb1; have := Option.some.inj hb1; omega⟩) (fun _ _ => trivial) (below_step HBw.out HB.out) (below_step HBw.out HB.out).size (by simp; omega) ?_
        intro v68 wdab hR hBx hg hat
        rw [List.nil_append] at hR
        obtain ⟨AM, nM, eM⟩ := Kd.R_slice hR
        subst eM
        have HA := Aside0.mk hR
        have HB_ := Aside0.mk (below_grown1 HB.out hg HAT.out)
        clear HB
        have HB := HB_
        clear HB_
        clear hR hBx hg hat hHeld HL HAT
        refine hK.out _ _ ⟨cell_later HB.out HCL.out, cell_later HB.out HCC.out⟩ (fun hHeld => ?_)
        clear hK K
        refine norm_ (a' := ?_) ?_ ?_
        rotate_left
        · show Act.put _ (some 68) _ = _
          simp only [Act.put, List.setIfInBounds_toArray, List.set_cons_zero, List.set_cons_succ, i64_w, i32_w]
          rfl
        refine pure_ (i := 6) (N := some 71) (v := ?_) (a' := ?_) #[true, true, true, true, true, true, true, false, false] rfl rfl (any_of HT_.out (by kernel_rfl)) (fun _ _ _ h => h) (Or.inl ⟨by rfl, ?_⟩) ?_ ?_
        rotate_left
        · intro w'
          go_simp
          with_reducible rfl
        rotate_left
        · simp only [Act.put, List.setIfInBounds_toArray, List.set_cons_zero, List.set_cons_succ, i64_w, i32_w]
          rfl
        refine one_ (i := 7) (N := some 14) #[true, true, true, true, true, true, true, true, false] rfl rfl (one_of HT_.out (by kernel_rfl)) (by decide) (fun K hK => ?_)
        refine box_step ?hg (N := 14) ?hd (cs := #[.slice none 0 0, .int .i64 0]) (t := 49) ?hr ?_; (case hd => rfl); (case hg => rfl); (case hr => first | (go_simp; done) | (go_simp; rfl))
        intro g14 hg wdabc hbox hb
        have HM := Aside0.mk (((Mem.start wd).step HB.out).new hg hbox hb)
        have HA_ := Aside0.mk (Kd.R_below HA.out hb)
        clear HA
        have HA := HA_
        clear HA_
        have HB_ := Aside0.mk (HM.out.below)
        clear HB
        have HB := HB_
        clear HB_
        clear hg hbox hb hHeld
        refine hK.out _ _ ⟨cell_later HB.out HCL.out, cell_later HB.out HCC.out⟩ (fun hHeld => ?_)
        clear hK K
        refine norm_ (a' := ?_) ?_ ?_
        rotate_left
        · show Act.put _ (some 14) _ = _
          simp only [Act.put, List.setIfInBounds_toArray, List.set_cons_zero, List.set_cons_succ, i64_w, i32_w]
          rfl
        refine one_ (i := 8) (N := none) #[true, true, true, true, true, true, true, true, true] rfl rfl (one_of HT_.out (by kernel_rfl)) (by decide) (fun K hK => ?_)
        apply store_stepM (ty := 49) (p := 14) (q := 71) (g := g14) (cs := #[.slice AM L.length nM, .int .i64 c]) (n := 2) (hw := by rfl) (ho := by rfl) (hm := HM.out) (hi := size49) (hold := rfl) (hs := rfl) (h1 := by simp [Value.oneCell'])
        · simp [Act.eval, Act.put]
        · simp [Act.eval, Act.put]
        have HA_ := Aside0.mk (R_row57 (cs := #[.slice AM L.length nM, .int .i64 c]) HA.out HM.out.head)
        clear HA
        have HA := HA_
        clear HA_
        have HM_ := Aside0.mk (HM.out.row #[.slice AM L.length nM, .int .i64 c])
        clear HM
        have HM := HM_
        clear HM_
        have HB_ := Aside0.mk (HM.out.below)
        clear HB
        have HB := HB_
        clear HB_
        clear hHeld
        refine hK.out _ _ ⟨cell_later HB.out HCL.out, cell_later HB.out HCC.out⟩ (fun hHeld => ?_)
        clear hK K
        generalize wdabc.setRow g14 #[.slice AM L.length nM, .int .i64 c] = wdabcd at HM HA HB hHeld ⊢
        refine norm_ (a' := ?_) ?_ ?_
        rotate_left
        · show Act.put _ (none) _ = _
          rfl
        refine done_ (done_of HT_.out (by kernel_rfl)) ?_
        clear hHeld HT_ HW_
        try go_wp2
        go_meet
        case rel => exact ⟨g14, AM, nM, rfl, ⟨⟨below_step HBd.out HM.out.below, HM.out.blk, fun q hq => Nat.le_trans HBd.out.size (HM.out.ge q hq), HM.out.apart⟩⟩, HA⟩
      · refine box_step ?hg (N := 14) ?hd (cs := #[.slice none 0 0, .int .i64 0]) (t := 49) ?hr ?_; (case hd => rfl); (case hg => rfl); (case hr => first | (go_simp; done) | (go_simp; rfl))
        intro g14 hg wdab hbox hb
        have HM := Aside0.mk (((Mem.start wd).step HB.out).new hg hbox hb)
        have HL_ := Aside0.mk (Kd.R_below HL.out hb)
        clear HL
        have HL := HL_
        clear HL_
        have HB_ := Aside0.mk (HM.out.below)
        clear HB
        have HB := HB_
        clear HB_
        clear hg hbox hb hHeld
        refine hK.out _ _ ⟨cell_later HB.out HCL.out, cell_later HB.out HCC.out⟩ (fun hHeld => ?_)
        clear hK K
        refine norm_ (a' := ?_) ?_ ?_
        rotate_left
        · show Act.put _ (some 14) _ = _
          simp only [Act.put, List.setIfInBounds_toArray, List.set_cons_zero, List.set_cons_succ, i64_w, i32_w]
          rfl
        refine one_ (i := 3) (N := some 68) #[true, true, true, true, true, true, false, true, false] rfl rfl (one_of HT_.out (by kernel_rfl)) (by decide) (fun K hK => ?_)
        refine Kd.R_append_rows_step k57 (Rr := k57.M wd w.heap.size (fun k => k < wd.heap.size)) (w0 := w) w.heap.size (by rfl) (.tmp 65) (.tmp 67) 47 57 (.agg #[.slice none 0 0, .slice none 0 0, .int .i64 0, .int .i64 0]) 64 rfl Try.underlying47 info57 rfl (by decide) (by omega) v65 ([] : List S57) L AL L.length nL (fun _ => True) (fun k => k < wd.heap.size) rfl rfl HL.out (HRR.out.imp_ HB.out (fun _ _ hp => hp)) (fun _ _ hp => Kd.M_below hp HB.out) (fun k hk => ⟨trivial, fun e => by obtain ⟨b, hb1, hb2⟩ := HAT.out; rw [← e] at hb1; have := Option.some.inj hb1; omega⟩) (fun _ _ => trivial) (below_step HBw.out HB.out) (below_step HBw.out HB.out).size (by simp; omega) ?_
        intro v68 wdabc hR hBx hg hat
        rw [List.nil_append] at hR
        obtain ⟨AM, nM, eM⟩ := Kd.R_slice hR
        subst eM
        have HA := Aside0.mk hR
        have HM_ := Aside0.mk (HM.out.grown hg (fun k hk => by obtain ⟨b, hb1, hb2⟩ := HAT.out; rw [hk] at hb1; have := Option.some.inj hb1; omega) (fun q hq => by rcases List.mem_singleton.1 hq with rfl; exact Kd.R_ne HL.out HM.out.head (by decide)))
        clear HM
        have HM := HM_
        clear HM_
        have HB_ := Aside0.mk (below_grown1 HB.out hg HAT.out)
        clear HB
        have HB := HB_
        clear HB_
        clear hR hBx hg hat hHeld HL HAT
        refine hK.out _ _ ⟨cell_later HB.out HCL.out, cell_later HB.out HCC.out⟩ (fun hHeld => ?_)
        clear hK K
        refine norm_ (a' := ?_) ?_ ?_
        rotate_left
        · show Act.put _ (some 68) _ = _
          simp only [Act.put, List.setIfInBounds_toArray, List.set_cons_zero, List.set_cons_succ, i64_w, i32_w]
          rfl
        refine pure_ (i := 6) (N := some 71) (v := ?_) (a' := ?_) #[true, true, true, true, true, true, true, true, false] rfl rfl (any_of HT_.out (by kernel_rfl)) (fun _ _ _ h => h) (Or.inl ⟨by rfl, ?_⟩) ?_ ?_
        rotate_left
        · intro w'
          go_simp
          with_reducible rfl
        rotate_left
        · simp only [Act.put, List.setIfInBounds_toArray, List.set_cons_zero, List.set_cons_succ, i64_w, i32_w]
          rfl
        refine one_ (i := 8) (N := none) #[true, true, true, true, true, true, true, true, true] rfl rfl (one_of HT_.out (by kernel_rfl)) (by decide) (fun K hK => ?_)
        apply store_stepM (ty := 49) (p := 14) (q := 71) (g := g14) (cs := #[.slice AM L.length nM, .int .i64 c]) (n := 2) (hw := by rfl) (ho := by rfl) (hm := HM.out) (hi := size49) (hold := rfl) (hs := rfl) (h1 := by simp [Value.oneCell'])
        · simp [Act.eval, Act.put]
        · simp [Act.eval, Act.put]
        have HA_ := Aside0.mk (R_row57 (cs := #[.slice AM L.length nM, .int .i64 c]) HA.out HM.out.head)
        clear HA
        have HA := HA_
        clear HA_
        have HM_ := Aside0.mk (HM.out.row #[.slice AM L.length nM, .int .i64 c])
        clear HM
        have HM := HM_
        clear HM_
        have HB_ := Aside0.mk (HM.out.below)
        clear HB
        have HB := HB_
        clear HB_
        clear hHeld
        refine hK.out _ _ ⟨cell_later HB.out HCL.out, cell_later HB.out HCC.out⟩ (fun hHeld => ?_)
        clear hK K
        generalize wdabc.setRow g14 #[.slice AM L.length nM, .int .i64 c] = wdabcd at HM HA HB hHeld ⊢
        refine norm_ (a' := ?_) ?_ ?_
        rotate_left
        · show Act.put _ (none) _ = _
          rfl
        refine done_ (done_of HT_.out (by kernel_rfl)) ?_
        clear hHeld HT_ HW_
        try go_wp2
        go_meet
        case rel => exact ⟨g14, AM, nM, rfl, ⟨⟨below_step HBd.out HM.out.below, HM.out.blk, fun q hq => Nat.le_trans HBd.out.size (HM.out.ge q hq), HM.out.apart⟩⟩, HA⟩
    · refine box_step ?hg (N := 14) ?hd (cs := #[.slice none 0 0, .int .i64 0]) (t := 49) ?hr ?_; (case hd => rfl); (case hg => rfl); (case hr => first | (go_simp; done) | (go_simp; rfl))
      intro g14 hg wda hbox hb
      have HM := Aside0.mk (((Mem.start wd).step HB.out).new hg hbox hb)
      have HB_ := Aside0.mk (HM.out.below)
      clear HB
      have HB := HB_
      clear HB_
      clear hg hbox hb hHeld
      refine hK.out _ _ ⟨cell_later HB.out HCL.out, cell_later HB.out HCC.out⟩ (fun hHeld => ?_)
      clear hK K
      refine norm_ (a' := ?_) ?_ ?_
      rotate_left
      · show Act.put _ (some 14) _ = _
        simp only [Act.put, List.setIfInBounds_toArray, List.set_cons_zero, List.set_cons_succ, i64_w, i32_w]
        rfl
      refine one_ (i := 0) (N := some 65) #[true, true, true, false, true, true, false, true, false] rfl rfl (one_of HT_.out (by kernel_rfl)) (by decide) (fun K hK => ?_)
      refine Kd.R_lit_step k57 (w0 := w) (W := wda) w.heap.size 57 ?hg (N := 65) ?hd (xs := ([] : List S57)) (inner := []) (ok := fun _ => True) (okp := fun _ => False) ?hr ?hp (fun _ h => h.elim) trivial (below_step HBw.out HB.out) (below_step HBw.out HB.out).size (by simp) ?_; (case hd => rfl); (case hg => rfl); (case hr => first | (go_simp; done) | (go_simp; rfl)); (case hp => exact Reps.none _ _)
      intro v65 wdab hR hBx hg hat
      have hb := below_grown0 hg
      have HL := Aside0.mk hR
      have HAT : Aside0 (∃ b, v65.ownBlock = some b ∧ wd.heap.size ≤ b) := ⟨by obtain ⟨b, h1, h2⟩ := hat; exact ⟨b, h1, Nat.le_trans HB.out.size h2⟩⟩
      have HM_ := Aside0.mk (HM.out.step hb)
      clear HM
      have HM := HM_
      clear HM_
      have HB_ := Aside0.mk (below_step HB.out hb)
      clear HB
      have HB := HB_
      clear HB_
      clear hR hBx hg hat hb hHeld
      refine hK.out _ _ ⟨cell_later HB.out HCL.out, cell_later HB.out HCC.out⟩ (fun hHeld => ?_)
      clear hK K
      refine norm_ (a' := ?_) ?_ ?_
      rotate_left
      · show Act.put _ (some 65) _ = _
        simp only [Act.put, List.setIfInBounds_toArray, List.set_cons_zero, List.set_cons_succ, i64_w, i32_w]
        rfl
      refine one_ (i := 3) (N := some 68) #[true, true, true, true, true, true, false, true, false] rfl rfl (one_of HT_.out (by kernel_rfl)) (by decide) (fun K hK => ?_)
      refine Kd.R_append_rows_step k57 (Rr := k57.M wd w.heap.size (fun k => k < wd.heap.size)) (w0 := w) w.heap.size (by rfl) (.tmp 65) (.tmp 67) 47 57 (.agg #[.slice none 0 0, .slice none 0 0, .int .i64 0, .int .i64 0]) 64 rfl Try.underlying47 info57 rfl (by decide) (by omega) v65 ([] : List S57) L AL L.length nL (fun _ => True) (fun k => k < wd.heap.size) rfl rfl HL.out (HRR.out.imp_ HB.out (fun _ _ hp => hp)) (fun _ _ hp => Kd.M_below hp HB.out) (fun k hk => ⟨trivial, fun e => by obtain ⟨b, hb1, hb2⟩ := HAT.out; rw [← e] at hb1; have := Option.some.inj hb1; omega⟩) (fun _ _ => trivial) (below_step HBw.out HB.out) (below_step HBw.out HB.out).size (by simp; omega) ?_
      intro v68 wdabc hR hBx hg hat
      rw [List.nil_append] at hR
      obtain ⟨AM, nM, eM⟩ := Kd.R_slice hR
      subst eM
      have HA := Aside0.mk hR
      have HM_ := Aside0.mk (HM.out.grown hg (fun k hk => by obtain ⟨b, hb1, hb2⟩ := HAT.out; rw [hk] at hb1; have := Option.some.inj hb1; omega) (fun q hq => by rcases List.mem_singleton.1 hq with rfl; exact Kd.R_ne HL.out HM.out.head (by decide)))
      clear HM
      have HM := HM_
      clear HM_
      have HB_ := Aside0.mk (below_grown1 HB.out hg HAT.out)
      clear HB
      have HB := HB_
      clear HB_
      clear hR hBx hg hat hHeld HL HAT
      refine hK.out _ _ ⟨cell_later HB.out HCL.out, cell_later HB.out HCC.out⟩ (fun hHeld => ?_)
      clear hK K
      refine norm_ (a' := ?_) ?_ ?_
      rotate_left
      · show Act.put _ (some 68) _ = _
        simp only [Act.put, List.setIfInBounds_toArray, List.set_cons_zero, List.set_cons_succ, i64_w, i32_w]
        rfl
      refine pure_ (i := 6) (N := some 71) (v := ?_) (a' := ?_) #[true, true, true, true, true, true, true, true, false] rfl rfl (any_of HT_.out (by kernel_rfl)) (fun _ _ _ h => h) (Or.inl ⟨by rfl, ?_⟩) ?_ ?_
      rotate_left
      · intro w'
        go_simp
        with_reducible rfl
      rotate_left
      · simp only [Act.put, List.setIfInBounds_toArray, List.set_cons_zero, List.set_cons_succ, i64_w, i32_w]
        rfl
      refine one_ (i := 8) (N := none) #[true, true, true, true, true, true, true, true, true] rfl rfl (one_of HT_.out (by kernel_rfl)) (by decide) (fun K hK => ?_)
      apply store_stepM (ty := 49) (p := 14) (q := 71) (g := g14) (cs := #[.slice AM L.length nM, .int .i64 c]) (n := 2) (hw := by rfl) (ho := by rfl) (hm := HM.out) (hi := size49) (hold := rfl) (hs := rfl) (h1 := by simp [Value.oneCell'])
      · simp [Act.eval, Act.put]
      · simp [Act.eval, Act.put]
      have HA_ := Aside0.mk (R_row57 (cs := #[.slice AM L.length nM, .int .i64 c]) HA.out HM.out.head)
      clear HA
      have HA := HA_
      clear HA_
      have HM_ := Aside0.mk (HM.out.row #[.slice AM L.length nM, .int .i64 c])
      clear HM
      have HM := HM_
      clear HM_
      have HB_ := Aside0.mk (HM.out.below)
      clear HB
      have HB := HB_
      clear HB_
      clear hHeld
      refine hK.out _ _ ⟨cell_later HB.out HCL.out, cell_later HB.out HCC.out⟩ (fun hHeld => ?_)
      clear hK K
      generalize wdabc.setRow g14 #[.slice AM L.length nM, .int .i64 c] = wdabcd at HM HA HB hHeld ⊢
      refine norm_ (a' := ?_) ?_ ?_
      rotate_left
      · show Act.put _ (none) _ = _
        rfl
      refine done_ (done_of HT_.out (by kernel_rfl)) ?_
      clear hHeld HT_ HW_
      try go_wp2
      go_meet
      case rel => exact ⟨g14, AM, nM, rfl, ⟨⟨below_step HBd.out HM.out.below, HM.out.blk, fun q hq => Nat.le_trans HBd.out.size (HM.out.ge q hq), HM.out.apart⟩⟩, HA⟩
  case rest =>
    obtain ⟨g14, AM, nM, rfl, HMr, HR⟩ := hcut
    obtain ⟨gM, cap, eM, hg1, hg2, cs57, hcel⟩ := Kd.R_form HR.out (by omega)
    injection eM with e1 _ e2
    subst e1
    subst e2
    have HG1 := Aside0.mk hg1
    have HM := Aside0.mk (mem_base HMr.out HN10.out.below)
    clear HMr HN10 HR10 HCL HCC hg1 hg2 hcel
    have HP := Aside0.mk (HFI.out.part p hpn)
    have HMO := Aside0.mk (fun b => more_fine HFI.out hpn (o := (o : Int)) (by omega) hpo b)
    have HLE := Aside0.mk (fun b => ways_less (M := L.set p (moreOf b (L.getD p z57) (o : Int))) (by omega) (List.length_set ..) (fun s q h => more_go HFI.out hpn b s q h) (missing L.length 0) 0 rfl)
    have c14 : wc.cell? ⟨g14, 0, none⟩ = some (.slice (some ⟨gM, 0, none⟩) L.length nM) := (HM.out.cell 0).trans rfl
    have hlen0 := HP.out.needs.length (by omega)
    have hlen1 := HP.out.bars.length (by omega)
    obtain ⟨cl, hcl, hMe, hce, hfr⟩ := Kd.R_elem HR.out z57 (p : Int) (by omega) (by omega)
    obtain ⟨v0, v1, rfl, hr0, hr1⟩ := k57_openM hMe
    rw [Int.toNat_natCast] at hr0 hr1
    have hset : (L.getD p z57 = L.getD p z57) := rfl
    clear hset
    generalize hX : L.getD p z57 = X at hr0 hr1 HP HMO HLE hlen0 hlen1
    have HX := Aside0.mk hX
    clear hX
    obtain ⟨A0_, c0_, rfl⟩ := Kd.R_slice hr0
    obtain ⟨A1_, c1_, rfl⟩ := Kd.R_slice hr1
    have y0 : wc.cell? ⟨gM, p * 4, none⟩ = some (.slice A0_ X.f0.length c0_) := hce 0 _ rfl
    have y1 : wc.cell? ⟨gM, p * 4 + 1, none⟩ = some (.slice A1_ X.f1.length c1_) := hce 1 _ rfl
    have HQ0 := Aside0.mk hr0
    have HQ1 := Aside0.mk hr1
    clear hcl hMe hce hfr hr0 hr1
    have i1 : (0 : Int) ≤ (p : Int) := by omega
    have i2 : (p : Int) < (L.length : Int) := by omega
    cases b3 with
    | true =>
      by_cases hin : (o : Int) ∈ X.f1
      · have hhas : thermionkit_Has.f (X.f1.length + 1) X.f1 (o : Int) = some true := by rw [has_from (by omega) (by omega)]; rw [decide_eq_true hin]
        have HHA := Aside0.mk hhas
        clear hhas
        have hle : decide (waysOf L 0 ≤ wl) = true := decide_eq_true (by rw [HWL.out]; exact Int.le_refl _)
        have hle2 : waysOf L 0 ≤ wl := by rw [HWL.out]; exact Int.le_refl _
        go_wp2_with (first
          | (go_at_call 32; refine (thermionkit_Has.calls (X.f1.length + 1) A1_ c1_ X.f1 (o : Int) true _ (Kd.R_reads' HQ1.out).2.2 (Kd.R_reads' HQ1.out).2.1 HHA.out).mono ?_; rintro e wh ⟨rfl, hd⟩; have HMh := Aside0.mk (HM.out.step hd.below); have HRh := Aside0.mk (Kd.R_below HR.out hd.below); clear hd HM HR HQ0 HQ1 y0 y1)
          | ((with_reducible refine gate_dst (N := 116) rfl ?_); refine ev_load HMh.out.head rfl 49 (.tmp 14) rfl rfl _ Try.underlying49 rfl size49 rfl ?_)
          | (go_at_call 30; refine (orders_more (KitFine.wide HFI.out) rfl _ nM _ (Kd.R_reads' HRh.out).2.2 (Kd.R_reads' HRh.out).2.1).mono ?_; rintro e wo ⟨rfl, hd⟩; have HMo := Aside0.mk (HMh.out.step hd); clear hd HMh HRh)
          | (go_at_call 21; refine (thermionlaw04_awake.calls 8 true _ HAW.out).mono ?_; rintro e wE ⟨rfl, hd⟩; have HBE := Aside0.mk (below_step HMo.out.below hd); clear hd))
        go_ret
        exact ⟨rfl, HBE.out⟩
      · have hhas : thermionkit_Has.f (X.f1.length + 1) X.f1 (o : Int) = some false := by rw [has_from (by omega) (by omega)]; rw [decide_eq_false hin]
        have HHA := Aside0.mk hhas
        clear hhas
        have hput : thermionlaw04_put.f (X.f1.length + 1) X.f1 (o : Int) = some (putTo (o : Int) X.f1) := put_from (by omega) (by omega)
        have HPU := Aside0.mk hput
        clear hput
        have hmore : moreOf true X (o : Int) = (⟨X.f0, putTo (o : Int) X.f1, X.f2, X.f3⟩ : S57) := by unfold moreOf; rw [if_pos rfl, if_neg hin]
        have hfm := HMO.out true
        have hlm := HLE.out true
        rw [hmore] at hfm hlm
        rw [HWL.out] at hlm
        have HFM := Aside0.mk hfm
        have HLM := Aside0.mk hlm
        clear hmore hfm hlm
        go_upto_region 16 with (first
          | (go_at_call 32; refine (thermionkit_Has.calls (X.f1.length + 1) A1_ c1_ X.f1 (o : Int) false _ (Kd.R_reads' HQ1.out).2.2 (Kd.R_reads' HQ1.out).2.1 HHA.out).mono ?_; rintro e wh ⟨rfl, hd⟩; have HMh := Aside0.mk (HM.out.step hd.below); have HRh := Aside0.mk (Kd.R_below HR.out hd.below); obtain ⟨cl, hcl, hMe, hce, hfr⟩ := Kd.R_elem HRh.out z57 (p : Int) (by omega) (by omega); obtain ⟨v0, v1, rfl, hr0, hr1⟩ := k57_openM hMe; rw [Int.toNat_natCast, HX.out] at hr0 hr1; obtain ⟨B0_, d0_, rfl⟩ := Kd.R_slice hr0; obtain ⟨B1_, d1_, rfl⟩ := Kd.R_slice hr1; have x1 : wh.cell? ⟨gM, p * 4 + 1, none⟩ = some (.slice B1_ X.f1.length d1_) := hce 1 _ rfl; have HQh := Aside0.mk hr1; clear hd hcl hMe hce hfr hr0 hr1 HM HR HQ0 HQ1 y0 y1)
          | (go_at_call 33; refine (thermionlaw04_put.calls (X.f1.length + 1) B1_ d1_ X.f1 (o : Int) (putTo (o : Int) X.f1) _ (Kd.R_reads' HQh.out).2.2 (Kd.R_reads' HQh.out).2.1 HPU.out).mono ?_; rintro e wp ⟨vp, rfl, hRp, hd⟩; obtain ⟨Ap, cp, rfl⟩ := Kd.R_slice hRp; have HMp := Aside0.mk (HMh.out.step hd); have HRp := Aside0.mk (Kd.R_below HRh.out hd); have HNP := Aside0.mk (Kd.R_lower hRp HMh.out.below.size); obtain ⟨cl, hcl, hMe, hce, hfr⟩ := Kd.R_elem HRp.out z57 (p : Int) (by omega) (by omega); have HEL := Aside0.mk (And.intro hcl (And.intro hMe hce)); have x1p : wp.cell? ⟨gM, p * 4 + 1, none⟩ = some (.slice B1_ X.f1.length d1_) := cell_later hd x1; have z1p : wp.frozen? ⟨gM, p * 4 + 1, none⟩ = false := hfr 1; clear hd hRp hcl hMe hce hfr HMh HRh HQh x1))
        clear x1p z1p
        obtain ⟨hcl, hMe, hce⟩ := HEL.out
        obtain ⟨v0, v1, rfl, hr0, hr1⟩ := k57_openM hMe
        rw [Int.toNat_natCast, HX.out] at hr0 hr1
        obtain ⟨gN, capN, eN, _, _, cw, hcw⟩ := Kd.R_form HRp.out (by omega)
        have hgN : gM = gN := by injection eN with e1 _ _; injection e1 with e1; injection e1
        subst hgN
        have hnew := Kd.R_types HNP.out hcw (fun r hr => by
          have h3 : r = 3 := by simpa [Kd.int, Kd.scalar] using hr
          subst h3
          decide)
        have hseg := Kd.R_seg (okp := fun k => True ∧ k ≠ gM) HRp.out (p : Int) (by omega) (by omega) (j := 1) (seg := [.slice Ap (putTo (o : Int) X.f1).length cp]) hcl hce (by show 1 + 1 ≤ 4; decide) (x' := (⟨X.f0, putTo (o : Int) X.f1, X.f2, X.f3⟩ : S57)) (by have hx := HX.out; rw [Int.toNat_natCast] at *; rw [hx]; exact k57_mkM wp w.heap.size (fun k => True ∧ k ≠ gM) (⟨X.f0, putTo (o : Int) X.f1, X.f2, X.f3⟩ : S57) hr0 hnew) (fun k hk => hk)
        have HZ : Aside0 (k57.R 57 (wp.setCell ⟨gM, p * 4 + 1, none⟩ (.slice Ap (putTo (o : Int) X.f1).length cp)) w.heap.size (fun _ => True) (.slice (some ⟨gM, 0, none⟩) L.length nM) (L.set p (⟨X.f0, putTo (o : Int) X.f1, X.f2, X.f3⟩ : S57))) := ⟨hseg.1⟩
        have HMz : Aside0 (Mem w (wp.setCell ⟨gM, p * 4 + 1, none⟩ (.slice Ap (putTo (o : Int) X.f1).length cp)) [(g14, #[.slice (some ⟨gM, 0, none⟩) L.length nM, .int .i64 c], 49)]) := ⟨HMp.out.grown (row := some gM) hseg.2 (fun k hk => by have := Option.some.inj hk; have := HG1.out; omega) (fun r hr => by rcases List.mem_singleton.1 hr with rfl; exact Kd.R_ne HRp.out HMp.out.head (by decide))⟩
        clear hseg hnew hcw hcl hMe hce hr0 hr1 HEL HNP HRp HMp
        generalize wp.setCell ⟨gM, p * 4 + 1, none⟩ (.slice Ap (putTo (o : Int) X.f1).length cp) = wz at HZ HMz ⊢
        have hle : decide (waysOf (L.set p (⟨X.f0, putTo (o : Int) X.f1, X.f2, X.f3⟩ : S57)) 0 ≤ wl) = true := decide_eq_true HLM.out
        have hle2 : waysOf (L.set p (⟨X.f0, putTo (o : Int) X.f1, X.f2, X.f3⟩ : S57)) 0 ≤ wl := HLM.out
        go_wp2_with (first
          | ((with_reducible refine gate_dst (N := 116) rfl ?_); refine ev_load HMz.out.head rfl 49 (.tmp 14) rfl rfl _ Try.underlying49 rfl size49 rfl ?_)
          | (go_at_call 30; refine (orders_more (KitFine.wide HFM.out) (List.length_set ..) _ nM _ (by have := (Kd.R_reads' HZ.out).2.2; rw [List.length_set] at this; exact this) (Kd.R_reads' HZ.out).2.1).mono ?_; rintro e wo ⟨rfl, hd⟩; have HMo := Aside0.mk (HMz.out.step hd); clear hd HMz HZ)
          | (go_at_call 21; refine (thermionlaw04_awake.calls 8 true _ HAW.out).mono ?_; rintro e wE ⟨rfl, hd⟩; have HBE := Aside0.mk (below_step HMo.out.below hd); clear hd))
        go_ret
        exact ⟨rfl, HBE.out⟩
    | false =>
      by_cases hin : (o : Int) ∈ X.f0
      · have hhas : thermionkit_Has.f (X.f0.length + 1) X.f0 (o : Int) = some true := by rw [has_from (by omega) (by omega)]; rw [decide_eq_true hin]
        have HHA := Aside0.mk hhas
        clear hhas
        have hle : decide (waysOf L 0 ≤ wl) = true := decide_eq_true (by rw [HWL.out]; exact Int.le_refl _)
        have hle2 : waysOf L 0 ≤ wl := by rw [HWL.out]; exact Int.le_refl _
        go_wp2_with (first
          | (go_at_call 32; refine (thermionkit_Has.calls (X.f0.length + 1) A0_ c0_ X.f0 (o : Int) true _ (Kd.R_reads' HQ0.out).2.2 (Kd.R_reads' HQ0.out).2.1 HHA.out).mono ?_; rintro e wh ⟨rfl, hd⟩; have HMh := Aside0.mk (HM.out.step hd.below); have HRh := Aside0.mk (Kd.R_below HR.out hd.below); clear hd HM HR HQ0 HQ1 y0 y1)
          | ((with_reducible refine gate_dst (N := 116) rfl ?_); refine ev_load HMh.out.head rfl 49 (.tmp 14) rfl rfl _ Try.underlying49 rfl size49 rfl ?_)
          | (go_at_call 30; refine (orders_more (KitFine.wide HFI.out) rfl _ nM _ (Kd.R_reads' HRh.out).2.2 (Kd.R_reads' HRh.out).2.1).mono ?_; rintro e wo ⟨rfl, hd⟩; have HMo := Aside0.mk (HMh.out.step hd); clear hd HMh HRh)
          | (go_at_call 21; refine (thermionlaw04_awake.calls 8 true _ HAW.out).mono ?_; rintro e wE ⟨rfl, hd⟩; have HBE := Aside0.mk (below_step HMo.out.below hd); clear hd))
        go_ret
        exact ⟨rfl, HBE.out⟩
      · have hhas : thermionkit_Has.f (X.f0.length + 1) X.f0 (o : Int) = some false := by rw [has_from (by omega) (by omega)]; rw [decide_eq_false hin]
        have HHA := Aside0.mk hhas
        clear hhas
        have hput : thermionlaw04_put.f (X.f0.length + 1) X.f0 (o : Int) = some (putTo (o : Int) X.f0) := put_from (by omega) (by omega)
        have HPU := Aside0.mk hput
        clear hput
        have hmore : moreOf false X (o : Int) = (⟨putTo (o : Int) X.f0, X.f1, X.f2, X.f3⟩ : S57) := by unfold moreOf; rw [if_neg (by simp), if_neg hin]
        have hfm := HMO.out false
        have hlm := HLE.out false
        rw [hmore] at hfm hlm
        rw [HWL.out] at hlm
        have HFM := Aside0.mk hfm
        have HLM := Aside0.mk hlm
        clear hmore hfm hlm
        go_upto_region 16 with (first
          | (go_at_call 32; refine (thermionkit_Has.calls (X.f0.length + 1) A0_ c0_ X.f0 (o : Int) false _ (Kd.R_reads' HQ0.out).2.2 (Kd.R_reads' HQ0.out).2.1 HHA.out).mono ?_; rintro e wh ⟨rfl, hd⟩; have HMh := Aside0.mk (HM.out.step hd.below); have HRh := Aside0.mk (Kd.R_below HR.out hd.below); obtain ⟨cl, hcl, hMe, hce, hfr⟩ := Kd.R_elem HRh.out z57 (p : Int) (by omega) (by omega); obtain ⟨v0, v1, rfl, hr0, hr1⟩ := k57_openM hMe; rw [Int.toNat_natCast, HX.out] at hr0 hr1; obtain ⟨B0_, d0_, rfl⟩ := Kd.R_slice hr0; obtain ⟨B1_, d1_, rfl⟩ := Kd.R_slice hr1; have x0 : wh.cell? ⟨gM, p * 4, none⟩ = some (.slice B0_ X.f0.length d0_) := hce 0 _ rfl; have HQh := Aside0.mk hr0; clear hd hcl hMe hce hfr hr0 hr1 HM HR HQ0 HQ1 y0 y1)
          | (go_at_call 33; refine (thermionlaw04_put.calls (X.f0.length + 1) B0_ d0_ X.f0 (o : Int) (putTo (o : Int) X.f0) _ (Kd.R_reads' HQh.out).2.2 (Kd.R_reads' HQh.out).2.1 HPU.out).mono ?_; rintro e wp ⟨vp, rfl, hRp, hd⟩; obtain ⟨Ap, cp, rfl⟩ := Kd.R_slice hRp; have HMp := Aside0.mk (HMh.out.step hd); have HRp := Aside0.mk (Kd.R_below HRh.out hd); have HNP := Aside0.mk (Kd.R_lower hRp HMh.out.below.size); obtain ⟨cl, hcl, hMe, hce, hfr⟩ := Kd.R_elem HRp.out z57 (p : Int) (by omega) (by omega); have HEL := Aside0.mk (And.intro hcl (And.intro hMe hce)); have x0p : wp.cell? ⟨gM, p * 4, none⟩ = some (.slice B0_ X.f0.length d0_) := cell_later hd x0; have z0p : wp.frozen? ⟨gM, p * 4, none⟩ = false := hfr 0; clear hd hRp hcl hMe hce hfr HMh HRh HQh x0))
        clear x0p z0p
        obtain ⟨hcl, hMe, hce⟩ := HEL.out
        obtain ⟨v0, v1, rfl, hr0, hr1⟩ := k57_openM hMe
        rw [Int.toNat_natCast, HX.out] at hr0 hr1
        obtain ⟨gN, capN, eN, _, _, cw, hcw⟩ := Kd.R_form HRp.out (by omega)
        have hgN : gM = gN := by injection eN with e1 _ _; injection e1 with e1; injection e1
        subst hgN
        have hnew := Kd.R_types HNP.out hcw (fun r hr => by
          have h3 : r = 3 := by simpa [Kd.int, Kd.scalar] using hr
          subst h3
          decide)
        have hseg := Kd.R_seg (okp := fun k => True ∧ k ≠ gM) HRp.out (p : Int) (by omega) (by omega) (j := 0) (seg := [.slice Ap (putTo (o : Int) X.f0).length cp]) hcl hce (by show 0 + 1 ≤ 4; decide) (x' := (⟨putTo (o : Int) X.f0, X.f1, X.f2, X.f3⟩ : S57)) (by have hx := HX.out; rw [Int.toNat_natCast] at *; rw [hx]; exact k57_mkM wp w.heap.size (fun k => True ∧ k ≠ gM) (⟨putTo (o : Int) X.f0, X.f1, X.f2, X.f3⟩ : S57) hnew hr1) (fun k hk => hk)
        have HZ : Aside0 (k57.R 57 (wp.setCell ⟨gM, p * 4, none⟩ (.slice Ap (putTo (o : Int) X.f0).length cp)) w.heap.size (fun _ => True) (.slice (some ⟨gM, 0, none⟩) L.length nM) (L.set p (⟨putTo (o : Int) X.f0, X.f1, X.f2, X.f3⟩ : S57))) := ⟨hseg.1⟩
        have HMz : Aside0 (Mem w (wp.setCell ⟨gM, p * 4, none⟩ (.slice Ap (putTo (o : Int) X.f0).length cp)) [(g14, #[.slice (some ⟨gM, 0, none⟩) L.length nM, .int .i64 c], 49)]) := ⟨HMp.out.grown (row := some gM) hseg.2 (fun k hk => by have := Option.some.inj hk; have := HG1.out; omega) (fun r hr => by rcases List.mem_singleton.1 hr with rfl; exact Kd.R_ne HRp.out HMp.out.head (by decide))⟩
        clear hseg hnew hcw hcl hMe hce hr0 hr1 HEL HNP HRp HMp
        generalize wp.setCell ⟨gM, p * 4, none⟩ (.slice Ap (putTo (o : Int) X.f0).length cp) = wz at HZ HMz ⊢
        have hle : decide (waysOf (L.set p (⟨putTo (o : Int) X.f0, X.f1, X.f2, X.f3⟩ : S57)) 0 ≤ wl) = true := decide_eq_true HLM.out
        have hle2 : waysOf (L.set p (⟨putTo (o : Int) X.f0, X.f1, X.f2, X.f3⟩ : S57)) 0 ≤ wl := HLM.out
        go_wp2_with (first
          | ((with_reducible refine gate_dst (N := 116) rfl ?_); refine ev_load HMz.out.head rfl 49 (.tmp 14) rfl rfl _ Try.underlying49 rfl size49 rfl ?_)
          | (go_at_call 30; refine (orders_more (KitFine.wide HFM.out) (List.length_set ..) _ nM _ (by have := (Kd.R_reads' HZ.out).2.2; rw [List.length_set] at this; exact this) (Kd.R_reads' HZ.out).2.1).mono ?_; rintro e wo ⟨rfl, hd⟩; have HMo := Aside0.mk (HMz.out.step hd); clear hd HMz HZ)
          | (go_at_call 21; refine (thermionlaw04_awake.calls 8 true _ HAW.out).mono ?_; rintro e wE ⟨rfl, hd⟩; have HBE := Aside0.mk (below_step HMo.out.below hd); clear hd))
        go_ret
        exact ⟨rfl, HBE.out⟩
end Go.Proofs.Ytbcfphoheijmdaa.Print
end

section
-- PRINTED BY print.sh 35421559b90ae4d0a3588c463048766b98c2df88dd9212a6774a882060cdf62d: not written by this session
-- PRINTED WORDS (module Derived/Print/Sized.lean): go-gate-2's, for the rows of laws over slices: an AI agent of Go's test side, Tue Nov 17 2026; no person has read it. Lean checks it.
namespace Go.Proofs.YtbcfphoheijmdaaW.PrintWords
open Go.ChangeShapes Go.WideShapes
end Go.Proofs.YtbcfphoheijmdaaW.PrintWords
end
