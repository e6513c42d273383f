/-
  No cell of these rows narrows 'for every input' (looked for: loops, veiled, ifaces, maps, wideKeys, modest, calm, conditions, laid).
  DERIVED. THE GIVEN ROWS OF THIS SEAT. 16 by the template 'for every input the law returns true; each argument reads behind the call as it read before'; 0 by the template 'total and deterministic' (their statements: YtbcfphoheijmdaaTotals.lean).
  GIVEN WITH THE SEED: the statements are not yours to turn. If you find one false, say at which input.
  Laid BY PROGRAM, IN A SANDBOX (cutbox-rows.mjs): the forced cells as the released guide's own fill.sh prints them over the translation 8607e590083edb5b… (all of the seat's roots in one cut). By AI agents, Wed Nov 11 2026. No macro, syntax, notation, axiom, sorry.
-/
import Derived.Test.YtbcfphoheijmdaaChecked
import GoSem.Claim
import GoSem.ClaimJoined
import GoSem.ClaimMapViews
import Derived.JoinedTies
import Derived.KernelRfl
namespace Go.Proofs.Ytbcfphoheijmdaa
/- THE CELL 'sum', in the pinned program and in every row, IS THE sha256 OF THE DUMP (.gsa) THAT YtbcfphoheijmdaaProg.lean LOADS. Nothing in Lean hashes anything: it is a label: what it is worth is what the hold of that sum in a sandbox is worth. -/
noncomputable def Try.pinned : Pinned := { name := "ytbcfphoheijmdaa", sum := "8607e590083edb5bd31975a4fc03850284b3a80f578fb396aacec595d19d7149", checked := Try.checked }
namespace Rows
def none {H : Type} : Left H := { results := [], args := [] }

/-- 'thermionlaw04.MountNarrower': WHATEVER THE INPUT: true; the input reads as it did. -/
def mountNarrowerSpec : ChangeSpec := { name := "mountNarrower", fn := fun _ => fun
  | [d1, d2, d3] => { results := [.lit (.bool true)], args := [d1, d2, d3] }
  | _ => none }
def mountNarrowerRow : OpenClaim := { program := "ytbcfphoheijmdaa", sum := "8607e590083edb5bd31975a4fc03850284b3a80f578fb396aacec595d19d7149", func := "thermion/thermionlaw04.MountNarrower", spec := "mountNarrower", unfollowed := true, recurses := true, plainKeys := false, apart := false }
def MountNarrowerSaid : Prop := mountNarrowerRow.holds Try.pinned (OpenSpec.ofChange mountNarrowerSpec)

/-- ITS FALSE NEIGHBOUR: 'it returns false'. Refute it at one input. -/
def mountNarrowerWrong : ChangeSpec := { name := "mountNarrower", fn := fun _ => fun
  | [d1, d2, d3] => { results := [.lit (.bool false)], args := [d1, d2, d3] }
  | _ => none }
def MountNarrowerWrongFalsely : Prop := mountNarrowerRow.holds Try.pinned (OpenSpec.ofChange mountNarrowerWrong)

/-- 'thermionlaw04.MountWays': WHATEVER THE INPUT: true; the input reads as it did. -/
def mountWaysSpec : ChangeSpec := { name := "mountWays", fn := fun _ => fun
  | [d1, d2, d3, d4] => { results := [.lit (.bool true)], args := [d1, d2, d3, d4] }
  | _ => none }
def mountWaysRow : OpenClaim := { program := "ytbcfphoheijmdaa", sum := "8607e590083edb5bd31975a4fc03850284b3a80f578fb396aacec595d19d7149", func := "thermion/thermionlaw04.MountWays", spec := "mountWays", unfollowed := true, recurses := true, plainKeys := false, apart := false }
def MountWaysSaid : Prop := mountWaysRow.holds Try.pinned (OpenSpec.ofChange mountWaysSpec)

/-- ITS FALSE NEIGHBOUR: 'it returns false'. Refute it at one input. -/
def mountWaysWrong : ChangeSpec := { name := "mountWays", fn := fun _ => fun
  | [d1, d2, d3, d4] => { results := [.lit (.bool false)], args := [d1, d2, d3, d4] }
  | _ => none }
def MountWaysWrongFalsely : Prop := mountWaysRow.holds Try.pinned (OpenSpec.ofChange mountWaysWrong)

/-- 'thermionlaw04.MountKits': WHATEVER THE INPUT: true; the input reads as it did. -/
def mountKitsSpec : ChangeSpec := { name := "mountKits", fn := fun _ => fun
  | [d1, d2, d3] => { results := [.lit (.bool true)], args := [d1, d2, d3] }
  | _ => none }
def mountKitsRow : OpenClaim := { program := "ytbcfphoheijmdaa", sum := "8607e590083edb5bd31975a4fc03850284b3a80f578fb396aacec595d19d7149", func := "thermion/thermionlaw04.MountKits", spec := "mountKits", unfollowed := true, recurses := true, plainKeys := false, apart := false }
def MountKitsSaid : Prop := mountKitsRow.holds Try.pinned (OpenSpec.ofChange mountKitsSpec)

/-- ITS FALSE NEIGHBOUR: 'it returns false'. Refute it at one input. -/
def mountKitsWrong : ChangeSpec := { name := "mountKits", fn := fun _ => fun
  | [d1, d2, d3] => { results := [.lit (.bool false)], args := [d1, d2, d3] }
  | _ => none }
def MountKitsWrongFalsely : Prop := mountKitsRow.holds Try.pinned (OpenSpec.ofChange mountKitsWrong)

/-- 'thermionlaw04.MountGuarded': WHATEVER THE INPUT: true; the input reads as it did. -/
def mountGuardedSpec : ChangeSpec := { name := "mountGuarded", fn := fun _ => fun
  | [d] => { results := [.lit (.bool true)], args := [d] }
  | _ => none }
def mountGuardedRow : OpenClaim := { program := "ytbcfphoheijmdaa", sum := "8607e590083edb5bd31975a4fc03850284b3a80f578fb396aacec595d19d7149", func := "thermion/thermionlaw04.MountGuarded", spec := "mountGuarded", unfollowed := true, recurses := true, plainKeys := false, apart := false }
def MountGuardedSaid : Prop := mountGuardedRow.holds Try.pinned (OpenSpec.ofChange mountGuardedSpec)

/-- ITS FALSE NEIGHBOUR: 'it returns false'. Refute it at one input. -/
def mountGuardedWrong : ChangeSpec := { name := "mountGuarded", fn := fun _ => fun
  | [d] => { results := [.lit (.bool false)], args := [d] }
  | _ => none }
def MountGuardedWrongFalsely : Prop := mountGuardedRow.holds Try.pinned (OpenSpec.ofChange mountGuardedWrong)

/-- 'thermionlaw04.MountWinds': WHATEVER THE INPUT: true; the input reads as it did. -/
def mountWindsSpec : ChangeSpec := { name := "mountWinds", fn := fun _ => fun
  | [d1, d2] => { results := [.lit (.bool true)], args := [d1, d2] }
  | _ => none }
def mountWindsRow : OpenClaim := { program := "ytbcfphoheijmdaa", sum := "8607e590083edb5bd31975a4fc03850284b3a80f578fb396aacec595d19d7149", func := "thermion/thermionlaw04.MountWinds", spec := "mountWinds", unfollowed := true, recurses := true, plainKeys := false, apart := false }
def MountWindsSaid : Prop := mountWindsRow.holds Try.pinned (OpenSpec.ofChange mountWindsSpec)

/-- ITS FALSE NEIGHBOUR: 'it returns false'. Refute it at one input. -/
def mountWindsWrong : ChangeSpec := { name := "mountWinds", fn := fun _ => fun
  | [d1, d2] => { results := [.lit (.bool false)], args := [d1, d2] }
  | _ => none }
def MountWindsWrongFalsely : Prop := mountWindsRow.holds Try.pinned (OpenSpec.ofChange mountWindsWrong)

/-- 'thermionlaw04.MountReached': WHATEVER THE INPUT: true; the input reads as it did. -/
def mountReachedSpec : ChangeSpec := { name := "mountReached", fn := fun _ => fun
  | [d1, d2] => { results := [.lit (.bool true)], args := [d1, d2] }
  | _ => none }
def mountReachedRow : OpenClaim := { program := "ytbcfphoheijmdaa", sum := "8607e590083edb5bd31975a4fc03850284b3a80f578fb396aacec595d19d7149", func := "thermion/thermionlaw04.MountReached", spec := "mountReached", unfollowed := true, recurses := true, plainKeys := false, apart := false }
def MountReachedSaid : Prop := mountReachedRow.holds Try.pinned (OpenSpec.ofChange mountReachedSpec)

/-- ITS FALSE NEIGHBOUR: 'it returns false'. Refute it at one input. -/
def mountReachedWrong : ChangeSpec := { name := "mountReached", fn := fun _ => fun
  | [d1, d2] => { results := [.lit (.bool false)], args := [d1, d2] }
  | _ => none }
def MountReachedWrongFalsely : Prop := mountReachedRow.holds Try.pinned (OpenSpec.ofChange mountReachedWrong)

/-- 'thermionlaw04.MountTurns': WHATEVER THE INPUT: true; the input reads as it did. -/
def mountTurnsSpec : ChangeSpec := { name := "mountTurns", fn := fun _ => fun
  | [d] => { results := [.lit (.bool true)], args := [d] }
  | _ => none }
def mountTurnsRow : OpenClaim := { program := "ytbcfphoheijmdaa", sum := "8607e590083edb5bd31975a4fc03850284b3a80f578fb396aacec595d19d7149", func := "thermion/thermionlaw04.MountTurns", spec := "mountTurns", unfollowed := true, recurses := true, plainKeys := false, apart := false }
def MountTurnsSaid : Prop := mountTurnsRow.holds Try.pinned (OpenSpec.ofChange mountTurnsSpec)

/-- ITS FALSE NEIGHBOUR: 'it returns false'. Refute it at one input. -/
def mountTurnsWrong : ChangeSpec := { name := "mountTurns", fn := fun _ => fun
  | [d] => { results := [.lit (.bool false)], args := [d] }
  | _ => none }
def MountTurnsWrongFalsely : Prop := mountTurnsRow.holds Try.pinned (OpenSpec.ofChange mountTurnsWrong)

/-- 'thermionlaw04.MountPlaces': WHATEVER THE INPUT: true; the input reads as it did. -/
def mountPlacesSpec : ChangeSpec := { name := "mountPlaces", fn := fun _ => fun
  | [d1, d2] => { results := [.lit (.bool true)], args := [d1, d2] }
  | _ => none }
def mountPlacesRow : OpenClaim := { program := "ytbcfphoheijmdaa", sum := "8607e590083edb5bd31975a4fc03850284b3a80f578fb396aacec595d19d7149", func := "thermion/thermionlaw04.MountPlaces", spec := "mountPlaces", unfollowed := true, recurses := true, plainKeys := false, apart := false }
def MountPlacesSaid : Prop := mountPlacesRow.holds Try.pinned (OpenSpec.ofChange mountPlacesSpec)

/-- ITS FALSE NEIGHBOUR: 'it returns false'. Refute it at one input. -/
def mountPlacesWrong : ChangeSpec := { name := "mountPlaces", fn := fun _ => fun
  | [d1, d2] => { results := [.lit (.bool false)], args := [d1, d2] }
  | _ => none }
def MountPlacesWrongFalsely : Prop := mountPlacesRow.holds Try.pinned (OpenSpec.ofChange mountPlacesWrong)

/-- 'thermionlaw04.MountKnown': WHATEVER THE INPUT: true; the input reads as it did. -/
def mountKnownSpec : ChangeSpec := { name := "mountKnown", fn := fun _ => fun
  | [] => { results := [.lit (.bool true)], args := [] }
  | _ => none }
def mountKnownRow : OpenClaim := { program := "ytbcfphoheijmdaa", sum := "8607e590083edb5bd31975a4fc03850284b3a80f578fb396aacec595d19d7149", func := "thermion/thermionlaw04.MountKnown", spec := "mountKnown", unfollowed := true, recurses := true, plainKeys := false, apart := false }
def MountKnownSaid : Prop := mountKnownRow.holds Try.pinned (OpenSpec.ofChange mountKnownSpec)

/-- ITS FALSE NEIGHBOUR: 'it returns false'. Refute it at one input. -/
def mountKnownWrong : ChangeSpec := { name := "mountKnown", fn := fun _ => fun
  | [] => { results := [.lit (.bool false)], args := [] }
  | _ => none }
def MountKnownWrongFalsely : Prop := mountKnownRow.holds Try.pinned (OpenSpec.ofChange mountKnownWrong)

/-- 'thermionlaw04.MountStucks': WHATEVER THE INPUT: true; the input reads as it did. -/
def mountStucksSpec : ChangeSpec := { name := "mountStucks", fn := fun _ => fun
  | [d] => { results := [.lit (.bool true)], args := [d] }
  | _ => none }
def mountStucksRow : OpenClaim := { program := "ytbcfphoheijmdaa", sum := "8607e590083edb5bd31975a4fc03850284b3a80f578fb396aacec595d19d7149", func := "thermion/thermionlaw04.MountStucks", spec := "mountStucks", unfollowed := true, recurses := true, plainKeys := false, apart := false }
def MountStucksSaid : Prop := mountStucksRow.holds Try.pinned (OpenSpec.ofChange mountStucksSpec)

/-- ITS FALSE NEIGHBOUR: 'it returns false'. Refute it at one input. -/
def mountStucksWrong : ChangeSpec := { name := "mountStucks", fn := fun _ => fun
  | [d] => { results := [.lit (.bool false)], args := [d] }
  | _ => none }
def MountStucksWrongFalsely : Prop := mountStucksRow.holds Try.pinned (OpenSpec.ofChange mountStucksWrong)

/-- 'thermionlaw04.MountLeast': WHATEVER THE INPUT: true; the input reads as it did. -/
def mountLeastSpec : ChangeSpec := { name := "mountLeast", fn := fun _ => fun
  | [d] => { results := [.lit (.bool true)], args := [d] }
  | _ => none }
def mountLeastRow : OpenClaim := { program := "ytbcfphoheijmdaa", sum := "8607e590083edb5bd31975a4fc03850284b3a80f578fb396aacec595d19d7149", func := "thermion/thermionlaw04.MountLeast", spec := "mountLeast", unfollowed := true, recurses := true, plainKeys := false, apart := false }
def MountLeastSaid : Prop := mountLeastRow.holds Try.pinned (OpenSpec.ofChange mountLeastSpec)

/-- ITS FALSE NEIGHBOUR: 'it returns false'. Refute it at one input. -/
def mountLeastWrong : ChangeSpec := { name := "mountLeast", fn := fun _ => fun
  | [d] => { results := [.lit (.bool false)], args := [d] }
  | _ => none }
def MountLeastWrongFalsely : Prop := mountLeastRow.holds Try.pinned (OpenSpec.ofChange mountLeastWrong)

/-- 'thermionlaw04.MountChains': WHATEVER THE INPUT: true; the input reads as it did. -/
def mountChainsSpec : ChangeSpec := { name := "mountChains", fn := fun _ => fun
  | [d1, d2, d3, d4, d5] => { results := [.lit (.bool true)], args := [d1, d2, d3, d4, d5] }
  | _ => none }
def mountChainsRow : OpenClaim := { program := "ytbcfphoheijmdaa", sum := "8607e590083edb5bd31975a4fc03850284b3a80f578fb396aacec595d19d7149", func := "thermion/thermionlaw04.MountChains", spec := "mountChains", unfollowed := true, recurses := true, plainKeys := false, apart := false }
def MountChainsSaid : Prop := mountChainsRow.holds Try.pinned (OpenSpec.ofChange mountChainsSpec)

/-- ITS FALSE NEIGHBOUR: 'it returns false'. Refute it at one input. -/
def mountChainsWrong : ChangeSpec := { name := "mountChains", fn := fun _ => fun
  | [d1, d2, d3, d4, d5] => { results := [.lit (.bool false)], args := [d1, d2, d3, d4, d5] }
  | _ => none }
def MountChainsWrongFalsely : Prop := mountChainsRow.holds Try.pinned (OpenSpec.ofChange mountChainsWrong)

/-- 'thermionlaw04.MountOrders': WHATEVER THE INPUT: true; the input reads as it did. -/
def mountOrdersSpec : ChangeSpec := { name := "mountOrders", fn := fun _ => fun
  | [d1, d2] => { results := [.lit (.bool true)], args := [d1, d2] }
  | _ => none }
def mountOrdersRow : OpenClaim := { program := "ytbcfphoheijmdaa", sum := "8607e590083edb5bd31975a4fc03850284b3a80f578fb396aacec595d19d7149", func := "thermion/thermionlaw04.MountOrders", spec := "mountOrders", unfollowed := true, recurses := true, plainKeys := false, apart := false }
def MountOrdersSaid : Prop := mountOrdersRow.holds Try.pinned (OpenSpec.ofChange mountOrdersSpec)

/-- ITS FALSE NEIGHBOUR: 'it returns false'. Refute it at one input. -/
def mountOrdersWrong : ChangeSpec := { name := "mountOrders", fn := fun _ => fun
  | [d1, d2] => { results := [.lit (.bool false)], args := [d1, d2] }
  | _ => none }
def MountOrdersWrongFalsely : Prop := mountOrdersRow.holds Try.pinned (OpenSpec.ofChange mountOrdersWrong)

/-- 'thermionlaw04.MountCounted': WHATEVER THE INPUT: true; the input reads as it did. -/
def mountCountedSpec : ChangeSpec := { name := "mountCounted", fn := fun _ => fun
  | [d] => { results := [.lit (.bool true)], args := [d] }
  | _ => none }
def mountCountedRow : OpenClaim := { program := "ytbcfphoheijmdaa", sum := "8607e590083edb5bd31975a4fc03850284b3a80f578fb396aacec595d19d7149", func := "thermion/thermionlaw04.MountCounted", spec := "mountCounted", unfollowed := true, recurses := true, plainKeys := false, apart := false }
def MountCountedSaid : Prop := mountCountedRow.holds Try.pinned (OpenSpec.ofChange mountCountedSpec)

/-- ITS FALSE NEIGHBOUR: 'it returns false'. Refute it at one input. -/
def mountCountedWrong : ChangeSpec := { name := "mountCounted", fn := fun _ => fun
  | [d] => { results := [.lit (.bool false)], args := [d] }
  | _ => none }
def MountCountedWrongFalsely : Prop := mountCountedRow.holds Try.pinned (OpenSpec.ofChange mountCountedWrong)

/-- 'thermionlaw04.MountDraws': WHATEVER THE INPUT: true; the input reads as it did. -/
def mountDrawsSpec : ChangeSpec := { name := "mountDraws", fn := fun _ => fun
  | [d1, d2, d3] => { results := [.lit (.bool true)], args := [d1, d2, d3] }
  | _ => none }
def mountDrawsRow : OpenClaim := { program := "ytbcfphoheijmdaa", sum := "8607e590083edb5bd31975a4fc03850284b3a80f578fb396aacec595d19d7149", func := "thermion/thermionlaw04.MountDraws", spec := "mountDraws", unfollowed := true, recurses := true, plainKeys := false, apart := false }
def MountDrawsSaid : Prop := mountDrawsRow.holds Try.pinned (OpenSpec.ofChange mountDrawsSpec)

/-- ITS FALSE NEIGHBOUR: 'it returns false'. Refute it at one input. -/
def mountDrawsWrong : ChangeSpec := { name := "mountDraws", fn := fun _ => fun
  | [d1, d2, d3] => { results := [.lit (.bool false)], args := [d1, d2, d3] }
  | _ => none }
def MountDrawsWrongFalsely : Prop := mountDrawsRow.holds Try.pinned (OpenSpec.ofChange mountDrawsWrong)

/-- 'thermionlaw04.MountPlans': WHATEVER THE INPUT: true; the input reads as it did. -/
def mountPlansSpec : ChangeSpec := { name := "mountPlans", fn := fun _ => fun
  | [d] => { results := [.lit (.bool true)], args := [d] }
  | _ => none }
def mountPlansRow : OpenClaim := { program := "ytbcfphoheijmdaa", sum := "8607e590083edb5bd31975a4fc03850284b3a80f578fb396aacec595d19d7149", func := "thermion/thermionlaw04.MountPlans", spec := "mountPlans", unfollowed := true, recurses := true, plainKeys := false, apart := false }
def MountPlansSaid : Prop := mountPlansRow.holds Try.pinned (OpenSpec.ofChange mountPlansSpec)

/-- ITS FALSE NEIGHBOUR: 'it returns false'. Refute it at one input. -/
def mountPlansWrong : ChangeSpec := { name := "mountPlans", fn := fun _ => fun
  | [d] => { results := [.lit (.bool false)], args := [d] }
  | _ => none }
def MountPlansWrongFalsely : Prop := mountPlansRow.holds Try.pinned (OpenSpec.ofChange mountPlansWrong)

/- THE SECOND FORM. 'bulk': how many values and letters a reading holds, each counted each time it is reached (what is shared counts as often as it is met; a slice's spare places count too). A statement '..UptoSaid' is the law's where the arguments, and the package variables that the reading takes, are together of bulk at most 1048576: NARROWER than '..Said'. Prove '..Said' where nothing that the law and all that it calls make is longer than what came in: it says more and counts as full. Else prove '..UptoSaid'. A law counts once. -/
mutual
def uptoBulk {H : Type} : DataW H → Nat
  | .lit (.string bytes) => bytes.length + 1
  | .lit _ => 1
  | .nil => 1
  | .ptr d => uptoBulk d + 1
  | .slice elems spare => uptoBulkAll elems + uptoBulkAll spare + 1
  | .agg parts => uptoBulkAll parts + 1
  | .iface _ d => uptoBulk d + 1
  | .map entries => uptoBulkEntries entries + 1
  | .held _ => 1
def uptoBulkAll {H : Type} : List (DataW H) → Nat
  | [] => 0
  | d :: r => uptoBulk d + uptoBulkAll r
def uptoBulkEntries {H : Type} : List (Lit × DataW H) → Nat
  | [] => 0
  | x :: r => uptoBulkEntry x + uptoBulkEntries r
def uptoBulkEntry {H : Type} : Lit × DataW H → Nat
  | (.string bytes, d) => bytes.length + uptoBulk d + 1
  | (_, d) => uptoBulk d + 1
 end
def uptoSmall : (H : Type) → List (DataW H) → Bool := fun _ ds => decide (uptoBulkAll ds ≤ 1048576)
def OpenSpec.upto (s : _root_.Go.ChangeSpec) : _root_.Go.OpenSpec := { _root_.Go.OpenSpec.ofChange s with cond := some uptoSmall }

/-- 'thermionlaw04.MountNarrower', WHERE WHAT IT READS IS OF BULK AT MOST 1048576: true; the input reads as it did. -/
def mountNarrowerUptoRow : OpenClaim := { program := "ytbcfphoheijmdaa", sum := "8607e590083edb5bd31975a4fc03850284b3a80f578fb396aacec595d19d7149", func := "thermion/thermionlaw04.MountNarrower", spec := "mountNarrower", unfollowed := true, recurses := true, plainKeys := false, apart := false, narrowed := true }
def MountNarrowerUptoSaid : Prop := mountNarrowerUptoRow.holds Try.pinned (OpenSpec.upto mountNarrowerSpec)

/-- 'thermionlaw04.MountWays', WHERE WHAT IT READS IS OF BULK AT MOST 1048576: true; the input reads as it did. -/
def mountWaysUptoRow : OpenClaim := { program := "ytbcfphoheijmdaa", sum := "8607e590083edb5bd31975a4fc03850284b3a80f578fb396aacec595d19d7149", func := "thermion/thermionlaw04.MountWays", spec := "mountWays", unfollowed := true, recurses := true, plainKeys := false, apart := false, narrowed := true }
def MountWaysUptoSaid : Prop := mountWaysUptoRow.holds Try.pinned (OpenSpec.upto mountWaysSpec)

/-- 'thermionlaw04.MountKits', WHERE WHAT IT READS IS OF BULK AT MOST 1048576: true; the input reads as it did. -/
def mountKitsUptoRow : OpenClaim := { program := "ytbcfphoheijmdaa", sum := "8607e590083edb5bd31975a4fc03850284b3a80f578fb396aacec595d19d7149", func := "thermion/thermionlaw04.MountKits", spec := "mountKits", unfollowed := true, recurses := true, plainKeys := false, apart := false, narrowed := true }
def MountKitsUptoSaid : Prop := mountKitsUptoRow.holds Try.pinned (OpenSpec.upto mountKitsSpec)

/-- 'thermionlaw04.MountGuarded', WHERE WHAT IT READS IS OF BULK AT MOST 1048576: true; the input reads as it did. -/
def mountGuardedUptoRow : OpenClaim := { program := "ytbcfphoheijmdaa", sum := "8607e590083edb5bd31975a4fc03850284b3a80f578fb396aacec595d19d7149", func := "thermion/thermionlaw04.MountGuarded", spec := "mountGuarded", unfollowed := true, recurses := true, plainKeys := false, apart := false, narrowed := true }
def MountGuardedUptoSaid : Prop := mountGuardedUptoRow.holds Try.pinned (OpenSpec.upto mountGuardedSpec)

/-- 'thermionlaw04.MountWinds', WHERE WHAT IT READS IS OF BULK AT MOST 1048576: true; the input reads as it did. -/
def mountWindsUptoRow : OpenClaim := { program := "ytbcfphoheijmdaa", sum := "8607e590083edb5bd31975a4fc03850284b3a80f578fb396aacec595d19d7149", func := "thermion/thermionlaw04.MountWinds", spec := "mountWinds", unfollowed := true, recurses := true, plainKeys := false, apart := false, narrowed := true }
def MountWindsUptoSaid : Prop := mountWindsUptoRow.holds Try.pinned (OpenSpec.upto mountWindsSpec)

/-- 'thermionlaw04.MountReached', WHERE WHAT IT READS IS OF BULK AT MOST 1048576: true; the input reads as it did. -/
def mountReachedUptoRow : OpenClaim := { program := "ytbcfphoheijmdaa", sum := "8607e590083edb5bd31975a4fc03850284b3a80f578fb396aacec595d19d7149", func := "thermion/thermionlaw04.MountReached", spec := "mountReached", unfollowed := true, recurses := true, plainKeys := false, apart := false, narrowed := true }
def MountReachedUptoSaid : Prop := mountReachedUptoRow.holds Try.pinned (OpenSpec.upto mountReachedSpec)

/-- 'thermionlaw04.MountTurns', WHERE WHAT IT READS IS OF BULK AT MOST 1048576: true; the input reads as it did. -/
def mountTurnsUptoRow : OpenClaim := { program := "ytbcfphoheijmdaa", sum := "8607e590083edb5bd31975a4fc03850284b3a80f578fb396aacec595d19d7149", func := "thermion/thermionlaw04.MountTurns", spec := "mountTurns", unfollowed := true, recurses := true, plainKeys := false, apart := false, narrowed := true }
def MountTurnsUptoSaid : Prop := mountTurnsUptoRow.holds Try.pinned (OpenSpec.upto mountTurnsSpec)

/-- 'thermionlaw04.MountPlaces', WHERE WHAT IT READS IS OF BULK AT MOST 1048576: true; the input reads as it did. -/
def mountPlacesUptoRow : OpenClaim := { program := "ytbcfphoheijmdaa", sum := "8607e590083edb5bd31975a4fc03850284b3a80f578fb396aacec595d19d7149", func := "thermion/thermionlaw04.MountPlaces", spec := "mountPlaces", unfollowed := true, recurses := true, plainKeys := false, apart := false, narrowed := true }
def MountPlacesUptoSaid : Prop := mountPlacesUptoRow.holds Try.pinned (OpenSpec.upto mountPlacesSpec)

/-- 'thermionlaw04.MountKnown', WHERE WHAT IT READS IS OF BULK AT MOST 1048576: true; the input reads as it did. -/
def mountKnownUptoRow : OpenClaim := { program := "ytbcfphoheijmdaa", sum := "8607e590083edb5bd31975a4fc03850284b3a80f578fb396aacec595d19d7149", func := "thermion/thermionlaw04.MountKnown", spec := "mountKnown", unfollowed := true, recurses := true, plainKeys := false, apart := false, narrowed := true }
def MountKnownUptoSaid : Prop := mountKnownUptoRow.holds Try.pinned (OpenSpec.upto mountKnownSpec)

/-- 'thermionlaw04.MountStucks', WHERE WHAT IT READS IS OF BULK AT MOST 1048576: true; the input reads as it did. -/
def mountStucksUptoRow : OpenClaim := { program := "ytbcfphoheijmdaa", sum := "8607e590083edb5bd31975a4fc03850284b3a80f578fb396aacec595d19d7149", func := "thermion/thermionlaw04.MountStucks", spec := "mountStucks", unfollowed := true, recurses := true, plainKeys := false, apart := false, narrowed := true }
def MountStucksUptoSaid : Prop := mountStucksUptoRow.holds Try.pinned (OpenSpec.upto mountStucksSpec)

/-- 'thermionlaw04.MountLeast', WHERE WHAT IT READS IS OF BULK AT MOST 1048576: true; the input reads as it did. -/
def mountLeastUptoRow : OpenClaim := { program := "ytbcfphoheijmdaa", sum := "8607e590083edb5bd31975a4fc03850284b3a80f578fb396aacec595d19d7149", func := "thermion/thermionlaw04.MountLeast", spec := "mountLeast", unfollowed := true, recurses := true, plainKeys := false, apart := false, narrowed := true }
def MountLeastUptoSaid : Prop := mountLeastUptoRow.holds Try.pinned (OpenSpec.upto mountLeastSpec)

/-- 'thermionlaw04.MountChains', WHERE WHAT IT READS IS OF BULK AT MOST 1048576: true; the input reads as it did. -/
def mountChainsUptoRow : OpenClaim := { program := "ytbcfphoheijmdaa", sum := "8607e590083edb5bd31975a4fc03850284b3a80f578fb396aacec595d19d7149", func := "thermion/thermionlaw04.MountChains", spec := "mountChains", unfollowed := true, recurses := true, plainKeys := false, apart := false, narrowed := true }
def MountChainsUptoSaid : Prop := mountChainsUptoRow.holds Try.pinned (OpenSpec.upto mountChainsSpec)

/-- 'thermionlaw04.MountOrders', WHERE WHAT IT READS IS OF BULK AT MOST 1048576: true; the input reads as it did. -/
def mountOrdersUptoRow : OpenClaim := { program := "ytbcfphoheijmdaa", sum := "8607e590083edb5bd31975a4fc03850284b3a80f578fb396aacec595d19d7149", func := "thermion/thermionlaw04.MountOrders", spec := "mountOrders", unfollowed := true, recurses := true, plainKeys := false, apart := false, narrowed := true }
def MountOrdersUptoSaid : Prop := mountOrdersUptoRow.holds Try.pinned (OpenSpec.upto mountOrdersSpec)

/-- 'thermionlaw04.MountCounted', WHERE WHAT IT READS IS OF BULK AT MOST 1048576: true; the input reads as it did. -/
def mountCountedUptoRow : OpenClaim := { program := "ytbcfphoheijmdaa", sum := "8607e590083edb5bd31975a4fc03850284b3a80f578fb396aacec595d19d7149", func := "thermion/thermionlaw04.MountCounted", spec := "mountCounted", unfollowed := true, recurses := true, plainKeys := false, apart := false, narrowed := true }
def MountCountedUptoSaid : Prop := mountCountedUptoRow.holds Try.pinned (OpenSpec.upto mountCountedSpec)

/-- 'thermionlaw04.MountDraws', WHERE WHAT IT READS IS OF BULK AT MOST 1048576: true; the input reads as it did. -/
def mountDrawsUptoRow : OpenClaim := { program := "ytbcfphoheijmdaa", sum := "8607e590083edb5bd31975a4fc03850284b3a80f578fb396aacec595d19d7149", func := "thermion/thermionlaw04.MountDraws", spec := "mountDraws", unfollowed := true, recurses := true, plainKeys := false, apart := false, narrowed := true }
def MountDrawsUptoSaid : Prop := mountDrawsUptoRow.holds Try.pinned (OpenSpec.upto mountDrawsSpec)

/-- 'thermionlaw04.MountPlans', WHERE WHAT IT READS IS OF BULK AT MOST 1048576: true; the input reads as it did. -/
def mountPlansUptoRow : OpenClaim := { program := "ytbcfphoheijmdaa", sum := "8607e590083edb5bd31975a4fc03850284b3a80f578fb396aacec595d19d7149", func := "thermion/thermionlaw04.MountPlans", spec := "mountPlans", unfollowed := true, recurses := true, plainKeys := false, apart := false, narrowed := true }
def MountPlansUptoSaid : Prop := mountPlansUptoRow.holds Try.pinned (OpenSpec.upto mountPlansSpec)

end Rows
end Go.Proofs.Ytbcfphoheijmdaa
