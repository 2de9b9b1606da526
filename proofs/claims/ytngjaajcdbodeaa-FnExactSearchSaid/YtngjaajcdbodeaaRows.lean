/-
  No cell of these rows narrows 'for every input' (looked for: loops, veiled, ifaces, maps, wideKeys, modest, calm, conditions, laid).
  DERIVED. THE GIVEN ROWS OF THIS SEAT. 12 by the template 'for every input the law returns true; each argument reads behind the call as it read before'; 0 by the template 'total and deterministic' (their statements: YtngjaajcdbodeaaTotals.lean).
  GIVEN WITH THE SEED: the statements are not yours to turn. If you find one false, say at which input.
  Laid BY PROGRAM, IN A SANDBOX (cutbox-rows.mjs): the forced cells as the released guide's own fill.sh prints them over the translation 825f73d1344d51e5… (all of the seat's roots in one cut). By AI agents, Wed Nov 11 2026. No macro, syntax, notation, axiom, sorry.
-/
import Derived.Test.YtngjaajcdbodeaaChecked
import GoSem.Claim
import GoSem.ClaimJoined
import GoSem.ClaimMapViews
import Derived.JoinedTies
import Derived.KernelRfl
namespace Go.Proofs.Ytngjaajcdbodeaa
/- THE CELL 'sum', in the pinned program and in every row, IS THE sha256 OF THE DUMP (.gsa) THAT YtngjaajcdbodeaaProg.lean LOADS. Nothing in Lean hashes anything: it is a label: what it is worth is what the hold of that sum in a sandbox is worth. -/
noncomputable def Try.pinned : Pinned := { name := "ytngjaajcdbodeaa", sum := "825f73d1344d51e531eb5c9ea58bcfe8b9e2efecb0061ea093d98f6c2e711f57", checked := Try.checked }
namespace Rows
def none {H : Type} : Left H := { results := [], args := [] }

/-- 'laws.FnExactPlainPut': WHATEVER THE INPUT: true; the input reads as it did. -/
def fnExactPlainPutSpec : ChangeSpec := { name := "fnExactPlainPut", fn := fun _ => fun
  | [d1, d2] => { results := [.lit (.bool true)], args := [d1, d2] }
  | _ => none }
def fnExactPlainPutRow : OpenClaim := { program := "ytngjaajcdbodeaa", sum := "825f73d1344d51e531eb5c9ea58bcfe8b9e2efecb0061ea093d98f6c2e711f57", func := "loop.example/g00492/laws.FnExactPlainPut", spec := "fnExactPlainPut", inPlace := ["slices.overlaps[loop.example/g00492/impl.Item]"], unfollowed := true, recurses := true, apart := false }
def FnExactPlainPutSaid : Prop := fnExactPlainPutRow.holds Try.pinned (OpenSpec.ofChange fnExactPlainPutSpec)

/-- ITS FALSE NEIGHBOUR: 'it returns false'. Refute it at one input. -/
def fnExactPlainPutWrong : ChangeSpec := { name := "fnExactPlainPut", fn := fun _ => fun
  | [d1, d2] => { results := [.lit (.bool false)], args := [d1, d2] }
  | _ => none }
def FnExactPlainPutWrongFalsely : Prop := fnExactPlainPutRow.holds Try.pinned (OpenSpec.ofChange fnExactPlainPutWrong)

/-- 'laws.FnExactPut': WHATEVER THE INPUT: true; the input reads as it did. -/
def fnExactPutSpec : ChangeSpec := { name := "fnExactPut", fn := fun _ => fun
  | [d1, d2, d3] => { results := [.lit (.bool true)], args := [d1, d2, d3] }
  | _ => none }
def fnExactPutRow : OpenClaim := { program := "ytngjaajcdbodeaa", sum := "825f73d1344d51e531eb5c9ea58bcfe8b9e2efecb0061ea093d98f6c2e711f57", func := "loop.example/g00492/laws.FnExactPut", spec := "fnExactPut", apart := false }
def FnExactPutSaid : Prop := fnExactPutRow.holds Try.pinned (OpenSpec.ofChange fnExactPutSpec)

/-- ITS FALSE NEIGHBOUR: 'it returns false'. Refute it at one input. -/
def fnExactPutWrong : ChangeSpec := { name := "fnExactPut", fn := fun _ => fun
  | [d1, d2, d3] => { results := [.lit (.bool false)], args := [d1, d2, d3] }
  | _ => none }
def FnExactPutWrongFalsely : Prop := fnExactPutRow.holds Try.pinned (OpenSpec.ofChange fnExactPutWrong)

/-- 'laws.FnExactAlloc': WHATEVER THE INPUT: true; the input reads as it did. -/
def fnExactAllocSpec : ChangeSpec := { name := "fnExactAlloc", fn := fun _ => fun
  | [d] => { results := [.lit (.bool true)], args := [d] }
  | _ => none }
def fnExactAllocRow : OpenClaim := { program := "ytngjaajcdbodeaa", sum := "825f73d1344d51e531eb5c9ea58bcfe8b9e2efecb0061ea093d98f6c2e711f57", func := "loop.example/g00492/laws.FnExactAlloc", spec := "fnExactAlloc", apart := false }
def FnExactAllocSaid : Prop := fnExactAllocRow.holds Try.pinned (OpenSpec.ofChange fnExactAllocSpec)

/-- ITS FALSE NEIGHBOUR: 'it returns false'. Refute it at one input. -/
def fnExactAllocWrong : ChangeSpec := { name := "fnExactAlloc", fn := fun _ => fun
  | [d] => { results := [.lit (.bool false)], args := [d] }
  | _ => none }
def FnExactAllocWrongFalsely : Prop := fnExactAllocRow.holds Try.pinned (OpenSpec.ofChange fnExactAllocWrong)

/-- 'laws.FnExactFree': WHATEVER THE INPUT: true; the input reads as it did. -/
def fnExactFreeSpec : ChangeSpec := { name := "fnExactFree", fn := fun _ => fun
  | [d1, d2] => { results := [.lit (.bool true)], args := [d1, d2] }
  | _ => none }
def fnExactFreeRow : OpenClaim := { program := "ytngjaajcdbodeaa", sum := "825f73d1344d51e531eb5c9ea58bcfe8b9e2efecb0061ea093d98f6c2e711f57", func := "loop.example/g00492/laws.FnExactFree", spec := "fnExactFree", apart := false }
def FnExactFreeSaid : Prop := fnExactFreeRow.holds Try.pinned (OpenSpec.ofChange fnExactFreeSpec)

/-- ITS FALSE NEIGHBOUR: 'it returns false'. Refute it at one input. -/
def fnExactFreeWrong : ChangeSpec := { name := "fnExactFree", fn := fun _ => fun
  | [d1, d2] => { results := [.lit (.bool false)], args := [d1, d2] }
  | _ => none }
def FnExactFreeWrongFalsely : Prop := fnExactFreeRow.holds Try.pinned (OpenSpec.ofChange fnExactFreeWrong)

/-- 'laws.FnExactBookOk': WHATEVER THE INPUT: true; the input reads as it did. -/
def fnExactBookOkSpec : ChangeSpec := { name := "fnExactBookOk", fn := fun _ => fun
  | [d] => { results := [.lit (.bool true)], args := [d] }
  | _ => none }
def fnExactBookOkRow : OpenClaim := { program := "ytngjaajcdbodeaa", sum := "825f73d1344d51e531eb5c9ea58bcfe8b9e2efecb0061ea093d98f6c2e711f57", func := "loop.example/g00492/laws.FnExactBookOk", spec := "fnExactBookOk", unfollowed := true, recurses := true, apart := false }
def FnExactBookOkSaid : Prop := fnExactBookOkRow.holds Try.pinned (OpenSpec.ofChange fnExactBookOkSpec)

/-- ITS FALSE NEIGHBOUR: 'it returns false'. Refute it at one input. -/
def fnExactBookOkWrong : ChangeSpec := { name := "fnExactBookOk", fn := fun _ => fun
  | [d] => { results := [.lit (.bool false)], args := [d] }
  | _ => none }
def FnExactBookOkWrongFalsely : Prop := fnExactBookOkRow.holds Try.pinned (OpenSpec.ofChange fnExactBookOkWrong)

/-- 'laws.FnExactTight': WHATEVER THE INPUT: true; the input reads as it did. -/
def fnExactTightSpec : ChangeSpec := { name := "fnExactTight", fn := fun _ => fun
  | [d] => { results := [.lit (.bool true)], args := [d] }
  | _ => none }
def fnExactTightRow : OpenClaim := { program := "ytngjaajcdbodeaa", sum := "825f73d1344d51e531eb5c9ea58bcfe8b9e2efecb0061ea093d98f6c2e711f57", func := "loop.example/g00492/laws.FnExactTight", spec := "fnExactTight", unfollowed := true, recurses := true, apart := false }
def FnExactTightSaid : Prop := fnExactTightRow.holds Try.pinned (OpenSpec.ofChange fnExactTightSpec)

/-- ITS FALSE NEIGHBOUR: 'it returns false'. Refute it at one input. -/
def fnExactTightWrong : ChangeSpec := { name := "fnExactTight", fn := fun _ => fun
  | [d] => { results := [.lit (.bool false)], args := [d] }
  | _ => none }
def FnExactTightWrongFalsely : Prop := fnExactTightRow.holds Try.pinned (OpenSpec.ofChange fnExactTightWrong)

/-- 'laws.FnExactEven': WHATEVER THE INPUT: true; the input reads as it did. -/
def fnExactEvenSpec : ChangeSpec := { name := "fnExactEven", fn := fun _ => fun
  | [d] => { results := [.lit (.bool true)], args := [d] }
  | _ => none }
def fnExactEvenRow : OpenClaim := { program := "ytngjaajcdbodeaa", sum := "825f73d1344d51e531eb5c9ea58bcfe8b9e2efecb0061ea093d98f6c2e711f57", func := "loop.example/g00492/laws.FnExactEven", spec := "fnExactEven", unfollowed := true, recurses := true, apart := false }
def FnExactEvenSaid : Prop := fnExactEvenRow.holds Try.pinned (OpenSpec.ofChange fnExactEvenSpec)

/-- ITS FALSE NEIGHBOUR: 'it returns false'. Refute it at one input. -/
def fnExactEvenWrong : ChangeSpec := { name := "fnExactEven", fn := fun _ => fun
  | [d] => { results := [.lit (.bool false)], args := [d] }
  | _ => none }
def FnExactEvenWrongFalsely : Prop := fnExactEvenRow.holds Try.pinned (OpenSpec.ofChange fnExactEvenWrong)

/-- 'laws.FnExactVisited': WHATEVER THE INPUT: true; the input reads as it did. -/
def fnExactVisitedSpec : ChangeSpec := { name := "fnExactVisited", fn := fun _ => fun
  | [d1, d2] => { results := [.lit (.bool true)], args := [d1, d2] }
  | _ => none }
def fnExactVisitedRow : OpenClaim := { program := "ytngjaajcdbodeaa", sum := "825f73d1344d51e531eb5c9ea58bcfe8b9e2efecb0061ea093d98f6c2e711f57", func := "loop.example/g00492/laws.FnExactVisited", spec := "fnExactVisited", unfollowed := true, recurses := true, apart := false }
def FnExactVisitedSaid : Prop := fnExactVisitedRow.holds Try.pinned (OpenSpec.ofChange fnExactVisitedSpec)

/-- ITS FALSE NEIGHBOUR: 'it returns false'. Refute it at one input. -/
def fnExactVisitedWrong : ChangeSpec := { name := "fnExactVisited", fn := fun _ => fun
  | [d1, d2] => { results := [.lit (.bool false)], args := [d1, d2] }
  | _ => none }
def FnExactVisitedWrongFalsely : Prop := fnExactVisitedRow.holds Try.pinned (OpenSpec.ofChange fnExactVisitedWrong)

/-- 'laws.FnExactPathTo': WHATEVER THE INPUT: true; the input reads as it did. -/
def fnExactPathToSpec : ChangeSpec := { name := "fnExactPathTo", fn := fun _ => fun
  | [d1, d2] => { results := [.lit (.bool true)], args := [d1, d2] }
  | _ => none }
def fnExactPathToRow : OpenClaim := { program := "ytngjaajcdbodeaa", sum := "825f73d1344d51e531eb5c9ea58bcfe8b9e2efecb0061ea093d98f6c2e711f57", func := "loop.example/g00492/laws.FnExactPathTo", spec := "fnExactPathTo", unfollowed := true, recurses := true, apart := false }
def FnExactPathToSaid : Prop := fnExactPathToRow.holds Try.pinned (OpenSpec.ofChange fnExactPathToSpec)

/-- ITS FALSE NEIGHBOUR: 'it returns false'. Refute it at one input. -/
def fnExactPathToWrong : ChangeSpec := { name := "fnExactPathTo", fn := fun _ => fun
  | [d1, d2] => { results := [.lit (.bool false)], args := [d1, d2] }
  | _ => none }
def FnExactPathToWrongFalsely : Prop := fnExactPathToRow.holds Try.pinned (OpenSpec.ofChange fnExactPathToWrong)

/-- 'laws.FnExactSearch': WHATEVER THE INPUT: true; the input reads as it did. -/
def fnExactSearchSpec : ChangeSpec := { name := "fnExactSearch", fn := fun _ => fun
  | [d1, d2] => { results := [.lit (.bool true)], args := [d1, d2] }
  | _ => none }
def fnExactSearchRow : OpenClaim := { program := "ytngjaajcdbodeaa", sum := "825f73d1344d51e531eb5c9ea58bcfe8b9e2efecb0061ea093d98f6c2e711f57", func := "loop.example/g00492/laws.FnExactSearch", spec := "fnExactSearch", unfollowed := true, recurses := true, apart := false }
def FnExactSearchSaid : Prop := fnExactSearchRow.holds Try.pinned (OpenSpec.ofChange fnExactSearchSpec)

/-- ITS FALSE NEIGHBOUR: 'it returns false'. Refute it at one input. -/
def fnExactSearchWrong : ChangeSpec := { name := "fnExactSearch", fn := fun _ => fun
  | [d1, d2] => { results := [.lit (.bool false)], args := [d1, d2] }
  | _ => none }
def FnExactSearchWrongFalsely : Prop := fnExactSearchRow.holds Try.pinned (OpenSpec.ofChange fnExactSearchWrong)

/-- 'laws.FnExactDense': WHATEVER THE INPUT: true; the input reads as it did. -/
def fnExactDenseSpec : ChangeSpec := { name := "fnExactDense", fn := fun _ => fun
  | [d] => { results := [.lit (.bool true)], args := [d] }
  | _ => none }
def fnExactDenseRow : OpenClaim := { program := "ytngjaajcdbodeaa", sum := "825f73d1344d51e531eb5c9ea58bcfe8b9e2efecb0061ea093d98f6c2e711f57", func := "loop.example/g00492/laws.FnExactDense", spec := "fnExactDense", unfollowed := true, recurses := true, apart := false }
def FnExactDenseSaid : Prop := fnExactDenseRow.holds Try.pinned (OpenSpec.ofChange fnExactDenseSpec)

/-- ITS FALSE NEIGHBOUR: 'it returns false'. Refute it at one input. -/
def fnExactDenseWrong : ChangeSpec := { name := "fnExactDense", fn := fun _ => fun
  | [d] => { results := [.lit (.bool false)], args := [d] }
  | _ => none }
def FnExactDenseWrongFalsely : Prop := fnExactDenseRow.holds Try.pinned (OpenSpec.ofChange fnExactDenseWrong)

/-- 'laws.FnExactPlainOf': WHATEVER THE INPUT: true; the input reads as it did. -/
def fnExactPlainOfSpec : ChangeSpec := { name := "fnExactPlainOf", fn := fun _ => fun
  | [d] => { results := [.lit (.bool true)], args := [d] }
  | _ => none }
def fnExactPlainOfRow : OpenClaim := { program := "ytngjaajcdbodeaa", sum := "825f73d1344d51e531eb5c9ea58bcfe8b9e2efecb0061ea093d98f6c2e711f57", func := "loop.example/g00492/laws.FnExactPlainOf", spec := "fnExactPlainOf", unfollowed := true, recurses := true, apart := false }
def FnExactPlainOfSaid : Prop := fnExactPlainOfRow.holds Try.pinned (OpenSpec.ofChange fnExactPlainOfSpec)

/-- ITS FALSE NEIGHBOUR: 'it returns false'. Refute it at one input. -/
def fnExactPlainOfWrong : ChangeSpec := { name := "fnExactPlainOf", fn := fun _ => fun
  | [d] => { results := [.lit (.bool false)], args := [d] }
  | _ => none }
def FnExactPlainOfWrongFalsely : Prop := fnExactPlainOfRow.holds Try.pinned (OpenSpec.ofChange fnExactPlainOfWrong)

/- THE SECOND FORM. 'bulk': how many values and letters a reading holds, each counted each time it is reached (what is shared counts as often as it is met; a slice's spare places count too). A statement '..UptoSaid' is the law's where the arguments, and the package variables that the reading takes, are together of bulk at most 1048576: NARROWER than '..Said'. Prove '..Said' where nothing that the law and all that it calls make is longer than what came in: it says more and counts as full. Else prove '..UptoSaid'. A law counts once. -/
mutual
def uptoBulk {H : Type} : DataW H → Nat
  | .lit (.string bytes) => bytes.length + 1
  | .lit _ => 1
  | .nil => 1
  | .ptr d => uptoBulk d + 1
  | .slice elems spare => uptoBulkAll elems + uptoBulkAll spare + 1
  | .agg parts => uptoBulkAll parts + 1
  | .iface _ d => uptoBulk d + 1
  | .map entries => uptoBulkEntries entries + 1
  | .held _ => 1
def uptoBulkAll {H : Type} : List (DataW H) → Nat
  | [] => 0
  | d :: r => uptoBulk d + uptoBulkAll r
def uptoBulkEntries {H : Type} : List (Lit × DataW H) → Nat
  | [] => 0
  | x :: r => uptoBulkEntry x + uptoBulkEntries r
def uptoBulkEntry {H : Type} : Lit × DataW H → Nat
  | (.string bytes, d) => bytes.length + uptoBulk d + 1
  | (_, d) => uptoBulk d + 1
 end
def uptoSmall : (H : Type) → List (DataW H) → Bool := fun _ ds => decide (uptoBulkAll ds ≤ 1048576)
def OpenSpec.upto (s : _root_.Go.ChangeSpec) : _root_.Go.OpenSpec := { _root_.Go.OpenSpec.ofChange s with cond := some uptoSmall }

/-- 'laws.FnExactPlainPut', WHERE WHAT IT READS IS OF BULK AT MOST 1048576: true; the input reads as it did. -/
def fnExactPlainPutUptoRow : OpenClaim := { program := "ytngjaajcdbodeaa", sum := "825f73d1344d51e531eb5c9ea58bcfe8b9e2efecb0061ea093d98f6c2e711f57", func := "loop.example/g00492/laws.FnExactPlainPut", spec := "fnExactPlainPut", inPlace := ["slices.overlaps[loop.example/g00492/impl.Item]"], unfollowed := true, recurses := true, apart := false, narrowed := true }
def FnExactPlainPutUptoSaid : Prop := fnExactPlainPutUptoRow.holds Try.pinned (OpenSpec.upto fnExactPlainPutSpec)

/-- 'laws.FnExactPut', WHERE WHAT IT READS IS OF BULK AT MOST 1048576: true; the input reads as it did. -/
def fnExactPutUptoRow : OpenClaim := { program := "ytngjaajcdbodeaa", sum := "825f73d1344d51e531eb5c9ea58bcfe8b9e2efecb0061ea093d98f6c2e711f57", func := "loop.example/g00492/laws.FnExactPut", spec := "fnExactPut", apart := false, narrowed := true }
def FnExactPutUptoSaid : Prop := fnExactPutUptoRow.holds Try.pinned (OpenSpec.upto fnExactPutSpec)

/-- 'laws.FnExactAlloc', WHERE WHAT IT READS IS OF BULK AT MOST 1048576: true; the input reads as it did. -/
def fnExactAllocUptoRow : OpenClaim := { program := "ytngjaajcdbodeaa", sum := "825f73d1344d51e531eb5c9ea58bcfe8b9e2efecb0061ea093d98f6c2e711f57", func := "loop.example/g00492/laws.FnExactAlloc", spec := "fnExactAlloc", apart := false, narrowed := true }
def FnExactAllocUptoSaid : Prop := fnExactAllocUptoRow.holds Try.pinned (OpenSpec.upto fnExactAllocSpec)

/-- 'laws.FnExactFree', WHERE WHAT IT READS IS OF BULK AT MOST 1048576: true; the input reads as it did. -/
def fnExactFreeUptoRow : OpenClaim := { program := "ytngjaajcdbodeaa", sum := "825f73d1344d51e531eb5c9ea58bcfe8b9e2efecb0061ea093d98f6c2e711f57", func := "loop.example/g00492/laws.FnExactFree", spec := "fnExactFree", apart := false, narrowed := true }
def FnExactFreeUptoSaid : Prop := fnExactFreeUptoRow.holds Try.pinned (OpenSpec.upto fnExactFreeSpec)

/-- 'laws.FnExactBookOk', WHERE WHAT IT READS IS OF BULK AT MOST 1048576: true; the input reads as it did. -/
def fnExactBookOkUptoRow : OpenClaim := { program := "ytngjaajcdbodeaa", sum := "825f73d1344d51e531eb5c9ea58bcfe8b9e2efecb0061ea093d98f6c2e711f57", func := "loop.example/g00492/laws.FnExactBookOk", spec := "fnExactBookOk", unfollowed := true, recurses := true, apart := false, narrowed := true }
def FnExactBookOkUptoSaid : Prop := fnExactBookOkUptoRow.holds Try.pinned (OpenSpec.upto fnExactBookOkSpec)

/-- 'laws.FnExactTight', WHERE WHAT IT READS IS OF BULK AT MOST 1048576: true; the input reads as it did. -/
def fnExactTightUptoRow : OpenClaim := { program := "ytngjaajcdbodeaa", sum := "825f73d1344d51e531eb5c9ea58bcfe8b9e2efecb0061ea093d98f6c2e711f57", func := "loop.example/g00492/laws.FnExactTight", spec := "fnExactTight", unfollowed := true, recurses := true, apart := false, narrowed := true }
def FnExactTightUptoSaid : Prop := fnExactTightUptoRow.holds Try.pinned (OpenSpec.upto fnExactTightSpec)

/-- 'laws.FnExactEven', WHERE WHAT IT READS IS OF BULK AT MOST 1048576: true; the input reads as it did. -/
def fnExactEvenUptoRow : OpenClaim := { program := "ytngjaajcdbodeaa", sum := "825f73d1344d51e531eb5c9ea58bcfe8b9e2efecb0061ea093d98f6c2e711f57", func := "loop.example/g00492/laws.FnExactEven", spec := "fnExactEven", unfollowed := true, recurses := true, apart := false, narrowed := true }
def FnExactEvenUptoSaid : Prop := fnExactEvenUptoRow.holds Try.pinned (OpenSpec.upto fnExactEvenSpec)

/-- 'laws.FnExactVisited', WHERE WHAT IT READS IS OF BULK AT MOST 1048576: true; the input reads as it did. -/
def fnExactVisitedUptoRow : OpenClaim := { program := "ytngjaajcdbodeaa", sum := "825f73d1344d51e531eb5c9ea58bcfe8b9e2efecb0061ea093d98f6c2e711f57", func := "loop.example/g00492/laws.FnExactVisited", spec := "fnExactVisited", unfollowed := true, recurses := true, apart := false, narrowed := true }
def FnExactVisitedUptoSaid : Prop := fnExactVisitedUptoRow.holds Try.pinned (OpenSpec.upto fnExactVisitedSpec)

/-- 'laws.FnExactPathTo', WHERE WHAT IT READS IS OF BULK AT MOST 1048576: true; the input reads as it did. -/
def fnExactPathToUptoRow : OpenClaim := { program := "ytngjaajcdbodeaa", sum := "825f73d1344d51e531eb5c9ea58bcfe8b9e2efecb0061ea093d98f6c2e711f57", func := "loop.example/g00492/laws.FnExactPathTo", spec := "fnExactPathTo", unfollowed := true, recurses := true, apart := false, narrowed := true }
def FnExactPathToUptoSaid : Prop := fnExactPathToUptoRow.holds Try.pinned (OpenSpec.upto fnExactPathToSpec)

/-- 'laws.FnExactSearch', WHERE WHAT IT READS IS OF BULK AT MOST 1048576: true; the input reads as it did. -/
def fnExactSearchUptoRow : OpenClaim := { program := "ytngjaajcdbodeaa", sum := "825f73d1344d51e531eb5c9ea58bcfe8b9e2efecb0061ea093d98f6c2e711f57", func := "loop.example/g00492/laws.FnExactSearch", spec := "fnExactSearch", unfollowed := true, recurses := true, apart := false, narrowed := true }
def FnExactSearchUptoSaid : Prop := fnExactSearchUptoRow.holds Try.pinned (OpenSpec.upto fnExactSearchSpec)

/-- 'laws.FnExactDense', WHERE WHAT IT READS IS OF BULK AT MOST 1048576: true; the input reads as it did. -/
def fnExactDenseUptoRow : OpenClaim := { program := "ytngjaajcdbodeaa", sum := "825f73d1344d51e531eb5c9ea58bcfe8b9e2efecb0061ea093d98f6c2e711f57", func := "loop.example/g00492/laws.FnExactDense", spec := "fnExactDense", unfollowed := true, recurses := true, apart := false, narrowed := true }
def FnExactDenseUptoSaid : Prop := fnExactDenseUptoRow.holds Try.pinned (OpenSpec.upto fnExactDenseSpec)

/-- 'laws.FnExactPlainOf', WHERE WHAT IT READS IS OF BULK AT MOST 1048576: true; the input reads as it did. -/
def fnExactPlainOfUptoRow : OpenClaim := { program := "ytngjaajcdbodeaa", sum := "825f73d1344d51e531eb5c9ea58bcfe8b9e2efecb0061ea093d98f6c2e711f57", func := "loop.example/g00492/laws.FnExactPlainOf", spec := "fnExactPlainOf", unfollowed := true, recurses := true, apart := false, narrowed := true }
def FnExactPlainOfUptoSaid : Prop := fnExactPlainOfUptoRow.holds Try.pinned (OpenSpec.upto fnExactPlainOfSpec)

end Rows
end Go.Proofs.Ytngjaajcdbodeaa
