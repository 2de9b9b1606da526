/-
  No cell of these rows narrows 'for every input' (looked for: loops, veiled, ifaces, maps, wideKeys, modest, calm, conditions, laid).
  DERIVED. THE GIVEN ROWS OF THIS SEAT. 12 by the template 'for every input the law returns true; each argument reads behind the call as it read before'; 0 by the template 'total and deterministic' (their statements: YthenmlaleobapaaTotals.lean).
  GIVEN WITH THE SEED: the statements are not yours to turn. If you find one false, say at which input.
  Laid BY PROGRAM, IN A SANDBOX (cutbox-rows.mjs): the forced cells as the released guide's own fill.sh prints them over the translation e343afaa57b1d4ea… (all of the seat's roots in one cut). By AI agents, Wed Nov 11 2026. No macro, syntax, notation, axiom, sorry.
-/
import Derived.Test.YthenmlaleobapaaChecked
import GoSem.Claim
import GoSem.ClaimJoined
import GoSem.ClaimMapViews
import Derived.JoinedTies
import Derived.KernelRfl
namespace Go.Proofs.Ythenmlaleobapaa
/- THE CELL 'sum', in the pinned program and in every row, IS THE sha256 OF THE DUMP (.gsa) THAT YthenmlaleobapaaProg.lean LOADS. Nothing in Lean hashes anything: it is a label: what it is worth is what the hold of that sum in a sandbox is worth. -/
noncomputable def Try.pinned : Pinned := { name := "ythenmlaleobapaa", sum := "e343afaa57b1d4ea78ec0ee8bfa3631bf526eca4756e56fcdb7d22f12583d46f", checked := Try.checked }
namespace Rows
def none {H : Type} : Left H := { results := [], args := [] }

/-- 'laws.FnExactInOrder': WHATEVER THE INPUT: true; the input reads as it did. -/
def fnExactInOrderSpec : ChangeSpec := { name := "fnExactInOrder", fn := fun _ => fun
  | [d] => { results := [.lit (.bool true)], args := [d] }
  | _ => none }
def fnExactInOrderRow : OpenClaim := { program := "ythenmlaleobapaa", sum := "e343afaa57b1d4ea78ec0ee8bfa3631bf526eca4756e56fcdb7d22f12583d46f", func := "loop.example/g00492/laws.FnExactInOrder", spec := "fnExactInOrder", apart := false }
def FnExactInOrderSaid : Prop := fnExactInOrderRow.holds Try.pinned (OpenSpec.ofChange fnExactInOrderSpec)

/-- ITS FALSE NEIGHBOUR: 'it returns false'. Refute it at one input. -/
def fnExactInOrderWrong : ChangeSpec := { name := "fnExactInOrder", fn := fun _ => fun
  | [d] => { results := [.lit (.bool false)], args := [d] }
  | _ => none }
def FnExactInOrderWrongFalsely : Prop := fnExactInOrderRow.holds Try.pinned (OpenSpec.ofChange fnExactInOrderWrong)

/-- 'laws.FnExactFirstFree': WHATEVER THE INPUT: true; the input reads as it did. -/
def fnExactFirstFreeSpec : ChangeSpec := { name := "fnExactFirstFree", fn := fun _ => fun
  | [d] => { results := [.lit (.bool true)], args := [d] }
  | _ => none }
def fnExactFirstFreeRow : OpenClaim := { program := "ythenmlaleobapaa", sum := "e343afaa57b1d4ea78ec0ee8bfa3631bf526eca4756e56fcdb7d22f12583d46f", func := "loop.example/g00492/laws.FnExactFirstFree", spec := "fnExactFirstFree", apart := false }
def FnExactFirstFreeSaid : Prop := fnExactFirstFreeRow.holds Try.pinned (OpenSpec.ofChange fnExactFirstFreeSpec)

/-- ITS FALSE NEIGHBOUR: 'it returns false'. Refute it at one input. -/
def fnExactFirstFreeWrong : ChangeSpec := { name := "fnExactFirstFree", fn := fun _ => fun
  | [d] => { results := [.lit (.bool false)], args := [d] }
  | _ => none }
def FnExactFirstFreeWrongFalsely : Prop := fnExactFirstFreeRow.holds Try.pinned (OpenSpec.ofChange fnExactFirstFreeWrong)

/-- 'laws.FnExactLastUsed': WHATEVER THE INPUT: true; the input reads as it did. -/
def fnExactLastUsedSpec : ChangeSpec := { name := "fnExactLastUsed", fn := fun _ => fun
  | [d] => { results := [.lit (.bool true)], args := [d] }
  | _ => none }
def fnExactLastUsedRow : OpenClaim := { program := "ythenmlaleobapaa", sum := "e343afaa57b1d4ea78ec0ee8bfa3631bf526eca4756e56fcdb7d22f12583d46f", func := "loop.example/g00492/laws.FnExactLastUsed", spec := "fnExactLastUsed", apart := false }
def FnExactLastUsedSaid : Prop := fnExactLastUsedRow.holds Try.pinned (OpenSpec.ofChange fnExactLastUsedSpec)

/-- ITS FALSE NEIGHBOUR: 'it returns false'. Refute it at one input. -/
def fnExactLastUsedWrong : ChangeSpec := { name := "fnExactLastUsed", fn := fun _ => fun
  | [d] => { results := [.lit (.bool false)], args := [d] }
  | _ => none }
def FnExactLastUsedWrongFalsely : Prop := fnExactLastUsedRow.holds Try.pinned (OpenSpec.ofChange fnExactLastUsedWrong)

/-- 'laws.FnExactGaps': WHATEVER THE INPUT: true; the input reads as it did. -/
def fnExactGapsSpec : ChangeSpec := { name := "fnExactGaps", fn := fun _ => fun
  | [d] => { results := [.lit (.bool true)], args := [d] }
  | _ => none }
def fnExactGapsRow : OpenClaim := { program := "ythenmlaleobapaa", sum := "e343afaa57b1d4ea78ec0ee8bfa3631bf526eca4756e56fcdb7d22f12583d46f", func := "loop.example/g00492/laws.FnExactGaps", spec := "fnExactGaps", apart := false }
def FnExactGapsSaid : Prop := fnExactGapsRow.holds Try.pinned (OpenSpec.ofChange fnExactGapsSpec)

/-- ITS FALSE NEIGHBOUR: 'it returns false'. Refute it at one input. -/
def fnExactGapsWrong : ChangeSpec := { name := "fnExactGaps", fn := fun _ => fun
  | [d] => { results := [.lit (.bool false)], args := [d] }
  | _ => none }
def FnExactGapsWrongFalsely : Prop := fnExactGapsRow.holds Try.pinned (OpenSpec.ofChange fnExactGapsWrong)

/-- 'laws.FnExactDeep': WHATEVER THE INPUT: true; the input reads as it did. -/
def fnExactDeepSpec : ChangeSpec := { name := "fnExactDeep", fn := fun _ => fun
  | [d] => { results := [.lit (.bool true)], args := [d] }
  | _ => none }
def fnExactDeepRow : OpenClaim := { program := "ythenmlaleobapaa", sum := "e343afaa57b1d4ea78ec0ee8bfa3631bf526eca4756e56fcdb7d22f12583d46f", func := "loop.example/g00492/laws.FnExactDeep", spec := "fnExactDeep", apart := false }
def FnExactDeepSaid : Prop := fnExactDeepRow.holds Try.pinned (OpenSpec.ofChange fnExactDeepSpec)

/-- ITS FALSE NEIGHBOUR: 'it returns false'. Refute it at one input. -/
def fnExactDeepWrong : ChangeSpec := { name := "fnExactDeep", fn := fun _ => fun
  | [d] => { results := [.lit (.bool false)], args := [d] }
  | _ => none }
def FnExactDeepWrongFalsely : Prop := fnExactDeepRow.holds Try.pinned (OpenSpec.ofChange fnExactDeepWrong)

/-- 'laws.FnExactRows': WHATEVER THE INPUT: true; the input reads as it did. -/
def fnExactRowsSpec : ChangeSpec := { name := "fnExactRows", fn := fun _ => fun
  | [d] => { results := [.lit (.bool true)], args := [d] }
  | _ => none }
def fnExactRowsRow : OpenClaim := { program := "ythenmlaleobapaa", sum := "e343afaa57b1d4ea78ec0ee8bfa3631bf526eca4756e56fcdb7d22f12583d46f", func := "loop.example/g00492/laws.FnExactRows", spec := "fnExactRows", apart := false }
def FnExactRowsSaid : Prop := fnExactRowsRow.holds Try.pinned (OpenSpec.ofChange fnExactRowsSpec)

/-- ITS FALSE NEIGHBOUR: 'it returns false'. Refute it at one input. -/
def fnExactRowsWrong : ChangeSpec := { name := "fnExactRows", fn := fun _ => fun
  | [d] => { results := [.lit (.bool false)], args := [d] }
  | _ => none }
def FnExactRowsWrongFalsely : Prop := fnExactRowsRow.holds Try.pinned (OpenSpec.ofChange fnExactRowsWrong)

/-- 'laws.FnExactClean': WHATEVER THE INPUT: true; the input reads as it did. -/
def fnExactCleanSpec : ChangeSpec := { name := "fnExactClean", fn := fun _ => fun
  | [d] => { results := [.lit (.bool true)], args := [d] }
  | _ => none }
def fnExactCleanRow : OpenClaim := { program := "ythenmlaleobapaa", sum := "e343afaa57b1d4ea78ec0ee8bfa3631bf526eca4756e56fcdb7d22f12583d46f", func := "loop.example/g00492/laws.FnExactClean", spec := "fnExactClean", unfollowed := true, recurses := true, apart := false }
def FnExactCleanSaid : Prop := fnExactCleanRow.holds Try.pinned (OpenSpec.ofChange fnExactCleanSpec)

/-- ITS FALSE NEIGHBOUR: 'it returns false'. Refute it at one input. -/
def fnExactCleanWrong : ChangeSpec := { name := "fnExactClean", fn := fun _ => fun
  | [d] => { results := [.lit (.bool false)], args := [d] }
  | _ => none }
def FnExactCleanWrongFalsely : Prop := fnExactCleanRow.holds Try.pinned (OpenSpec.ofChange fnExactCleanWrong)

/-- 'laws.FnExactFilled': WHATEVER THE INPUT: true; the input reads as it did. -/
def fnExactFilledSpec : ChangeSpec := { name := "fnExactFilled", fn := fun _ => fun
  | [d1, d2] => { results := [.lit (.bool true)], args := [d1, d2] }
  | _ => none }
def fnExactFilledRow : OpenClaim := { program := "ythenmlaleobapaa", sum := "e343afaa57b1d4ea78ec0ee8bfa3631bf526eca4756e56fcdb7d22f12583d46f", func := "loop.example/g00492/laws.FnExactFilled", spec := "fnExactFilled", unfollowed := true, recurses := true, apart := false }
def FnExactFilledSaid : Prop := fnExactFilledRow.holds Try.pinned (OpenSpec.ofChange fnExactFilledSpec)

/-- ITS FALSE NEIGHBOUR: 'it returns false'. Refute it at one input. -/
def fnExactFilledWrong : ChangeSpec := { name := "fnExactFilled", fn := fun _ => fun
  | [d1, d2] => { results := [.lit (.bool false)], args := [d1, d2] }
  | _ => none }
def FnExactFilledWrongFalsely : Prop := fnExactFilledRow.holds Try.pinned (OpenSpec.ofChange fnExactFilledWrong)

/-- 'laws.FnExactReach': WHATEVER THE INPUT: true; the input reads as it did. -/
def fnExactReachSpec : ChangeSpec := { name := "fnExactReach", fn := fun _ => fun
  | [d] => { results := [.lit (.bool true)], args := [d] }
  | _ => none }
def fnExactReachRow : OpenClaim := { program := "ythenmlaleobapaa", sum := "e343afaa57b1d4ea78ec0ee8bfa3631bf526eca4756e56fcdb7d22f12583d46f", func := "loop.example/g00492/laws.FnExactReach", spec := "fnExactReach", unfollowed := true, recurses := true, apart := false }
def FnExactReachSaid : Prop := fnExactReachRow.holds Try.pinned (OpenSpec.ofChange fnExactReachSpec)

/-- ITS FALSE NEIGHBOUR: 'it returns false'. Refute it at one input. -/
def fnExactReachWrong : ChangeSpec := { name := "fnExactReach", fn := fun _ => fun
  | [d] => { results := [.lit (.bool false)], args := [d] }
  | _ => none }
def FnExactReachWrongFalsely : Prop := fnExactReachRow.holds Try.pinned (OpenSpec.ofChange fnExactReachWrong)

/-- 'laws.FnExactLeaves': WHATEVER THE INPUT: true; the input reads as it did. -/
def fnExactLeavesSpec : ChangeSpec := { name := "fnExactLeaves", fn := fun _ => fun
  | [d] => { results := [.lit (.bool true)], args := [d] }
  | _ => none }
def fnExactLeavesRow : OpenClaim := { program := "ythenmlaleobapaa", sum := "e343afaa57b1d4ea78ec0ee8bfa3631bf526eca4756e56fcdb7d22f12583d46f", func := "loop.example/g00492/laws.FnExactLeaves", spec := "fnExactLeaves", unfollowed := true, recurses := true, apart := false }
def FnExactLeavesSaid : Prop := fnExactLeavesRow.holds Try.pinned (OpenSpec.ofChange fnExactLeavesSpec)

/-- ITS FALSE NEIGHBOUR: 'it returns false'. Refute it at one input. -/
def fnExactLeavesWrong : ChangeSpec := { name := "fnExactLeaves", fn := fun _ => fun
  | [d] => { results := [.lit (.bool false)], args := [d] }
  | _ => none }
def FnExactLeavesWrongFalsely : Prop := fnExactLeavesRow.holds Try.pinned (OpenSpec.ofChange fnExactLeavesWrong)

/-- 'laws.FnExactFind': WHATEVER THE INPUT: true; the input reads as it did. -/
def fnExactFindSpec : ChangeSpec := { name := "fnExactFind", fn := fun _ => fun
  | [d1, d2] => { results := [.lit (.bool true)], args := [d1, d2] }
  | _ => none }
def fnExactFindRow : OpenClaim := { program := "ythenmlaleobapaa", sum := "e343afaa57b1d4ea78ec0ee8bfa3631bf526eca4756e56fcdb7d22f12583d46f", func := "loop.example/g00492/laws.FnExactFind", spec := "fnExactFind", unfollowed := true, recurses := true, apart := false }
def FnExactFindSaid : Prop := fnExactFindRow.holds Try.pinned (OpenSpec.ofChange fnExactFindSpec)

/-- ITS FALSE NEIGHBOUR: 'it returns false'. Refute it at one input. -/
def fnExactFindWrong : ChangeSpec := { name := "fnExactFind", fn := fun _ => fun
  | [d1, d2] => { results := [.lit (.bool false)], args := [d1, d2] }
  | _ => none }
def FnExactFindWrongFalsely : Prop := fnExactFindRow.holds Try.pinned (OpenSpec.ofChange fnExactFindWrong)

/-- 'laws.FnExactAll': WHATEVER THE INPUT: true; the input reads as it did. -/
def fnExactAllSpec : ChangeSpec := { name := "fnExactAll", fn := fun _ => fun
  | [d] => { results := [.lit (.bool true)], args := [d] }
  | _ => none }
def fnExactAllRow : OpenClaim := { program := "ythenmlaleobapaa", sum := "e343afaa57b1d4ea78ec0ee8bfa3631bf526eca4756e56fcdb7d22f12583d46f", func := "loop.example/g00492/laws.FnExactAll", spec := "fnExactAll", unfollowed := true, recurses := true, apart := false }
def FnExactAllSaid : Prop := fnExactAllRow.holds Try.pinned (OpenSpec.ofChange fnExactAllSpec)

/-- ITS FALSE NEIGHBOUR: 'it returns false'. Refute it at one input. -/
def fnExactAllWrong : ChangeSpec := { name := "fnExactAll", fn := fun _ => fun
  | [d] => { results := [.lit (.bool false)], args := [d] }
  | _ => none }
def FnExactAllWrongFalsely : Prop := fnExactAllRow.holds Try.pinned (OpenSpec.ofChange fnExactAllWrong)

/- THE SECOND FORM. 'bulk': how many values and letters a reading holds, each counted each time it is reached (what is shared counts as often as it is met; a slice's spare places count too). A statement '..UptoSaid' is the law's where the arguments, and the package variables that the reading takes, are together of bulk at most 1048576: NARROWER than '..Said'. Prove '..Said' where nothing that the law and all that it calls make is longer than what came in: it says more and counts as full. Else prove '..UptoSaid'. A law counts once. -/
mutual
def uptoBulk {H : Type} : DataW H → Nat
  | .lit (.string bytes) => bytes.length + 1
  | .lit _ => 1
  | .nil => 1
  | .ptr d => uptoBulk d + 1
  | .slice elems spare => uptoBulkAll elems + uptoBulkAll spare + 1
  | .agg parts => uptoBulkAll parts + 1
  | .iface _ d => uptoBulk d + 1
  | .map entries => uptoBulkEntries entries + 1
  | .held _ => 1
def uptoBulkAll {H : Type} : List (DataW H) → Nat
  | [] => 0
  | d :: r => uptoBulk d + uptoBulkAll r
def uptoBulkEntries {H : Type} : List (Lit × DataW H) → Nat
  | [] => 0
  | x :: r => uptoBulkEntry x + uptoBulkEntries r
def uptoBulkEntry {H : Type} : Lit × DataW H → Nat
  | (.string bytes, d) => bytes.length + uptoBulk d + 1
  | (_, d) => uptoBulk d + 1
 end
def uptoSmall : (H : Type) → List (DataW H) → Bool := fun _ ds => decide (uptoBulkAll ds ≤ 1048576)
def OpenSpec.upto (s : _root_.Go.ChangeSpec) : _root_.Go.OpenSpec := { _root_.Go.OpenSpec.ofChange s with cond := some uptoSmall }

/-- 'laws.FnExactInOrder', WHERE WHAT IT READS IS OF BULK AT MOST 1048576: true; the input reads as it did. -/
def fnExactInOrderUptoRow : OpenClaim := { program := "ythenmlaleobapaa", sum := "e343afaa57b1d4ea78ec0ee8bfa3631bf526eca4756e56fcdb7d22f12583d46f", func := "loop.example/g00492/laws.FnExactInOrder", spec := "fnExactInOrder", apart := false, narrowed := true }
def FnExactInOrderUptoSaid : Prop := fnExactInOrderUptoRow.holds Try.pinned (OpenSpec.upto fnExactInOrderSpec)

/-- 'laws.FnExactFirstFree', WHERE WHAT IT READS IS OF BULK AT MOST 1048576: true; the input reads as it did. -/
def fnExactFirstFreeUptoRow : OpenClaim := { program := "ythenmlaleobapaa", sum := "e343afaa57b1d4ea78ec0ee8bfa3631bf526eca4756e56fcdb7d22f12583d46f", func := "loop.example/g00492/laws.FnExactFirstFree", spec := "fnExactFirstFree", apart := false, narrowed := true }
def FnExactFirstFreeUptoSaid : Prop := fnExactFirstFreeUptoRow.holds Try.pinned (OpenSpec.upto fnExactFirstFreeSpec)

/-- 'laws.FnExactLastUsed', WHERE WHAT IT READS IS OF BULK AT MOST 1048576: true; the input reads as it did. -/
def fnExactLastUsedUptoRow : OpenClaim := { program := "ythenmlaleobapaa", sum := "e343afaa57b1d4ea78ec0ee8bfa3631bf526eca4756e56fcdb7d22f12583d46f", func := "loop.example/g00492/laws.FnExactLastUsed", spec := "fnExactLastUsed", apart := false, narrowed := true }
def FnExactLastUsedUptoSaid : Prop := fnExactLastUsedUptoRow.holds Try.pinned (OpenSpec.upto fnExactLastUsedSpec)

/-- 'laws.FnExactGaps', WHERE WHAT IT READS IS OF BULK AT MOST 1048576: true; the input reads as it did. -/
def fnExactGapsUptoRow : OpenClaim := { program := "ythenmlaleobapaa", sum := "e343afaa57b1d4ea78ec0ee8bfa3631bf526eca4756e56fcdb7d22f12583d46f", func := "loop.example/g00492/laws.FnExactGaps", spec := "fnExactGaps", apart := false, narrowed := true }
def FnExactGapsUptoSaid : Prop := fnExactGapsUptoRow.holds Try.pinned (OpenSpec.upto fnExactGapsSpec)

/-- 'laws.FnExactDeep', WHERE WHAT IT READS IS OF BULK AT MOST 1048576: true; the input reads as it did. -/
def fnExactDeepUptoRow : OpenClaim := { program := "ythenmlaleobapaa", sum := "e343afaa57b1d4ea78ec0ee8bfa3631bf526eca4756e56fcdb7d22f12583d46f", func := "loop.example/g00492/laws.FnExactDeep", spec := "fnExactDeep", apart := false, narrowed := true }
def FnExactDeepUptoSaid : Prop := fnExactDeepUptoRow.holds Try.pinned (OpenSpec.upto fnExactDeepSpec)

/-- 'laws.FnExactRows', WHERE WHAT IT READS IS OF BULK AT MOST 1048576: true; the input reads as it did. -/
def fnExactRowsUptoRow : OpenClaim := { program := "ythenmlaleobapaa", sum := "e343afaa57b1d4ea78ec0ee8bfa3631bf526eca4756e56fcdb7d22f12583d46f", func := "loop.example/g00492/laws.FnExactRows", spec := "fnExactRows", apart := false, narrowed := true }
def FnExactRowsUptoSaid : Prop := fnExactRowsUptoRow.holds Try.pinned (OpenSpec.upto fnExactRowsSpec)

/-- 'laws.FnExactClean', WHERE WHAT IT READS IS OF BULK AT MOST 1048576: true; the input reads as it did. -/
def fnExactCleanUptoRow : OpenClaim := { program := "ythenmlaleobapaa", sum := "e343afaa57b1d4ea78ec0ee8bfa3631bf526eca4756e56fcdb7d22f12583d46f", func := "loop.example/g00492/laws.FnExactClean", spec := "fnExactClean", unfollowed := true, recurses := true, apart := false, narrowed := true }
def FnExactCleanUptoSaid : Prop := fnExactCleanUptoRow.holds Try.pinned (OpenSpec.upto fnExactCleanSpec)

/-- 'laws.FnExactFilled', WHERE WHAT IT READS IS OF BULK AT MOST 1048576: true; the input reads as it did. -/
def fnExactFilledUptoRow : OpenClaim := { program := "ythenmlaleobapaa", sum := "e343afaa57b1d4ea78ec0ee8bfa3631bf526eca4756e56fcdb7d22f12583d46f", func := "loop.example/g00492/laws.FnExactFilled", spec := "fnExactFilled", unfollowed := true, recurses := true, apart := false, narrowed := true }
def FnExactFilledUptoSaid : Prop := fnExactFilledUptoRow.holds Try.pinned (OpenSpec.upto fnExactFilledSpec)

/-- 'laws.FnExactReach', WHERE WHAT IT READS IS OF BULK AT MOST 1048576: true; the input reads as it did. -/
def fnExactReachUptoRow : OpenClaim := { program := "ythenmlaleobapaa", sum := "e343afaa57b1d4ea78ec0ee8bfa3631bf526eca4756e56fcdb7d22f12583d46f", func := "loop.example/g00492/laws.FnExactReach", spec := "fnExactReach", unfollowed := true, recurses := true, apart := false, narrowed := true }
def FnExactReachUptoSaid : Prop := fnExactReachUptoRow.holds Try.pinned (OpenSpec.upto fnExactReachSpec)

/-- 'laws.FnExactLeaves', WHERE WHAT IT READS IS OF BULK AT MOST 1048576: true; the input reads as it did. -/
def fnExactLeavesUptoRow : OpenClaim := { program := "ythenmlaleobapaa", sum := "e343afaa57b1d4ea78ec0ee8bfa3631bf526eca4756e56fcdb7d22f12583d46f", func := "loop.example/g00492/laws.FnExactLeaves", spec := "fnExactLeaves", unfollowed := true, recurses := true, apart := false, narrowed := true }
def FnExactLeavesUptoSaid : Prop := fnExactLeavesUptoRow.holds Try.pinned (OpenSpec.upto fnExactLeavesSpec)

/-- 'laws.FnExactFind', WHERE WHAT IT READS IS OF BULK AT MOST 1048576: true; the input reads as it did. -/
def fnExactFindUptoRow : OpenClaim := { program := "ythenmlaleobapaa", sum := "e343afaa57b1d4ea78ec0ee8bfa3631bf526eca4756e56fcdb7d22f12583d46f", func := "loop.example/g00492/laws.FnExactFind", spec := "fnExactFind", unfollowed := true, recurses := true, apart := false, narrowed := true }
def FnExactFindUptoSaid : Prop := fnExactFindUptoRow.holds Try.pinned (OpenSpec.upto fnExactFindSpec)

/-- 'laws.FnExactAll', WHERE WHAT IT READS IS OF BULK AT MOST 1048576: true; the input reads as it did. -/
def fnExactAllUptoRow : OpenClaim := { program := "ythenmlaleobapaa", sum := "e343afaa57b1d4ea78ec0ee8bfa3631bf526eca4756e56fcdb7d22f12583d46f", func := "loop.example/g00492/laws.FnExactAll", spec := "fnExactAll", unfollowed := true, recurses := true, apart := false, narrowed := true }
def FnExactAllUptoSaid : Prop := fnExactAllUptoRow.holds Try.pinned (OpenSpec.upto fnExactAllSpec)

end Rows
end Go.Proofs.Ythenmlaleobapaa
