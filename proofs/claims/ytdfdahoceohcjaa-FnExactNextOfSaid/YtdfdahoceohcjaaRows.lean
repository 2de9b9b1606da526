/-
  No cell of these rows narrows 'for every input' (looked for: loops, veiled, ifaces, maps, wideKeys, modest, calm, conditions, laid).
  DERIVED. THE GIVEN ROWS OF THIS SEAT. 12 by the template 'for every input the law returns true; each argument reads behind the call as it read before'; 0 by the template 'total and deterministic' (their statements: YtdfdahoceohcjaaTotals.lean).
  GIVEN WITH THE SEED: the statements are not yours to turn. If you find one false, say at which input.
  Laid BY PROGRAM, IN A SANDBOX (cutbox-rows.mjs): the forced cells as the released guide's own fill.sh prints them over the translation a670e261ebc6ba8d… (all of the seat's roots in one cut). By AI agents, Wed Nov 11 2026. No macro, syntax, notation, axiom, sorry.
-/
import Derived.Test.YtdfdahoceohcjaaChecked
import GoSem.Claim
import GoSem.ClaimJoined
import GoSem.ClaimMapViews
import Derived.JoinedTies
import Derived.KernelRfl
namespace Go.Proofs.Ytdfdahoceohcjaa
/- THE CELL 'sum', in the pinned program and in every row, IS THE sha256 OF THE DUMP (.gsa) THAT YtdfdahoceohcjaaProg.lean LOADS. Nothing in Lean hashes anything: it is a label: what it is worth is what the hold of that sum in a sandbox is worth. -/
noncomputable def Try.pinned : Pinned := { name := "ytdfdahoceohcjaa", sum := "a670e261ebc6ba8dce6fc2a5b48d0cdccab2e595abf56356f97d1c94c734c0f3", checked := Try.checked }
namespace Rows
def none {H : Type} : Left H := { results := [], args := [] }

/-- 'laws.FnExactLevels': WHATEVER THE INPUT: true; the input reads as it did. -/
def fnExactLevelsSpec : ChangeSpec := { name := "fnExactLevels", fn := fun _ => fun
  | [d] => { results := [.lit (.bool true)], args := [d] }
  | _ => none }
def fnExactLevelsRow : OpenClaim := { program := "ytdfdahoceohcjaa", sum := "a670e261ebc6ba8dce6fc2a5b48d0cdccab2e595abf56356f97d1c94c734c0f3", func := "loop.example/g00492/laws.FnExactLevels", spec := "fnExactLevels", recurses := true, apart := false }
def FnExactLevelsSaid : Prop := fnExactLevelsRow.holds Try.pinned (OpenSpec.ofChange fnExactLevelsSpec)

/-- ITS FALSE NEIGHBOUR: 'it returns false'. Refute it at one input. -/
def fnExactLevelsWrong : ChangeSpec := { name := "fnExactLevels", fn := fun _ => fun
  | [d] => { results := [.lit (.bool false)], args := [d] }
  | _ => none }
def FnExactLevelsWrongFalsely : Prop := fnExactLevelsRow.holds Try.pinned (OpenSpec.ofChange fnExactLevelsWrong)

/-- 'laws.FnExactPagesFor': WHATEVER THE INPUT: true; the input reads as it did. -/
def fnExactPagesForSpec : ChangeSpec := { name := "fnExactPagesFor", fn := fun _ => fun
  | [d] => { results := [.lit (.bool true)], args := [d] }
  | _ => none }
def fnExactPagesForRow : OpenClaim := { program := "ytdfdahoceohcjaa", sum := "a670e261ebc6ba8dce6fc2a5b48d0cdccab2e595abf56356f97d1c94c734c0f3", func := "loop.example/g00492/laws.FnExactPagesFor", spec := "fnExactPagesFor", recurses := true, apart := false }
def FnExactPagesForSaid : Prop := fnExactPagesForRow.holds Try.pinned (OpenSpec.ofChange fnExactPagesForSpec)

/-- ITS FALSE NEIGHBOUR: 'it returns false'. Refute it at one input. -/
def fnExactPagesForWrong : ChangeSpec := { name := "fnExactPagesFor", fn := fun _ => fun
  | [d] => { results := [.lit (.bool false)], args := [d] }
  | _ => none }
def FnExactPagesForWrongFalsely : Prop := fnExactPagesForRow.holds Try.pinned (OpenSpec.ofChange fnExactPagesForWrong)

/-- 'laws.FnExactWaste': WHATEVER THE INPUT: true; the input reads as it did. -/
def fnExactWasteSpec : ChangeSpec := { name := "fnExactWaste", fn := fun _ => fun
  | [d1, d2] => { results := [.lit (.bool true)], args := [d1, d2] }
  | _ => none }
def fnExactWasteRow : OpenClaim := { program := "ytdfdahoceohcjaa", sum := "a670e261ebc6ba8dce6fc2a5b48d0cdccab2e595abf56356f97d1c94c734c0f3", func := "loop.example/g00492/laws.FnExactWaste", spec := "fnExactWaste", apart := false }
def FnExactWasteSaid : Prop := fnExactWasteRow.holds Try.pinned (OpenSpec.ofChange fnExactWasteSpec)

/-- ITS FALSE NEIGHBOUR: 'it returns false'. Refute it at one input. -/
def fnExactWasteWrong : ChangeSpec := { name := "fnExactWaste", fn := fun _ => fun
  | [d1, d2] => { results := [.lit (.bool false)], args := [d1, d2] }
  | _ => none }
def FnExactWasteWrongFalsely : Prop := fnExactWasteRow.holds Try.pinned (OpenSpec.ofChange fnExactWasteWrong)

/-- 'laws.FnExactPull': WHATEVER THE INPUT: true; the input reads as it did. -/
def fnExactPullSpec : ChangeSpec := { name := "fnExactPull", fn := fun _ => fun
  | [d1, d2, d3] => { results := [.lit (.bool true)], args := [d1, d2, d3] }
  | _ => none }
def fnExactPullRow : OpenClaim := { program := "ytdfdahoceohcjaa", sum := "a670e261ebc6ba8dce6fc2a5b48d0cdccab2e595abf56356f97d1c94c734c0f3", func := "loop.example/g00492/laws.FnExactPull", spec := "fnExactPull", apart := false }
def FnExactPullSaid : Prop := fnExactPullRow.holds Try.pinned (OpenSpec.ofChange fnExactPullSpec)

/-- ITS FALSE NEIGHBOUR: 'it returns false'. Refute it at one input. -/
def fnExactPullWrong : ChangeSpec := { name := "fnExactPull", fn := fun _ => fun
  | [d1, d2, d3] => { results := [.lit (.bool false)], args := [d1, d2, d3] }
  | _ => none }
def FnExactPullWrongFalsely : Prop := fnExactPullRow.holds Try.pinned (OpenSpec.ofChange fnExactPullWrong)

/-- 'laws.FnExactBoxesOf': WHATEVER THE INPUT: true; the input reads as it did. -/
def fnExactBoxesOfSpec : ChangeSpec := { name := "fnExactBoxesOf", fn := fun _ => fun
  | [d] => { results := [.lit (.bool true)], args := [d] }
  | _ => none }
def fnExactBoxesOfRow : OpenClaim := { program := "ytdfdahoceohcjaa", sum := "a670e261ebc6ba8dce6fc2a5b48d0cdccab2e595abf56356f97d1c94c734c0f3", func := "loop.example/g00492/laws.FnExactBoxesOf", spec := "fnExactBoxesOf", apart := false }
def FnExactBoxesOfSaid : Prop := fnExactBoxesOfRow.holds Try.pinned (OpenSpec.ofChange fnExactBoxesOfSpec)

/-- ITS FALSE NEIGHBOUR: 'it returns false'. Refute it at one input. -/
def fnExactBoxesOfWrong : ChangeSpec := { name := "fnExactBoxesOf", fn := fun _ => fun
  | [d] => { results := [.lit (.bool false)], args := [d] }
  | _ => none }
def FnExactBoxesOfWrongFalsely : Prop := fnExactBoxesOfRow.holds Try.pinned (OpenSpec.ofChange fnExactBoxesOfWrong)

/-- 'laws.FnExactSeeds': WHATEVER THE INPUT: true; the input reads as it did. -/
def fnExactSeedsSpec : ChangeSpec := { name := "fnExactSeeds", fn := fun _ => fun
  | [d] => { results := [.lit (.bool true)], args := [d] }
  | _ => none }
def fnExactSeedsRow : OpenClaim := { program := "ytdfdahoceohcjaa", sum := "a670e261ebc6ba8dce6fc2a5b48d0cdccab2e595abf56356f97d1c94c734c0f3", func := "loop.example/g00492/laws.FnExactSeeds", spec := "fnExactSeeds", apart := false }
def FnExactSeedsSaid : Prop := fnExactSeedsRow.holds Try.pinned (OpenSpec.ofChange fnExactSeedsSpec)

/-- ITS FALSE NEIGHBOUR: 'it returns false'. Refute it at one input. -/
def fnExactSeedsWrong : ChangeSpec := { name := "fnExactSeeds", fn := fun _ => fun
  | [d] => { results := [.lit (.bool false)], args := [d] }
  | _ => none }
def FnExactSeedsWrongFalsely : Prop := fnExactSeedsRow.holds Try.pinned (OpenSpec.ofChange fnExactSeedsWrong)

/-- 'laws.FnExactChoose': WHATEVER THE INPUT: true; the input reads as it did. -/
def fnExactChooseSpec : ChangeSpec := { name := "fnExactChoose", fn := fun _ => fun
  | [d1, d2] => { results := [.lit (.bool true)], args := [d1, d2] }
  | _ => none }
def fnExactChooseRow : OpenClaim := { program := "ytdfdahoceohcjaa", sum := "a670e261ebc6ba8dce6fc2a5b48d0cdccab2e595abf56356f97d1c94c734c0f3", func := "loop.example/g00492/laws.FnExactChoose", spec := "fnExactChoose", apart := false }
def FnExactChooseSaid : Prop := fnExactChooseRow.holds Try.pinned (OpenSpec.ofChange fnExactChooseSpec)

/-- ITS FALSE NEIGHBOUR: 'it returns false'. Refute it at one input. -/
def fnExactChooseWrong : ChangeSpec := { name := "fnExactChoose", fn := fun _ => fun
  | [d1, d2] => { results := [.lit (.bool false)], args := [d1, d2] }
  | _ => none }
def FnExactChooseWrongFalsely : Prop := fnExactChooseRow.holds Try.pinned (OpenSpec.ofChange fnExactChooseWrong)

/-- 'laws.FnExactNextOf': WHATEVER THE INPUT: true; the input reads as it did. -/
def fnExactNextOfSpec : ChangeSpec := { name := "fnExactNextOf", fn := fun _ => fun
  | [d1, d2, d3] => { results := [.lit (.bool true)], args := [d1, d2, d3] }
  | _ => none }
def fnExactNextOfRow : OpenClaim := { program := "ytdfdahoceohcjaa", sum := "a670e261ebc6ba8dce6fc2a5b48d0cdccab2e595abf56356f97d1c94c734c0f3", func := "loop.example/g00492/laws.FnExactNextOf", spec := "fnExactNextOf", apart := false }
def FnExactNextOfSaid : Prop := fnExactNextOfRow.holds Try.pinned (OpenSpec.ofChange fnExactNextOfSpec)

/-- ITS FALSE NEIGHBOUR: 'it returns false'. Refute it at one input. -/
def fnExactNextOfWrong : ChangeSpec := { name := "fnExactNextOf", fn := fun _ => fun
  | [d1, d2, d3] => { results := [.lit (.bool false)], args := [d1, d2, d3] }
  | _ => none }
def FnExactNextOfWrongFalsely : Prop := fnExactNextOfRow.holds Try.pinned (OpenSpec.ofChange fnExactNextOfWrong)

/-- 'laws.FnExactPlainFind': WHATEVER THE INPUT: true; the input reads as it did. -/
def fnExactPlainFindSpec : ChangeSpec := { name := "fnExactPlainFind", fn := fun _ => fun
  | [d1, d2] => { results := [.lit (.bool true)], args := [d1, d2] }
  | _ => none }
def fnExactPlainFindRow : OpenClaim := { program := "ytdfdahoceohcjaa", sum := "a670e261ebc6ba8dce6fc2a5b48d0cdccab2e595abf56356f97d1c94c734c0f3", func := "loop.example/g00492/laws.FnExactPlainFind", spec := "fnExactPlainFind", apart := false }
def FnExactPlainFindSaid : Prop := fnExactPlainFindRow.holds Try.pinned (OpenSpec.ofChange fnExactPlainFindSpec)

/-- ITS FALSE NEIGHBOUR: 'it returns false'. Refute it at one input. -/
def fnExactPlainFindWrong : ChangeSpec := { name := "fnExactPlainFind", fn := fun _ => fun
  | [d1, d2] => { results := [.lit (.bool false)], args := [d1, d2] }
  | _ => none }
def FnExactPlainFindWrongFalsely : Prop := fnExactPlainFindRow.holds Try.pinned (OpenSpec.ofChange fnExactPlainFindWrong)

/-- 'laws.FnExactBoundOf': WHATEVER THE INPUT: true; the input reads as it did. -/
def fnExactBoundOfSpec : ChangeSpec := { name := "fnExactBoundOf", fn := fun _ => fun
  | [d] => { results := [.lit (.bool true)], args := [d] }
  | _ => none }
def fnExactBoundOfRow : OpenClaim := { program := "ytdfdahoceohcjaa", sum := "a670e261ebc6ba8dce6fc2a5b48d0cdccab2e595abf56356f97d1c94c734c0f3", func := "loop.example/g00492/laws.FnExactBoundOf", spec := "fnExactBoundOf", apart := false }
def FnExactBoundOfSaid : Prop := fnExactBoundOfRow.holds Try.pinned (OpenSpec.ofChange fnExactBoundOfSpec)

/-- ITS FALSE NEIGHBOUR: 'it returns false'. Refute it at one input. -/
def fnExactBoundOfWrong : ChangeSpec := { name := "fnExactBoundOf", fn := fun _ => fun
  | [d] => { results := [.lit (.bool false)], args := [d] }
  | _ => none }
def FnExactBoundOfWrongFalsely : Prop := fnExactBoundOfRow.holds Try.pinned (OpenSpec.ofChange fnExactBoundOfWrong)

/-- 'laws.FnExactCost': WHATEVER THE INPUT: true; the input reads as it did. -/
def fnExactCostSpec : ChangeSpec := { name := "fnExactCost", fn := fun _ => fun
  | [d1, d2] => { results := [.lit (.bool true)], args := [d1, d2] }
  | _ => none }
def fnExactCostRow : OpenClaim := { program := "ytdfdahoceohcjaa", sum := "a670e261ebc6ba8dce6fc2a5b48d0cdccab2e595abf56356f97d1c94c734c0f3", func := "loop.example/g00492/laws.FnExactCost", spec := "fnExactCost", apart := false }
def FnExactCostSaid : Prop := fnExactCostRow.holds Try.pinned (OpenSpec.ofChange fnExactCostSpec)

/-- ITS FALSE NEIGHBOUR: 'it returns false'. Refute it at one input. -/
def fnExactCostWrong : ChangeSpec := { name := "fnExactCost", fn := fun _ => fun
  | [d1, d2] => { results := [.lit (.bool false)], args := [d1, d2] }
  | _ => none }
def FnExactCostWrongFalsely : Prop := fnExactCostRow.holds Try.pinned (OpenSpec.ofChange fnExactCostWrong)

/-- 'laws.FnExactPlainDrop': WHATEVER THE INPUT: true; the input reads as it did. -/
def fnExactPlainDropSpec : ChangeSpec := { name := "fnExactPlainDrop", fn := fun _ => fun
  | [d1, d2] => { results := [.lit (.bool true)], args := [d1, d2] }
  | _ => none }
def fnExactPlainDropRow : OpenClaim := { program := "ytdfdahoceohcjaa", sum := "a670e261ebc6ba8dce6fc2a5b48d0cdccab2e595abf56356f97d1c94c734c0f3", func := "loop.example/g00492/laws.FnExactPlainDrop", spec := "fnExactPlainDrop", unfollowed := true, recurses := true, apart := false }
def FnExactPlainDropSaid : Prop := fnExactPlainDropRow.holds Try.pinned (OpenSpec.ofChange fnExactPlainDropSpec)

/-- ITS FALSE NEIGHBOUR: 'it returns false'. Refute it at one input. -/
def fnExactPlainDropWrong : ChangeSpec := { name := "fnExactPlainDrop", fn := fun _ => fun
  | [d1, d2] => { results := [.lit (.bool false)], args := [d1, d2] }
  | _ => none }
def FnExactPlainDropWrongFalsely : Prop := fnExactPlainDropRow.holds Try.pinned (OpenSpec.ofChange fnExactPlainDropWrong)

/- THE SECOND FORM. 'bulk': how many values and letters a reading holds, each counted each time it is reached (what is shared counts as often as it is met; a slice's spare places count too). A statement '..UptoSaid' is the law's where the arguments, and the package variables that the reading takes, are together of bulk at most 1048576: NARROWER than '..Said'. Prove '..Said' where nothing that the law and all that it calls make is longer than what came in: it says more and counts as full. Else prove '..UptoSaid'. A law counts once. -/
mutual
def uptoBulk {H : Type} : DataW H → Nat
  | .lit (.string bytes) => bytes.length + 1
  | .lit _ => 1
  | .nil => 1
  | .ptr d => uptoBulk d + 1
  | .slice elems spare => uptoBulkAll elems + uptoBulkAll spare + 1
  | .agg parts => uptoBulkAll parts + 1
  | .iface _ d => uptoBulk d + 1
  | .map entries => uptoBulkEntries entries + 1
  | .held _ => 1
def uptoBulkAll {H : Type} : List (DataW H) → Nat
  | [] => 0
  | d :: r => uptoBulk d + uptoBulkAll r
def uptoBulkEntries {H : Type} : List (Lit × DataW H) → Nat
  | [] => 0
  | x :: r => uptoBulkEntry x + uptoBulkEntries r
def uptoBulkEntry {H : Type} : Lit × DataW H → Nat
  | (.string bytes, d) => bytes.length + uptoBulk d + 1
  | (_, d) => uptoBulk d + 1
 end
def uptoSmall : (H : Type) → List (DataW H) → Bool := fun _ ds => decide (uptoBulkAll ds ≤ 1048576)
def OpenSpec.upto (s : _root_.Go.ChangeSpec) : _root_.Go.OpenSpec := { _root_.Go.OpenSpec.ofChange s with cond := some uptoSmall }

/-- 'laws.FnExactLevels', WHERE WHAT IT READS IS OF BULK AT MOST 1048576: true; the input reads as it did. -/
def fnExactLevelsUptoRow : OpenClaim := { program := "ytdfdahoceohcjaa", sum := "a670e261ebc6ba8dce6fc2a5b48d0cdccab2e595abf56356f97d1c94c734c0f3", func := "loop.example/g00492/laws.FnExactLevels", spec := "fnExactLevels", recurses := true, apart := false, narrowed := true }
def FnExactLevelsUptoSaid : Prop := fnExactLevelsUptoRow.holds Try.pinned (OpenSpec.upto fnExactLevelsSpec)

/-- 'laws.FnExactPagesFor', WHERE WHAT IT READS IS OF BULK AT MOST 1048576: true; the input reads as it did. -/
def fnExactPagesForUptoRow : OpenClaim := { program := "ytdfdahoceohcjaa", sum := "a670e261ebc6ba8dce6fc2a5b48d0cdccab2e595abf56356f97d1c94c734c0f3", func := "loop.example/g00492/laws.FnExactPagesFor", spec := "fnExactPagesFor", recurses := true, apart := false, narrowed := true }
def FnExactPagesForUptoSaid : Prop := fnExactPagesForUptoRow.holds Try.pinned (OpenSpec.upto fnExactPagesForSpec)

/-- 'laws.FnExactWaste', WHERE WHAT IT READS IS OF BULK AT MOST 1048576: true; the input reads as it did. -/
def fnExactWasteUptoRow : OpenClaim := { program := "ytdfdahoceohcjaa", sum := "a670e261ebc6ba8dce6fc2a5b48d0cdccab2e595abf56356f97d1c94c734c0f3", func := "loop.example/g00492/laws.FnExactWaste", spec := "fnExactWaste", apart := false, narrowed := true }
def FnExactWasteUptoSaid : Prop := fnExactWasteUptoRow.holds Try.pinned (OpenSpec.upto fnExactWasteSpec)

/-- 'laws.FnExactPull', WHERE WHAT IT READS IS OF BULK AT MOST 1048576: true; the input reads as it did. -/
def fnExactPullUptoRow : OpenClaim := { program := "ytdfdahoceohcjaa", sum := "a670e261ebc6ba8dce6fc2a5b48d0cdccab2e595abf56356f97d1c94c734c0f3", func := "loop.example/g00492/laws.FnExactPull", spec := "fnExactPull", apart := false, narrowed := true }
def FnExactPullUptoSaid : Prop := fnExactPullUptoRow.holds Try.pinned (OpenSpec.upto fnExactPullSpec)

/-- 'laws.FnExactBoxesOf', WHERE WHAT IT READS IS OF BULK AT MOST 1048576: true; the input reads as it did. -/
def fnExactBoxesOfUptoRow : OpenClaim := { program := "ytdfdahoceohcjaa", sum := "a670e261ebc6ba8dce6fc2a5b48d0cdccab2e595abf56356f97d1c94c734c0f3", func := "loop.example/g00492/laws.FnExactBoxesOf", spec := "fnExactBoxesOf", apart := false, narrowed := true }
def FnExactBoxesOfUptoSaid : Prop := fnExactBoxesOfUptoRow.holds Try.pinned (OpenSpec.upto fnExactBoxesOfSpec)

/-- 'laws.FnExactSeeds', WHERE WHAT IT READS IS OF BULK AT MOST 1048576: true; the input reads as it did. -/
def fnExactSeedsUptoRow : OpenClaim := { program := "ytdfdahoceohcjaa", sum := "a670e261ebc6ba8dce6fc2a5b48d0cdccab2e595abf56356f97d1c94c734c0f3", func := "loop.example/g00492/laws.FnExactSeeds", spec := "fnExactSeeds", apart := false, narrowed := true }
def FnExactSeedsUptoSaid : Prop := fnExactSeedsUptoRow.holds Try.pinned (OpenSpec.upto fnExactSeedsSpec)

/-- 'laws.FnExactChoose', WHERE WHAT IT READS IS OF BULK AT MOST 1048576: true; the input reads as it did. -/
def fnExactChooseUptoRow : OpenClaim := { program := "ytdfdahoceohcjaa", sum := "a670e261ebc6ba8dce6fc2a5b48d0cdccab2e595abf56356f97d1c94c734c0f3", func := "loop.example/g00492/laws.FnExactChoose", spec := "fnExactChoose", apart := false, narrowed := true }
def FnExactChooseUptoSaid : Prop := fnExactChooseUptoRow.holds Try.pinned (OpenSpec.upto fnExactChooseSpec)

/-- 'laws.FnExactNextOf', WHERE WHAT IT READS IS OF BULK AT MOST 1048576: true; the input reads as it did. -/
def fnExactNextOfUptoRow : OpenClaim := { program := "ytdfdahoceohcjaa", sum := "a670e261ebc6ba8dce6fc2a5b48d0cdccab2e595abf56356f97d1c94c734c0f3", func := "loop.example/g00492/laws.FnExactNextOf", spec := "fnExactNextOf", apart := false, narrowed := true }
def FnExactNextOfUptoSaid : Prop := fnExactNextOfUptoRow.holds Try.pinned (OpenSpec.upto fnExactNextOfSpec)

/-- 'laws.FnExactPlainFind', WHERE WHAT IT READS IS OF BULK AT MOST 1048576: true; the input reads as it did. -/
def fnExactPlainFindUptoRow : OpenClaim := { program := "ytdfdahoceohcjaa", sum := "a670e261ebc6ba8dce6fc2a5b48d0cdccab2e595abf56356f97d1c94c734c0f3", func := "loop.example/g00492/laws.FnExactPlainFind", spec := "fnExactPlainFind", apart := false, narrowed := true }
def FnExactPlainFindUptoSaid : Prop := fnExactPlainFindUptoRow.holds Try.pinned (OpenSpec.upto fnExactPlainFindSpec)

/-- 'laws.FnExactBoundOf', WHERE WHAT IT READS IS OF BULK AT MOST 1048576: true; the input reads as it did. -/
def fnExactBoundOfUptoRow : OpenClaim := { program := "ytdfdahoceohcjaa", sum := "a670e261ebc6ba8dce6fc2a5b48d0cdccab2e595abf56356f97d1c94c734c0f3", func := "loop.example/g00492/laws.FnExactBoundOf", spec := "fnExactBoundOf", apart := false, narrowed := true }
def FnExactBoundOfUptoSaid : Prop := fnExactBoundOfUptoRow.holds Try.pinned (OpenSpec.upto fnExactBoundOfSpec)

/-- 'laws.FnExactCost', WHERE WHAT IT READS IS OF BULK AT MOST 1048576: true; the input reads as it did. -/
def fnExactCostUptoRow : OpenClaim := { program := "ytdfdahoceohcjaa", sum := "a670e261ebc6ba8dce6fc2a5b48d0cdccab2e595abf56356f97d1c94c734c0f3", func := "loop.example/g00492/laws.FnExactCost", spec := "fnExactCost", apart := false, narrowed := true }
def FnExactCostUptoSaid : Prop := fnExactCostUptoRow.holds Try.pinned (OpenSpec.upto fnExactCostSpec)

/-- 'laws.FnExactPlainDrop', WHERE WHAT IT READS IS OF BULK AT MOST 1048576: true; the input reads as it did. -/
def fnExactPlainDropUptoRow : OpenClaim := { program := "ytdfdahoceohcjaa", sum := "a670e261ebc6ba8dce6fc2a5b48d0cdccab2e595abf56356f97d1c94c734c0f3", func := "loop.example/g00492/laws.FnExactPlainDrop", spec := "fnExactPlainDrop", unfollowed := true, recurses := true, apart := false, narrowed := true }
def FnExactPlainDropUptoSaid : Prop := fnExactPlainDropUptoRow.holds Try.pinned (OpenSpec.upto fnExactPlainDropSpec)

end Rows
end Go.Proofs.Ytdfdahoceohcjaa
