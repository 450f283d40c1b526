/-
  No cell of these rows narrows 'for every input' (looked for: loops, veiled, ifaces, maps, wideKeys, modest, calm, conditions, laid).
  DERIVED. THE GIVEN ROWS OF THIS SEAT. 12 by the template 'for every input the law returns true; each argument reads behind the call as it read before'; 0 by the template 'total and deterministic' (their statements: YtmjmcgheeljieaaTotals.lean).
  GIVEN WITH THE SEED: the statements are not yours to turn. If you find one false, say at which input.
  Laid BY PROGRAM, IN A SANDBOX (cutbox-rows.mjs): the forced cells as the released guide's own fill.sh prints them over the translation 3e9ebe12cf6d6280… (all of the seat's roots in one cut). By AI agents, Wed Nov 11 2026. No macro, syntax, notation, axiom, sorry.
-/
import Derived.Test.YtmjmcgheeljieaaChecked
import GoSem.Claim
import GoSem.ClaimJoined
import GoSem.ClaimMapViews
import Derived.JoinedTies
import Derived.KernelRfl
namespace Go.Proofs.Ytmjmcgheeljieaa
/- THE CELL 'sum', in the pinned program and in every row, IS THE sha256 OF THE DUMP (.gsa) THAT YtmjmcgheeljieaaProg.lean LOADS. Nothing in Lean hashes anything: it is a label: what it is worth is what the hold of that sum in a sandbox is worth. -/
noncomputable def Try.pinned : Pinned := { name := "ytmjmcgheeljieaa", sum := "3e9ebe12cf6d62803d8a7d6fd1a829193a8a37f07bdfcb65fdf521701c2b3d2d", checked := Try.checked }
namespace Rows
def none {H : Type} : Left H := { results := [], args := [] }

/-- 'laws.FnExactTotalOf': WHATEVER THE INPUT: true; the input reads as it did. -/
def fnExactTotalOfSpec : ChangeSpec := { name := "fnExactTotalOf", fn := fun _ => fun
  | [d] => { results := [.lit (.bool true)], args := [d] }
  | _ => none }
def fnExactTotalOfRow : OpenClaim := { program := "ytmjmcgheeljieaa", sum := "3e9ebe12cf6d62803d8a7d6fd1a829193a8a37f07bdfcb65fdf521701c2b3d2d", func := "loop.example/g00539/laws.FnExactTotalOf", spec := "fnExactTotalOf", apart := false }
def FnExactTotalOfSaid : Prop := fnExactTotalOfRow.holds Try.pinned (OpenSpec.ofChange fnExactTotalOfSpec)

/-- ITS FALSE NEIGHBOUR: 'it returns false'. Refute it at one input. -/
def fnExactTotalOfWrong : ChangeSpec := { name := "fnExactTotalOf", fn := fun _ => fun
  | [d] => { results := [.lit (.bool false)], args := [d] }
  | _ => none }
def FnExactTotalOfWrongFalsely : Prop := fnExactTotalOfRow.holds Try.pinned (OpenSpec.ofChange fnExactTotalOfWrong)

/-- 'laws.FnExactPutVar': WHATEVER THE INPUT: true; the input reads as it did. -/
def fnExactPutVarSpec : ChangeSpec := { name := "fnExactPutVar", fn := fun _ => fun
  | [d] => { results := [.lit (.bool true)], args := [d] }
  | _ => none }
def fnExactPutVarRow : OpenClaim := { program := "ytmjmcgheeljieaa", sum := "3e9ebe12cf6d62803d8a7d6fd1a829193a8a37f07bdfcb65fdf521701c2b3d2d", func := "loop.example/g00539/laws.FnExactPutVar", spec := "fnExactPutVar", apart := false }
def FnExactPutVarSaid : Prop := fnExactPutVarRow.holds Try.pinned (OpenSpec.ofChange fnExactPutVarSpec)

/-- ITS FALSE NEIGHBOUR: 'it returns false'. Refute it at one input. -/
def fnExactPutVarWrong : ChangeSpec := { name := "fnExactPutVar", fn := fun _ => fun
  | [d] => { results := [.lit (.bool false)], args := [d] }
  | _ => none }
def FnExactPutVarWrongFalsely : Prop := fnExactPutVarRow.holds Try.pinned (OpenSpec.ofChange fnExactPutVarWrong)

/-- 'laws.FnExactSameVals': WHATEVER THE INPUT: true; the input reads as it did. -/
def fnExactSameValsSpec : ChangeSpec := { name := "fnExactSameVals", fn := fun _ => fun
  | [d1, d2] => { results := [.lit (.bool true)], args := [d1, d2] }
  | _ => none }
def fnExactSameValsRow : OpenClaim := { program := "ytmjmcgheeljieaa", sum := "3e9ebe12cf6d62803d8a7d6fd1a829193a8a37f07bdfcb65fdf521701c2b3d2d", func := "loop.example/g00539/laws.FnExactSameVals", spec := "fnExactSameVals", apart := false }
def FnExactSameValsSaid : Prop := fnExactSameValsRow.holds Try.pinned (OpenSpec.ofChange fnExactSameValsSpec)

/-- ITS FALSE NEIGHBOUR: 'it returns false'. Refute it at one input. -/
def fnExactSameValsWrong : ChangeSpec := { name := "fnExactSameVals", fn := fun _ => fun
  | [d1, d2] => { results := [.lit (.bool false)], args := [d1, d2] }
  | _ => none }
def FnExactSameValsWrongFalsely : Prop := fnExactSameValsRow.holds Try.pinned (OpenSpec.ofChange fnExactSameValsWrong)

/-- 'laws.FnTargets': WHATEVER THE INPUT: true; the input reads as it did. -/
def fnTargetsSpec : ChangeSpec := { name := "fnTargets", fn := fun _ => fun
  | [d] => { results := [.lit (.bool true)], args := [d] }
  | _ => none }
def fnTargetsRow : OpenClaim := { program := "ytmjmcgheeljieaa", sum := "3e9ebe12cf6d62803d8a7d6fd1a829193a8a37f07bdfcb65fdf521701c2b3d2d", func := "loop.example/g00539/laws.FnTargets", spec := "fnTargets", apart := false }
def FnTargetsSaid : Prop := fnTargetsRow.holds Try.pinned (OpenSpec.ofChange fnTargetsSpec)

/-- ITS FALSE NEIGHBOUR: 'it returns false'. Refute it at one input. -/
def fnTargetsWrong : ChangeSpec := { name := "fnTargets", fn := fun _ => fun
  | [d] => { results := [.lit (.bool false)], args := [d] }
  | _ => none }
def FnTargetsWrongFalsely : Prop := fnTargetsRow.holds Try.pinned (OpenSpec.ofChange fnTargetsWrong)

/-- 'laws.FnExactLaterLock': WHATEVER THE INPUT: true; the input reads as it did. -/
def fnExactLaterLockSpec : ChangeSpec := { name := "fnExactLaterLock", fn := fun _ => fun
  | [d1, d2] => { results := [.lit (.bool true)], args := [d1, d2] }
  | _ => none }
def fnExactLaterLockRow : OpenClaim := { program := "ytmjmcgheeljieaa", sum := "3e9ebe12cf6d62803d8a7d6fd1a829193a8a37f07bdfcb65fdf521701c2b3d2d", func := "loop.example/g00539/laws.FnExactLaterLock", spec := "fnExactLaterLock", apart := false }
def FnExactLaterLockSaid : Prop := fnExactLaterLockRow.holds Try.pinned (OpenSpec.ofChange fnExactLaterLockSpec)

/-- ITS FALSE NEIGHBOUR: 'it returns false'. Refute it at one input. -/
def fnExactLaterLockWrong : ChangeSpec := { name := "fnExactLaterLock", fn := fun _ => fun
  | [d1, d2] => { results := [.lit (.bool false)], args := [d1, d2] }
  | _ => none }
def FnExactLaterLockWrongFalsely : Prop := fnExactLaterLockRow.holds Try.pinned (OpenSpec.ofChange fnExactLaterLockWrong)

/-- 'laws.FnExactPairLock': WHATEVER THE INPUT: true; the input reads as it did. -/
def fnExactPairLockSpec : ChangeSpec := { name := "fnExactPairLock", fn := fun _ => fun
  | [d1, d2] => { results := [.lit (.bool true)], args := [d1, d2] }
  | _ => none }
def fnExactPairLockRow : OpenClaim := { program := "ytmjmcgheeljieaa", sum := "3e9ebe12cf6d62803d8a7d6fd1a829193a8a37f07bdfcb65fdf521701c2b3d2d", func := "loop.example/g00539/laws.FnExactPairLock", spec := "fnExactPairLock", apart := false }
def FnExactPairLockSaid : Prop := fnExactPairLockRow.holds Try.pinned (OpenSpec.ofChange fnExactPairLockSpec)

/-- ITS FALSE NEIGHBOUR: 'it returns false'. Refute it at one input. -/
def fnExactPairLockWrong : ChangeSpec := { name := "fnExactPairLock", fn := fun _ => fun
  | [d1, d2] => { results := [.lit (.bool false)], args := [d1, d2] }
  | _ => none }
def FnExactPairLockWrongFalsely : Prop := fnExactPairLockRow.holds Try.pinned (OpenSpec.ofChange fnExactPairLockWrong)

/-- 'laws.FnExactSumInts': WHATEVER THE INPUT: true; the input reads as it did. -/
def fnExactSumIntsSpec : ChangeSpec := { name := "fnExactSumInts", fn := fun _ => fun
  | [d] => { results := [.lit (.bool true)], args := [d] }
  | _ => none }
def fnExactSumIntsRow : OpenClaim := { program := "ytmjmcgheeljieaa", sum := "3e9ebe12cf6d62803d8a7d6fd1a829193a8a37f07bdfcb65fdf521701c2b3d2d", func := "loop.example/g00539/laws.FnExactSumInts", spec := "fnExactSumInts", unfollowed := true, recurses := true, apart := false }
def FnExactSumIntsSaid : Prop := fnExactSumIntsRow.holds Try.pinned (OpenSpec.ofChange fnExactSumIntsSpec)

/-- ITS FALSE NEIGHBOUR: 'it returns false'. Refute it at one input. -/
def fnExactSumIntsWrong : ChangeSpec := { name := "fnExactSumInts", fn := fun _ => fun
  | [d] => { results := [.lit (.bool false)], args := [d] }
  | _ => none }
def FnExactSumIntsWrongFalsely : Prop := fnExactSumIntsRow.holds Try.pinned (OpenSpec.ofChange fnExactSumIntsWrong)

/-- 'laws.FnExactClimbOf': WHATEVER THE INPUT: true; the input reads as it did. -/
def fnExactClimbOfSpec : ChangeSpec := { name := "fnExactClimbOf", fn := fun _ => fun
  | [d1, d2, d3] => { results := [.lit (.bool true)], args := [d1, d2, d3] }
  | _ => none }
def fnExactClimbOfRow : OpenClaim := { program := "ytmjmcgheeljieaa", sum := "3e9ebe12cf6d62803d8a7d6fd1a829193a8a37f07bdfcb65fdf521701c2b3d2d", func := "loop.example/g00539/laws.FnExactClimbOf", spec := "fnExactClimbOf", unfollowed := true, recurses := true, apart := false }
def FnExactClimbOfSaid : Prop := fnExactClimbOfRow.holds Try.pinned (OpenSpec.ofChange fnExactClimbOfSpec)

/-- ITS FALSE NEIGHBOUR: 'it returns false'. Refute it at one input. -/
def fnExactClimbOfWrong : ChangeSpec := { name := "fnExactClimbOf", fn := fun _ => fun
  | [d1, d2, d3] => { results := [.lit (.bool false)], args := [d1, d2, d3] }
  | _ => none }
def FnExactClimbOfWrongFalsely : Prop := fnExactClimbOfRow.holds Try.pinned (OpenSpec.ofChange fnExactClimbOfWrong)

/-- 'laws.FnExactSameCoins': WHATEVER THE INPUT: true; the input reads as it did. -/
def fnExactSameCoinsSpec : ChangeSpec := { name := "fnExactSameCoins", fn := fun _ => fun
  | [d1, d2] => { results := [.lit (.bool true)], args := [d1, d2] }
  | _ => none }
def fnExactSameCoinsRow : OpenClaim := { program := "ytmjmcgheeljieaa", sum := "3e9ebe12cf6d62803d8a7d6fd1a829193a8a37f07bdfcb65fdf521701c2b3d2d", func := "loop.example/g00539/laws.FnExactSameCoins", spec := "fnExactSameCoins", unfollowed := true, recurses := true, apart := false }
def FnExactSameCoinsSaid : Prop := fnExactSameCoinsRow.holds Try.pinned (OpenSpec.ofChange fnExactSameCoinsSpec)

/-- ITS FALSE NEIGHBOUR: 'it returns false'. Refute it at one input. -/
def fnExactSameCoinsWrong : ChangeSpec := { name := "fnExactSameCoins", fn := fun _ => fun
  | [d1, d2] => { results := [.lit (.bool false)], args := [d1, d2] }
  | _ => none }
def FnExactSameCoinsWrongFalsely : Prop := fnExactSameCoinsRow.holds Try.pinned (OpenSpec.ofChange fnExactSameCoinsWrong)

/-- 'laws.FnExactHasTwin': WHATEVER THE INPUT: true; the input reads as it did. -/
def fnExactHasTwinSpec : ChangeSpec := { name := "fnExactHasTwin", fn := fun _ => fun
  | [d] => { results := [.lit (.bool true)], args := [d] }
  | _ => none }
def fnExactHasTwinRow : OpenClaim := { program := "ytmjmcgheeljieaa", sum := "3e9ebe12cf6d62803d8a7d6fd1a829193a8a37f07bdfcb65fdf521701c2b3d2d", func := "loop.example/g00539/laws.FnExactHasTwin", spec := "fnExactHasTwin", unfollowed := true, recurses := true, apart := false }
def FnExactHasTwinSaid : Prop := fnExactHasTwinRow.holds Try.pinned (OpenSpec.ofChange fnExactHasTwinSpec)

/-- ITS FALSE NEIGHBOUR: 'it returns false'. Refute it at one input. -/
def fnExactHasTwinWrong : ChangeSpec := { name := "fnExactHasTwin", fn := fun _ => fun
  | [d] => { results := [.lit (.bool false)], args := [d] }
  | _ => none }
def FnExactHasTwinWrongFalsely : Prop := fnExactHasTwinRow.holds Try.pinned (OpenSpec.ofChange fnExactHasTwinWrong)

/-- 'laws.FnExactRootOf': WHATEVER THE INPUT: true; the input reads as it did. -/
def fnExactRootOfSpec : ChangeSpec := { name := "fnExactRootOf", fn := fun _ => fun
  | [d] => { results := [.lit (.bool true)], args := [d] }
  | _ => none }
def fnExactRootOfRow : OpenClaim := { program := "ytmjmcgheeljieaa", sum := "3e9ebe12cf6d62803d8a7d6fd1a829193a8a37f07bdfcb65fdf521701c2b3d2d", func := "loop.example/g00539/laws.FnExactRootOf", spec := "fnExactRootOf", unfollowed := true, recurses := true, apart := false }
def FnExactRootOfSaid : Prop := fnExactRootOfRow.holds Try.pinned (OpenSpec.ofChange fnExactRootOfSpec)

/-- ITS FALSE NEIGHBOUR: 'it returns false'. Refute it at one input. -/
def fnExactRootOfWrong : ChangeSpec := { name := "fnExactRootOf", fn := fun _ => fun
  | [d] => { results := [.lit (.bool false)], args := [d] }
  | _ => none }
def FnExactRootOfWrongFalsely : Prop := fnExactRootOfRow.holds Try.pinned (OpenSpec.ofChange fnExactRootOfWrong)

/-- 'laws.FnExactBranchOf': WHATEVER THE INPUT: true; the input reads as it did. -/
def fnExactBranchOfSpec : ChangeSpec := { name := "fnExactBranchOf", fn := fun _ => fun
  | [d1, d2] => { results := [.lit (.bool true)], args := [d1, d2] }
  | _ => none }
def fnExactBranchOfRow : OpenClaim := { program := "ytmjmcgheeljieaa", sum := "3e9ebe12cf6d62803d8a7d6fd1a829193a8a37f07bdfcb65fdf521701c2b3d2d", func := "loop.example/g00539/laws.FnExactBranchOf", spec := "fnExactBranchOf", unfollowed := true, recurses := true, apart := false }
def FnExactBranchOfSaid : Prop := fnExactBranchOfRow.holds Try.pinned (OpenSpec.ofChange fnExactBranchOfSpec)

/-- ITS FALSE NEIGHBOUR: 'it returns false'. Refute it at one input. -/
def fnExactBranchOfWrong : ChangeSpec := { name := "fnExactBranchOf", fn := fun _ => fun
  | [d1, d2] => { results := [.lit (.bool false)], args := [d1, d2] }
  | _ => none }
def FnExactBranchOfWrongFalsely : Prop := fnExactBranchOfRow.holds Try.pinned (OpenSpec.ofChange fnExactBranchOfWrong)

/- THE SECOND FORM. 'bulk': how many values and letters a reading holds, each counted each time it is reached (what is shared counts as often as it is met; a slice's spare places count too). A statement '..UptoSaid' is the law's where the arguments, and the package variables that the reading takes, are together of bulk at most 1048576: NARROWER than '..Said'. Prove '..Said' where nothing that the law and all that it calls make is longer than what came in: it says more and counts as full. Else prove '..UptoSaid'. A law counts once. -/
mutual
def uptoBulk {H : Type} : DataW H → Nat
  | .lit (.string bytes) => bytes.length + 1
  | .lit _ => 1
  | .nil => 1
  | .ptr d => uptoBulk d + 1
  | .slice elems spare => uptoBulkAll elems + uptoBulkAll spare + 1
  | .agg parts => uptoBulkAll parts + 1
  | .iface _ d => uptoBulk d + 1
  | .map entries => uptoBulkEntries entries + 1
  | .held _ => 1
def uptoBulkAll {H : Type} : List (DataW H) → Nat
  | [] => 0
  | d :: r => uptoBulk d + uptoBulkAll r
def uptoBulkEntries {H : Type} : List (Lit × DataW H) → Nat
  | [] => 0
  | x :: r => uptoBulkEntry x + uptoBulkEntries r
def uptoBulkEntry {H : Type} : Lit × DataW H → Nat
  | (.string bytes, d) => bytes.length + uptoBulk d + 1
  | (_, d) => uptoBulk d + 1
 end
def uptoSmall : (H : Type) → List (DataW H) → Bool := fun _ ds => decide (uptoBulkAll ds ≤ 1048576)
def OpenSpec.upto (s : _root_.Go.ChangeSpec) : _root_.Go.OpenSpec := { _root_.Go.OpenSpec.ofChange s with cond := some uptoSmall }

/-- 'laws.FnExactTotalOf', WHERE WHAT IT READS IS OF BULK AT MOST 1048576: true; the input reads as it did. -/
def fnExactTotalOfUptoRow : OpenClaim := { program := "ytmjmcgheeljieaa", sum := "3e9ebe12cf6d62803d8a7d6fd1a829193a8a37f07bdfcb65fdf521701c2b3d2d", func := "loop.example/g00539/laws.FnExactTotalOf", spec := "fnExactTotalOf", apart := false, narrowed := true }
def FnExactTotalOfUptoSaid : Prop := fnExactTotalOfUptoRow.holds Try.pinned (OpenSpec.upto fnExactTotalOfSpec)

/-- 'laws.FnExactPutVar', WHERE WHAT IT READS IS OF BULK AT MOST 1048576: true; the input reads as it did. -/
def fnExactPutVarUptoRow : OpenClaim := { program := "ytmjmcgheeljieaa", sum := "3e9ebe12cf6d62803d8a7d6fd1a829193a8a37f07bdfcb65fdf521701c2b3d2d", func := "loop.example/g00539/laws.FnExactPutVar", spec := "fnExactPutVar", apart := false, narrowed := true }
def FnExactPutVarUptoSaid : Prop := fnExactPutVarUptoRow.holds Try.pinned (OpenSpec.upto fnExactPutVarSpec)

/-- 'laws.FnExactSameVals', WHERE WHAT IT READS IS OF BULK AT MOST 1048576: true; the input reads as it did. -/
def fnExactSameValsUptoRow : OpenClaim := { program := "ytmjmcgheeljieaa", sum := "3e9ebe12cf6d62803d8a7d6fd1a829193a8a37f07bdfcb65fdf521701c2b3d2d", func := "loop.example/g00539/laws.FnExactSameVals", spec := "fnExactSameVals", apart := false, narrowed := true }
def FnExactSameValsUptoSaid : Prop := fnExactSameValsUptoRow.holds Try.pinned (OpenSpec.upto fnExactSameValsSpec)

/-- 'laws.FnTargets', WHERE WHAT IT READS IS OF BULK AT MOST 1048576: true; the input reads as it did. -/
def fnTargetsUptoRow : OpenClaim := { program := "ytmjmcgheeljieaa", sum := "3e9ebe12cf6d62803d8a7d6fd1a829193a8a37f07bdfcb65fdf521701c2b3d2d", func := "loop.example/g00539/laws.FnTargets", spec := "fnTargets", apart := false, narrowed := true }
def FnTargetsUptoSaid : Prop := fnTargetsUptoRow.holds Try.pinned (OpenSpec.upto fnTargetsSpec)

/-- 'laws.FnExactLaterLock', WHERE WHAT IT READS IS OF BULK AT MOST 1048576: true; the input reads as it did. -/
def fnExactLaterLockUptoRow : OpenClaim := { program := "ytmjmcgheeljieaa", sum := "3e9ebe12cf6d62803d8a7d6fd1a829193a8a37f07bdfcb65fdf521701c2b3d2d", func := "loop.example/g00539/laws.FnExactLaterLock", spec := "fnExactLaterLock", apart := false, narrowed := true }
def FnExactLaterLockUptoSaid : Prop := fnExactLaterLockUptoRow.holds Try.pinned (OpenSpec.upto fnExactLaterLockSpec)

/-- 'laws.FnExactPairLock', WHERE WHAT IT READS IS OF BULK AT MOST 1048576: true; the input reads as it did. -/
def fnExactPairLockUptoRow : OpenClaim := { program := "ytmjmcgheeljieaa", sum := "3e9ebe12cf6d62803d8a7d6fd1a829193a8a37f07bdfcb65fdf521701c2b3d2d", func := "loop.example/g00539/laws.FnExactPairLock", spec := "fnExactPairLock", apart := false, narrowed := true }
def FnExactPairLockUptoSaid : Prop := fnExactPairLockUptoRow.holds Try.pinned (OpenSpec.upto fnExactPairLockSpec)

/-- 'laws.FnExactSumInts', WHERE WHAT IT READS IS OF BULK AT MOST 1048576: true; the input reads as it did. -/
def fnExactSumIntsUptoRow : OpenClaim := { program := "ytmjmcgheeljieaa", sum := "3e9ebe12cf6d62803d8a7d6fd1a829193a8a37f07bdfcb65fdf521701c2b3d2d", func := "loop.example/g00539/laws.FnExactSumInts", spec := "fnExactSumInts", unfollowed := true, recurses := true, apart := false, narrowed := true }
def FnExactSumIntsUptoSaid : Prop := fnExactSumIntsUptoRow.holds Try.pinned (OpenSpec.upto fnExactSumIntsSpec)

/-- 'laws.FnExactClimbOf', WHERE WHAT IT READS IS OF BULK AT MOST 1048576: true; the input reads as it did. -/
def fnExactClimbOfUptoRow : OpenClaim := { program := "ytmjmcgheeljieaa", sum := "3e9ebe12cf6d62803d8a7d6fd1a829193a8a37f07bdfcb65fdf521701c2b3d2d", func := "loop.example/g00539/laws.FnExactClimbOf", spec := "fnExactClimbOf", unfollowed := true, recurses := true, apart := false, narrowed := true }
def FnExactClimbOfUptoSaid : Prop := fnExactClimbOfUptoRow.holds Try.pinned (OpenSpec.upto fnExactClimbOfSpec)

/-- 'laws.FnExactSameCoins', WHERE WHAT IT READS IS OF BULK AT MOST 1048576: true; the input reads as it did. -/
def fnExactSameCoinsUptoRow : OpenClaim := { program := "ytmjmcgheeljieaa", sum := "3e9ebe12cf6d62803d8a7d6fd1a829193a8a37f07bdfcb65fdf521701c2b3d2d", func := "loop.example/g00539/laws.FnExactSameCoins", spec := "fnExactSameCoins", unfollowed := true, recurses := true, apart := false, narrowed := true }
def FnExactSameCoinsUptoSaid : Prop := fnExactSameCoinsUptoRow.holds Try.pinned (OpenSpec.upto fnExactSameCoinsSpec)

/-- 'laws.FnExactHasTwin', WHERE WHAT IT READS IS OF BULK AT MOST 1048576: true; the input reads as it did. -/
def fnExactHasTwinUptoRow : OpenClaim := { program := "ytmjmcgheeljieaa", sum := "3e9ebe12cf6d62803d8a7d6fd1a829193a8a37f07bdfcb65fdf521701c2b3d2d", func := "loop.example/g00539/laws.FnExactHasTwin", spec := "fnExactHasTwin", unfollowed := true, recurses := true, apart := false, narrowed := true }
def FnExactHasTwinUptoSaid : Prop := fnExactHasTwinUptoRow.holds Try.pinned (OpenSpec.upto fnExactHasTwinSpec)

/-- 'laws.FnExactRootOf', WHERE WHAT IT READS IS OF BULK AT MOST 1048576: true; the input reads as it did. -/
def fnExactRootOfUptoRow : OpenClaim := { program := "ytmjmcgheeljieaa", sum := "3e9ebe12cf6d62803d8a7d6fd1a829193a8a37f07bdfcb65fdf521701c2b3d2d", func := "loop.example/g00539/laws.FnExactRootOf", spec := "fnExactRootOf", unfollowed := true, recurses := true, apart := false, narrowed := true }
def FnExactRootOfUptoSaid : Prop := fnExactRootOfUptoRow.holds Try.pinned (OpenSpec.upto fnExactRootOfSpec)

/-- 'laws.FnExactBranchOf', WHERE WHAT IT READS IS OF BULK AT MOST 1048576: true; the input reads as it did. -/
def fnExactBranchOfUptoRow : OpenClaim := { program := "ytmjmcgheeljieaa", sum := "3e9ebe12cf6d62803d8a7d6fd1a829193a8a37f07bdfcb65fdf521701c2b3d2d", func := "loop.example/g00539/laws.FnExactBranchOf", spec := "fnExactBranchOf", unfollowed := true, recurses := true, apart := false, narrowed := true }
def FnExactBranchOfUptoSaid : Prop := fnExactBranchOfUptoRow.holds Try.pinned (OpenSpec.upto fnExactBranchOfSpec)

end Rows
end Go.Proofs.Ytmjmcgheeljieaa
