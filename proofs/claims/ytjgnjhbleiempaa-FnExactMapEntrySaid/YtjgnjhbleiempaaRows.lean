/-
  No cell of these rows narrows 'for every input' (looked for: loops, veiled, ifaces, maps, wideKeys, modest, calm, conditions, laid).
  DERIVED. THE GIVEN ROWS OF THIS SEAT. 10 by the template 'for every input the law returns true; each argument reads behind the call as it read before'; 0 by the template 'total and deterministic' (their statements: YtjgnjhbleiempaaTotals.lean).
  GIVEN WITH THE SEED: the statements are not yours to turn. If you find one false, say at which input.
  Laid BY PROGRAM, IN A SANDBOX (cutbox-rows.mjs): the forced cells as the released guide's own fill.sh prints them over the translation 9b7e445f835463b2… (all of the seat's roots in one cut). By AI agents, Wed Nov 11 2026. No macro, syntax, notation, axiom, sorry.
-/
import Derived.Test.YtjgnjhbleiempaaChecked
import GoSem.Claim
import GoSem.ClaimJoined
import GoSem.ClaimMapViews
import Derived.JoinedTies
import Derived.KernelRfl
namespace Go.Proofs.Ytjgnjhbleiempaa
/- THE CELL 'sum', in the pinned program and in every row, IS THE sha256 OF THE DUMP (.gsa) THAT YtjgnjhbleiempaaProg.lean LOADS. Nothing in Lean hashes anything: it is a label: what it is worth is what the hold of that sum in a sandbox is worth. -/
noncomputable def Try.pinned : Pinned := { name := "ytjgnjhbleiempaa", sum := "9b7e445f835463b21a2db0a7b3e03fc4b57576bfc5a917b98414e379de94355e", checked := Try.checked }
namespace Rows
def none {H : Type} : Left H := { results := [], args := [] }

/-- 'laws.FnTwins': WHATEVER THE INPUT: true; the input reads as it did. -/
def fnTwinsSpec : ChangeSpec := { name := "fnTwins", fn := fun _ => fun
  | [d] => { results := [.lit (.bool true)], args := [d] }
  | _ => none }
def fnTwinsRow : OpenClaim := { program := "ytjgnjhbleiempaa", sum := "9b7e445f835463b21a2db0a7b3e03fc4b57576bfc5a917b98414e379de94355e", func := "loop.example/g00539/laws.FnTwins", spec := "fnTwins", unfollowed := true, recurses := true, apart := false }
def FnTwinsSaid : Prop := fnTwinsRow.holds Try.pinned (OpenSpec.ofChange fnTwinsSpec)

/-- ITS FALSE NEIGHBOUR: 'it returns false'. Refute it at one input. -/
def fnTwinsWrong : ChangeSpec := { name := "fnTwins", fn := fun _ => fun
  | [d] => { results := [.lit (.bool false)], args := [d] }
  | _ => none }
def FnTwinsWrongFalsely : Prop := fnTwinsRow.holds Try.pinned (OpenSpec.ofChange fnTwinsWrong)

/-- 'laws.FnMoney': WHATEVER THE INPUT: true; the input reads as it did. -/
def fnMoneySpec : ChangeSpec := { name := "fnMoney", fn := fun _ => fun
  | [d] => { results := [.lit (.bool true)], args := [d] }
  | _ => none }
def fnMoneyRow : OpenClaim := { program := "ytjgnjhbleiempaa", sum := "9b7e445f835463b21a2db0a7b3e03fc4b57576bfc5a917b98414e379de94355e", func := "loop.example/g00539/laws.FnMoney", spec := "fnMoney", unfollowed := true, recurses := true, apart := false }
def FnMoneySaid : Prop := fnMoneyRow.holds Try.pinned (OpenSpec.ofChange fnMoneySpec)

/-- ITS FALSE NEIGHBOUR: 'it returns false'. Refute it at one input. -/
def fnMoneyWrong : ChangeSpec := { name := "fnMoney", fn := fun _ => fun
  | [d] => { results := [.lit (.bool false)], args := [d] }
  | _ => none }
def FnMoneyWrongFalsely : Prop := fnMoneyRow.holds Try.pinned (OpenSpec.ofChange fnMoneyWrong)

/-- 'laws.FnExactSameTxs': WHATEVER THE INPUT: true; the input reads as it did. -/
def fnExactSameTxsSpec : ChangeSpec := { name := "fnExactSameTxs", fn := fun _ => fun
  | [d1, d2] => { results := [.lit (.bool true)], args := [d1, d2] }
  | _ => none }
def fnExactSameTxsRow : OpenClaim := { program := "ytjgnjhbleiempaa", sum := "9b7e445f835463b21a2db0a7b3e03fc4b57576bfc5a917b98414e379de94355e", func := "loop.example/g00539/laws.FnExactSameTxs", spec := "fnExactSameTxs", unfollowed := true, recurses := true, apart := false }
def FnExactSameTxsSaid : Prop := fnExactSameTxsRow.holds Try.pinned (OpenSpec.ofChange fnExactSameTxsSpec)

/-- ITS FALSE NEIGHBOUR: 'it returns false'. Refute it at one input. -/
def fnExactSameTxsWrong : ChangeSpec := { name := "fnExactSameTxs", fn := fun _ => fun
  | [d1, d2] => { results := [.lit (.bool false)], args := [d1, d2] }
  | _ => none }
def FnExactSameTxsWrongFalsely : Prop := fnExactSameTxsRow.holds Try.pinned (OpenSpec.ofChange fnExactSameTxsWrong)

/-- 'laws.FnExactCoinsFault': WHATEVER THE INPUT: true; the input reads as it did. -/
def fnExactCoinsFaultSpec : ChangeSpec := { name := "fnExactCoinsFault", fn := fun _ => fun
  | [d] => { results := [.lit (.bool true)], args := [d] }
  | _ => none }
def fnExactCoinsFaultRow : OpenClaim := { program := "ytjgnjhbleiempaa", sum := "9b7e445f835463b21a2db0a7b3e03fc4b57576bfc5a917b98414e379de94355e", func := "loop.example/g00539/laws.FnExactCoinsFault", spec := "fnExactCoinsFault", unfollowed := true, recurses := true, apart := false }
def FnExactCoinsFaultSaid : Prop := fnExactCoinsFaultRow.holds Try.pinned (OpenSpec.ofChange fnExactCoinsFaultSpec)

/-- ITS FALSE NEIGHBOUR: 'it returns false'. Refute it at one input. -/
def fnExactCoinsFaultWrong : ChangeSpec := { name := "fnExactCoinsFault", fn := fun _ => fun
  | [d] => { results := [.lit (.bool false)], args := [d] }
  | _ => none }
def FnExactCoinsFaultWrongFalsely : Prop := fnExactCoinsFaultRow.holds Try.pinned (OpenSpec.ofChange fnExactCoinsFaultWrong)

/-- 'laws.FnExactValsFault': WHATEVER THE INPUT: true; the input reads as it did. -/
def fnExactValsFaultSpec : ChangeSpec := { name := "fnExactValsFault", fn := fun _ => fun
  | [d] => { results := [.lit (.bool true)], args := [d] }
  | _ => none }
def fnExactValsFaultRow : OpenClaim := { program := "ytjgnjhbleiempaa", sum := "9b7e445f835463b21a2db0a7b3e03fc4b57576bfc5a917b98414e379de94355e", func := "loop.example/g00539/laws.FnExactValsFault", spec := "fnExactValsFault", recurses := true, apart := false }
def FnExactValsFaultSaid : Prop := fnExactValsFaultRow.holds Try.pinned (OpenSpec.ofChange fnExactValsFaultSpec)

/-- ITS FALSE NEIGHBOUR: 'it returns false'. Refute it at one input. -/
def fnExactValsFaultWrong : ChangeSpec := { name := "fnExactValsFault", fn := fun _ => fun
  | [d] => { results := [.lit (.bool false)], args := [d] }
  | _ => none }
def FnExactValsFaultWrongFalsely : Prop := fnExactValsFaultRow.holds Try.pinned (OpenSpec.ofChange fnExactValsFaultWrong)

/-- 'laws.FnExactWorthOf': WHATEVER THE INPUT: true; the input reads as it did. -/
def fnExactWorthOfSpec : ChangeSpec := { name := "fnExactWorthOf", fn := fun _ => fun
  | [d] => { results := [.lit (.bool true)], args := [d] }
  | _ => none }
def fnExactWorthOfRow : OpenClaim := { program := "ytjgnjhbleiempaa", sum := "9b7e445f835463b21a2db0a7b3e03fc4b57576bfc5a917b98414e379de94355e", func := "loop.example/g00539/laws.FnExactWorthOf", spec := "fnExactWorthOf", unfollowed := true, recurses := true, apart := false }
def FnExactWorthOfSaid : Prop := fnExactWorthOfRow.holds Try.pinned (OpenSpec.ofChange fnExactWorthOfSpec)

/-- ITS FALSE NEIGHBOUR: 'it returns false'. Refute it at one input. -/
def fnExactWorthOfWrong : ChangeSpec := { name := "fnExactWorthOf", fn := fun _ => fun
  | [d] => { results := [.lit (.bool false)], args := [d] }
  | _ => none }
def FnExactWorthOfWrongFalsely : Prop := fnExactWorthOfRow.holds Try.pinned (OpenSpec.ofChange fnExactWorthOfWrong)

/-- 'laws.FnBranches': WHATEVER THE INPUT: true; the input reads as it did. -/
def fnBranchesSpec : ChangeSpec := { name := "fnBranches", fn := fun _ => fun
  | [d] => { results := [.lit (.bool true)], args := [d] }
  | _ => none }
def fnBranchesRow : OpenClaim := { program := "ytjgnjhbleiempaa", sum := "9b7e445f835463b21a2db0a7b3e03fc4b57576bfc5a917b98414e379de94355e", func := "loop.example/g00539/laws.FnBranches", spec := "fnBranches", unfollowed := true, recurses := true, apart := false }
def FnBranchesSaid : Prop := fnBranchesRow.holds Try.pinned (OpenSpec.ofChange fnBranchesSpec)

/-- ITS FALSE NEIGHBOUR: 'it returns false'. Refute it at one input. -/
def fnBranchesWrong : ChangeSpec := { name := "fnBranches", fn := fun _ => fun
  | [d] => { results := [.lit (.bool false)], args := [d] }
  | _ => none }
def FnBranchesWrongFalsely : Prop := fnBranchesRow.holds Try.pinned (OpenSpec.ofChange fnBranchesWrong)

/-- 'laws.FnExactTxFault': WHATEVER THE INPUT: true; the input reads as it did. -/
def fnExactTxFaultSpec : ChangeSpec := { name := "fnExactTxFault", fn := fun _ => fun
  | [d] => { results := [.lit (.bool true)], args := [d] }
  | _ => none }
def fnExactTxFaultRow : OpenClaim := { program := "ytjgnjhbleiempaa", sum := "9b7e445f835463b21a2db0a7b3e03fc4b57576bfc5a917b98414e379de94355e", func := "loop.example/g00539/laws.FnExactTxFault", spec := "fnExactTxFault", unfollowed := true, recurses := true, apart := false }
def FnExactTxFaultSaid : Prop := fnExactTxFaultRow.holds Try.pinned (OpenSpec.ofChange fnExactTxFaultSpec)

/-- ITS FALSE NEIGHBOUR: 'it returns false'. Refute it at one input. -/
def fnExactTxFaultWrong : ChangeSpec := { name := "fnExactTxFault", fn := fun _ => fun
  | [d] => { results := [.lit (.bool false)], args := [d] }
  | _ => none }
def FnExactTxFaultWrongFalsely : Prop := fnExactTxFaultRow.holds Try.pinned (OpenSpec.ofChange fnExactTxFaultWrong)

/-- 'laws.FnExactFindCoin': WHATEVER THE INPUT: true; the input reads as it did. -/
def fnExactFindCoinSpec : ChangeSpec := { name := "fnExactFindCoin", fn := fun _ => fun
  | [d1, d2, d3] => { results := [.lit (.bool true)], args := [d1, d2, d3] }
  | _ => none }
def fnExactFindCoinRow : OpenClaim := { program := "ytjgnjhbleiempaa", sum := "9b7e445f835463b21a2db0a7b3e03fc4b57576bfc5a917b98414e379de94355e", func := "loop.example/g00539/laws.FnExactFindCoin", spec := "fnExactFindCoin", unfollowed := true, recurses := true, apart := false }
def FnExactFindCoinSaid : Prop := fnExactFindCoinRow.holds Try.pinned (OpenSpec.ofChange fnExactFindCoinSpec)

/-- ITS FALSE NEIGHBOUR: 'it returns false'. Refute it at one input. -/
def fnExactFindCoinWrong : ChangeSpec := { name := "fnExactFindCoin", fn := fun _ => fun
  | [d1, d2, d3] => { results := [.lit (.bool false)], args := [d1, d2, d3] }
  | _ => none }
def FnExactFindCoinWrongFalsely : Prop := fnExactFindCoinRow.holds Try.pinned (OpenSpec.ofChange fnExactFindCoinWrong)

/-- 'laws.FnExactMapEntry': WHATEVER THE INPUT: true; the input reads as it did. -/
def fnExactMapEntrySpec : ChangeSpec := { name := "fnExactMapEntry", fn := fun _ => fun
  | [d1, d2] => { results := [.lit (.bool true)], args := [d1, d2] }
  | _ => none }
def fnExactMapEntryRow : OpenClaim := { program := "ytjgnjhbleiempaa", sum := "9b7e445f835463b21a2db0a7b3e03fc4b57576bfc5a917b98414e379de94355e", func := "loop.example/g00539/laws.FnExactMapEntry", spec := "fnExactMapEntry", recurses := true, apart := false }
def FnExactMapEntrySaid : Prop := fnExactMapEntryRow.holds Try.pinned (OpenSpec.ofChange fnExactMapEntrySpec)

/-- ITS FALSE NEIGHBOUR: 'it returns false'. Refute it at one input. -/
def fnExactMapEntryWrong : ChangeSpec := { name := "fnExactMapEntry", fn := fun _ => fun
  | [d1, d2] => { results := [.lit (.bool false)], args := [d1, d2] }
  | _ => none }
def FnExactMapEntryWrongFalsely : Prop := fnExactMapEntryRow.holds Try.pinned (OpenSpec.ofChange fnExactMapEntryWrong)

/- THE SECOND FORM. 'bulk': how many values and letters a reading holds, each counted each time it is reached (what is shared counts as often as it is met; a slice's spare places count too). A statement '..UptoSaid' is the law's where the arguments, and the package variables that the reading takes, are together of bulk at most 1048576: NARROWER than '..Said'. Prove '..Said' where nothing that the law and all that it calls make is longer than what came in: it says more and counts as full. Else prove '..UptoSaid'. A law counts once. -/
mutual
def uptoBulk {H : Type} : DataW H → Nat
  | .lit (.string bytes) => bytes.length + 1
  | .lit _ => 1
  | .nil => 1
  | .ptr d => uptoBulk d + 1
  | .slice elems spare => uptoBulkAll elems + uptoBulkAll spare + 1
  | .agg parts => uptoBulkAll parts + 1
  | .iface _ d => uptoBulk d + 1
  | .map entries => uptoBulkEntries entries + 1
  | .held _ => 1
def uptoBulkAll {H : Type} : List (DataW H) → Nat
  | [] => 0
  | d :: r => uptoBulk d + uptoBulkAll r
def uptoBulkEntries {H : Type} : List (Lit × DataW H) → Nat
  | [] => 0
  | x :: r => uptoBulkEntry x + uptoBulkEntries r
def uptoBulkEntry {H : Type} : Lit × DataW H → Nat
  | (.string bytes, d) => bytes.length + uptoBulk d + 1
  | (_, d) => uptoBulk d + 1
 end
def uptoSmall : (H : Type) → List (DataW H) → Bool := fun _ ds => decide (uptoBulkAll ds ≤ 1048576)
def OpenSpec.upto (s : _root_.Go.ChangeSpec) : _root_.Go.OpenSpec := { _root_.Go.OpenSpec.ofChange s with cond := some uptoSmall }

/-- 'laws.FnTwins', WHERE WHAT IT READS IS OF BULK AT MOST 1048576: true; the input reads as it did. -/
def fnTwinsUptoRow : OpenClaim := { program := "ytjgnjhbleiempaa", sum := "9b7e445f835463b21a2db0a7b3e03fc4b57576bfc5a917b98414e379de94355e", func := "loop.example/g00539/laws.FnTwins", spec := "fnTwins", unfollowed := true, recurses := true, apart := false, narrowed := true }
def FnTwinsUptoSaid : Prop := fnTwinsUptoRow.holds Try.pinned (OpenSpec.upto fnTwinsSpec)

/-- 'laws.FnMoney', WHERE WHAT IT READS IS OF BULK AT MOST 1048576: true; the input reads as it did. -/
def fnMoneyUptoRow : OpenClaim := { program := "ytjgnjhbleiempaa", sum := "9b7e445f835463b21a2db0a7b3e03fc4b57576bfc5a917b98414e379de94355e", func := "loop.example/g00539/laws.FnMoney", spec := "fnMoney", unfollowed := true, recurses := true, apart := false, narrowed := true }
def FnMoneyUptoSaid : Prop := fnMoneyUptoRow.holds Try.pinned (OpenSpec.upto fnMoneySpec)

/-- 'laws.FnExactSameTxs', WHERE WHAT IT READS IS OF BULK AT MOST 1048576: true; the input reads as it did. -/
def fnExactSameTxsUptoRow : OpenClaim := { program := "ytjgnjhbleiempaa", sum := "9b7e445f835463b21a2db0a7b3e03fc4b57576bfc5a917b98414e379de94355e", func := "loop.example/g00539/laws.FnExactSameTxs", spec := "fnExactSameTxs", unfollowed := true, recurses := true, apart := false, narrowed := true }
def FnExactSameTxsUptoSaid : Prop := fnExactSameTxsUptoRow.holds Try.pinned (OpenSpec.upto fnExactSameTxsSpec)

/-- 'laws.FnExactCoinsFault', WHERE WHAT IT READS IS OF BULK AT MOST 1048576: true; the input reads as it did. -/
def fnExactCoinsFaultUptoRow : OpenClaim := { program := "ytjgnjhbleiempaa", sum := "9b7e445f835463b21a2db0a7b3e03fc4b57576bfc5a917b98414e379de94355e", func := "loop.example/g00539/laws.FnExactCoinsFault", spec := "fnExactCoinsFault", unfollowed := true, recurses := true, apart := false, narrowed := true }
def FnExactCoinsFaultUptoSaid : Prop := fnExactCoinsFaultUptoRow.holds Try.pinned (OpenSpec.upto fnExactCoinsFaultSpec)

/-- 'laws.FnExactValsFault', WHERE WHAT IT READS IS OF BULK AT MOST 1048576: true; the input reads as it did. -/
def fnExactValsFaultUptoRow : OpenClaim := { program := "ytjgnjhbleiempaa", sum := "9b7e445f835463b21a2db0a7b3e03fc4b57576bfc5a917b98414e379de94355e", func := "loop.example/g00539/laws.FnExactValsFault", spec := "fnExactValsFault", recurses := true, apart := false, narrowed := true }
def FnExactValsFaultUptoSaid : Prop := fnExactValsFaultUptoRow.holds Try.pinned (OpenSpec.upto fnExactValsFaultSpec)

/-- 'laws.FnExactWorthOf', WHERE WHAT IT READS IS OF BULK AT MOST 1048576: true; the input reads as it did. -/
def fnExactWorthOfUptoRow : OpenClaim := { program := "ytjgnjhbleiempaa", sum := "9b7e445f835463b21a2db0a7b3e03fc4b57576bfc5a917b98414e379de94355e", func := "loop.example/g00539/laws.FnExactWorthOf", spec := "fnExactWorthOf", unfollowed := true, recurses := true, apart := false, narrowed := true }
def FnExactWorthOfUptoSaid : Prop := fnExactWorthOfUptoRow.holds Try.pinned (OpenSpec.upto fnExactWorthOfSpec)

/-- 'laws.FnBranches', WHERE WHAT IT READS IS OF BULK AT MOST 1048576: true; the input reads as it did. -/
def fnBranchesUptoRow : OpenClaim := { program := "ytjgnjhbleiempaa", sum := "9b7e445f835463b21a2db0a7b3e03fc4b57576bfc5a917b98414e379de94355e", func := "loop.example/g00539/laws.FnBranches", spec := "fnBranches", unfollowed := true, recurses := true, apart := false, narrowed := true }
def FnBranchesUptoSaid : Prop := fnBranchesUptoRow.holds Try.pinned (OpenSpec.upto fnBranchesSpec)

/-- 'laws.FnExactTxFault', WHERE WHAT IT READS IS OF BULK AT MOST 1048576: true; the input reads as it did. -/
def fnExactTxFaultUptoRow : OpenClaim := { program := "ytjgnjhbleiempaa", sum := "9b7e445f835463b21a2db0a7b3e03fc4b57576bfc5a917b98414e379de94355e", func := "loop.example/g00539/laws.FnExactTxFault", spec := "fnExactTxFault", unfollowed := true, recurses := true, apart := false, narrowed := true }
def FnExactTxFaultUptoSaid : Prop := fnExactTxFaultUptoRow.holds Try.pinned (OpenSpec.upto fnExactTxFaultSpec)

/-- 'laws.FnExactFindCoin', WHERE WHAT IT READS IS OF BULK AT MOST 1048576: true; the input reads as it did. -/
def fnExactFindCoinUptoRow : OpenClaim := { program := "ytjgnjhbleiempaa", sum := "9b7e445f835463b21a2db0a7b3e03fc4b57576bfc5a917b98414e379de94355e", func := "loop.example/g00539/laws.FnExactFindCoin", spec := "fnExactFindCoin", unfollowed := true, recurses := true, apart := false, narrowed := true }
def FnExactFindCoinUptoSaid : Prop := fnExactFindCoinUptoRow.holds Try.pinned (OpenSpec.upto fnExactFindCoinSpec)

/-- 'laws.FnExactMapEntry', WHERE WHAT IT READS IS OF BULK AT MOST 1048576: true; the input reads as it did. -/
def fnExactMapEntryUptoRow : OpenClaim := { program := "ytjgnjhbleiempaa", sum := "9b7e445f835463b21a2db0a7b3e03fc4b57576bfc5a917b98414e379de94355e", func := "loop.example/g00539/laws.FnExactMapEntry", spec := "fnExactMapEntry", recurses := true, apart := false, narrowed := true }
def FnExactMapEntryUptoSaid : Prop := fnExactMapEntryUptoRow.holds Try.pinned (OpenSpec.upto fnExactMapEntrySpec)

end Rows
end Go.Proofs.Ytjgnjhbleiempaa
