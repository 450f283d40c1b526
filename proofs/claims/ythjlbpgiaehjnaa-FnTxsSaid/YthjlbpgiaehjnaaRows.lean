/-
  No cell of these rows narrows 'for every input' (looked for: loops, veiled, ifaces, maps, wideKeys, modest, calm, conditions, laid).
  DERIVED. THE GIVEN ROWS OF THIS SEAT. 7 by the template 'for every input the law returns true; each argument reads behind the call as it read before'; 0 by the template 'total and deterministic' (their statements: YthjlbpgiaehjnaaTotals.lean).
  GIVEN WITH THE SEED: the statements are not yours to turn. If you find one false, say at which input.
  Laid BY PROGRAM, IN A SANDBOX (cutbox-rows.mjs): the forced cells as the released guide's own fill.sh prints them over the translation 36bb8f5d89cfad0a… (all of the seat's roots in one cut). By AI agents, Wed Nov 11 2026. No macro, syntax, notation, axiom, sorry.
-/
import Derived.Test.YthjlbpgiaehjnaaChecked
import GoSem.Claim
import GoSem.ClaimJoined
import GoSem.ClaimMapViews
import Derived.JoinedTies
import Derived.KernelRfl
namespace Go.Proofs.Ythjlbpgiaehjnaa
/- THE CELL 'sum', in the pinned program and in every row, IS THE sha256 OF THE DUMP (.gsa) THAT YthjlbpgiaehjnaaProg.lean LOADS. Nothing in Lean hashes anything: it is a label: what it is worth is what the hold of that sum in a sandbox is worth. -/
noncomputable def Try.pinned : Pinned := { name := "ythjlbpgiaehjnaa", sum := "36bb8f5d89cfad0adf67870ffde3a15ce1d8cb05a032c043317a87335a9a2e84", checked := Try.checked }
namespace Rows
def none {H : Type} : Left H := { results := [], args := [] }

/-- 'laws.FnNames': WHATEVER THE INPUT: true; the input reads as it did. -/
def fnNamesSpec : ChangeSpec := { name := "fnNames", fn := fun _ => fun
  | [d] => { results := [.lit (.bool true)], args := [d] }
  | _ => none }
def fnNamesRow : OpenClaim := { program := "ythjlbpgiaehjnaa", sum := "36bb8f5d89cfad0adf67870ffde3a15ce1d8cb05a032c043317a87335a9a2e84", func := "loop.example/g00539/laws.FnNames", spec := "fnNames", unfollowed := true, recurses := true, apart := false }
def FnNamesSaid : Prop := fnNamesRow.holds Try.pinned (OpenSpec.ofChange fnNamesSpec)

/-- ITS FALSE NEIGHBOUR: 'it returns false'. Refute it at one input. -/
def fnNamesWrong : ChangeSpec := { name := "fnNames", fn := fun _ => fun
  | [d] => { results := [.lit (.bool false)], args := [d] }
  | _ => none }
def FnNamesWrongFalsely : Prop := fnNamesRow.holds Try.pinned (OpenSpec.ofChange fnNamesWrong)

/-- 'laws.FnExactTxSum': WHATEVER THE INPUT: true; the input reads as it did. -/
def fnExactTxSumSpec : ChangeSpec := { name := "fnExactTxSum", fn := fun _ => fun
  | [d] => { results := [.lit (.bool true)], args := [d] }
  | _ => none }
def fnExactTxSumRow : OpenClaim := { program := "ythjlbpgiaehjnaa", sum := "36bb8f5d89cfad0adf67870ffde3a15ce1d8cb05a032c043317a87335a9a2e84", func := "loop.example/g00539/laws.FnExactTxSum", spec := "fnExactTxSum", unfollowed := true, recurses := true, apart := false }
def FnExactTxSumSaid : Prop := fnExactTxSumRow.holds Try.pinned (OpenSpec.ofChange fnExactTxSumSpec)

/-- ITS FALSE NEIGHBOUR: 'it returns false'. Refute it at one input. -/
def fnExactTxSumWrong : ChangeSpec := { name := "fnExactTxSum", fn := fun _ => fun
  | [d] => { results := [.lit (.bool false)], args := [d] }
  | _ => none }
def FnExactTxSumWrongFalsely : Prop := fnExactTxSumRow.holds Try.pinned (OpenSpec.ofChange fnExactTxSumWrong)

/-- 'laws.FnExactReadTx': WHATEVER THE INPUT: true; the input reads as it did. -/
def fnExactReadTxSpec : ChangeSpec := { name := "fnExactReadTx", fn := fun _ => fun
  | [d] => { results := [.lit (.bool true)], args := [d] }
  | _ => none }
def fnExactReadTxRow : OpenClaim := { program := "ythjlbpgiaehjnaa", sum := "36bb8f5d89cfad0adf67870ffde3a15ce1d8cb05a032c043317a87335a9a2e84", func := "loop.example/g00539/laws.FnExactReadTx", spec := "fnExactReadTx", unfollowed := true, recurses := true, apart := false }
def FnExactReadTxSaid : Prop := fnExactReadTxRow.holds Try.pinned (OpenSpec.ofChange fnExactReadTxSpec)

/-- ITS FALSE NEIGHBOUR: 'it returns false'. Refute it at one input. -/
def fnExactReadTxWrong : ChangeSpec := { name := "fnExactReadTx", fn := fun _ => fun
  | [d] => { results := [.lit (.bool false)], args := [d] }
  | _ => none }
def FnExactReadTxWrongFalsely : Prop := fnExactReadTxRow.holds Try.pinned (OpenSpec.ofChange fnExactReadTxWrong)

/-- 'laws.FnExactPackTx': WHATEVER THE INPUT: true; the input reads as it did. -/
def fnExactPackTxSpec : ChangeSpec := { name := "fnExactPackTx", fn := fun _ => fun
  | [d] => { results := [.lit (.bool true)], args := [d] }
  | _ => none }
def fnExactPackTxRow : OpenClaim := { program := "ythjlbpgiaehjnaa", sum := "36bb8f5d89cfad0adf67870ffde3a15ce1d8cb05a032c043317a87335a9a2e84", func := "loop.example/g00539/laws.FnExactPackTx", spec := "fnExactPackTx", unfollowed := true, recurses := true, apart := false }
def FnExactPackTxSaid : Prop := fnExactPackTxRow.holds Try.pinned (OpenSpec.ofChange fnExactPackTxSpec)

/-- ITS FALSE NEIGHBOUR: 'it returns false'. Refute it at one input. -/
def fnExactPackTxWrong : ChangeSpec := { name := "fnExactPackTx", fn := fun _ => fun
  | [d] => { results := [.lit (.bool false)], args := [d] }
  | _ => none }
def FnExactPackTxWrongFalsely : Prop := fnExactPackTxRow.holds Try.pinned (OpenSpec.ofChange fnExactPackTxWrong)

/-- 'laws.FnTxs': WHATEVER THE INPUT: true; the input reads as it did. -/
def fnTxsSpec : ChangeSpec := { name := "fnTxs", fn := fun _ => fun
  | [d] => { results := [.lit (.bool true)], args := [d] }
  | _ => none }
def fnTxsRow : OpenClaim := { program := "ythjlbpgiaehjnaa", sum := "36bb8f5d89cfad0adf67870ffde3a15ce1d8cb05a032c043317a87335a9a2e84", func := "loop.example/g00539/laws.FnTxs", spec := "fnTxs", unfollowed := true, recurses := true, apart := false }
def FnTxsSaid : Prop := fnTxsRow.holds Try.pinned (OpenSpec.ofChange fnTxsSpec)

/-- ITS FALSE NEIGHBOUR: 'it returns false'. Refute it at one input. -/
def fnTxsWrong : ChangeSpec := { name := "fnTxs", fn := fun _ => fun
  | [d] => { results := [.lit (.bool false)], args := [d] }
  | _ => none }
def FnTxsWrongFalsely : Prop := fnTxsRow.holds Try.pinned (OpenSpec.ofChange fnTxsWrong)

/-- 'laws.FnExactBlockFault': WHATEVER THE INPUT: true; the input reads as it did. -/
def fnExactBlockFaultSpec : ChangeSpec := { name := "fnExactBlockFault", fn := fun _ => fun
  | [d] => { results := [.lit (.bool true)], args := [d] }
  | _ => none }
def fnExactBlockFaultRow : OpenClaim := { program := "ythjlbpgiaehjnaa", sum := "36bb8f5d89cfad0adf67870ffde3a15ce1d8cb05a032c043317a87335a9a2e84", func := "loop.example/g00539/laws.FnExactBlockFault", spec := "fnExactBlockFault", unfollowed := true, recurses := true, apart := false }
def FnExactBlockFaultSaid : Prop := fnExactBlockFaultRow.holds Try.pinned (OpenSpec.ofChange fnExactBlockFaultSpec)

/-- ITS FALSE NEIGHBOUR: 'it returns false'. Refute it at one input. -/
def fnExactBlockFaultWrong : ChangeSpec := { name := "fnExactBlockFault", fn := fun _ => fun
  | [d] => { results := [.lit (.bool false)], args := [d] }
  | _ => none }
def FnExactBlockFaultWrongFalsely : Prop := fnExactBlockFaultRow.holds Try.pinned (OpenSpec.ofChange fnExactBlockFaultWrong)

/-- 'laws.FnExactBlockRoot': WHATEVER THE INPUT: true; the input reads as it did. -/
def fnExactBlockRootSpec : ChangeSpec := { name := "fnExactBlockRoot", fn := fun _ => fun
  | [d] => { results := [.lit (.bool true)], args := [d] }
  | _ => none }
def fnExactBlockRootRow : OpenClaim := { program := "ythjlbpgiaehjnaa", sum := "36bb8f5d89cfad0adf67870ffde3a15ce1d8cb05a032c043317a87335a9a2e84", func := "loop.example/g00539/laws.FnExactBlockRoot", spec := "fnExactBlockRoot", unfollowed := true, recurses := true, apart := false }
def FnExactBlockRootSaid : Prop := fnExactBlockRootRow.holds Try.pinned (OpenSpec.ofChange fnExactBlockRootSpec)

/-- ITS FALSE NEIGHBOUR: 'it returns false'. Refute it at one input. -/
def fnExactBlockRootWrong : ChangeSpec := { name := "fnExactBlockRoot", fn := fun _ => fun
  | [d] => { results := [.lit (.bool false)], args := [d] }
  | _ => none }
def FnExactBlockRootWrongFalsely : Prop := fnExactBlockRootRow.holds Try.pinned (OpenSpec.ofChange fnExactBlockRootWrong)

/- THE SECOND FORM. 'bulk': how many values and letters a reading holds, each counted each time it is reached (what is shared counts as often as it is met; a slice's spare places count too). A statement '..UptoSaid' is the law's where the arguments, and the package variables that the reading takes, are together of bulk at most 1048576: NARROWER than '..Said'. Prove '..Said' where nothing that the law and all that it calls make is longer than what came in: it says more and counts as full. Else prove '..UptoSaid'. A law counts once. -/
mutual
def uptoBulk {H : Type} : DataW H → Nat
  | .lit (.string bytes) => bytes.length + 1
  | .lit _ => 1
  | .nil => 1
  | .ptr d => uptoBulk d + 1
  | .slice elems spare => uptoBulkAll elems + uptoBulkAll spare + 1
  | .agg parts => uptoBulkAll parts + 1
  | .iface _ d => uptoBulk d + 1
  | .map entries => uptoBulkEntries entries + 1
  | .held _ => 1
def uptoBulkAll {H : Type} : List (DataW H) → Nat
  | [] => 0
  | d :: r => uptoBulk d + uptoBulkAll r
def uptoBulkEntries {H : Type} : List (Lit × DataW H) → Nat
  | [] => 0
  | x :: r => uptoBulkEntry x + uptoBulkEntries r
def uptoBulkEntry {H : Type} : Lit × DataW H → Nat
  | (.string bytes, d) => bytes.length + uptoBulk d + 1
  | (_, d) => uptoBulk d + 1
 end
def uptoSmall : (H : Type) → List (DataW H) → Bool := fun _ ds => decide (uptoBulkAll ds ≤ 1048576)
def OpenSpec.upto (s : _root_.Go.ChangeSpec) : _root_.Go.OpenSpec := { _root_.Go.OpenSpec.ofChange s with cond := some uptoSmall }

/-- 'laws.FnNames', WHERE WHAT IT READS IS OF BULK AT MOST 1048576: true; the input reads as it did. -/
def fnNamesUptoRow : OpenClaim := { program := "ythjlbpgiaehjnaa", sum := "36bb8f5d89cfad0adf67870ffde3a15ce1d8cb05a032c043317a87335a9a2e84", func := "loop.example/g00539/laws.FnNames", spec := "fnNames", unfollowed := true, recurses := true, apart := false, narrowed := true }
def FnNamesUptoSaid : Prop := fnNamesUptoRow.holds Try.pinned (OpenSpec.upto fnNamesSpec)

/-- 'laws.FnExactTxSum', WHERE WHAT IT READS IS OF BULK AT MOST 1048576: true; the input reads as it did. -/
def fnExactTxSumUptoRow : OpenClaim := { program := "ythjlbpgiaehjnaa", sum := "36bb8f5d89cfad0adf67870ffde3a15ce1d8cb05a032c043317a87335a9a2e84", func := "loop.example/g00539/laws.FnExactTxSum", spec := "fnExactTxSum", unfollowed := true, recurses := true, apart := false, narrowed := true }
def FnExactTxSumUptoSaid : Prop := fnExactTxSumUptoRow.holds Try.pinned (OpenSpec.upto fnExactTxSumSpec)

/-- 'laws.FnExactReadTx', WHERE WHAT IT READS IS OF BULK AT MOST 1048576: true; the input reads as it did. -/
def fnExactReadTxUptoRow : OpenClaim := { program := "ythjlbpgiaehjnaa", sum := "36bb8f5d89cfad0adf67870ffde3a15ce1d8cb05a032c043317a87335a9a2e84", func := "loop.example/g00539/laws.FnExactReadTx", spec := "fnExactReadTx", unfollowed := true, recurses := true, apart := false, narrowed := true }
def FnExactReadTxUptoSaid : Prop := fnExactReadTxUptoRow.holds Try.pinned (OpenSpec.upto fnExactReadTxSpec)

/-- 'laws.FnExactPackTx', WHERE WHAT IT READS IS OF BULK AT MOST 1048576: true; the input reads as it did. -/
def fnExactPackTxUptoRow : OpenClaim := { program := "ythjlbpgiaehjnaa", sum := "36bb8f5d89cfad0adf67870ffde3a15ce1d8cb05a032c043317a87335a9a2e84", func := "loop.example/g00539/laws.FnExactPackTx", spec := "fnExactPackTx", unfollowed := true, recurses := true, apart := false, narrowed := true }
def FnExactPackTxUptoSaid : Prop := fnExactPackTxUptoRow.holds Try.pinned (OpenSpec.upto fnExactPackTxSpec)

/-- 'laws.FnTxs', WHERE WHAT IT READS IS OF BULK AT MOST 1048576: true; the input reads as it did. -/
def fnTxsUptoRow : OpenClaim := { program := "ythjlbpgiaehjnaa", sum := "36bb8f5d89cfad0adf67870ffde3a15ce1d8cb05a032c043317a87335a9a2e84", func := "loop.example/g00539/laws.FnTxs", spec := "fnTxs", unfollowed := true, recurses := true, apart := false, narrowed := true }
def FnTxsUptoSaid : Prop := fnTxsUptoRow.holds Try.pinned (OpenSpec.upto fnTxsSpec)

/-- 'laws.FnExactBlockFault', WHERE WHAT IT READS IS OF BULK AT MOST 1048576: true; the input reads as it did. -/
def fnExactBlockFaultUptoRow : OpenClaim := { program := "ythjlbpgiaehjnaa", sum := "36bb8f5d89cfad0adf67870ffde3a15ce1d8cb05a032c043317a87335a9a2e84", func := "loop.example/g00539/laws.FnExactBlockFault", spec := "fnExactBlockFault", unfollowed := true, recurses := true, apart := false, narrowed := true }
def FnExactBlockFaultUptoSaid : Prop := fnExactBlockFaultUptoRow.holds Try.pinned (OpenSpec.upto fnExactBlockFaultSpec)

/-- 'laws.FnExactBlockRoot', WHERE WHAT IT READS IS OF BULK AT MOST 1048576: true; the input reads as it did. -/
def fnExactBlockRootUptoRow : OpenClaim := { program := "ythjlbpgiaehjnaa", sum := "36bb8f5d89cfad0adf67870ffde3a15ce1d8cb05a032c043317a87335a9a2e84", func := "loop.example/g00539/laws.FnExactBlockRoot", spec := "fnExactBlockRoot", unfollowed := true, recurses := true, apart := false, narrowed := true }
def FnExactBlockRootUptoSaid : Prop := fnExactBlockRootUptoRow.holds Try.pinned (OpenSpec.upto fnExactBlockRootSpec)

end Rows
end Go.Proofs.Ythjlbpgiaehjnaa
