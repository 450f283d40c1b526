/-
  No cell of these rows narrows 'for every input' (looked for: loops, veiled, ifaces, maps, wideKeys, modest, calm, conditions, laid).
  DERIVED. THE GIVEN ROWS OF THIS SEAT. 12 by the template 'for every input the law returns true; each argument reads behind the call as it read before'; 0 by the template 'total and deterministic' (their statements: YtdggjfakhhhbeaaTotals.lean).
  GIVEN WITH THE SEED: the statements are not yours to turn. If you find one false, say at which input.
  Laid BY PROGRAM, IN A SANDBOX (cutbox-rows.mjs): the forced cells as the released guide's own fill.sh prints them over the translation 95161e4539936307… (all of the seat's roots in one cut). By AI agents, Wed Nov 11 2026. No macro, syntax, notation, axiom, sorry.
-/
import Derived.Test.YtdggjfakhhhbeaaChecked
import GoSem.Claim
import GoSem.ClaimJoined
import GoSem.ClaimMapViews
import Derived.JoinedTies
import Derived.KernelRfl
namespace Go.Proofs.Ytdggjfakhhhbeaa
/- THE CELL 'sum', in the pinned program and in every row, IS THE sha256 OF THE DUMP (.gsa) THAT YtdggjfakhhhbeaaProg.lean LOADS. Nothing in Lean hashes anything: it is a label: what it is worth is what the hold of that sum in a sandbox is worth. -/
noncomputable def Try.pinned : Pinned := { name := "ytdggjfakhhhbeaa", sum := "95161e453993630755fd67b2275922f69aa9693d207fc2cf0a4645a2253aa37b", checked := Try.checked }
namespace Rows
def none {H : Type} : Left H := { results := [], args := [] }

/-- 'laws.FnExactConstants': WHATEVER THE INPUT: true; the input reads as it did. -/
def fnExactConstantsSpec : ChangeSpec := { name := "fnExactConstants", fn := fun _ => fun
  | [] => { results := [.lit (.bool true)], args := [] }
  | _ => none }
def fnExactConstantsRow : OpenClaim := { program := "ytdggjfakhhhbeaa", sum := "95161e453993630755fd67b2275922f69aa9693d207fc2cf0a4645a2253aa37b", func := "loop.example/g00539/laws.FnExactConstants", spec := "fnExactConstants", apart := false }
def FnExactConstantsSaid : Prop := fnExactConstantsRow.holds Try.pinned (OpenSpec.ofChange fnExactConstantsSpec)

/-- ITS FALSE NEIGHBOUR: 'it returns false'. Refute it at one input. -/
def fnExactConstantsWrong : ChangeSpec := { name := "fnExactConstants", fn := fun _ => fun
  | [] => { results := [.lit (.bool false)], args := [] }
  | _ => none }
def FnExactConstantsWrongFalsely : Prop := fnExactConstantsRow.holds Try.pinned (OpenSpec.ofChange fnExactConstantsWrong)

/-- 'laws.FnExactAddMoney': WHATEVER THE INPUT: true; the input reads as it did. -/
def fnExactAddMoneySpec : ChangeSpec := { name := "fnExactAddMoney", fn := fun _ => fun
  | [d1, d2] => { results := [.lit (.bool true)], args := [d1, d2] }
  | _ => none }
def fnExactAddMoneyRow : OpenClaim := { program := "ytdggjfakhhhbeaa", sum := "95161e453993630755fd67b2275922f69aa9693d207fc2cf0a4645a2253aa37b", func := "loop.example/g00539/laws.FnExactAddMoney", spec := "fnExactAddMoney", apart := false }
def FnExactAddMoneySaid : Prop := fnExactAddMoneyRow.holds Try.pinned (OpenSpec.ofChange fnExactAddMoneySpec)

/-- ITS FALSE NEIGHBOUR: 'it returns false'. Refute it at one input. -/
def fnExactAddMoneyWrong : ChangeSpec := { name := "fnExactAddMoney", fn := fun _ => fun
  | [d1, d2] => { results := [.lit (.bool false)], args := [d1, d2] }
  | _ => none }
def FnExactAddMoneyWrongFalsely : Prop := fnExactAddMoneyRow.holds Try.pinned (OpenSpec.ofChange fnExactAddMoneyWrong)

/-- 'laws.FnExactSubsidyAt': WHATEVER THE INPUT: true; the input reads as it did. -/
def fnExactSubsidyAtSpec : ChangeSpec := { name := "fnExactSubsidyAt", fn := fun _ => fun
  | [d] => { results := [.lit (.bool true)], args := [d] }
  | _ => none }
def fnExactSubsidyAtRow : OpenClaim := { program := "ytdggjfakhhhbeaa", sum := "95161e453993630755fd67b2275922f69aa9693d207fc2cf0a4645a2253aa37b", func := "loop.example/g00539/laws.FnExactSubsidyAt", spec := "fnExactSubsidyAt", apart := false }
def FnExactSubsidyAtSaid : Prop := fnExactSubsidyAtRow.holds Try.pinned (OpenSpec.ofChange fnExactSubsidyAtSpec)

/-- ITS FALSE NEIGHBOUR: 'it returns false'. Refute it at one input. -/
def fnExactSubsidyAtWrong : ChangeSpec := { name := "fnExactSubsidyAt", fn := fun _ => fun
  | [d] => { results := [.lit (.bool false)], args := [d] }
  | _ => none }
def FnExactSubsidyAtWrongFalsely : Prop := fnExactSubsidyAtRow.holds Try.pinned (OpenSpec.ofChange fnExactSubsidyAtWrong)

/-- 'laws.FnExactTargetOf': WHATEVER THE INPUT: true; the input reads as it did. -/
def fnExactTargetOfSpec : ChangeSpec := { name := "fnExactTargetOf", fn := fun _ => fun
  | [d] => { results := [.lit (.bool true)], args := [d] }
  | _ => none }
def fnExactTargetOfRow : OpenClaim := { program := "ytdggjfakhhhbeaa", sum := "95161e453993630755fd67b2275922f69aa9693d207fc2cf0a4645a2253aa37b", func := "loop.example/g00539/laws.FnExactTargetOf", spec := "fnExactTargetOf", apart := false }
def FnExactTargetOfSaid : Prop := fnExactTargetOfRow.holds Try.pinned (OpenSpec.ofChange fnExactTargetOfSpec)

/-- ITS FALSE NEIGHBOUR: 'it returns false'. Refute it at one input. -/
def fnExactTargetOfWrong : ChangeSpec := { name := "fnExactTargetOf", fn := fun _ => fun
  | [d] => { results := [.lit (.bool false)], args := [d] }
  | _ => none }
def FnExactTargetOfWrongFalsely : Prop := fnExactTargetOfRow.holds Try.pinned (OpenSpec.ofChange fnExactTargetOfWrong)

/-- 'laws.FnExactWorkOf': WHATEVER THE INPUT: true; the input reads as it did. -/
def fnExactWorkOfSpec : ChangeSpec := { name := "fnExactWorkOf", fn := fun _ => fun
  | [d] => { results := [.lit (.bool true)], args := [d] }
  | _ => none }
def fnExactWorkOfRow : OpenClaim := { program := "ytdggjfakhhhbeaa", sum := "95161e453993630755fd67b2275922f69aa9693d207fc2cf0a4645a2253aa37b", func := "loop.example/g00539/laws.FnExactWorkOf", spec := "fnExactWorkOf", apart := false }
def FnExactWorkOfSaid : Prop := fnExactWorkOfRow.holds Try.pinned (OpenSpec.ofChange fnExactWorkOfSpec)

/-- ITS FALSE NEIGHBOUR: 'it returns false'. Refute it at one input. -/
def fnExactWorkOfWrong : ChangeSpec := { name := "fnExactWorkOf", fn := fun _ => fun
  | [d] => { results := [.lit (.bool false)], args := [d] }
  | _ => none }
def FnExactWorkOfWrongFalsely : Prop := fnExactWorkOfRow.holds Try.pinned (OpenSpec.ofChange fnExactWorkOfWrong)

/-- 'laws.FnExactBitsOf': WHATEVER THE INPUT: true; the input reads as it did. -/
def fnExactBitsOfSpec : ChangeSpec := { name := "fnExactBitsOf", fn := fun _ => fun
  | [d] => { results := [.lit (.bool true)], args := [d] }
  | _ => none }
def fnExactBitsOfRow : OpenClaim := { program := "ytdggjfakhhhbeaa", sum := "95161e453993630755fd67b2275922f69aa9693d207fc2cf0a4645a2253aa37b", func := "loop.example/g00539/laws.FnExactBitsOf", spec := "fnExactBitsOf", apart := false }
def FnExactBitsOfSaid : Prop := fnExactBitsOfRow.holds Try.pinned (OpenSpec.ofChange fnExactBitsOfSpec)

/-- ITS FALSE NEIGHBOUR: 'it returns false'. Refute it at one input. -/
def fnExactBitsOfWrong : ChangeSpec := { name := "fnExactBitsOf", fn := fun _ => fun
  | [d] => { results := [.lit (.bool false)], args := [d] }
  | _ => none }
def FnExactBitsOfWrongFalsely : Prop := fnExactBitsOfRow.holds Try.pinned (OpenSpec.ofChange fnExactBitsOfWrong)

/-- 'laws.FnExactSumOf': WHATEVER THE INPUT: true; the input reads as it did. -/
def fnExactSumOfSpec : ChangeSpec := { name := "fnExactSumOf", fn := fun _ => fun
  | [d] => { results := [.lit (.bool true)], args := [d] }
  | _ => none }
def fnExactSumOfRow : OpenClaim := { program := "ytdggjfakhhhbeaa", sum := "95161e453993630755fd67b2275922f69aa9693d207fc2cf0a4645a2253aa37b", func := "loop.example/g00539/laws.FnExactSumOf", spec := "fnExactSumOf", apart := false }
def FnExactSumOfSaid : Prop := fnExactSumOfRow.holds Try.pinned (OpenSpec.ofChange fnExactSumOfSpec)

/-- ITS FALSE NEIGHBOUR: 'it returns false'. Refute it at one input. -/
def fnExactSumOfWrong : ChangeSpec := { name := "fnExactSumOf", fn := fun _ => fun
  | [d] => { results := [.lit (.bool false)], args := [d] }
  | _ => none }
def FnExactSumOfWrongFalsely : Prop := fnExactSumOfRow.holds Try.pinned (OpenSpec.ofChange fnExactSumOfWrong)

/-- 'laws.FnExactProgramFault': WHATEVER THE INPUT: true; the input reads as it did. -/
def fnExactProgramFaultSpec : ChangeSpec := { name := "fnExactProgramFault", fn := fun _ => fun
  | [d] => { results := [.lit (.bool true)], args := [d] }
  | _ => none }
def fnExactProgramFaultRow : OpenClaim := { program := "ytdggjfakhhhbeaa", sum := "95161e453993630755fd67b2275922f69aa9693d207fc2cf0a4645a2253aa37b", func := "loop.example/g00539/laws.FnExactProgramFault", spec := "fnExactProgramFault", unfollowed := true, recurses := true, apart := false }
def FnExactProgramFaultSaid : Prop := fnExactProgramFaultRow.holds Try.pinned (OpenSpec.ofChange fnExactProgramFaultSpec)

/-- ITS FALSE NEIGHBOUR: 'it returns false'. Refute it at one input. -/
def fnExactProgramFaultWrong : ChangeSpec := { name := "fnExactProgramFault", fn := fun _ => fun
  | [d] => { results := [.lit (.bool false)], args := [d] }
  | _ => none }
def FnExactProgramFaultWrongFalsely : Prop := fnExactProgramFaultRow.holds Try.pinned (OpenSpec.ofChange fnExactProgramFaultWrong)

/-- 'laws.FnExactJoinSums': WHATEVER THE INPUT: true; the input reads as it did. -/
def fnExactJoinSumsSpec : ChangeSpec := { name := "fnExactJoinSums", fn := fun _ => fun
  | [d1, d2] => { results := [.lit (.bool true)], args := [d1, d2] }
  | _ => none }
def fnExactJoinSumsRow : OpenClaim := { program := "ytdggjfakhhhbeaa", sum := "95161e453993630755fd67b2275922f69aa9693d207fc2cf0a4645a2253aa37b", func := "loop.example/g00539/laws.FnExactJoinSums", spec := "fnExactJoinSums", apart := false }
def FnExactJoinSumsSaid : Prop := fnExactJoinSumsRow.holds Try.pinned (OpenSpec.ofChange fnExactJoinSumsSpec)

/-- ITS FALSE NEIGHBOUR: 'it returns false'. Refute it at one input. -/
def fnExactJoinSumsWrong : ChangeSpec := { name := "fnExactJoinSums", fn := fun _ => fun
  | [d1, d2] => { results := [.lit (.bool false)], args := [d1, d2] }
  | _ => none }
def FnExactJoinSumsWrongFalsely : Prop := fnExactJoinSumsRow.holds Try.pinned (OpenSpec.ofChange fnExactJoinSumsWrong)

/-- 'laws.FnExactKeyLock': WHATEVER THE INPUT: true; the input reads as it did. -/
def fnExactKeyLockSpec : ChangeSpec := { name := "fnExactKeyLock", fn := fun _ => fun
  | [d] => { results := [.lit (.bool true)], args := [d] }
  | _ => none }
def fnExactKeyLockRow : OpenClaim := { program := "ytdggjfakhhhbeaa", sum := "95161e453993630755fd67b2275922f69aa9693d207fc2cf0a4645a2253aa37b", func := "loop.example/g00539/laws.FnExactKeyLock", spec := "fnExactKeyLock", apart := false }
def FnExactKeyLockSaid : Prop := fnExactKeyLockRow.holds Try.pinned (OpenSpec.ofChange fnExactKeyLockSpec)

/-- ITS FALSE NEIGHBOUR: 'it returns false'. Refute it at one input. -/
def fnExactKeyLockWrong : ChangeSpec := { name := "fnExactKeyLock", fn := fun _ => fun
  | [d] => { results := [.lit (.bool false)], args := [d] }
  | _ => none }
def FnExactKeyLockWrongFalsely : Prop := fnExactKeyLockRow.holds Try.pinned (OpenSpec.ofChange fnExactKeyLockWrong)

/-- 'laws.FnExactSignOf': WHATEVER THE INPUT: true; the input reads as it did. -/
def fnExactSignOfSpec : ChangeSpec := { name := "fnExactSignOf", fn := fun _ => fun
  | [d1, d2] => { results := [.lit (.bool true)], args := [d1, d2] }
  | _ => none }
def fnExactSignOfRow : OpenClaim := { program := "ytdggjfakhhhbeaa", sum := "95161e453993630755fd67b2275922f69aa9693d207fc2cf0a4645a2253aa37b", func := "loop.example/g00539/laws.FnExactSignOf", spec := "fnExactSignOf", apart := false }
def FnExactSignOfSaid : Prop := fnExactSignOfRow.holds Try.pinned (OpenSpec.ofChange fnExactSignOfSpec)

/-- ITS FALSE NEIGHBOUR: 'it returns false'. Refute it at one input. -/
def fnExactSignOfWrong : ChangeSpec := { name := "fnExactSignOf", fn := fun _ => fun
  | [d1, d2] => { results := [.lit (.bool false)], args := [d1, d2] }
  | _ => none }
def FnExactSignOfWrongFalsely : Prop := fnExactSignOfRow.holds Try.pinned (OpenSpec.ofChange fnExactSignOfWrong)

/-- 'laws.FnExactReadVar': WHATEVER THE INPUT: true; the input reads as it did. -/
def fnExactReadVarSpec : ChangeSpec := { name := "fnExactReadVar", fn := fun _ => fun
  | [d] => { results := [.lit (.bool true)], args := [d] }
  | _ => none }
def fnExactReadVarRow : OpenClaim := { program := "ytdggjfakhhhbeaa", sum := "95161e453993630755fd67b2275922f69aa9693d207fc2cf0a4645a2253aa37b", func := "loop.example/g00539/laws.FnExactReadVar", spec := "fnExactReadVar", apart := false }
def FnExactReadVarSaid : Prop := fnExactReadVarRow.holds Try.pinned (OpenSpec.ofChange fnExactReadVarSpec)

/-- ITS FALSE NEIGHBOUR: 'it returns false'. Refute it at one input. -/
def fnExactReadVarWrong : ChangeSpec := { name := "fnExactReadVar", fn := fun _ => fun
  | [d] => { results := [.lit (.bool false)], args := [d] }
  | _ => none }
def FnExactReadVarWrongFalsely : Prop := fnExactReadVarRow.holds Try.pinned (OpenSpec.ofChange fnExactReadVarWrong)

/- THE SECOND FORM. 'bulk': how many values and letters a reading holds, each counted each time it is reached (what is shared counts as often as it is met; a slice's spare places count too). A statement '..UptoSaid' is the law's where the arguments, and the package variables that the reading takes, are together of bulk at most 1048576: NARROWER than '..Said'. Prove '..Said' where nothing that the law and all that it calls make is longer than what came in: it says more and counts as full. Else prove '..UptoSaid'. A law counts once. -/
mutual
def uptoBulk {H : Type} : DataW H → Nat
  | .lit (.string bytes) => bytes.length + 1
  | .lit _ => 1
  | .nil => 1
  | .ptr d => uptoBulk d + 1
  | .slice elems spare => uptoBulkAll elems + uptoBulkAll spare + 1
  | .agg parts => uptoBulkAll parts + 1
  | .iface _ d => uptoBulk d + 1
  | .map entries => uptoBulkEntries entries + 1
  | .held _ => 1
def uptoBulkAll {H : Type} : List (DataW H) → Nat
  | [] => 0
  | d :: r => uptoBulk d + uptoBulkAll r
def uptoBulkEntries {H : Type} : List (Lit × DataW H) → Nat
  | [] => 0
  | x :: r => uptoBulkEntry x + uptoBulkEntries r
def uptoBulkEntry {H : Type} : Lit × DataW H → Nat
  | (.string bytes, d) => bytes.length + uptoBulk d + 1
  | (_, d) => uptoBulk d + 1
 end
def uptoSmall : (H : Type) → List (DataW H) → Bool := fun _ ds => decide (uptoBulkAll ds ≤ 1048576)
def OpenSpec.upto (s : _root_.Go.ChangeSpec) : _root_.Go.OpenSpec := { _root_.Go.OpenSpec.ofChange s with cond := some uptoSmall }

/-- 'laws.FnExactConstants', WHERE WHAT IT READS IS OF BULK AT MOST 1048576: true; the input reads as it did. -/
def fnExactConstantsUptoRow : OpenClaim := { program := "ytdggjfakhhhbeaa", sum := "95161e453993630755fd67b2275922f69aa9693d207fc2cf0a4645a2253aa37b", func := "loop.example/g00539/laws.FnExactConstants", spec := "fnExactConstants", apart := false, narrowed := true }
def FnExactConstantsUptoSaid : Prop := fnExactConstantsUptoRow.holds Try.pinned (OpenSpec.upto fnExactConstantsSpec)

/-- 'laws.FnExactAddMoney', WHERE WHAT IT READS IS OF BULK AT MOST 1048576: true; the input reads as it did. -/
def fnExactAddMoneyUptoRow : OpenClaim := { program := "ytdggjfakhhhbeaa", sum := "95161e453993630755fd67b2275922f69aa9693d207fc2cf0a4645a2253aa37b", func := "loop.example/g00539/laws.FnExactAddMoney", spec := "fnExactAddMoney", apart := false, narrowed := true }
def FnExactAddMoneyUptoSaid : Prop := fnExactAddMoneyUptoRow.holds Try.pinned (OpenSpec.upto fnExactAddMoneySpec)

/-- 'laws.FnExactSubsidyAt', WHERE WHAT IT READS IS OF BULK AT MOST 1048576: true; the input reads as it did. -/
def fnExactSubsidyAtUptoRow : OpenClaim := { program := "ytdggjfakhhhbeaa", sum := "95161e453993630755fd67b2275922f69aa9693d207fc2cf0a4645a2253aa37b", func := "loop.example/g00539/laws.FnExactSubsidyAt", spec := "fnExactSubsidyAt", apart := false, narrowed := true }
def FnExactSubsidyAtUptoSaid : Prop := fnExactSubsidyAtUptoRow.holds Try.pinned (OpenSpec.upto fnExactSubsidyAtSpec)

/-- 'laws.FnExactTargetOf', WHERE WHAT IT READS IS OF BULK AT MOST 1048576: true; the input reads as it did. -/
def fnExactTargetOfUptoRow : OpenClaim := { program := "ytdggjfakhhhbeaa", sum := "95161e453993630755fd67b2275922f69aa9693d207fc2cf0a4645a2253aa37b", func := "loop.example/g00539/laws.FnExactTargetOf", spec := "fnExactTargetOf", apart := false, narrowed := true }
def FnExactTargetOfUptoSaid : Prop := fnExactTargetOfUptoRow.holds Try.pinned (OpenSpec.upto fnExactTargetOfSpec)

/-- 'laws.FnExactWorkOf', WHERE WHAT IT READS IS OF BULK AT MOST 1048576: true; the input reads as it did. -/
def fnExactWorkOfUptoRow : OpenClaim := { program := "ytdggjfakhhhbeaa", sum := "95161e453993630755fd67b2275922f69aa9693d207fc2cf0a4645a2253aa37b", func := "loop.example/g00539/laws.FnExactWorkOf", spec := "fnExactWorkOf", apart := false, narrowed := true }
def FnExactWorkOfUptoSaid : Prop := fnExactWorkOfUptoRow.holds Try.pinned (OpenSpec.upto fnExactWorkOfSpec)

/-- 'laws.FnExactBitsOf', WHERE WHAT IT READS IS OF BULK AT MOST 1048576: true; the input reads as it did. -/
def fnExactBitsOfUptoRow : OpenClaim := { program := "ytdggjfakhhhbeaa", sum := "95161e453993630755fd67b2275922f69aa9693d207fc2cf0a4645a2253aa37b", func := "loop.example/g00539/laws.FnExactBitsOf", spec := "fnExactBitsOf", apart := false, narrowed := true }
def FnExactBitsOfUptoSaid : Prop := fnExactBitsOfUptoRow.holds Try.pinned (OpenSpec.upto fnExactBitsOfSpec)

/-- 'laws.FnExactSumOf', WHERE WHAT IT READS IS OF BULK AT MOST 1048576: true; the input reads as it did. -/
def fnExactSumOfUptoRow : OpenClaim := { program := "ytdggjfakhhhbeaa", sum := "95161e453993630755fd67b2275922f69aa9693d207fc2cf0a4645a2253aa37b", func := "loop.example/g00539/laws.FnExactSumOf", spec := "fnExactSumOf", apart := false, narrowed := true }
def FnExactSumOfUptoSaid : Prop := fnExactSumOfUptoRow.holds Try.pinned (OpenSpec.upto fnExactSumOfSpec)

/-- 'laws.FnExactProgramFault', WHERE WHAT IT READS IS OF BULK AT MOST 1048576: true; the input reads as it did. -/
def fnExactProgramFaultUptoRow : OpenClaim := { program := "ytdggjfakhhhbeaa", sum := "95161e453993630755fd67b2275922f69aa9693d207fc2cf0a4645a2253aa37b", func := "loop.example/g00539/laws.FnExactProgramFault", spec := "fnExactProgramFault", unfollowed := true, recurses := true, apart := false, narrowed := true }
def FnExactProgramFaultUptoSaid : Prop := fnExactProgramFaultUptoRow.holds Try.pinned (OpenSpec.upto fnExactProgramFaultSpec)

/-- 'laws.FnExactJoinSums', WHERE WHAT IT READS IS OF BULK AT MOST 1048576: true; the input reads as it did. -/
def fnExactJoinSumsUptoRow : OpenClaim := { program := "ytdggjfakhhhbeaa", sum := "95161e453993630755fd67b2275922f69aa9693d207fc2cf0a4645a2253aa37b", func := "loop.example/g00539/laws.FnExactJoinSums", spec := "fnExactJoinSums", apart := false, narrowed := true }
def FnExactJoinSumsUptoSaid : Prop := fnExactJoinSumsUptoRow.holds Try.pinned (OpenSpec.upto fnExactJoinSumsSpec)

/-- 'laws.FnExactKeyLock', WHERE WHAT IT READS IS OF BULK AT MOST 1048576: true; the input reads as it did. -/
def fnExactKeyLockUptoRow : OpenClaim := { program := "ytdggjfakhhhbeaa", sum := "95161e453993630755fd67b2275922f69aa9693d207fc2cf0a4645a2253aa37b", func := "loop.example/g00539/laws.FnExactKeyLock", spec := "fnExactKeyLock", apart := false, narrowed := true }
def FnExactKeyLockUptoSaid : Prop := fnExactKeyLockUptoRow.holds Try.pinned (OpenSpec.upto fnExactKeyLockSpec)

/-- 'laws.FnExactSignOf', WHERE WHAT IT READS IS OF BULK AT MOST 1048576: true; the input reads as it did. -/
def fnExactSignOfUptoRow : OpenClaim := { program := "ytdggjfakhhhbeaa", sum := "95161e453993630755fd67b2275922f69aa9693d207fc2cf0a4645a2253aa37b", func := "loop.example/g00539/laws.FnExactSignOf", spec := "fnExactSignOf", apart := false, narrowed := true }
def FnExactSignOfUptoSaid : Prop := fnExactSignOfUptoRow.holds Try.pinned (OpenSpec.upto fnExactSignOfSpec)

/-- 'laws.FnExactReadVar', WHERE WHAT IT READS IS OF BULK AT MOST 1048576: true; the input reads as it did. -/
def fnExactReadVarUptoRow : OpenClaim := { program := "ytdggjfakhhhbeaa", sum := "95161e453993630755fd67b2275922f69aa9693d207fc2cf0a4645a2253aa37b", func := "loop.example/g00539/laws.FnExactReadVar", spec := "fnExactReadVar", apart := false, narrowed := true }
def FnExactReadVarUptoSaid : Prop := fnExactReadVarUptoRow.holds Try.pinned (OpenSpec.upto fnExactReadVarSpec)

end Rows
end Go.Proofs.Ytdggjfakhhhbeaa
