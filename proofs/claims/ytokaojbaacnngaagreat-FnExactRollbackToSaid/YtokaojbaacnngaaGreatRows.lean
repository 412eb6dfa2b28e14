/-
  No cell of these rows narrows 'for every input' (looked for: loops, veiled, ifaces, maps, wideKeys, modest, calm, conditions, laid).
  DERIVED. THE GIVEN ROWS OF THIS SEAT. 7 by the template 'for every input the law returns true; each argument reads behind the call as it read before'; 0 by the template 'total and deterministic' (their statements: YtokaojbaacnngaaGreatTotals.lean).
  GIVEN WITH THE SEED: the statements are not yours to turn. If you find one false, say at which input.
  Laid BY PROGRAM, IN A SANDBOX (cutbox-rows.mjs): the forced cells as the released guide's own fill.sh prints them over the translation 863bc46a36ceed34… (all of the seat's roots in one cut). By AI agents, Wed Nov 11 2026. No macro, syntax, notation, axiom, sorry.
-/
import Derived.Test.YtokaojbaacnngaaGreatChecked
import GoSem.Claim
import GoSem.ClaimJoined
import GoSem.ClaimMapViews
import Derived.JoinedTies
import Derived.KernelRfl
namespace Go.Proofs.YtokaojbaacnngaaGreat
/- THE CELL 'sum', in the pinned program and in every row, IS THE sha256 OF THE DUMP (.gsa) THAT YtokaojbaacnngaaGreatProg.lean LOADS. Nothing in Lean hashes anything: it is a label: what it is worth is what the hold of that sum in a sandbox is worth. -/
noncomputable def Tryz.pinned : Pinned := { name := "ytokaojbaacnngaagreat", sum := "863bc46a36ceed34316aa8da3a758dcd230e35f8808a4096e42a27580abb4ea6", checked := Tryz.checked }
namespace Rows
def none {H : Type} : Left H := { results := [], args := [] }

/-- 'laws.FnExactArmEngine': WHATEVER THE INPUT: true; the input reads as it did. -/
def fnExactArmEngineSpec : ChangeSpec := { name := "fnExactArmEngine", fn := fun _ => fun
  | [d1, d2] => { results := [.lit (.bool true)], args := [d1, d2] }
  | _ => none }
def fnExactArmEngineRow : OpenClaim := { program := "ytokaojbaacnngaagreat", sum := "863bc46a36ceed34316aa8da3a758dcd230e35f8808a4096e42a27580abb4ea6", func := "loop.example/g00332/laws.FnExactArmEngine", spec := "fnExactArmEngine", unfollowed := true, recurses := true, apart := false }
def FnExactArmEngineSaid : Prop := fnExactArmEngineRow.holds Tryz.pinned (OpenSpec.ofChange fnExactArmEngineSpec)

/-- ITS FALSE NEIGHBOUR: 'it returns false'. Refute it at one input. -/
def fnExactArmEngineWrong : ChangeSpec := { name := "fnExactArmEngine", fn := fun _ => fun
  | [d1, d2] => { results := [.lit (.bool false)], args := [d1, d2] }
  | _ => none }
def FnExactArmEngineWrongFalsely : Prop := fnExactArmEngineRow.holds Tryz.pinned (OpenSpec.ofChange fnExactArmEngineWrong)

/-- 'laws.FnExactBeginTx': WHATEVER THE INPUT: true; the input reads as it did. -/
def fnExactBeginTxSpec : ChangeSpec := { name := "fnExactBeginTx", fn := fun _ => fun
  | [d] => { results := [.lit (.bool true)], args := [d] }
  | _ => none }
def fnExactBeginTxRow : OpenClaim := { program := "ytokaojbaacnngaagreat", sum := "863bc46a36ceed34316aa8da3a758dcd230e35f8808a4096e42a27580abb4ea6", func := "loop.example/g00332/laws.FnExactBeginTx", spec := "fnExactBeginTx", unfollowed := true, recurses := true, apart := false }
def FnExactBeginTxSaid : Prop := fnExactBeginTxRow.holds Tryz.pinned (OpenSpec.ofChange fnExactBeginTxSpec)

/-- ITS FALSE NEIGHBOUR: 'it returns false'. Refute it at one input. -/
def fnExactBeginTxWrong : ChangeSpec := { name := "fnExactBeginTx", fn := fun _ => fun
  | [d] => { results := [.lit (.bool false)], args := [d] }
  | _ => none }
def FnExactBeginTxWrongFalsely : Prop := fnExactBeginTxRow.holds Tryz.pinned (OpenSpec.ofChange fnExactBeginTxWrong)

/-- 'laws.FnExactCrashEngine': WHATEVER THE INPUT: true; the input reads as it did. -/
def fnExactCrashEngineSpec : ChangeSpec := { name := "fnExactCrashEngine", fn := fun _ => fun
  | [d1, d2] => { results := [.lit (.bool true)], args := [d1, d2] }
  | _ => none }
def fnExactCrashEngineRow : OpenClaim := { program := "ytokaojbaacnngaagreat", sum := "863bc46a36ceed34316aa8da3a758dcd230e35f8808a4096e42a27580abb4ea6", func := "loop.example/g00332/laws.FnExactCrashEngine", spec := "fnExactCrashEngine", unfollowed := true, recurses := true, apart := false }
def FnExactCrashEngineSaid : Prop := fnExactCrashEngineRow.holds Tryz.pinned (OpenSpec.ofChange fnExactCrashEngineSpec)

/-- ITS FALSE NEIGHBOUR: 'it returns false'. Refute it at one input. -/
def fnExactCrashEngineWrong : ChangeSpec := { name := "fnExactCrashEngine", fn := fun _ => fun
  | [d1, d2] => { results := [.lit (.bool false)], args := [d1, d2] }
  | _ => none }
def FnExactCrashEngineWrongFalsely : Prop := fnExactCrashEngineRow.holds Tryz.pinned (OpenSpec.ofChange fnExactCrashEngineWrong)

/-- 'laws.FnExactCommitTx': WHATEVER THE INPUT: true; the input reads as it did. -/
def fnExactCommitTxSpec : ChangeSpec := { name := "fnExactCommitTx", fn := fun _ => fun
  | [d1, d2] => { results := [.lit (.bool true)], args := [d1, d2] }
  | _ => none }
def fnExactCommitTxRow : OpenClaim := { program := "ytokaojbaacnngaagreat", sum := "863bc46a36ceed34316aa8da3a758dcd230e35f8808a4096e42a27580abb4ea6", func := "loop.example/g00332/laws.FnExactCommitTx", spec := "fnExactCommitTx", unfollowed := true, recurses := true, apart := false }
def FnExactCommitTxSaid : Prop := fnExactCommitTxRow.holds Tryz.pinned (OpenSpec.ofChange fnExactCommitTxSpec)

/-- ITS FALSE NEIGHBOUR: 'it returns false'. Refute it at one input. -/
def fnExactCommitTxWrong : ChangeSpec := { name := "fnExactCommitTx", fn := fun _ => fun
  | [d1, d2] => { results := [.lit (.bool false)], args := [d1, d2] }
  | _ => none }
def FnExactCommitTxWrongFalsely : Prop := fnExactCommitTxRow.holds Tryz.pinned (OpenSpec.ofChange fnExactCommitTxWrong)

/-- 'laws.FnExactRollbackTo': WHATEVER THE INPUT: true; the input reads as it did. -/
def fnExactRollbackToSpec : ChangeSpec := { name := "fnExactRollbackTo", fn := fun _ => fun
  | [d1, d2, d3] => { results := [.lit (.bool true)], args := [d1, d2, d3] }
  | _ => none }
def fnExactRollbackToRow : OpenClaim := { program := "ytokaojbaacnngaagreat", sum := "863bc46a36ceed34316aa8da3a758dcd230e35f8808a4096e42a27580abb4ea6", func := "loop.example/g00332/laws.FnExactRollbackTo", spec := "fnExactRollbackTo", unfollowed := true, recurses := true, apart := false }
def FnExactRollbackToSaid : Prop := fnExactRollbackToRow.holds Tryz.pinned (OpenSpec.ofChange fnExactRollbackToSpec)

/-- ITS FALSE NEIGHBOUR: 'it returns false'. Refute it at one input. -/
def fnExactRollbackToWrong : ChangeSpec := { name := "fnExactRollbackTo", fn := fun _ => fun
  | [d1, d2, d3] => { results := [.lit (.bool false)], args := [d1, d2, d3] }
  | _ => none }
def FnExactRollbackToWrongFalsely : Prop := fnExactRollbackToRow.holds Tryz.pinned (OpenSpec.ofChange fnExactRollbackToWrong)

/-- 'laws.FnExactTakeCheck': WHATEVER THE INPUT: true; the input reads as it did. -/
def fnExactTakeCheckSpec : ChangeSpec := { name := "fnExactTakeCheck", fn := fun _ => fun
  | [d] => { results := [.lit (.bool true)], args := [d] }
  | _ => none }
def fnExactTakeCheckRow : OpenClaim := { program := "ytokaojbaacnngaagreat", sum := "863bc46a36ceed34316aa8da3a758dcd230e35f8808a4096e42a27580abb4ea6", func := "loop.example/g00332/laws.FnExactTakeCheck", spec := "fnExactTakeCheck", inPlace := ["slices.overlaps[loop.example/g00332/impl.Dirty]"], unfollowed := true, recurses := true, apart := false }
def FnExactTakeCheckSaid : Prop := fnExactTakeCheckRow.holds Tryz.pinned (OpenSpec.ofChange fnExactTakeCheckSpec)

/-- ITS FALSE NEIGHBOUR: 'it returns false'. Refute it at one input. -/
def fnExactTakeCheckWrong : ChangeSpec := { name := "fnExactTakeCheck", fn := fun _ => fun
  | [d] => { results := [.lit (.bool false)], args := [d] }
  | _ => none }
def FnExactTakeCheckWrongFalsely : Prop := fnExactTakeCheckRow.holds Tryz.pinned (OpenSpec.ofChange fnExactTakeCheckWrong)

/-- 'laws.FnExactAbortTx': WHATEVER THE INPUT: true; the input reads as it did. -/
def fnExactAbortTxSpec : ChangeSpec := { name := "fnExactAbortTx", fn := fun _ => fun
  | [d1, d2] => { results := [.lit (.bool true)], args := [d1, d2] }
  | _ => none }
def fnExactAbortTxRow : OpenClaim := { program := "ytokaojbaacnngaagreat", sum := "863bc46a36ceed34316aa8da3a758dcd230e35f8808a4096e42a27580abb4ea6", func := "loop.example/g00332/laws.FnExactAbortTx", spec := "fnExactAbortTx", unfollowed := true, recurses := true, apart := false }
def FnExactAbortTxSaid : Prop := fnExactAbortTxRow.holds Tryz.pinned (OpenSpec.ofChange fnExactAbortTxSpec)

/-- ITS FALSE NEIGHBOUR: 'it returns false'. Refute it at one input. -/
def fnExactAbortTxWrong : ChangeSpec := { name := "fnExactAbortTx", fn := fun _ => fun
  | [d1, d2] => { results := [.lit (.bool false)], args := [d1, d2] }
  | _ => none }
def FnExactAbortTxWrongFalsely : Prop := fnExactAbortTxRow.holds Tryz.pinned (OpenSpec.ofChange fnExactAbortTxWrong)

/- THE SECOND FORM. 'bulk': how many values and letters a reading holds, each counted each time it is reached (what is shared counts as often as it is met; a slice's spare places count too). A statement '..UptoSaid' is the law's where the arguments, and the package variables that the reading takes, are together of bulk at most 1048576: NARROWER than '..Said'. Prove '..Said' where nothing that the law and all that it calls make is longer than what came in: it says more and counts as full. Else prove '..UptoSaid'. A law counts once. -/
mutual
def uptoBulk {H : Type} : DataW H → Nat
  | .lit (.string bytes) => bytes.length + 1
  | .lit _ => 1
  | .nil => 1
  | .ptr d => uptoBulk d + 1
  | .slice elems spare => uptoBulkAll elems + uptoBulkAll spare + 1
  | .agg parts => uptoBulkAll parts + 1
  | .iface _ d => uptoBulk d + 1
  | .map entries => uptoBulkEntries entries + 1
  | .held _ => 1
def uptoBulkAll {H : Type} : List (DataW H) → Nat
  | [] => 0
  | d :: r => uptoBulk d + uptoBulkAll r
def uptoBulkEntries {H : Type} : List (Lit × DataW H) → Nat
  | [] => 0
  | x :: r => uptoBulkEntry x + uptoBulkEntries r
def uptoBulkEntry {H : Type} : Lit × DataW H → Nat
  | (.string bytes, d) => bytes.length + uptoBulk d + 1
  | (_, d) => uptoBulk d + 1
 end
def uptoSmall : (H : Type) → List (DataW H) → Bool := fun _ ds => decide (uptoBulkAll ds ≤ 1048576)
def OpenSpec.upto (s : _root_.Go.ChangeSpec) : _root_.Go.OpenSpec := { _root_.Go.OpenSpec.ofChange s with cond := some uptoSmall }

/-- 'laws.FnExactArmEngine', WHERE WHAT IT READS IS OF BULK AT MOST 1048576: true; the input reads as it did. -/
def fnExactArmEngineUptoRow : OpenClaim := { program := "ytokaojbaacnngaagreat", sum := "863bc46a36ceed34316aa8da3a758dcd230e35f8808a4096e42a27580abb4ea6", func := "loop.example/g00332/laws.FnExactArmEngine", spec := "fnExactArmEngine", unfollowed := true, recurses := true, apart := false, narrowed := true }
def FnExactArmEngineUptoSaid : Prop := fnExactArmEngineUptoRow.holds Tryz.pinned (OpenSpec.upto fnExactArmEngineSpec)

/-- 'laws.FnExactBeginTx', WHERE WHAT IT READS IS OF BULK AT MOST 1048576: true; the input reads as it did. -/
def fnExactBeginTxUptoRow : OpenClaim := { program := "ytokaojbaacnngaagreat", sum := "863bc46a36ceed34316aa8da3a758dcd230e35f8808a4096e42a27580abb4ea6", func := "loop.example/g00332/laws.FnExactBeginTx", spec := "fnExactBeginTx", unfollowed := true, recurses := true, apart := false, narrowed := true }
def FnExactBeginTxUptoSaid : Prop := fnExactBeginTxUptoRow.holds Tryz.pinned (OpenSpec.upto fnExactBeginTxSpec)

/-- 'laws.FnExactCrashEngine', WHERE WHAT IT READS IS OF BULK AT MOST 1048576: true; the input reads as it did. -/
def fnExactCrashEngineUptoRow : OpenClaim := { program := "ytokaojbaacnngaagreat", sum := "863bc46a36ceed34316aa8da3a758dcd230e35f8808a4096e42a27580abb4ea6", func := "loop.example/g00332/laws.FnExactCrashEngine", spec := "fnExactCrashEngine", unfollowed := true, recurses := true, apart := false, narrowed := true }
def FnExactCrashEngineUptoSaid : Prop := fnExactCrashEngineUptoRow.holds Tryz.pinned (OpenSpec.upto fnExactCrashEngineSpec)

/-- 'laws.FnExactCommitTx', WHERE WHAT IT READS IS OF BULK AT MOST 1048576: true; the input reads as it did. -/
def fnExactCommitTxUptoRow : OpenClaim := { program := "ytokaojbaacnngaagreat", sum := "863bc46a36ceed34316aa8da3a758dcd230e35f8808a4096e42a27580abb4ea6", func := "loop.example/g00332/laws.FnExactCommitTx", spec := "fnExactCommitTx", unfollowed := true, recurses := true, apart := false, narrowed := true }
def FnExactCommitTxUptoSaid : Prop := fnExactCommitTxUptoRow.holds Tryz.pinned (OpenSpec.upto fnExactCommitTxSpec)

/-- 'laws.FnExactRollbackTo', WHERE WHAT IT READS IS OF BULK AT MOST 1048576: true; the input reads as it did. -/
def fnExactRollbackToUptoRow : OpenClaim := { program := "ytokaojbaacnngaagreat", sum := "863bc46a36ceed34316aa8da3a758dcd230e35f8808a4096e42a27580abb4ea6", func := "loop.example/g00332/laws.FnExactRollbackTo", spec := "fnExactRollbackTo", unfollowed := true, recurses := true, apart := false, narrowed := true }
def FnExactRollbackToUptoSaid : Prop := fnExactRollbackToUptoRow.holds Tryz.pinned (OpenSpec.upto fnExactRollbackToSpec)

/-- 'laws.FnExactTakeCheck', WHERE WHAT IT READS IS OF BULK AT MOST 1048576: true; the input reads as it did. -/
def fnExactTakeCheckUptoRow : OpenClaim := { program := "ytokaojbaacnngaagreat", sum := "863bc46a36ceed34316aa8da3a758dcd230e35f8808a4096e42a27580abb4ea6", func := "loop.example/g00332/laws.FnExactTakeCheck", spec := "fnExactTakeCheck", inPlace := ["slices.overlaps[loop.example/g00332/impl.Dirty]"], unfollowed := true, recurses := true, apart := false, narrowed := true }
def FnExactTakeCheckUptoSaid : Prop := fnExactTakeCheckUptoRow.holds Tryz.pinned (OpenSpec.upto fnExactTakeCheckSpec)

/-- 'laws.FnExactAbortTx', WHERE WHAT IT READS IS OF BULK AT MOST 1048576: true; the input reads as it did. -/
def fnExactAbortTxUptoRow : OpenClaim := { program := "ytokaojbaacnngaagreat", sum := "863bc46a36ceed34316aa8da3a758dcd230e35f8808a4096e42a27580abb4ea6", func := "loop.example/g00332/laws.FnExactAbortTx", spec := "fnExactAbortTx", unfollowed := true, recurses := true, apart := false, narrowed := true }
def FnExactAbortTxUptoSaid : Prop := fnExactAbortTxUptoRow.holds Tryz.pinned (OpenSpec.upto fnExactAbortTxSpec)

end Rows
end Go.Proofs.YtokaojbaacnngaaGreat
