/-
  No cell of these rows narrows 'for every input' (looked for: loops, veiled, ifaces, maps, wideKeys, modest, calm, conditions, laid).
  DERIVED. THE GIVEN ROWS OF THIS SEAT. 7 by the template 'for every input the law returns true; each argument reads behind the call as it read before'; 0 by the template 'total and deterministic' (their statements: YtghgljelnhfihaaGreatTotals.lean).
  GIVEN WITH THE SEED: the statements are not yours to turn. If you find one false, say at which input.
  Laid BY PROGRAM, IN A SANDBOX (cutbox-rows.mjs): the forced cells as the released guide's own fill.sh prints them over the translation c0ed549552c437f3… (all of the seat's roots in one cut). By AI agents, Wed Nov 11 2026. No macro, syntax, notation, axiom, sorry.
-/
import Derived.Test.YtghgljelnhfihaaGreatChecked
import GoSem.Claim
import GoSem.ClaimJoined
import GoSem.ClaimMapViews
import Derived.JoinedTies
import Derived.KernelRfl
namespace Go.Proofs.YtghgljelnhfihaaGreat
/- THE CELL 'sum', in the pinned program and in every row, IS THE sha256 OF THE DUMP (.gsa) THAT YtghgljelnhfihaaGreatProg.lean LOADS. Nothing in Lean hashes anything: it is a label: what it is worth is what the hold of that sum in a sandbox is worth. -/
noncomputable def Tryz.pinned : Pinned := { name := "ytghgljelnhfihaagreat", sum := "c0ed549552c437f328ef45a0b742fe8f3de1ae9fcf7242f3e15bf9054160f149", checked := Tryz.checked }
namespace Rows
def none {H : Type} : Left H := { results := [], args := [] }

/-- 'laws.FnNeeds': WHATEVER THE INPUT: true; the input reads as it did. -/
def fnNeedsSpec : ChangeSpec := { name := "fnNeeds", fn := fun _ => fun
  | [d] => { results := [.lit (.bool true)], args := [d] }
  | _ => none }
def fnNeedsRow : OpenClaim := { program := "ytghgljelnhfihaagreat", sum := "c0ed549552c437f328ef45a0b742fe8f3de1ae9fcf7242f3e15bf9054160f149", func := "loop.example/g00332/laws.FnNeeds", spec := "fnNeeds", unfollowed := true, recurses := true, apart := false }
def FnNeedsSaid : Prop := fnNeedsRow.holds Tryz.pinned (OpenSpec.ofChange fnNeedsSpec)

/-- ITS FALSE NEIGHBOUR: 'it returns false'. Refute it at one input. -/
def fnNeedsWrong : ChangeSpec := { name := "fnNeeds", fn := fun _ => fun
  | [d] => { results := [.lit (.bool false)], args := [d] }
  | _ => none }
def FnNeedsWrongFalsely : Prop := fnNeedsRow.holds Tryz.pinned (OpenSpec.ofChange fnNeedsWrong)

/-- 'laws.FnLasts': WHATEVER THE INPUT: true; the input reads as it did. -/
def fnLastsSpec : ChangeSpec := { name := "fnLasts", fn := fun _ => fun
  | [d1, d2] => { results := [.lit (.bool true)], args := [d1, d2] }
  | _ => none }
def fnLastsRow : OpenClaim := { program := "ytghgljelnhfihaagreat", sum := "c0ed549552c437f328ef45a0b742fe8f3de1ae9fcf7242f3e15bf9054160f149", func := "loop.example/g00332/laws.FnLasts", spec := "fnLasts", inPlace := ["slices.overlaps[loop.example/g00332/impl.Dirty]", "slices.overlaps[loop.example/g00332/impl.Tx]"], unfollowed := true, recurses := true, apart := false }
def FnLastsSaid : Prop := fnLastsRow.holds Tryz.pinned (OpenSpec.ofChange fnLastsSpec)

/-- ITS FALSE NEIGHBOUR: 'it returns false'. Refute it at one input. -/
def fnLastsWrong : ChangeSpec := { name := "fnLasts", fn := fun _ => fun
  | [d1, d2] => { results := [.lit (.bool false)], args := [d1, d2] }
  | _ => none }
def FnLastsWrongFalsely : Prop := fnLastsRow.holds Tryz.pinned (OpenSpec.ofChange fnLastsWrong)

/-- 'laws.FnAbort': WHATEVER THE INPUT: true; the input reads as it did. -/
def fnAbortSpec : ChangeSpec := { name := "fnAbort", fn := fun _ => fun
  | [d1, d2] => { results := [.lit (.bool true)], args := [d1, d2] }
  | _ => none }
def fnAbortRow : OpenClaim := { program := "ytghgljelnhfihaagreat", sum := "c0ed549552c437f328ef45a0b742fe8f3de1ae9fcf7242f3e15bf9054160f149", func := "loop.example/g00332/laws.FnAbort", spec := "fnAbort", unfollowed := true, recurses := true, apart := false }
def FnAbortSaid : Prop := fnAbortRow.holds Tryz.pinned (OpenSpec.ofChange fnAbortSpec)

/-- ITS FALSE NEIGHBOUR: 'it returns false'. Refute it at one input. -/
def fnAbortWrong : ChangeSpec := { name := "fnAbort", fn := fun _ => fun
  | [d1, d2] => { results := [.lit (.bool false)], args := [d1, d2] }
  | _ => none }
def FnAbortWrongFalsely : Prop := fnAbortRow.holds Tryz.pinned (OpenSpec.ofChange fnAbortWrong)

/-- 'laws.FnCheckpoint': WHATEVER THE INPUT: true; the input reads as it did. -/
def fnCheckpointSpec : ChangeSpec := { name := "fnCheckpoint", fn := fun _ => fun
  | [d1, d2] => { results := [.lit (.bool true)], args := [d1, d2] }
  | _ => none }
def fnCheckpointRow : OpenClaim := { program := "ytghgljelnhfihaagreat", sum := "c0ed549552c437f328ef45a0b742fe8f3de1ae9fcf7242f3e15bf9054160f149", func := "loop.example/g00332/laws.FnCheckpoint", spec := "fnCheckpoint", inPlace := ["slices.overlaps[loop.example/g00332/impl.Dirty]", "slices.overlaps[loop.example/g00332/impl.Tx]"], unfollowed := true, recurses := true, apart := false }
def FnCheckpointSaid : Prop := fnCheckpointRow.holds Tryz.pinned (OpenSpec.ofChange fnCheckpointSpec)

/-- ITS FALSE NEIGHBOUR: 'it returns false'. Refute it at one input. -/
def fnCheckpointWrong : ChangeSpec := { name := "fnCheckpoint", fn := fun _ => fun
  | [d1, d2] => { results := [.lit (.bool false)], args := [d1, d2] }
  | _ => none }
def FnCheckpointWrongFalsely : Prop := fnCheckpointRow.holds Tryz.pinned (OpenSpec.ofChange fnCheckpointWrong)

/-- 'laws.FnRestart': WHATEVER THE INPUT: true; the input reads as it did. -/
def fnRestartSpec : ChangeSpec := { name := "fnRestart", fn := fun _ => fun
  | [d1, d2] => { results := [.lit (.bool true)], args := [d1, d2] }
  | _ => none }
def fnRestartRow : OpenClaim := { program := "ytghgljelnhfihaagreat", sum := "c0ed549552c437f328ef45a0b742fe8f3de1ae9fcf7242f3e15bf9054160f149", func := "loop.example/g00332/laws.FnRestart", spec := "fnRestart", inPlace := ["slices.overlaps[loop.example/g00332/impl.Dirty]", "slices.overlaps[loop.example/g00332/impl.Tx]"], unfollowed := true, recurses := true, apart := false }
def FnRestartSaid : Prop := fnRestartRow.holds Tryz.pinned (OpenSpec.ofChange fnRestartSpec)

/-- ITS FALSE NEIGHBOUR: 'it returns false'. Refute it at one input. -/
def fnRestartWrong : ChangeSpec := { name := "fnRestart", fn := fun _ => fun
  | [d1, d2] => { results := [.lit (.bool false)], args := [d1, d2] }
  | _ => none }
def FnRestartWrongFalsely : Prop := fnRestartRow.holds Tryz.pinned (OpenSpec.ofChange fnRestartWrong)

/-- 'laws.FnPhantom': WHATEVER THE INPUT: true; the input reads as it did. -/
def fnPhantomSpec : ChangeSpec := { name := "fnPhantom", fn := fun _ => fun
  | [d1, d2] => { results := [.lit (.bool true)], args := [d1, d2] }
  | _ => none }
def fnPhantomRow : OpenClaim := { program := "ytghgljelnhfihaagreat", sum := "c0ed549552c437f328ef45a0b742fe8f3de1ae9fcf7242f3e15bf9054160f149", func := "loop.example/g00332/laws.FnPhantom", spec := "fnPhantom", unfollowed := true, recurses := true, apart := false }
def FnPhantomSaid : Prop := fnPhantomRow.holds Tryz.pinned (OpenSpec.ofChange fnPhantomSpec)

/-- ITS FALSE NEIGHBOUR: 'it returns false'. Refute it at one input. -/
def fnPhantomWrong : ChangeSpec := { name := "fnPhantom", fn := fun _ => fun
  | [d1, d2] => { results := [.lit (.bool false)], args := [d1, d2] }
  | _ => none }
def FnPhantomWrongFalsely : Prop := fnPhantomRow.holds Tryz.pinned (OpenSpec.ofChange fnPhantomWrong)

/-- 'laws.FnRows': WHATEVER THE INPUT: true; the input reads as it did. -/
def fnRowsSpec : ChangeSpec := { name := "fnRows", fn := fun _ => fun
  | [d1, d2] => { results := [.lit (.bool true)], args := [d1, d2] }
  | _ => none }
def fnRowsRow : OpenClaim := { program := "ytghgljelnhfihaagreat", sum := "c0ed549552c437f328ef45a0b742fe8f3de1ae9fcf7242f3e15bf9054160f149", func := "loop.example/g00332/laws.FnRows", spec := "fnRows", unfollowed := true, recurses := true, apart := false }
def FnRowsSaid : Prop := fnRowsRow.holds Tryz.pinned (OpenSpec.ofChange fnRowsSpec)

/-- ITS FALSE NEIGHBOUR: 'it returns false'. Refute it at one input. -/
def fnRowsWrong : ChangeSpec := { name := "fnRows", fn := fun _ => fun
  | [d1, d2] => { results := [.lit (.bool false)], args := [d1, d2] }
  | _ => none }
def FnRowsWrongFalsely : Prop := fnRowsRow.holds Tryz.pinned (OpenSpec.ofChange fnRowsWrong)

/- THE SECOND FORM. 'bulk': how many values and letters a reading holds, each counted each time it is reached (what is shared counts as often as it is met; a slice's spare places count too). A statement '..UptoSaid' is the law's where the arguments, and the package variables that the reading takes, are together of bulk at most 1048576: NARROWER than '..Said'. Prove '..Said' where nothing that the law and all that it calls make is longer than what came in: it says more and counts as full. Else prove '..UptoSaid'. A law counts once. -/
mutual
def uptoBulk {H : Type} : DataW H → Nat
  | .lit (.string bytes) => bytes.length + 1
  | .lit _ => 1
  | .nil => 1
  | .ptr d => uptoBulk d + 1
  | .slice elems spare => uptoBulkAll elems + uptoBulkAll spare + 1
  | .agg parts => uptoBulkAll parts + 1
  | .iface _ d => uptoBulk d + 1
  | .map entries => uptoBulkEntries entries + 1
  | .held _ => 1
def uptoBulkAll {H : Type} : List (DataW H) → Nat
  | [] => 0
  | d :: r => uptoBulk d + uptoBulkAll r
def uptoBulkEntries {H : Type} : List (Lit × DataW H) → Nat
  | [] => 0
  | x :: r => uptoBulkEntry x + uptoBulkEntries r
def uptoBulkEntry {H : Type} : Lit × DataW H → Nat
  | (.string bytes, d) => bytes.length + uptoBulk d + 1
  | (_, d) => uptoBulk d + 1
 end
def uptoSmall : (H : Type) → List (DataW H) → Bool := fun _ ds => decide (uptoBulkAll ds ≤ 1048576)
def OpenSpec.upto (s : _root_.Go.ChangeSpec) : _root_.Go.OpenSpec := { _root_.Go.OpenSpec.ofChange s with cond := some uptoSmall }

/-- 'laws.FnNeeds', WHERE WHAT IT READS IS OF BULK AT MOST 1048576: true; the input reads as it did. -/
def fnNeedsUptoRow : OpenClaim := { program := "ytghgljelnhfihaagreat", sum := "c0ed549552c437f328ef45a0b742fe8f3de1ae9fcf7242f3e15bf9054160f149", func := "loop.example/g00332/laws.FnNeeds", spec := "fnNeeds", unfollowed := true, recurses := true, apart := false, narrowed := true }
def FnNeedsUptoSaid : Prop := fnNeedsUptoRow.holds Tryz.pinned (OpenSpec.upto fnNeedsSpec)

/-- 'laws.FnLasts', WHERE WHAT IT READS IS OF BULK AT MOST 1048576: true; the input reads as it did. -/
def fnLastsUptoRow : OpenClaim := { program := "ytghgljelnhfihaagreat", sum := "c0ed549552c437f328ef45a0b742fe8f3de1ae9fcf7242f3e15bf9054160f149", func := "loop.example/g00332/laws.FnLasts", spec := "fnLasts", inPlace := ["slices.overlaps[loop.example/g00332/impl.Dirty]", "slices.overlaps[loop.example/g00332/impl.Tx]"], unfollowed := true, recurses := true, apart := false, narrowed := true }
def FnLastsUptoSaid : Prop := fnLastsUptoRow.holds Tryz.pinned (OpenSpec.upto fnLastsSpec)

/-- 'laws.FnAbort', WHERE WHAT IT READS IS OF BULK AT MOST 1048576: true; the input reads as it did. -/
def fnAbortUptoRow : OpenClaim := { program := "ytghgljelnhfihaagreat", sum := "c0ed549552c437f328ef45a0b742fe8f3de1ae9fcf7242f3e15bf9054160f149", func := "loop.example/g00332/laws.FnAbort", spec := "fnAbort", unfollowed := true, recurses := true, apart := false, narrowed := true }
def FnAbortUptoSaid : Prop := fnAbortUptoRow.holds Tryz.pinned (OpenSpec.upto fnAbortSpec)

/-- 'laws.FnCheckpoint', WHERE WHAT IT READS IS OF BULK AT MOST 1048576: true; the input reads as it did. -/
def fnCheckpointUptoRow : OpenClaim := { program := "ytghgljelnhfihaagreat", sum := "c0ed549552c437f328ef45a0b742fe8f3de1ae9fcf7242f3e15bf9054160f149", func := "loop.example/g00332/laws.FnCheckpoint", spec := "fnCheckpoint", inPlace := ["slices.overlaps[loop.example/g00332/impl.Dirty]", "slices.overlaps[loop.example/g00332/impl.Tx]"], unfollowed := true, recurses := true, apart := false, narrowed := true }
def FnCheckpointUptoSaid : Prop := fnCheckpointUptoRow.holds Tryz.pinned (OpenSpec.upto fnCheckpointSpec)

/-- 'laws.FnRestart', WHERE WHAT IT READS IS OF BULK AT MOST 1048576: true; the input reads as it did. -/
def fnRestartUptoRow : OpenClaim := { program := "ytghgljelnhfihaagreat", sum := "c0ed549552c437f328ef45a0b742fe8f3de1ae9fcf7242f3e15bf9054160f149", func := "loop.example/g00332/laws.FnRestart", spec := "fnRestart", inPlace := ["slices.overlaps[loop.example/g00332/impl.Dirty]", "slices.overlaps[loop.example/g00332/impl.Tx]"], unfollowed := true, recurses := true, apart := false, narrowed := true }
def FnRestartUptoSaid : Prop := fnRestartUptoRow.holds Tryz.pinned (OpenSpec.upto fnRestartSpec)

/-- 'laws.FnPhantom', WHERE WHAT IT READS IS OF BULK AT MOST 1048576: true; the input reads as it did. -/
def fnPhantomUptoRow : OpenClaim := { program := "ytghgljelnhfihaagreat", sum := "c0ed549552c437f328ef45a0b742fe8f3de1ae9fcf7242f3e15bf9054160f149", func := "loop.example/g00332/laws.FnPhantom", spec := "fnPhantom", unfollowed := true, recurses := true, apart := false, narrowed := true }
def FnPhantomUptoSaid : Prop := fnPhantomUptoRow.holds Tryz.pinned (OpenSpec.upto fnPhantomSpec)

/-- 'laws.FnRows', WHERE WHAT IT READS IS OF BULK AT MOST 1048576: true; the input reads as it did. -/
def fnRowsUptoRow : OpenClaim := { program := "ytghgljelnhfihaagreat", sum := "c0ed549552c437f328ef45a0b742fe8f3de1ae9fcf7242f3e15bf9054160f149", func := "loop.example/g00332/laws.FnRows", spec := "fnRows", unfollowed := true, recurses := true, apart := false, narrowed := true }
def FnRowsUptoSaid : Prop := fnRowsUptoRow.holds Tryz.pinned (OpenSpec.upto fnRowsSpec)

end Rows
end Go.Proofs.YtghgljelnhfihaaGreat
