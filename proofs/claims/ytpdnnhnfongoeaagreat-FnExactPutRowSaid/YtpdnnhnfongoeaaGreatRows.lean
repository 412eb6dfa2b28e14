/-
  No cell of these rows narrows 'for every input' (looked for: loops, veiled, ifaces, maps, wideKeys, modest, calm, conditions, laid).
  DERIVED. THE GIVEN ROWS OF THIS SEAT. 5 by the template 'for every input the law returns true; each argument reads behind the call as it read before'; 0 by the template 'total and deterministic' (their statements: YtpdnnhnfongoeaaGreatTotals.lean).
  GIVEN WITH THE SEED: the statements are not yours to turn. If you find one false, say at which input.
  Laid BY PROGRAM, IN A SANDBOX (cutbox-rows.mjs): the forced cells as the released guide's own fill.sh prints them over the translation ea209082c5927d4f… (all of the seat's roots in one cut). By AI agents, Wed Nov 11 2026. No macro, syntax, notation, axiom, sorry.
-/
import Derived.Test.YtpdnnhnfongoeaaGreatChecked
import GoSem.Claim
import GoSem.ClaimJoined
import GoSem.ClaimMapViews
import Derived.JoinedTies
import Derived.KernelRfl
namespace Go.Proofs.YtpdnnhnfongoeaaGreat
/- THE CELL 'sum', in the pinned program and in every row, IS THE sha256 OF THE DUMP (.gsa) THAT YtpdnnhnfongoeaaGreatProg.lean LOADS. Nothing in Lean hashes anything: it is a label: what it is worth is what the hold of that sum in a sandbox is worth. -/
noncomputable def Tryz.pinned : Pinned := { name := "ytpdnnhnfongoeaagreat", sum := "ea209082c5927d4f6f7cddebd842ade89f2470947b3f3c30cd8ca7886f74fd10", checked := Tryz.checked }
namespace Rows
def none {H : Type} : Left H := { results := [], args := [] }

/-- 'laws.FnExactGetRow': WHATEVER THE INPUT: true; the input reads as it did. -/
def fnExactGetRowSpec : ChangeSpec := { name := "fnExactGetRow", fn := fun _ => fun
  | [d1, d2, d3, d4] => { results := [.lit (.bool true)], args := [d1, d2, d3, d4] }
  | _ => none }
def fnExactGetRowRow : OpenClaim := { program := "ytpdnnhnfongoeaagreat", sum := "ea209082c5927d4f6f7cddebd842ade89f2470947b3f3c30cd8ca7886f74fd10", func := "loop.example/g00332/laws.FnExactGetRow", spec := "fnExactGetRow", unfollowed := true, recurses := true, apart := false }
def FnExactGetRowSaid : Prop := fnExactGetRowRow.holds Tryz.pinned (OpenSpec.ofChange fnExactGetRowSpec)

/-- ITS FALSE NEIGHBOUR: 'it returns false'. Refute it at one input. -/
def fnExactGetRowWrong : ChangeSpec := { name := "fnExactGetRow", fn := fun _ => fun
  | [d1, d2, d3, d4] => { results := [.lit (.bool false)], args := [d1, d2, d3, d4] }
  | _ => none }
def FnExactGetRowWrongFalsely : Prop := fnExactGetRowRow.holds Tryz.pinned (OpenSpec.ofChange fnExactGetRowWrong)

/-- 'laws.FnExactDropRow': WHATEVER THE INPUT: true; the input reads as it did. -/
def fnExactDropRowSpec : ChangeSpec := { name := "fnExactDropRow", fn := fun _ => fun
  | [d1, d2, d3, d4] => { results := [.lit (.bool true)], args := [d1, d2, d3, d4] }
  | _ => none }
def fnExactDropRowRow : OpenClaim := { program := "ytpdnnhnfongoeaagreat", sum := "ea209082c5927d4f6f7cddebd842ade89f2470947b3f3c30cd8ca7886f74fd10", func := "loop.example/g00332/laws.FnExactDropRow", spec := "fnExactDropRow", unfollowed := true, recurses := true, apart := false }
def FnExactDropRowSaid : Prop := fnExactDropRowRow.holds Tryz.pinned (OpenSpec.ofChange fnExactDropRowSpec)

/-- ITS FALSE NEIGHBOUR: 'it returns false'. Refute it at one input. -/
def fnExactDropRowWrong : ChangeSpec := { name := "fnExactDropRow", fn := fun _ => fun
  | [d1, d2, d3, d4] => { results := [.lit (.bool false)], args := [d1, d2, d3, d4] }
  | _ => none }
def FnExactDropRowWrongFalsely : Prop := fnExactDropRowRow.holds Tryz.pinned (OpenSpec.ofChange fnExactDropRowWrong)

/-- 'laws.FnExactPutRow': WHATEVER THE INPUT: true; the input reads as it did. -/
def fnExactPutRowSpec : ChangeSpec := { name := "fnExactPutRow", fn := fun _ => fun
  | [d1, d2, d3, d4] => { results := [.lit (.bool true)], args := [d1, d2, d3, d4] }
  | _ => none }
def fnExactPutRowRow : OpenClaim := { program := "ytpdnnhnfongoeaagreat", sum := "ea209082c5927d4f6f7cddebd842ade89f2470947b3f3c30cd8ca7886f74fd10", func := "loop.example/g00332/laws.FnExactPutRow", spec := "fnExactPutRow", unfollowed := true, recurses := true, apart := false }
def FnExactPutRowSaid : Prop := fnExactPutRowRow.holds Tryz.pinned (OpenSpec.ofChange fnExactPutRowSpec)

/-- ITS FALSE NEIGHBOUR: 'it returns false'. Refute it at one input. -/
def fnExactPutRowWrong : ChangeSpec := { name := "fnExactPutRow", fn := fun _ => fun
  | [d1, d2, d3, d4] => { results := [.lit (.bool false)], args := [d1, d2, d3, d4] }
  | _ => none }
def FnExactPutRowWrongFalsely : Prop := fnExactPutRowRow.holds Tryz.pinned (OpenSpec.ofChange fnExactPutRowWrong)

/-- 'laws.FnExactScanRows': WHATEVER THE INPUT: true; the input reads as it did. -/
def fnExactScanRowsSpec : ChangeSpec := { name := "fnExactScanRows", fn := fun _ => fun
  | [d1, d2, d3] => { results := [.lit (.bool true)], args := [d1, d2, d3] }
  | _ => none }
def fnExactScanRowsRow : OpenClaim := { program := "ytpdnnhnfongoeaagreat", sum := "ea209082c5927d4f6f7cddebd842ade89f2470947b3f3c30cd8ca7886f74fd10", func := "loop.example/g00332/laws.FnExactScanRows", spec := "fnExactScanRows", unfollowed := true, recurses := true, apart := false }
def FnExactScanRowsSaid : Prop := fnExactScanRowsRow.holds Tryz.pinned (OpenSpec.ofChange fnExactScanRowsSpec)

/-- ITS FALSE NEIGHBOUR: 'it returns false'. Refute it at one input. -/
def fnExactScanRowsWrong : ChangeSpec := { name := "fnExactScanRows", fn := fun _ => fun
  | [d1, d2, d3] => { results := [.lit (.bool false)], args := [d1, d2, d3] }
  | _ => none }
def FnExactScanRowsWrongFalsely : Prop := fnExactScanRowsRow.holds Tryz.pinned (OpenSpec.ofChange fnExactScanRowsWrong)

/-- 'laws.FnExactRestartEngine': WHATEVER THE INPUT: true; the input reads as it did. -/
def fnExactRestartEngineSpec : ChangeSpec := { name := "fnExactRestartEngine", fn := fun _ => fun
  | [d] => { results := [.lit (.bool true)], args := [d] }
  | _ => none }
def fnExactRestartEngineRow : OpenClaim := { program := "ytpdnnhnfongoeaagreat", sum := "ea209082c5927d4f6f7cddebd842ade89f2470947b3f3c30cd8ca7886f74fd10", func := "loop.example/g00332/laws.FnExactRestartEngine", spec := "fnExactRestartEngine", inPlace := ["slices.overlaps[loop.example/g00332/impl.Dirty]", "slices.overlaps[loop.example/g00332/impl.Tx]"], unfollowed := true, recurses := true, apart := false }
def FnExactRestartEngineSaid : Prop := fnExactRestartEngineRow.holds Tryz.pinned (OpenSpec.ofChange fnExactRestartEngineSpec)

/-- ITS FALSE NEIGHBOUR: 'it returns false'. Refute it at one input. -/
def fnExactRestartEngineWrong : ChangeSpec := { name := "fnExactRestartEngine", fn := fun _ => fun
  | [d] => { results := [.lit (.bool false)], args := [d] }
  | _ => none }
def FnExactRestartEngineWrongFalsely : Prop := fnExactRestartEngineRow.holds Tryz.pinned (OpenSpec.ofChange fnExactRestartEngineWrong)

/- THE SECOND FORM. 'bulk': how many values and letters a reading holds, each counted each time it is reached (what is shared counts as often as it is met; a slice's spare places count too). A statement '..UptoSaid' is the law's where the arguments, and the package variables that the reading takes, are together of bulk at most 1048576: NARROWER than '..Said'. Prove '..Said' where nothing that the law and all that it calls make is longer than what came in: it says more and counts as full. Else prove '..UptoSaid'. A law counts once. -/
mutual
def uptoBulk {H : Type} : DataW H → Nat
  | .lit (.string bytes) => bytes.length + 1
  | .lit _ => 1
  | .nil => 1
  | .ptr d => uptoBulk d + 1
  | .slice elems spare => uptoBulkAll elems + uptoBulkAll spare + 1
  | .agg parts => uptoBulkAll parts + 1
  | .iface _ d => uptoBulk d + 1
  | .map entries => uptoBulkEntries entries + 1
  | .held _ => 1
def uptoBulkAll {H : Type} : List (DataW H) → Nat
  | [] => 0
  | d :: r => uptoBulk d + uptoBulkAll r
def uptoBulkEntries {H : Type} : List (Lit × DataW H) → Nat
  | [] => 0
  | x :: r => uptoBulkEntry x + uptoBulkEntries r
def uptoBulkEntry {H : Type} : Lit × DataW H → Nat
  | (.string bytes, d) => bytes.length + uptoBulk d + 1
  | (_, d) => uptoBulk d + 1
 end
def uptoSmall : (H : Type) → List (DataW H) → Bool := fun _ ds => decide (uptoBulkAll ds ≤ 1048576)
def OpenSpec.upto (s : _root_.Go.ChangeSpec) : _root_.Go.OpenSpec := { _root_.Go.OpenSpec.ofChange s with cond := some uptoSmall }

/-- 'laws.FnExactGetRow', WHERE WHAT IT READS IS OF BULK AT MOST 1048576: true; the input reads as it did. -/
def fnExactGetRowUptoRow : OpenClaim := { program := "ytpdnnhnfongoeaagreat", sum := "ea209082c5927d4f6f7cddebd842ade89f2470947b3f3c30cd8ca7886f74fd10", func := "loop.example/g00332/laws.FnExactGetRow", spec := "fnExactGetRow", unfollowed := true, recurses := true, apart := false, narrowed := true }
def FnExactGetRowUptoSaid : Prop := fnExactGetRowUptoRow.holds Tryz.pinned (OpenSpec.upto fnExactGetRowSpec)

/-- 'laws.FnExactDropRow', WHERE WHAT IT READS IS OF BULK AT MOST 1048576: true; the input reads as it did. -/
def fnExactDropRowUptoRow : OpenClaim := { program := "ytpdnnhnfongoeaagreat", sum := "ea209082c5927d4f6f7cddebd842ade89f2470947b3f3c30cd8ca7886f74fd10", func := "loop.example/g00332/laws.FnExactDropRow", spec := "fnExactDropRow", unfollowed := true, recurses := true, apart := false, narrowed := true }
def FnExactDropRowUptoSaid : Prop := fnExactDropRowUptoRow.holds Tryz.pinned (OpenSpec.upto fnExactDropRowSpec)

/-- 'laws.FnExactPutRow', WHERE WHAT IT READS IS OF BULK AT MOST 1048576: true; the input reads as it did. -/
def fnExactPutRowUptoRow : OpenClaim := { program := "ytpdnnhnfongoeaagreat", sum := "ea209082c5927d4f6f7cddebd842ade89f2470947b3f3c30cd8ca7886f74fd10", func := "loop.example/g00332/laws.FnExactPutRow", spec := "fnExactPutRow", unfollowed := true, recurses := true, apart := false, narrowed := true }
def FnExactPutRowUptoSaid : Prop := fnExactPutRowUptoRow.holds Tryz.pinned (OpenSpec.upto fnExactPutRowSpec)

/-- 'laws.FnExactScanRows', WHERE WHAT IT READS IS OF BULK AT MOST 1048576: true; the input reads as it did. -/
def fnExactScanRowsUptoRow : OpenClaim := { program := "ytpdnnhnfongoeaagreat", sum := "ea209082c5927d4f6f7cddebd842ade89f2470947b3f3c30cd8ca7886f74fd10", func := "loop.example/g00332/laws.FnExactScanRows", spec := "fnExactScanRows", unfollowed := true, recurses := true, apart := false, narrowed := true }
def FnExactScanRowsUptoSaid : Prop := fnExactScanRowsUptoRow.holds Tryz.pinned (OpenSpec.upto fnExactScanRowsSpec)

/-- 'laws.FnExactRestartEngine', WHERE WHAT IT READS IS OF BULK AT MOST 1048576: true; the input reads as it did. -/
def fnExactRestartEngineUptoRow : OpenClaim := { program := "ytpdnnhnfongoeaagreat", sum := "ea209082c5927d4f6f7cddebd842ade89f2470947b3f3c30cd8ca7886f74fd10", func := "loop.example/g00332/laws.FnExactRestartEngine", spec := "fnExactRestartEngine", inPlace := ["slices.overlaps[loop.example/g00332/impl.Dirty]", "slices.overlaps[loop.example/g00332/impl.Tx]"], unfollowed := true, recurses := true, apart := false, narrowed := true }
def FnExactRestartEngineUptoSaid : Prop := fnExactRestartEngineUptoRow.holds Tryz.pinned (OpenSpec.upto fnExactRestartEngineSpec)

end Rows
end Go.Proofs.YtpdnnhnfongoeaaGreat
