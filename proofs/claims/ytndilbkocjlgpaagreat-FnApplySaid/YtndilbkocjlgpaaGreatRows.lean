/-
  No cell of these rows narrows 'for every input' (looked for: loops, veiled, ifaces, maps, wideKeys, modest, calm, conditions, laid).
  DERIVED. THE GIVEN ROWS OF THIS SEAT. 8 by the template 'for every input the law returns true; each argument reads behind the call as it read before'; 0 by the template 'total and deterministic' (their statements: YtndilbkocjlgpaaGreatTotals.lean).
  GIVEN WITH THE SEED: the statements are not yours to turn. If you find one false, say at which input.
  Laid BY PROGRAM, IN A SANDBOX (cutbox-rows.mjs): the forced cells as the released guide's own fill.sh prints them over the translation ac608d9aa28550ff… (all of the seat's roots in one cut). By AI agents, Wed Nov 11 2026. No macro, syntax, notation, axiom, sorry.
-/
import Derived.Test.YtndilbkocjlgpaaGreatChecked
import GoSem.Claim
import GoSem.ClaimJoined
import GoSem.ClaimMapViews
import Derived.JoinedTies
import Derived.KernelRfl
namespace Go.Proofs.YtndilbkocjlgpaaGreat
/- THE CELL 'sum', in the pinned program and in every row, IS THE sha256 OF THE DUMP (.gsa) THAT YtndilbkocjlgpaaGreatProg.lean LOADS. Nothing in Lean hashes anything: it is a label: what it is worth is what the hold of that sum in a sandbox is worth. -/
noncomputable def Tryz.pinned : Pinned := { name := "ytndilbkocjlgpaagreat", sum := "ac608d9aa28550ff7b16a9cf8368e38cdb90daf4dc262c4472359f03c3a24a17", checked := Tryz.checked }
namespace Rows
def none {H : Type} : Left H := { results := [], args := [] }

/-- 'laws.FnLog': WHATEVER THE INPUT: true; the input reads as it did. -/
def fnLogSpec : ChangeSpec := { name := "fnLog", fn := fun _ => fun
  | [d1, d2] => { results := [.lit (.bool true)], args := [d1, d2] }
  | _ => none }
def fnLogRow : OpenClaim := { program := "ytndilbkocjlgpaagreat", sum := "ac608d9aa28550ff7b16a9cf8368e38cdb90daf4dc262c4472359f03c3a24a17", func := "loop.example/g00332/laws.FnLog", spec := "fnLog", unfollowed := true, recurses := true, apart := false }
def FnLogSaid : Prop := fnLogRow.holds Tryz.pinned (OpenSpec.ofChange fnLogSpec)

/-- ITS FALSE NEIGHBOUR: 'it returns false'. Refute it at one input. -/
def fnLogWrong : ChangeSpec := { name := "fnLog", fn := fun _ => fun
  | [d1, d2] => { results := [.lit (.bool false)], args := [d1, d2] }
  | _ => none }
def FnLogWrongFalsely : Prop := fnLogRow.holds Tryz.pinned (OpenSpec.ofChange fnLogWrong)

/-- 'laws.FnExactAppendLog': WHATEVER THE INPUT: true; the input reads as it did. -/
def fnExactAppendLogSpec : ChangeSpec := { name := "fnExactAppendLog", fn := fun _ => fun
  | [d1, d2] => { results := [.lit (.bool true)], args := [d1, d2] }
  | _ => none }
def fnExactAppendLogRow : OpenClaim := { program := "ytndilbkocjlgpaagreat", sum := "ac608d9aa28550ff7b16a9cf8368e38cdb90daf4dc262c4472359f03c3a24a17", func := "loop.example/g00332/laws.FnExactAppendLog", spec := "fnExactAppendLog", unfollowed := true, recurses := true, apart := false }
def FnExactAppendLogSaid : Prop := fnExactAppendLogRow.holds Tryz.pinned (OpenSpec.ofChange fnExactAppendLogSpec)

/-- ITS FALSE NEIGHBOUR: 'it returns false'. Refute it at one input. -/
def fnExactAppendLogWrong : ChangeSpec := { name := "fnExactAppendLog", fn := fun _ => fun
  | [d1, d2] => { results := [.lit (.bool false)], args := [d1, d2] }
  | _ => none }
def FnExactAppendLogWrongFalsely : Prop := fnExactAppendLogRow.holds Tryz.pinned (OpenSpec.ofChange fnExactAppendLogWrong)

/-- 'laws.FnExactFlushLog': WHATEVER THE INPUT: true; the input reads as it did. -/
def fnExactFlushLogSpec : ChangeSpec := { name := "fnExactFlushLog", fn := fun _ => fun
  | [d1, d2] => { results := [.lit (.bool true)], args := [d1, d2] }
  | _ => none }
def fnExactFlushLogRow : OpenClaim := { program := "ytndilbkocjlgpaagreat", sum := "ac608d9aa28550ff7b16a9cf8368e38cdb90daf4dc262c4472359f03c3a24a17", func := "loop.example/g00332/laws.FnExactFlushLog", spec := "fnExactFlushLog", unfollowed := true, recurses := true, apart := false }
def FnExactFlushLogSaid : Prop := fnExactFlushLogRow.holds Tryz.pinned (OpenSpec.ofChange fnExactFlushLogSpec)

/-- ITS FALSE NEIGHBOUR: 'it returns false'. Refute it at one input. -/
def fnExactFlushLogWrong : ChangeSpec := { name := "fnExactFlushLog", fn := fun _ => fun
  | [d1, d2] => { results := [.lit (.bool false)], args := [d1, d2] }
  | _ => none }
def FnExactFlushLogWrongFalsely : Prop := fnExactFlushLogRow.holds Tryz.pinned (OpenSpec.ofChange fnExactFlushLogWrong)

/-- 'laws.FnApply': WHATEVER THE INPUT: true; the input reads as it did. -/
def fnApplySpec : ChangeSpec := { name := "fnApply", fn := fun _ => fun
  | [d1, d2] => { results := [.lit (.bool true)], args := [d1, d2] }
  | _ => none }
def fnApplyRow : OpenClaim := { program := "ytndilbkocjlgpaagreat", sum := "ac608d9aa28550ff7b16a9cf8368e38cdb90daf4dc262c4472359f03c3a24a17", func := "loop.example/g00332/laws.FnApply", spec := "fnApply", unfollowed := true, recurses := true, apart := false }
def FnApplySaid : Prop := fnApplyRow.holds Tryz.pinned (OpenSpec.ofChange fnApplySpec)

/-- ITS FALSE NEIGHBOUR: 'it returns false'. Refute it at one input. -/
def fnApplyWrong : ChangeSpec := { name := "fnApply", fn := fun _ => fun
  | [d1, d2] => { results := [.lit (.bool false)], args := [d1, d2] }
  | _ => none }
def FnApplyWrongFalsely : Prop := fnApplyRow.holds Tryz.pinned (OpenSpec.ofChange fnApplyWrong)

/-- 'laws.FnExactEvictPage': WHATEVER THE INPUT: true; the input reads as it did. -/
def fnExactEvictPageSpec : ChangeSpec := { name := "fnExactEvictPage", fn := fun _ => fun
  | [d1, d2] => { results := [.lit (.bool true)], args := [d1, d2] }
  | _ => none }
def fnExactEvictPageRow : OpenClaim := { program := "ytndilbkocjlgpaagreat", sum := "ac608d9aa28550ff7b16a9cf8368e38cdb90daf4dc262c4472359f03c3a24a17", func := "loop.example/g00332/laws.FnExactEvictPage", spec := "fnExactEvictPage", unfollowed := true, recurses := true, apart := false }
def FnExactEvictPageSaid : Prop := fnExactEvictPageRow.holds Tryz.pinned (OpenSpec.ofChange fnExactEvictPageSpec)

/-- ITS FALSE NEIGHBOUR: 'it returns false'. Refute it at one input. -/
def fnExactEvictPageWrong : ChangeSpec := { name := "fnExactEvictPage", fn := fun _ => fun
  | [d1, d2] => { results := [.lit (.bool false)], args := [d1, d2] }
  | _ => none }
def FnExactEvictPageWrongFalsely : Prop := fnExactEvictPageRow.holds Tryz.pinned (OpenSpec.ofChange fnExactEvictPageWrong)

/-- 'laws.FnSteal': WHATEVER THE INPUT: true; the input reads as it did. -/
def fnStealSpec : ChangeSpec := { name := "fnSteal", fn := fun _ => fun
  | [d1, d2] => { results := [.lit (.bool true)], args := [d1, d2] }
  | _ => none }
def fnStealRow : OpenClaim := { program := "ytndilbkocjlgpaagreat", sum := "ac608d9aa28550ff7b16a9cf8368e38cdb90daf4dc262c4472359f03c3a24a17", func := "loop.example/g00332/laws.FnSteal", spec := "fnSteal", unfollowed := true, recurses := true, apart := false }
def FnStealSaid : Prop := fnStealRow.holds Tryz.pinned (OpenSpec.ofChange fnStealSpec)

/-- ITS FALSE NEIGHBOUR: 'it returns false'. Refute it at one input. -/
def fnStealWrong : ChangeSpec := { name := "fnSteal", fn := fun _ => fun
  | [d1, d2] => { results := [.lit (.bool false)], args := [d1, d2] }
  | _ => none }
def FnStealWrongFalsely : Prop := fnStealRow.holds Tryz.pinned (OpenSpec.ofChange fnStealWrong)

/-- 'laws.FnExactFetchPage': WHATEVER THE INPUT: true; the input reads as it did. -/
def fnExactFetchPageSpec : ChangeSpec := { name := "fnExactFetchPage", fn := fun _ => fun
  | [d1, d2] => { results := [.lit (.bool true)], args := [d1, d2] }
  | _ => none }
def fnExactFetchPageRow : OpenClaim := { program := "ytndilbkocjlgpaagreat", sum := "ac608d9aa28550ff7b16a9cf8368e38cdb90daf4dc262c4472359f03c3a24a17", func := "loop.example/g00332/laws.FnExactFetchPage", spec := "fnExactFetchPage", unfollowed := true, recurses := true, apart := false }
def FnExactFetchPageSaid : Prop := fnExactFetchPageRow.holds Tryz.pinned (OpenSpec.ofChange fnExactFetchPageSpec)

/-- ITS FALSE NEIGHBOUR: 'it returns false'. Refute it at one input. -/
def fnExactFetchPageWrong : ChangeSpec := { name := "fnExactFetchPage", fn := fun _ => fun
  | [d1, d2] => { results := [.lit (.bool false)], args := [d1, d2] }
  | _ => none }
def FnExactFetchPageWrongFalsely : Prop := fnExactFetchPageRow.holds Tryz.pinned (OpenSpec.ofChange fnExactFetchPageWrong)

/-- 'laws.FnExactApplyChange': WHATEVER THE INPUT: true; the input reads as it did. -/
def fnExactApplyChangeSpec : ChangeSpec := { name := "fnExactApplyChange", fn := fun _ => fun
  | [d1, d2] => { results := [.lit (.bool true)], args := [d1, d2] }
  | _ => none }
def fnExactApplyChangeRow : OpenClaim := { program := "ytndilbkocjlgpaagreat", sum := "ac608d9aa28550ff7b16a9cf8368e38cdb90daf4dc262c4472359f03c3a24a17", func := "loop.example/g00332/laws.FnExactApplyChange", spec := "fnExactApplyChange", unfollowed := true, recurses := true, apart := false }
def FnExactApplyChangeSaid : Prop := fnExactApplyChangeRow.holds Tryz.pinned (OpenSpec.ofChange fnExactApplyChangeSpec)

/-- ITS FALSE NEIGHBOUR: 'it returns false'. Refute it at one input. -/
def fnExactApplyChangeWrong : ChangeSpec := { name := "fnExactApplyChange", fn := fun _ => fun
  | [d1, d2] => { results := [.lit (.bool false)], args := [d1, d2] }
  | _ => none }
def FnExactApplyChangeWrongFalsely : Prop := fnExactApplyChangeRow.holds Tryz.pinned (OpenSpec.ofChange fnExactApplyChangeWrong)

/- THE SECOND FORM. 'bulk': how many values and letters a reading holds, each counted each time it is reached (what is shared counts as often as it is met; a slice's spare places count too). A statement '..UptoSaid' is the law's where the arguments, and the package variables that the reading takes, are together of bulk at most 1048576: NARROWER than '..Said'. Prove '..Said' where nothing that the law and all that it calls make is longer than what came in: it says more and counts as full. Else prove '..UptoSaid'. A law counts once. -/
mutual
def uptoBulk {H : Type} : DataW H → Nat
  | .lit (.string bytes) => bytes.length + 1
  | .lit _ => 1
  | .nil => 1
  | .ptr d => uptoBulk d + 1
  | .slice elems spare => uptoBulkAll elems + uptoBulkAll spare + 1
  | .agg parts => uptoBulkAll parts + 1
  | .iface _ d => uptoBulk d + 1
  | .map entries => uptoBulkEntries entries + 1
  | .held _ => 1
def uptoBulkAll {H : Type} : List (DataW H) → Nat
  | [] => 0
  | d :: r => uptoBulk d + uptoBulkAll r
def uptoBulkEntries {H : Type} : List (Lit × DataW H) → Nat
  | [] => 0
  | x :: r => uptoBulkEntry x + uptoBulkEntries r
def uptoBulkEntry {H : Type} : Lit × DataW H → Nat
  | (.string bytes, d) => bytes.length + uptoBulk d + 1
  | (_, d) => uptoBulk d + 1
 end
def uptoSmall : (H : Type) → List (DataW H) → Bool := fun _ ds => decide (uptoBulkAll ds ≤ 1048576)
def OpenSpec.upto (s : _root_.Go.ChangeSpec) : _root_.Go.OpenSpec := { _root_.Go.OpenSpec.ofChange s with cond := some uptoSmall }

/-- 'laws.FnLog', WHERE WHAT IT READS IS OF BULK AT MOST 1048576: true; the input reads as it did. -/
def fnLogUptoRow : OpenClaim := { program := "ytndilbkocjlgpaagreat", sum := "ac608d9aa28550ff7b16a9cf8368e38cdb90daf4dc262c4472359f03c3a24a17", func := "loop.example/g00332/laws.FnLog", spec := "fnLog", unfollowed := true, recurses := true, apart := false, narrowed := true }
def FnLogUptoSaid : Prop := fnLogUptoRow.holds Tryz.pinned (OpenSpec.upto fnLogSpec)

/-- 'laws.FnExactAppendLog', WHERE WHAT IT READS IS OF BULK AT MOST 1048576: true; the input reads as it did. -/
def fnExactAppendLogUptoRow : OpenClaim := { program := "ytndilbkocjlgpaagreat", sum := "ac608d9aa28550ff7b16a9cf8368e38cdb90daf4dc262c4472359f03c3a24a17", func := "loop.example/g00332/laws.FnExactAppendLog", spec := "fnExactAppendLog", unfollowed := true, recurses := true, apart := false, narrowed := true }
def FnExactAppendLogUptoSaid : Prop := fnExactAppendLogUptoRow.holds Tryz.pinned (OpenSpec.upto fnExactAppendLogSpec)

/-- 'laws.FnExactFlushLog', WHERE WHAT IT READS IS OF BULK AT MOST 1048576: true; the input reads as it did. -/
def fnExactFlushLogUptoRow : OpenClaim := { program := "ytndilbkocjlgpaagreat", sum := "ac608d9aa28550ff7b16a9cf8368e38cdb90daf4dc262c4472359f03c3a24a17", func := "loop.example/g00332/laws.FnExactFlushLog", spec := "fnExactFlushLog", unfollowed := true, recurses := true, apart := false, narrowed := true }
def FnExactFlushLogUptoSaid : Prop := fnExactFlushLogUptoRow.holds Tryz.pinned (OpenSpec.upto fnExactFlushLogSpec)

/-- 'laws.FnApply', WHERE WHAT IT READS IS OF BULK AT MOST 1048576: true; the input reads as it did. -/
def fnApplyUptoRow : OpenClaim := { program := "ytndilbkocjlgpaagreat", sum := "ac608d9aa28550ff7b16a9cf8368e38cdb90daf4dc262c4472359f03c3a24a17", func := "loop.example/g00332/laws.FnApply", spec := "fnApply", unfollowed := true, recurses := true, apart := false, narrowed := true }
def FnApplyUptoSaid : Prop := fnApplyUptoRow.holds Tryz.pinned (OpenSpec.upto fnApplySpec)

/-- 'laws.FnExactEvictPage', WHERE WHAT IT READS IS OF BULK AT MOST 1048576: true; the input reads as it did. -/
def fnExactEvictPageUptoRow : OpenClaim := { program := "ytndilbkocjlgpaagreat", sum := "ac608d9aa28550ff7b16a9cf8368e38cdb90daf4dc262c4472359f03c3a24a17", func := "loop.example/g00332/laws.FnExactEvictPage", spec := "fnExactEvictPage", unfollowed := true, recurses := true, apart := false, narrowed := true }
def FnExactEvictPageUptoSaid : Prop := fnExactEvictPageUptoRow.holds Tryz.pinned (OpenSpec.upto fnExactEvictPageSpec)

/-- 'laws.FnSteal', WHERE WHAT IT READS IS OF BULK AT MOST 1048576: true; the input reads as it did. -/
def fnStealUptoRow : OpenClaim := { program := "ytndilbkocjlgpaagreat", sum := "ac608d9aa28550ff7b16a9cf8368e38cdb90daf4dc262c4472359f03c3a24a17", func := "loop.example/g00332/laws.FnSteal", spec := "fnSteal", unfollowed := true, recurses := true, apart := false, narrowed := true }
def FnStealUptoSaid : Prop := fnStealUptoRow.holds Tryz.pinned (OpenSpec.upto fnStealSpec)

/-- 'laws.FnExactFetchPage', WHERE WHAT IT READS IS OF BULK AT MOST 1048576: true; the input reads as it did. -/
def fnExactFetchPageUptoRow : OpenClaim := { program := "ytndilbkocjlgpaagreat", sum := "ac608d9aa28550ff7b16a9cf8368e38cdb90daf4dc262c4472359f03c3a24a17", func := "loop.example/g00332/laws.FnExactFetchPage", spec := "fnExactFetchPage", unfollowed := true, recurses := true, apart := false, narrowed := true }
def FnExactFetchPageUptoSaid : Prop := fnExactFetchPageUptoRow.holds Tryz.pinned (OpenSpec.upto fnExactFetchPageSpec)

/-- 'laws.FnExactApplyChange', WHERE WHAT IT READS IS OF BULK AT MOST 1048576: true; the input reads as it did. -/
def fnExactApplyChangeUptoRow : OpenClaim := { program := "ytndilbkocjlgpaagreat", sum := "ac608d9aa28550ff7b16a9cf8368e38cdb90daf4dc262c4472359f03c3a24a17", func := "loop.example/g00332/laws.FnExactApplyChange", spec := "fnExactApplyChange", unfollowed := true, recurses := true, apart := false, narrowed := true }
def FnExactApplyChangeUptoSaid : Prop := fnExactApplyChangeUptoRow.holds Tryz.pinned (OpenSpec.upto fnExactApplyChangeSpec)

end Rows
end Go.Proofs.YtndilbkocjlgpaaGreat
