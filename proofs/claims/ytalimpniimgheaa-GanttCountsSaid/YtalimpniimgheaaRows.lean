/-
  No cell of these rows narrows 'for every input' (looked for: loops, veiled, ifaces, maps, wideKeys, modest, calm, conditions, laid).
  DERIVED. THE GIVEN ROWS OF THIS SEAT. 11 by the template 'for every input the law returns true; each argument reads behind the call as it read before'; 0 by the template 'total and deterministic' (their statements: YtalimpniimgheaaTotals.lean).
  GIVEN WITH THE SEED: the statements are not yours to turn. If you find one false, say at which input.
  Laid BY PROGRAM, IN A SANDBOX (cutbox-rows.mjs): the forced cells as the released guide's own fill.sh prints them over the translation 9b8f150261d0a3cd… (all of the seat's roots in one cut). By AI agents, Wed Nov 11 2026. No macro, syntax, notation, axiom, sorry.
-/
import Derived.Test.YtalimpniimgheaaChecked
import GoSem.Claim
import GoSem.ClaimJoined
import GoSem.ClaimMapViews
import Derived.JoinedTies
import Derived.KernelRfl
namespace Go.Proofs.Ytalimpniimgheaa
/- THE CELL 'sum', in the pinned program and in every row, IS THE sha256 OF THE DUMP (.gsa) THAT YtalimpniimgheaaProg.lean LOADS. Nothing in Lean hashes anything: it is a label: what it is worth is what the hold of that sum in a sandbox is worth. -/
noncomputable def Try.pinned : Pinned := { name := "ytalimpniimgheaa", sum := "9b8f150261d0a3cdf4dbb6f3638d14707a28dd1e8d0f2f18c2c93ac3e17c220d", checked := Try.checked }
namespace Rows
def none {H : Type} : Left H := { results := [], args := [] }

/-- 'parcloselaw23.JournalPlays': WHATEVER THE INPUT: true; the input reads as it did. -/
def journalPlaysSpec : ChangeSpec := { name := "journalPlays", fn := fun _ => fun
  | [d1, d2, d3] => { results := [.lit (.bool true)], args := [d1, d2, d3] }
  | _ => none }
def journalPlaysRow : OpenClaim := { program := "ytalimpniimgheaa", sum := "9b8f150261d0a3cdf4dbb6f3638d14707a28dd1e8d0f2f18c2c93ac3e17c220d", func := "parclose/parcloselaw23.JournalPlays", spec := "journalPlays", unfollowed := true, recurses := true, apart := false }
def JournalPlaysSaid : Prop := journalPlaysRow.holds Try.pinned (OpenSpec.ofChange journalPlaysSpec)

/-- ITS FALSE NEIGHBOUR: 'it returns false'. Refute it at one input. -/
def journalPlaysWrong : ChangeSpec := { name := "journalPlays", fn := fun _ => fun
  | [d1, d2, d3] => { results := [.lit (.bool false)], args := [d1, d2, d3] }
  | _ => none }
def JournalPlaysWrongFalsely : Prop := journalPlaysRow.holds Try.pinned (OpenSpec.ofChange journalPlaysWrong)

/-- 'parcloselaw35.GanttTells': WHATEVER THE INPUT: true; the input reads as it did. -/
def ganttTellsSpec : ChangeSpec := { name := "ganttTells", fn := fun _ => fun
  | [d1, d2, d3] => { results := [.lit (.bool true)], args := [d1, d2, d3] }
  | _ => none }
def ganttTellsRow : OpenClaim := { program := "ytalimpniimgheaa", sum := "9b8f150261d0a3cdf4dbb6f3638d14707a28dd1e8d0f2f18c2c93ac3e17c220d", func := "parclose/parcloselaw35.GanttTells", spec := "ganttTells", apart := false }
def GanttTellsSaid : Prop := ganttTellsRow.holds Try.pinned (OpenSpec.ofChange ganttTellsSpec)

/-- ITS FALSE NEIGHBOUR: 'it returns false'. Refute it at one input. -/
def ganttTellsWrong : ChangeSpec := { name := "ganttTells", fn := fun _ => fun
  | [d1, d2, d3] => { results := [.lit (.bool false)], args := [d1, d2, d3] }
  | _ => none }
def GanttTellsWrongFalsely : Prop := ganttTellsRow.holds Try.pinned (OpenSpec.ofChange ganttTellsWrong)

/-- 'parcloselaw23.JournalWords': WHATEVER THE INPUT: true; the input reads as it did. -/
def journalWordsSpec : ChangeSpec := { name := "journalWords", fn := fun _ => fun
  | [d1, d2, d3] => { results := [.lit (.bool true)], args := [d1, d2, d3] }
  | _ => none }
def journalWordsRow : OpenClaim := { program := "ytalimpniimgheaa", sum := "9b8f150261d0a3cdf4dbb6f3638d14707a28dd1e8d0f2f18c2c93ac3e17c220d", func := "parclose/parcloselaw23.JournalWords", spec := "journalWords", unfollowed := true, recurses := true, apart := false }
def JournalWordsSaid : Prop := journalWordsRow.holds Try.pinned (OpenSpec.ofChange journalWordsSpec)

/-- ITS FALSE NEIGHBOUR: 'it returns false'. Refute it at one input. -/
def journalWordsWrong : ChangeSpec := { name := "journalWords", fn := fun _ => fun
  | [d1, d2, d3] => { results := [.lit (.bool false)], args := [d1, d2, d3] }
  | _ => none }
def JournalWordsWrongFalsely : Prop := journalWordsRow.holds Try.pinned (OpenSpec.ofChange journalWordsWrong)

/-- 'parcloselaw40.MergeTells': WHATEVER THE INPUT: true; the input reads as it did. -/
def mergeTellsSpec : ChangeSpec := { name := "mergeTells", fn := fun _ => fun
  | [d] => { results := [.lit (.bool true)], args := [d] }
  | _ => none }
def mergeTellsRow : OpenClaim := { program := "ytalimpniimgheaa", sum := "9b8f150261d0a3cdf4dbb6f3638d14707a28dd1e8d0f2f18c2c93ac3e17c220d", func := "parclose/parcloselaw40.MergeTells", spec := "mergeTells", unfollowed := true, recurses := true, apart := false }
def MergeTellsSaid : Prop := mergeTellsRow.holds Try.pinned (OpenSpec.ofChange mergeTellsSpec)

/-- ITS FALSE NEIGHBOUR: 'it returns false'. Refute it at one input. -/
def mergeTellsWrong : ChangeSpec := { name := "mergeTells", fn := fun _ => fun
  | [d] => { results := [.lit (.bool false)], args := [d] }
  | _ => none }
def MergeTellsWrongFalsely : Prop := mergeTellsRow.holds Try.pinned (OpenSpec.ofChange mergeTellsWrong)

/-- 'parcloselaw40.MergeSplits': WHATEVER THE INPUT: true; the input reads as it did. -/
def mergeSplitsSpec : ChangeSpec := { name := "mergeSplits", fn := fun _ => fun
  | [d] => { results := [.lit (.bool true)], args := [d] }
  | _ => none }
def mergeSplitsRow : OpenClaim := { program := "ytalimpniimgheaa", sum := "9b8f150261d0a3cdf4dbb6f3638d14707a28dd1e8d0f2f18c2c93ac3e17c220d", func := "parclose/parcloselaw40.MergeSplits", spec := "mergeSplits", unfollowed := true, recurses := true, apart := false }
def MergeSplitsSaid : Prop := mergeSplitsRow.holds Try.pinned (OpenSpec.ofChange mergeSplitsSpec)

/-- ITS FALSE NEIGHBOUR: 'it returns false'. Refute it at one input. -/
def mergeSplitsWrong : ChangeSpec := { name := "mergeSplits", fn := fun _ => fun
  | [d] => { results := [.lit (.bool false)], args := [d] }
  | _ => none }
def MergeSplitsWrongFalsely : Prop := mergeSplitsRow.holds Try.pinned (OpenSpec.ofChange mergeSplitsWrong)

/-- 'parcloselaw40.MergeLooks': WHATEVER THE INPUT: true; the input reads as it did. -/
def mergeLooksSpec : ChangeSpec := { name := "mergeLooks", fn := fun _ => fun
  | [d1, d2, d3, d4, d5] => { results := [.lit (.bool true)], args := [d1, d2, d3, d4, d5] }
  | _ => none }
def mergeLooksRow : OpenClaim := { program := "ytalimpniimgheaa", sum := "9b8f150261d0a3cdf4dbb6f3638d14707a28dd1e8d0f2f18c2c93ac3e17c220d", func := "parclose/parcloselaw40.MergeLooks", spec := "mergeLooks", unfollowed := true, recurses := true, apart := false }
def MergeLooksSaid : Prop := mergeLooksRow.holds Try.pinned (OpenSpec.ofChange mergeLooksSpec)

/-- ITS FALSE NEIGHBOUR: 'it returns false'. Refute it at one input. -/
def mergeLooksWrong : ChangeSpec := { name := "mergeLooks", fn := fun _ => fun
  | [d1, d2, d3, d4, d5] => { results := [.lit (.bool false)], args := [d1, d2, d3, d4, d5] }
  | _ => none }
def MergeLooksWrongFalsely : Prop := mergeLooksRow.holds Try.pinned (OpenSpec.ofChange mergeLooksWrong)

/-- 'parcloselaw36.PackPuts': WHATEVER THE INPUT: true; the input reads as it did. -/
def packPutsSpec : ChangeSpec := { name := "packPuts", fn := fun _ => fun
  | [d1, d2, d3] => { results := [.lit (.bool true)], args := [d1, d2, d3] }
  | _ => none }
def packPutsRow : OpenClaim := { program := "ytalimpniimgheaa", sum := "9b8f150261d0a3cdf4dbb6f3638d14707a28dd1e8d0f2f18c2c93ac3e17c220d", func := "parclose/parcloselaw36.PackPuts", spec := "packPuts", unfollowed := true, recurses := true, apart := false }
def PackPutsSaid : Prop := packPutsRow.holds Try.pinned (OpenSpec.ofChange packPutsSpec)

/-- ITS FALSE NEIGHBOUR: 'it returns false'. Refute it at one input. -/
def packPutsWrong : ChangeSpec := { name := "packPuts", fn := fun _ => fun
  | [d1, d2, d3] => { results := [.lit (.bool false)], args := [d1, d2, d3] }
  | _ => none }
def PackPutsWrongFalsely : Prop := packPutsRow.holds Try.pinned (OpenSpec.ofChange packPutsWrong)

/-- 'parcloselaw36.PackGets': WHATEVER THE INPUT: true; the input reads as it did. -/
def packGetsSpec : ChangeSpec := { name := "packGets", fn := fun _ => fun
  | [d] => { results := [.lit (.bool true)], args := [d] }
  | _ => none }
def packGetsRow : OpenClaim := { program := "ytalimpniimgheaa", sum := "9b8f150261d0a3cdf4dbb6f3638d14707a28dd1e8d0f2f18c2c93ac3e17c220d", func := "parclose/parcloselaw36.PackGets", spec := "packGets", unfollowed := true, recurses := true, apart := false }
def PackGetsSaid : Prop := packGetsRow.holds Try.pinned (OpenSpec.ofChange packGetsSpec)

/-- ITS FALSE NEIGHBOUR: 'it returns false'. Refute it at one input. -/
def packGetsWrong : ChangeSpec := { name := "packGets", fn := fun _ => fun
  | [d] => { results := [.lit (.bool false)], args := [d] }
  | _ => none }
def PackGetsWrongFalsely : Prop := packGetsRow.holds Try.pinned (OpenSpec.ofChange packGetsWrong)

/-- 'parcloselaw36.PackBack': WHATEVER THE INPUT: true; the input reads as it did. -/
def packBackSpec : ChangeSpec := { name := "packBack", fn := fun _ => fun
  | [d1, d2] => { results := [.lit (.bool true)], args := [d1, d2] }
  | _ => none }
def packBackRow : OpenClaim := { program := "ytalimpniimgheaa", sum := "9b8f150261d0a3cdf4dbb6f3638d14707a28dd1e8d0f2f18c2c93ac3e17c220d", func := "parclose/parcloselaw36.PackBack", spec := "packBack", unfollowed := true, recurses := true, apart := false }
def PackBackSaid : Prop := packBackRow.holds Try.pinned (OpenSpec.ofChange packBackSpec)

/-- ITS FALSE NEIGHBOUR: 'it returns false'. Refute it at one input. -/
def packBackWrong : ChangeSpec := { name := "packBack", fn := fun _ => fun
  | [d1, d2] => { results := [.lit (.bool false)], args := [d1, d2] }
  | _ => none }
def PackBackWrongFalsely : Prop := packBackRow.holds Try.pinned (OpenSpec.ofChange packBackWrong)

/-- 'parcloselaw36.PackRuns': WHATEVER THE INPUT: true; the input reads as it did. -/
def packRunsSpec : ChangeSpec := { name := "packRuns", fn := fun _ => fun
  | [d] => { results := [.lit (.bool true)], args := [d] }
  | _ => none }
def packRunsRow : OpenClaim := { program := "ytalimpniimgheaa", sum := "9b8f150261d0a3cdf4dbb6f3638d14707a28dd1e8d0f2f18c2c93ac3e17c220d", func := "parclose/parcloselaw36.PackRuns", spec := "packRuns", unfollowed := true, recurses := true, apart := false }
def PackRunsSaid : Prop := packRunsRow.holds Try.pinned (OpenSpec.ofChange packRunsSpec)

/-- ITS FALSE NEIGHBOUR: 'it returns false'. Refute it at one input. -/
def packRunsWrong : ChangeSpec := { name := "packRuns", fn := fun _ => fun
  | [d] => { results := [.lit (.bool false)], args := [d] }
  | _ => none }
def PackRunsWrongFalsely : Prop := packRunsRow.holds Try.pinned (OpenSpec.ofChange packRunsWrong)

/-- 'parcloselaw35.GanttCounts': WHATEVER THE INPUT: true; the input reads as it did. -/
def ganttCountsSpec : ChangeSpec := { name := "ganttCounts", fn := fun _ => fun
  | [d1, d2] => { results := [.lit (.bool true)], args := [d1, d2] }
  | _ => none }
def ganttCountsRow : OpenClaim := { program := "ytalimpniimgheaa", sum := "9b8f150261d0a3cdf4dbb6f3638d14707a28dd1e8d0f2f18c2c93ac3e17c220d", func := "parclose/parcloselaw35.GanttCounts", spec := "ganttCounts", unfollowed := true, recurses := true, apart := false }
def GanttCountsSaid : Prop := ganttCountsRow.holds Try.pinned (OpenSpec.ofChange ganttCountsSpec)

/-- ITS FALSE NEIGHBOUR: 'it returns false'. Refute it at one input. -/
def ganttCountsWrong : ChangeSpec := { name := "ganttCounts", fn := fun _ => fun
  | [d1, d2] => { results := [.lit (.bool false)], args := [d1, d2] }
  | _ => none }
def GanttCountsWrongFalsely : Prop := ganttCountsRow.holds Try.pinned (OpenSpec.ofChange ganttCountsWrong)

/- THE SECOND FORM. 'bulk': how many values and letters a reading holds, each counted each time it is reached (what is shared counts as often as it is met; a slice's spare places count too). A statement '..UptoSaid' is the law's where the arguments, and the package variables that the reading takes, are together of bulk at most 1048576: NARROWER than '..Said'. Prove '..Said' where nothing that the law and all that it calls make is longer than what came in: it says more and counts as full. Else prove '..UptoSaid'. A law counts once. -/
mutual
def uptoBulk {H : Type} : DataW H → Nat
  | .lit (.string bytes) => bytes.length + 1
  | .lit _ => 1
  | .nil => 1
  | .ptr d => uptoBulk d + 1
  | .slice elems spare => uptoBulkAll elems + uptoBulkAll spare + 1
  | .agg parts => uptoBulkAll parts + 1
  | .iface _ d => uptoBulk d + 1
  | .map entries => uptoBulkEntries entries + 1
  | .held _ => 1
def uptoBulkAll {H : Type} : List (DataW H) → Nat
  | [] => 0
  | d :: r => uptoBulk d + uptoBulkAll r
def uptoBulkEntries {H : Type} : List (Lit × DataW H) → Nat
  | [] => 0
  | x :: r => uptoBulkEntry x + uptoBulkEntries r
def uptoBulkEntry {H : Type} : Lit × DataW H → Nat
  | (.string bytes, d) => bytes.length + uptoBulk d + 1
  | (_, d) => uptoBulk d + 1
 end
def uptoSmall : (H : Type) → List (DataW H) → Bool := fun _ ds => decide (uptoBulkAll ds ≤ 1048576)
def OpenSpec.upto (s : _root_.Go.ChangeSpec) : _root_.Go.OpenSpec := { _root_.Go.OpenSpec.ofChange s with cond := some uptoSmall }

/-- 'parcloselaw23.JournalPlays', WHERE WHAT IT READS IS OF BULK AT MOST 1048576: true; the input reads as it did. -/
def journalPlaysUptoRow : OpenClaim := { program := "ytalimpniimgheaa", sum := "9b8f150261d0a3cdf4dbb6f3638d14707a28dd1e8d0f2f18c2c93ac3e17c220d", func := "parclose/parcloselaw23.JournalPlays", spec := "journalPlays", unfollowed := true, recurses := true, apart := false, narrowed := true }
def JournalPlaysUptoSaid : Prop := journalPlaysUptoRow.holds Try.pinned (OpenSpec.upto journalPlaysSpec)

/-- 'parcloselaw35.GanttTells', WHERE WHAT IT READS IS OF BULK AT MOST 1048576: true; the input reads as it did. -/
def ganttTellsUptoRow : OpenClaim := { program := "ytalimpniimgheaa", sum := "9b8f150261d0a3cdf4dbb6f3638d14707a28dd1e8d0f2f18c2c93ac3e17c220d", func := "parclose/parcloselaw35.GanttTells", spec := "ganttTells", apart := false, narrowed := true }
def GanttTellsUptoSaid : Prop := ganttTellsUptoRow.holds Try.pinned (OpenSpec.upto ganttTellsSpec)

/-- 'parcloselaw23.JournalWords', WHERE WHAT IT READS IS OF BULK AT MOST 1048576: true; the input reads as it did. -/
def journalWordsUptoRow : OpenClaim := { program := "ytalimpniimgheaa", sum := "9b8f150261d0a3cdf4dbb6f3638d14707a28dd1e8d0f2f18c2c93ac3e17c220d", func := "parclose/parcloselaw23.JournalWords", spec := "journalWords", unfollowed := true, recurses := true, apart := false, narrowed := true }
def JournalWordsUptoSaid : Prop := journalWordsUptoRow.holds Try.pinned (OpenSpec.upto journalWordsSpec)

/-- 'parcloselaw40.MergeTells', WHERE WHAT IT READS IS OF BULK AT MOST 1048576: true; the input reads as it did. -/
def mergeTellsUptoRow : OpenClaim := { program := "ytalimpniimgheaa", sum := "9b8f150261d0a3cdf4dbb6f3638d14707a28dd1e8d0f2f18c2c93ac3e17c220d", func := "parclose/parcloselaw40.MergeTells", spec := "mergeTells", unfollowed := true, recurses := true, apart := false, narrowed := true }
def MergeTellsUptoSaid : Prop := mergeTellsUptoRow.holds Try.pinned (OpenSpec.upto mergeTellsSpec)

/-- 'parcloselaw40.MergeSplits', WHERE WHAT IT READS IS OF BULK AT MOST 1048576: true; the input reads as it did. -/
def mergeSplitsUptoRow : OpenClaim := { program := "ytalimpniimgheaa", sum := "9b8f150261d0a3cdf4dbb6f3638d14707a28dd1e8d0f2f18c2c93ac3e17c220d", func := "parclose/parcloselaw40.MergeSplits", spec := "mergeSplits", unfollowed := true, recurses := true, apart := false, narrowed := true }
def MergeSplitsUptoSaid : Prop := mergeSplitsUptoRow.holds Try.pinned (OpenSpec.upto mergeSplitsSpec)

/-- 'parcloselaw40.MergeLooks', WHERE WHAT IT READS IS OF BULK AT MOST 1048576: true; the input reads as it did. -/
def mergeLooksUptoRow : OpenClaim := { program := "ytalimpniimgheaa", sum := "9b8f150261d0a3cdf4dbb6f3638d14707a28dd1e8d0f2f18c2c93ac3e17c220d", func := "parclose/parcloselaw40.MergeLooks", spec := "mergeLooks", unfollowed := true, recurses := true, apart := false, narrowed := true }
def MergeLooksUptoSaid : Prop := mergeLooksUptoRow.holds Try.pinned (OpenSpec.upto mergeLooksSpec)

/-- 'parcloselaw36.PackPuts', WHERE WHAT IT READS IS OF BULK AT MOST 1048576: true; the input reads as it did. -/
def packPutsUptoRow : OpenClaim := { program := "ytalimpniimgheaa", sum := "9b8f150261d0a3cdf4dbb6f3638d14707a28dd1e8d0f2f18c2c93ac3e17c220d", func := "parclose/parcloselaw36.PackPuts", spec := "packPuts", unfollowed := true, recurses := true, apart := false, narrowed := true }
def PackPutsUptoSaid : Prop := packPutsUptoRow.holds Try.pinned (OpenSpec.upto packPutsSpec)

/-- 'parcloselaw36.PackGets', WHERE WHAT IT READS IS OF BULK AT MOST 1048576: true; the input reads as it did. -/
def packGetsUptoRow : OpenClaim := { program := "ytalimpniimgheaa", sum := "9b8f150261d0a3cdf4dbb6f3638d14707a28dd1e8d0f2f18c2c93ac3e17c220d", func := "parclose/parcloselaw36.PackGets", spec := "packGets", unfollowed := true, recurses := true, apart := false, narrowed := true }
def PackGetsUptoSaid : Prop := packGetsUptoRow.holds Try.pinned (OpenSpec.upto packGetsSpec)

/-- 'parcloselaw36.PackBack', WHERE WHAT IT READS IS OF BULK AT MOST 1048576: true; the input reads as it did. -/
def packBackUptoRow : OpenClaim := { program := "ytalimpniimgheaa", sum := "9b8f150261d0a3cdf4dbb6f3638d14707a28dd1e8d0f2f18c2c93ac3e17c220d", func := "parclose/parcloselaw36.PackBack", spec := "packBack", unfollowed := true, recurses := true, apart := false, narrowed := true }
def PackBackUptoSaid : Prop := packBackUptoRow.holds Try.pinned (OpenSpec.upto packBackSpec)

/-- 'parcloselaw36.PackRuns', WHERE WHAT IT READS IS OF BULK AT MOST 1048576: true; the input reads as it did. -/
def packRunsUptoRow : OpenClaim := { program := "ytalimpniimgheaa", sum := "9b8f150261d0a3cdf4dbb6f3638d14707a28dd1e8d0f2f18c2c93ac3e17c220d", func := "parclose/parcloselaw36.PackRuns", spec := "packRuns", unfollowed := true, recurses := true, apart := false, narrowed := true }
def PackRunsUptoSaid : Prop := packRunsUptoRow.holds Try.pinned (OpenSpec.upto packRunsSpec)

/-- 'parcloselaw35.GanttCounts', WHERE WHAT IT READS IS OF BULK AT MOST 1048576: true; the input reads as it did. -/
def ganttCountsUptoRow : OpenClaim := { program := "ytalimpniimgheaa", sum := "9b8f150261d0a3cdf4dbb6f3638d14707a28dd1e8d0f2f18c2c93ac3e17c220d", func := "parclose/parcloselaw35.GanttCounts", spec := "ganttCounts", unfollowed := true, recurses := true, apart := false, narrowed := true }
def GanttCountsUptoSaid : Prop := ganttCountsUptoRow.holds Try.pinned (OpenSpec.upto ganttCountsSpec)

end Rows
end Go.Proofs.Ytalimpniimgheaa
