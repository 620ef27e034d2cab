/-
  No cell of these rows narrows 'for every input' (looked for: loops, veiled, ifaces, maps, wideKeys, modest, calm, conditions, laid).
  DERIVED. THE GIVEN ROWS OF THIS SEAT. 10 by the template 'for every input the law returns true; each argument reads behind the call as it read before'; 0 by the template 'total and deterministic' (their statements: YtjekfipaadbbbaaTotals.lean).
  GIVEN WITH THE SEED: the statements are not yours to turn. If you find one false, say at which input.
  Laid BY PROGRAM, IN A SANDBOX (cutbox-rows.mjs): the forced cells as the released guide's own fill.sh prints them over the translation 026e1a80d1c1f689… (all of the seat's roots in one cut). By AI agents, Wed Nov 11 2026. No macro, syntax, notation, axiom, sorry.
-/
import Derived.Test.YtjekfipaadbbbaaChecked
import GoSem.Claim
import GoSem.ClaimJoined
import GoSem.ClaimMapViews
import Derived.JoinedTies
import Derived.KernelRfl
namespace Go.Proofs.Ytjekfipaadbbbaa
/- THE CELL 'sum', in the pinned program and in every row, IS THE sha256 OF THE DUMP (.gsa) THAT YtjekfipaadbbbaaProg.lean LOADS. Nothing in Lean hashes anything: it is a label: what it is worth is what the hold of that sum in a sandbox is worth. -/
noncomputable def Try.pinned : Pinned := { name := "ytjekfipaadbbbaa", sum := "026e1a80d1c1f689a668fda00110748e2bdb3086fbfa7fc3bd33ab26058a7365", checked := Try.checked }
namespace Rows
def none {H : Type} : Left H := { results := [], args := [] }

/-- 'parcloselaw16.PolicePlays': WHATEVER THE INPUT: true; the input reads as it did. -/
def policePlaysSpec : ChangeSpec := { name := "policePlays", fn := fun _ => fun
  | [d1, d2] => { results := [.lit (.bool true)], args := [d1, d2] }
  | _ => none }
def policePlaysRow : OpenClaim := { program := "ytjekfipaadbbbaa", sum := "026e1a80d1c1f689a668fda00110748e2bdb3086fbfa7fc3bd33ab26058a7365", func := "parclose/parcloselaw16.PolicePlays", spec := "policePlays", unfollowed := true, recurses := true, apart := false }
def PolicePlaysSaid : Prop := policePlaysRow.holds Try.pinned (OpenSpec.ofChange policePlaysSpec)

/-- ITS FALSE NEIGHBOUR: 'it returns false'. Refute it at one input. -/
def policePlaysWrong : ChangeSpec := { name := "policePlays", fn := fun _ => fun
  | [d1, d2] => { results := [.lit (.bool false)], args := [d1, d2] }
  | _ => none }
def PolicePlaysWrongFalsely : Prop := policePlaysRow.holds Try.pinned (OpenSpec.ofChange policePlaysWrong)

/-- 'parcloselaw16.PoliceApart': WHATEVER THE INPUT: true; the input reads as it did. -/
def policeApartSpec : ChangeSpec := { name := "policeApart", fn := fun _ => fun
  | [d1, d2, d3] => { results := [.lit (.bool true)], args := [d1, d2, d3] }
  | _ => none }
def policeApartRow : OpenClaim := { program := "ytjekfipaadbbbaa", sum := "026e1a80d1c1f689a668fda00110748e2bdb3086fbfa7fc3bd33ab26058a7365", func := "parclose/parcloselaw16.PoliceApart", spec := "policeApart", unfollowed := true, recurses := true, apart := false }
def PoliceApartSaid : Prop := policeApartRow.holds Try.pinned (OpenSpec.ofChange policeApartSpec)

/-- ITS FALSE NEIGHBOUR: 'it returns false'. Refute it at one input. -/
def policeApartWrong : ChangeSpec := { name := "policeApart", fn := fun _ => fun
  | [d1, d2, d3] => { results := [.lit (.bool false)], args := [d1, d2, d3] }
  | _ => none }
def PoliceApartWrongFalsely : Prop := policeApartRow.holds Try.pinned (OpenSpec.ofChange policeApartWrong)

/-- 'parcloselaw16.PoliceNil': WHATEVER THE INPUT: true; the input reads as it did. -/
def policeNilSpec : ChangeSpec := { name := "policeNil", fn := fun _ => fun
  | [d] => { results := [.lit (.bool true)], args := [d] }
  | _ => none }
def policeNilRow : OpenClaim := { program := "ytjekfipaadbbbaa", sum := "026e1a80d1c1f689a668fda00110748e2bdb3086fbfa7fc3bd33ab26058a7365", func := "parclose/parcloselaw16.PoliceNil", spec := "policeNil", unfollowed := true, recurses := true, apart := false }
def PoliceNilSaid : Prop := policeNilRow.holds Try.pinned (OpenSpec.ofChange policeNilSpec)

/-- ITS FALSE NEIGHBOUR: 'it returns false'. Refute it at one input. -/
def policeNilWrong : ChangeSpec := { name := "policeNil", fn := fun _ => fun
  | [d] => { results := [.lit (.bool false)], args := [d] }
  | _ => none }
def PoliceNilWrongFalsely : Prop := policeNilRow.holds Try.pinned (OpenSpec.ofChange policeNilWrong)

/-- 'parcloselaw12.HeapSorts': WHATEVER THE INPUT: true; the input reads as it did. -/
def heapSortsSpec : ChangeSpec := { name := "heapSorts", fn := fun _ => fun
  | [d1, d2] => { results := [.lit (.bool true)], args := [d1, d2] }
  | _ => none }
def heapSortsRow : OpenClaim := { program := "ytjekfipaadbbbaa", sum := "026e1a80d1c1f689a668fda00110748e2bdb3086fbfa7fc3bd33ab26058a7365", func := "parclose/parcloselaw12.HeapSorts", spec := "heapSorts", unfollowed := true, recurses := true, apart := false }
def HeapSortsSaid : Prop := heapSortsRow.holds Try.pinned (OpenSpec.ofChange heapSortsSpec)

/-- ITS FALSE NEIGHBOUR: 'it returns false'. Refute it at one input. -/
def heapSortsWrong : ChangeSpec := { name := "heapSorts", fn := fun _ => fun
  | [d1, d2] => { results := [.lit (.bool false)], args := [d1, d2] }
  | _ => none }
def HeapSortsWrongFalsely : Prop := heapSortsRow.holds Try.pinned (OpenSpec.ofChange heapSortsWrong)

/-- 'parcloselaw19.TasksBudgets': WHATEVER THE INPUT: true; the input reads as it did. -/
def tasksBudgetsSpec : ChangeSpec := { name := "tasksBudgets", fn := fun _ => fun
  | [d1, d2] => { results := [.lit (.bool true)], args := [d1, d2] }
  | _ => none }
def tasksBudgetsRow : OpenClaim := { program := "ytjekfipaadbbbaa", sum := "026e1a80d1c1f689a668fda00110748e2bdb3086fbfa7fc3bd33ab26058a7365", func := "parclose/parcloselaw19.TasksBudgets", spec := "tasksBudgets", unfollowed := true, recurses := true, apart := false }
def TasksBudgetsSaid : Prop := tasksBudgetsRow.holds Try.pinned (OpenSpec.ofChange tasksBudgetsSpec)

/-- ITS FALSE NEIGHBOUR: 'it returns false'. Refute it at one input. -/
def tasksBudgetsWrong : ChangeSpec := { name := "tasksBudgets", fn := fun _ => fun
  | [d1, d2] => { results := [.lit (.bool false)], args := [d1, d2] }
  | _ => none }
def TasksBudgetsWrongFalsely : Prop := tasksBudgetsRow.holds Try.pinned (OpenSpec.ofChange tasksBudgetsWrong)

/-- 'parcloselaw19.TasksPlays': WHATEVER THE INPUT: true; the input reads as it did. -/
def tasksPlaysSpec : ChangeSpec := { name := "tasksPlays", fn := fun _ => fun
  | [d1, d2] => { results := [.lit (.bool true)], args := [d1, d2] }
  | _ => none }
def tasksPlaysRow : OpenClaim := { program := "ytjekfipaadbbbaa", sum := "026e1a80d1c1f689a668fda00110748e2bdb3086fbfa7fc3bd33ab26058a7365", func := "parclose/parcloselaw19.TasksPlays", spec := "tasksPlays", unfollowed := true, recurses := true, apart := false }
def TasksPlaysSaid : Prop := tasksPlaysRow.holds Try.pinned (OpenSpec.ofChange tasksPlaysSpec)

/-- ITS FALSE NEIGHBOUR: 'it returns false'. Refute it at one input. -/
def tasksPlaysWrong : ChangeSpec := { name := "tasksPlays", fn := fun _ => fun
  | [d1, d2] => { results := [.lit (.bool false)], args := [d1, d2] }
  | _ => none }
def TasksPlaysWrongFalsely : Prop := tasksPlaysRow.holds Try.pinned (OpenSpec.ofChange tasksPlaysWrong)

/-- 'parcloselaw19.TasksHigh': WHATEVER THE INPUT: true; the input reads as it did. -/
def tasksHighSpec : ChangeSpec := { name := "tasksHigh", fn := fun _ => fun
  | [d1, d2] => { results := [.lit (.bool true)], args := [d1, d2] }
  | _ => none }
def tasksHighRow : OpenClaim := { program := "ytjekfipaadbbbaa", sum := "026e1a80d1c1f689a668fda00110748e2bdb3086fbfa7fc3bd33ab26058a7365", func := "parclose/parcloselaw19.TasksHigh", spec := "tasksHigh", unfollowed := true, recurses := true, apart := false }
def TasksHighSaid : Prop := tasksHighRow.holds Try.pinned (OpenSpec.ofChange tasksHighSpec)

/-- ITS FALSE NEIGHBOUR: 'it returns false'. Refute it at one input. -/
def tasksHighWrong : ChangeSpec := { name := "tasksHigh", fn := fun _ => fun
  | [d1, d2] => { results := [.lit (.bool false)], args := [d1, d2] }
  | _ => none }
def TasksHighWrongFalsely : Prop := tasksHighRow.holds Try.pinned (OpenSpec.ofChange tasksHighWrong)

/-- 'parcloselaw19.TasksNil': WHATEVER THE INPUT: true; the input reads as it did. -/
def tasksNilSpec : ChangeSpec := { name := "tasksNil", fn := fun _ => fun
  | [d] => { results := [.lit (.bool true)], args := [d] }
  | _ => none }
def tasksNilRow : OpenClaim := { program := "ytjekfipaadbbbaa", sum := "026e1a80d1c1f689a668fda00110748e2bdb3086fbfa7fc3bd33ab26058a7365", func := "parclose/parcloselaw19.TasksNil", spec := "tasksNil", unfollowed := true, recurses := true, apart := false }
def TasksNilSaid : Prop := tasksNilRow.holds Try.pinned (OpenSpec.ofChange tasksNilSpec)

/-- ITS FALSE NEIGHBOUR: 'it returns false'. Refute it at one input. -/
def tasksNilWrong : ChangeSpec := { name := "tasksNil", fn := fun _ => fun
  | [d] => { results := [.lit (.bool false)], args := [d] }
  | _ => none }
def TasksNilWrongFalsely : Prop := tasksNilRow.holds Try.pinned (OpenSpec.ofChange tasksNilWrong)

/-- 'parcloselaw12.HeapPlays': WHATEVER THE INPUT: true; the input reads as it did. -/
def heapPlaysSpec : ChangeSpec := { name := "heapPlays", fn := fun _ => fun
  | [d1, d2] => { results := [.lit (.bool true)], args := [d1, d2] }
  | _ => none }
def heapPlaysRow : OpenClaim := { program := "ytjekfipaadbbbaa", sum := "026e1a80d1c1f689a668fda00110748e2bdb3086fbfa7fc3bd33ab26058a7365", func := "parclose/parcloselaw12.HeapPlays", spec := "heapPlays", unfollowed := true, recurses := true, apart := false }
def HeapPlaysSaid : Prop := heapPlaysRow.holds Try.pinned (OpenSpec.ofChange heapPlaysSpec)

/-- ITS FALSE NEIGHBOUR: 'it returns false'. Refute it at one input. -/
def heapPlaysWrong : ChangeSpec := { name := "heapPlays", fn := fun _ => fun
  | [d1, d2] => { results := [.lit (.bool false)], args := [d1, d2] }
  | _ => none }
def HeapPlaysWrongFalsely : Prop := heapPlaysRow.holds Try.pinned (OpenSpec.ofChange heapPlaysWrong)

/-- 'parcloselaw12.HeapNil': WHATEVER THE INPUT: true; the input reads as it did. -/
def heapNilSpec : ChangeSpec := { name := "heapNil", fn := fun _ => fun
  | [d] => { results := [.lit (.bool true)], args := [d] }
  | _ => none }
def heapNilRow : OpenClaim := { program := "ytjekfipaadbbbaa", sum := "026e1a80d1c1f689a668fda00110748e2bdb3086fbfa7fc3bd33ab26058a7365", func := "parclose/parcloselaw12.HeapNil", spec := "heapNil", unfollowed := true, recurses := true, apart := false }
def HeapNilSaid : Prop := heapNilRow.holds Try.pinned (OpenSpec.ofChange heapNilSpec)

/-- ITS FALSE NEIGHBOUR: 'it returns false'. Refute it at one input. -/
def heapNilWrong : ChangeSpec := { name := "heapNil", fn := fun _ => fun
  | [d] => { results := [.lit (.bool false)], args := [d] }
  | _ => none }
def HeapNilWrongFalsely : Prop := heapNilRow.holds Try.pinned (OpenSpec.ofChange heapNilWrong)

/- THE SECOND FORM. 'bulk': how many values and letters a reading holds, each counted each time it is reached (what is shared counts as often as it is met; a slice's spare places count too). A statement '..UptoSaid' is the law's where the arguments, and the package variables that the reading takes, are together of bulk at most 1048576: NARROWER than '..Said'. Prove '..Said' where nothing that the law and all that it calls make is longer than what came in: it says more and counts as full. Else prove '..UptoSaid'. A law counts once. -/
mutual
def uptoBulk {H : Type} : DataW H → Nat
  | .lit (.string bytes) => bytes.length + 1
  | .lit _ => 1
  | .nil => 1
  | .ptr d => uptoBulk d + 1
  | .slice elems spare => uptoBulkAll elems + uptoBulkAll spare + 1
  | .agg parts => uptoBulkAll parts + 1
  | .iface _ d => uptoBulk d + 1
  | .map entries => uptoBulkEntries entries + 1
  | .held _ => 1
def uptoBulkAll {H : Type} : List (DataW H) → Nat
  | [] => 0
  | d :: r => uptoBulk d + uptoBulkAll r
def uptoBulkEntries {H : Type} : List (Lit × DataW H) → Nat
  | [] => 0
  | x :: r => uptoBulkEntry x + uptoBulkEntries r
def uptoBulkEntry {H : Type} : Lit × DataW H → Nat
  | (.string bytes, d) => bytes.length + uptoBulk d + 1
  | (_, d) => uptoBulk d + 1
 end
def uptoSmall : (H : Type) → List (DataW H) → Bool := fun _ ds => decide (uptoBulkAll ds ≤ 1048576)
def OpenSpec.upto (s : _root_.Go.ChangeSpec) : _root_.Go.OpenSpec := { _root_.Go.OpenSpec.ofChange s with cond := some uptoSmall }

/-- 'parcloselaw16.PolicePlays', WHERE WHAT IT READS IS OF BULK AT MOST 1048576: true; the input reads as it did. -/
def policePlaysUptoRow : OpenClaim := { program := "ytjekfipaadbbbaa", sum := "026e1a80d1c1f689a668fda00110748e2bdb3086fbfa7fc3bd33ab26058a7365", func := "parclose/parcloselaw16.PolicePlays", spec := "policePlays", unfollowed := true, recurses := true, apart := false, narrowed := true }
def PolicePlaysUptoSaid : Prop := policePlaysUptoRow.holds Try.pinned (OpenSpec.upto policePlaysSpec)

/-- 'parcloselaw16.PoliceApart', WHERE WHAT IT READS IS OF BULK AT MOST 1048576: true; the input reads as it did. -/
def policeApartUptoRow : OpenClaim := { program := "ytjekfipaadbbbaa", sum := "026e1a80d1c1f689a668fda00110748e2bdb3086fbfa7fc3bd33ab26058a7365", func := "parclose/parcloselaw16.PoliceApart", spec := "policeApart", unfollowed := true, recurses := true, apart := false, narrowed := true }
def PoliceApartUptoSaid : Prop := policeApartUptoRow.holds Try.pinned (OpenSpec.upto policeApartSpec)

/-- 'parcloselaw16.PoliceNil', WHERE WHAT IT READS IS OF BULK AT MOST 1048576: true; the input reads as it did. -/
def policeNilUptoRow : OpenClaim := { program := "ytjekfipaadbbbaa", sum := "026e1a80d1c1f689a668fda00110748e2bdb3086fbfa7fc3bd33ab26058a7365", func := "parclose/parcloselaw16.PoliceNil", spec := "policeNil", unfollowed := true, recurses := true, apart := false, narrowed := true }
def PoliceNilUptoSaid : Prop := policeNilUptoRow.holds Try.pinned (OpenSpec.upto policeNilSpec)

/-- 'parcloselaw12.HeapSorts', WHERE WHAT IT READS IS OF BULK AT MOST 1048576: true; the input reads as it did. -/
def heapSortsUptoRow : OpenClaim := { program := "ytjekfipaadbbbaa", sum := "026e1a80d1c1f689a668fda00110748e2bdb3086fbfa7fc3bd33ab26058a7365", func := "parclose/parcloselaw12.HeapSorts", spec := "heapSorts", unfollowed := true, recurses := true, apart := false, narrowed := true }
def HeapSortsUptoSaid : Prop := heapSortsUptoRow.holds Try.pinned (OpenSpec.upto heapSortsSpec)

/-- 'parcloselaw19.TasksBudgets', WHERE WHAT IT READS IS OF BULK AT MOST 1048576: true; the input reads as it did. -/
def tasksBudgetsUptoRow : OpenClaim := { program := "ytjekfipaadbbbaa", sum := "026e1a80d1c1f689a668fda00110748e2bdb3086fbfa7fc3bd33ab26058a7365", func := "parclose/parcloselaw19.TasksBudgets", spec := "tasksBudgets", unfollowed := true, recurses := true, apart := false, narrowed := true }
def TasksBudgetsUptoSaid : Prop := tasksBudgetsUptoRow.holds Try.pinned (OpenSpec.upto tasksBudgetsSpec)

/-- 'parcloselaw19.TasksPlays', WHERE WHAT IT READS IS OF BULK AT MOST 1048576: true; the input reads as it did. -/
def tasksPlaysUptoRow : OpenClaim := { program := "ytjekfipaadbbbaa", sum := "026e1a80d1c1f689a668fda00110748e2bdb3086fbfa7fc3bd33ab26058a7365", func := "parclose/parcloselaw19.TasksPlays", spec := "tasksPlays", unfollowed := true, recurses := true, apart := false, narrowed := true }
def TasksPlaysUptoSaid : Prop := tasksPlaysUptoRow.holds Try.pinned (OpenSpec.upto tasksPlaysSpec)

/-- 'parcloselaw19.TasksHigh', WHERE WHAT IT READS IS OF BULK AT MOST 1048576: true; the input reads as it did. -/
def tasksHighUptoRow : OpenClaim := { program := "ytjekfipaadbbbaa", sum := "026e1a80d1c1f689a668fda00110748e2bdb3086fbfa7fc3bd33ab26058a7365", func := "parclose/parcloselaw19.TasksHigh", spec := "tasksHigh", unfollowed := true, recurses := true, apart := false, narrowed := true }
def TasksHighUptoSaid : Prop := tasksHighUptoRow.holds Try.pinned (OpenSpec.upto tasksHighSpec)

/-- 'parcloselaw19.TasksNil', WHERE WHAT IT READS IS OF BULK AT MOST 1048576: true; the input reads as it did. -/
def tasksNilUptoRow : OpenClaim := { program := "ytjekfipaadbbbaa", sum := "026e1a80d1c1f689a668fda00110748e2bdb3086fbfa7fc3bd33ab26058a7365", func := "parclose/parcloselaw19.TasksNil", spec := "tasksNil", unfollowed := true, recurses := true, apart := false, narrowed := true }
def TasksNilUptoSaid : Prop := tasksNilUptoRow.holds Try.pinned (OpenSpec.upto tasksNilSpec)

/-- 'parcloselaw12.HeapPlays', WHERE WHAT IT READS IS OF BULK AT MOST 1048576: true; the input reads as it did. -/
def heapPlaysUptoRow : OpenClaim := { program := "ytjekfipaadbbbaa", sum := "026e1a80d1c1f689a668fda00110748e2bdb3086fbfa7fc3bd33ab26058a7365", func := "parclose/parcloselaw12.HeapPlays", spec := "heapPlays", unfollowed := true, recurses := true, apart := false, narrowed := true }
def HeapPlaysUptoSaid : Prop := heapPlaysUptoRow.holds Try.pinned (OpenSpec.upto heapPlaysSpec)

/-- 'parcloselaw12.HeapNil', WHERE WHAT IT READS IS OF BULK AT MOST 1048576: true; the input reads as it did. -/
def heapNilUptoRow : OpenClaim := { program := "ytjekfipaadbbbaa", sum := "026e1a80d1c1f689a668fda00110748e2bdb3086fbfa7fc3bd33ab26058a7365", func := "parclose/parcloselaw12.HeapNil", spec := "heapNil", unfollowed := true, recurses := true, apart := false, narrowed := true }
def HeapNilUptoSaid : Prop := heapNilUptoRow.holds Try.pinned (OpenSpec.upto heapNilSpec)

end Rows
end Go.Proofs.Ytjekfipaadbbbaa
