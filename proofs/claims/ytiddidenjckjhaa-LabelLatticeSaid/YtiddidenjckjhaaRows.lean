/-
  No cell of these rows narrows 'for every input' (looked for: loops, veiled, ifaces, maps, wideKeys, modest, calm, conditions, laid).
  DERIVED. THE GIVEN ROWS OF THIS SEAT. 7 by the template 'for every input the law returns true; each argument reads behind the call as it read before'; 0 by the template 'total and deterministic' (their statements: YtiddidenjckjhaaTotals.lean).
  GIVEN WITH THE SEED: the statements are not yours to turn. If you find one false, say at which input.
  Laid BY PROGRAM, IN A SANDBOX (cutbox-rows.mjs): the forced cells as the released guide's own fill.sh prints them over the translation 3172a6b1b8f773a0… (all of the seat's roots in one cut). By AI agents, Wed Nov 11 2026. No macro, syntax, notation, axiom, sorry.
-/
import Derived.Test.YtiddidenjckjhaaChecked
import GoSem.Claim
import GoSem.ClaimJoined
import GoSem.ClaimMapViews
import Derived.JoinedTies
import Derived.KernelRfl
namespace Go.Proofs.Ytiddidenjckjhaa
/- THE CELL 'sum', in the pinned program and in every row, IS THE sha256 OF THE DUMP (.gsa) THAT YtiddidenjckjhaaProg.lean LOADS. Nothing in Lean hashes anything: it is a label: what it is worth is what the hold of that sum in a sandbox is worth. -/
noncomputable def Try.pinned : Pinned := { name := "ytiddidenjckjhaa", sum := "3172a6b1b8f773a0c00eddcc6ffe710a9c9234290f7f900da5f334536b3358ca", checked := Try.checked }
namespace Rows
def none {H : Type} : Left H := { results := [], args := [] }

/-- 'parcloselaw32.LabelLattice': WHATEVER THE INPUT: true; the input reads as it did. -/
def labelLatticeSpec : ChangeSpec := { name := "labelLattice", fn := fun _ => fun
  | [d1, d2, d3] => { results := [.lit (.bool true)], args := [d1, d2, d3] }
  | _ => none }
def labelLatticeRow : OpenClaim := { program := "ytiddidenjckjhaa", sum := "3172a6b1b8f773a0c00eddcc6ffe710a9c9234290f7f900da5f334536b3358ca", func := "parclose/parcloselaw32.LabelLattice", spec := "labelLattice", plainKeys := false, apart := false }
def LabelLatticeSaid : Prop := labelLatticeRow.holds Try.pinned (OpenSpec.ofChange labelLatticeSpec)

/-- ITS FALSE NEIGHBOUR: 'it returns false'. Refute it at one input. -/
def labelLatticeWrong : ChangeSpec := { name := "labelLattice", fn := fun _ => fun
  | [d1, d2, d3] => { results := [.lit (.bool false)], args := [d1, d2, d3] }
  | _ => none }
def LabelLatticeWrongFalsely : Prop := labelLatticeRow.holds Try.pinned (OpenSpec.ofChange labelLatticeWrong)

/-- 'parcloselaw07.FlowEdges': WHATEVER THE INPUT: true; the input reads as it did. -/
def flowEdgesSpec : ChangeSpec := { name := "flowEdges", fn := fun _ => fun
  | [d] => { results := [.lit (.bool true)], args := [d] }
  | _ => none }
def flowEdgesRow : OpenClaim := { program := "ytiddidenjckjhaa", sum := "3172a6b1b8f773a0c00eddcc6ffe710a9c9234290f7f900da5f334536b3358ca", func := "parclose/parcloselaw07.FlowEdges", spec := "flowEdges", unfollowed := true, recurses := true, plainKeys := false, apart := false }
def FlowEdgesSaid : Prop := flowEdgesRow.holds Try.pinned (OpenSpec.ofChange flowEdgesSpec)

/-- ITS FALSE NEIGHBOUR: 'it returns false'. Refute it at one input. -/
def flowEdgesWrong : ChangeSpec := { name := "flowEdges", fn := fun _ => fun
  | [d] => { results := [.lit (.bool false)], args := [d] }
  | _ => none }
def FlowEdgesWrongFalsely : Prop := flowEdgesRow.holds Try.pinned (OpenSpec.ofChange flowEdgesWrong)

/-- 'parcloselaw07.FlowInto': WHATEVER THE INPUT: true; the input reads as it did. -/
def flowIntoSpec : ChangeSpec := { name := "flowInto", fn := fun _ => fun
  | [d1, d2, d3, d4] => { results := [.lit (.bool true)], args := [d1, d2, d3, d4] }
  | _ => none }
def flowIntoRow : OpenClaim := { program := "ytiddidenjckjhaa", sum := "3172a6b1b8f773a0c00eddcc6ffe710a9c9234290f7f900da5f334536b3358ca", func := "parclose/parcloselaw07.FlowInto", spec := "flowInto", unfollowed := true, recurses := true, plainKeys := false, apart := false }
def FlowIntoSaid : Prop := flowIntoRow.holds Try.pinned (OpenSpec.ofChange flowIntoSpec)

/-- ITS FALSE NEIGHBOUR: 'it returns false'. Refute it at one input. -/
def flowIntoWrong : ChangeSpec := { name := "flowInto", fn := fun _ => fun
  | [d1, d2, d3, d4] => { results := [.lit (.bool false)], args := [d1, d2, d3, d4] }
  | _ => none }
def FlowIntoWrongFalsely : Prop := flowIntoRow.holds Try.pinned (OpenSpec.ofChange flowIntoWrong)

/-- 'parcloselaw07.FlowClosed': WHATEVER THE INPUT: true; the input reads as it did. -/
def flowClosedSpec : ChangeSpec := { name := "flowClosed", fn := fun _ => fun
  | [d1, d2] => { results := [.lit (.bool true)], args := [d1, d2] }
  | _ => none }
def flowClosedRow : OpenClaim := { program := "ytiddidenjckjhaa", sum := "3172a6b1b8f773a0c00eddcc6ffe710a9c9234290f7f900da5f334536b3358ca", func := "parclose/parcloselaw07.FlowClosed", spec := "flowClosed", unfollowed := true, recurses := true, plainKeys := false, apart := false }
def FlowClosedSaid : Prop := flowClosedRow.holds Try.pinned (OpenSpec.ofChange flowClosedSpec)

/-- ITS FALSE NEIGHBOUR: 'it returns false'. Refute it at one input. -/
def flowClosedWrong : ChangeSpec := { name := "flowClosed", fn := fun _ => fun
  | [d1, d2] => { results := [.lit (.bool false)], args := [d1, d2] }
  | _ => none }
def FlowClosedWrongFalsely : Prop := flowClosedRow.holds Try.pinned (OpenSpec.ofChange flowClosedWrong)

/-- 'parcloselaw07.FlowGrows': WHATEVER THE INPUT: true; the input reads as it did. -/
def flowGrowsSpec : ChangeSpec := { name := "flowGrows", fn := fun _ => fun
  | [d1, d2, d3] => { results := [.lit (.bool true)], args := [d1, d2, d3] }
  | _ => none }
def flowGrowsRow : OpenClaim := { program := "ytiddidenjckjhaa", sum := "3172a6b1b8f773a0c00eddcc6ffe710a9c9234290f7f900da5f334536b3358ca", func := "parclose/parcloselaw07.FlowGrows", spec := "flowGrows", unfollowed := true, recurses := true, plainKeys := false, apart := false }
def FlowGrowsSaid : Prop := flowGrowsRow.holds Try.pinned (OpenSpec.ofChange flowGrowsSpec)

/-- ITS FALSE NEIGHBOUR: 'it returns false'. Refute it at one input. -/
def flowGrowsWrong : ChangeSpec := { name := "flowGrows", fn := fun _ => fun
  | [d1, d2, d3] => { results := [.lit (.bool false)], args := [d1, d2, d3] }
  | _ => none }
def FlowGrowsWrongFalsely : Prop := flowGrowsRow.holds Try.pinned (OpenSpec.ofChange flowGrowsWrong)

/-- 'parcloselaw32.LabelTells': WHATEVER THE INPUT: true; the input reads as it did. -/
def labelTellsSpec : ChangeSpec := { name := "labelTells", fn := fun _ => fun
  | [d1, d2] => { results := [.lit (.bool true)], args := [d1, d2] }
  | _ => none }
def labelTellsRow : OpenClaim := { program := "ytiddidenjckjhaa", sum := "3172a6b1b8f773a0c00eddcc6ffe710a9c9234290f7f900da5f334536b3358ca", func := "parclose/parcloselaw32.LabelTells", spec := "labelTells", unfollowed := true, recurses := true, plainKeys := false, apart := false }
def LabelTellsSaid : Prop := labelTellsRow.holds Try.pinned (OpenSpec.ofChange labelTellsSpec)

/-- ITS FALSE NEIGHBOUR: 'it returns false'. Refute it at one input. -/
def labelTellsWrong : ChangeSpec := { name := "labelTells", fn := fun _ => fun
  | [d1, d2] => { results := [.lit (.bool false)], args := [d1, d2] }
  | _ => none }
def LabelTellsWrongFalsely : Prop := labelTellsRow.holds Try.pinned (OpenSpec.ofChange labelTellsWrong)

/-- 'parcloselaw32.LabelLeast': WHATEVER THE INPUT: true; the input reads as it did. -/
def labelLeastSpec : ChangeSpec := { name := "labelLeast", fn := fun _ => fun
  | [d1, d2, d3] => { results := [.lit (.bool true)], args := [d1, d2, d3] }
  | _ => none }
def labelLeastRow : OpenClaim := { program := "ytiddidenjckjhaa", sum := "3172a6b1b8f773a0c00eddcc6ffe710a9c9234290f7f900da5f334536b3358ca", func := "parclose/parcloselaw32.LabelLeast", spec := "labelLeast", unfollowed := true, recurses := true, plainKeys := false, apart := false }
def LabelLeastSaid : Prop := labelLeastRow.holds Try.pinned (OpenSpec.ofChange labelLeastSpec)

/-- ITS FALSE NEIGHBOUR: 'it returns false'. Refute it at one input. -/
def labelLeastWrong : ChangeSpec := { name := "labelLeast", fn := fun _ => fun
  | [d1, d2, d3] => { results := [.lit (.bool false)], args := [d1, d2, d3] }
  | _ => none }
def LabelLeastWrongFalsely : Prop := labelLeastRow.holds Try.pinned (OpenSpec.ofChange labelLeastWrong)

/- THE SECOND FORM. 'bulk': how many values and letters a reading holds, each counted each time it is reached (what is shared counts as often as it is met; a slice's spare places count too). A statement '..UptoSaid' is the law's where the arguments, and the package variables that the reading takes, are together of bulk at most 1048576: NARROWER than '..Said'. Prove '..Said' where nothing that the law and all that it calls make is longer than what came in: it says more and counts as full. Else prove '..UptoSaid'. A law counts once. -/
mutual
def uptoBulk {H : Type} : DataW H → Nat
  | .lit (.string bytes) => bytes.length + 1
  | .lit _ => 1
  | .nil => 1
  | .ptr d => uptoBulk d + 1
  | .slice elems spare => uptoBulkAll elems + uptoBulkAll spare + 1
  | .agg parts => uptoBulkAll parts + 1
  | .iface _ d => uptoBulk d + 1
  | .map entries => uptoBulkEntries entries + 1
  | .held _ => 1
def uptoBulkAll {H : Type} : List (DataW H) → Nat
  | [] => 0
  | d :: r => uptoBulk d + uptoBulkAll r
def uptoBulkEntries {H : Type} : List (Lit × DataW H) → Nat
  | [] => 0
  | x :: r => uptoBulkEntry x + uptoBulkEntries r
def uptoBulkEntry {H : Type} : Lit × DataW H → Nat
  | (.string bytes, d) => bytes.length + uptoBulk d + 1
  | (_, d) => uptoBulk d + 1
 end
def uptoSmall : (H : Type) → List (DataW H) → Bool := fun _ ds => decide (uptoBulkAll ds ≤ 1048576)
def OpenSpec.upto (s : _root_.Go.ChangeSpec) : _root_.Go.OpenSpec := { _root_.Go.OpenSpec.ofChange s with cond := some uptoSmall }

/-- 'parcloselaw32.LabelLattice', WHERE WHAT IT READS IS OF BULK AT MOST 1048576: true; the input reads as it did. -/
def labelLatticeUptoRow : OpenClaim := { program := "ytiddidenjckjhaa", sum := "3172a6b1b8f773a0c00eddcc6ffe710a9c9234290f7f900da5f334536b3358ca", func := "parclose/parcloselaw32.LabelLattice", spec := "labelLattice", plainKeys := false, apart := false, narrowed := true }
def LabelLatticeUptoSaid : Prop := labelLatticeUptoRow.holds Try.pinned (OpenSpec.upto labelLatticeSpec)

/-- 'parcloselaw07.FlowEdges', WHERE WHAT IT READS IS OF BULK AT MOST 1048576: true; the input reads as it did. -/
def flowEdgesUptoRow : OpenClaim := { program := "ytiddidenjckjhaa", sum := "3172a6b1b8f773a0c00eddcc6ffe710a9c9234290f7f900da5f334536b3358ca", func := "parclose/parcloselaw07.FlowEdges", spec := "flowEdges", unfollowed := true, recurses := true, plainKeys := false, apart := false, narrowed := true }
def FlowEdgesUptoSaid : Prop := flowEdgesUptoRow.holds Try.pinned (OpenSpec.upto flowEdgesSpec)

/-- 'parcloselaw07.FlowInto', WHERE WHAT IT READS IS OF BULK AT MOST 1048576: true; the input reads as it did. -/
def flowIntoUptoRow : OpenClaim := { program := "ytiddidenjckjhaa", sum := "3172a6b1b8f773a0c00eddcc6ffe710a9c9234290f7f900da5f334536b3358ca", func := "parclose/parcloselaw07.FlowInto", spec := "flowInto", unfollowed := true, recurses := true, plainKeys := false, apart := false, narrowed := true }
def FlowIntoUptoSaid : Prop := flowIntoUptoRow.holds Try.pinned (OpenSpec.upto flowIntoSpec)

/-- 'parcloselaw07.FlowClosed', WHERE WHAT IT READS IS OF BULK AT MOST 1048576: true; the input reads as it did. -/
def flowClosedUptoRow : OpenClaim := { program := "ytiddidenjckjhaa", sum := "3172a6b1b8f773a0c00eddcc6ffe710a9c9234290f7f900da5f334536b3358ca", func := "parclose/parcloselaw07.FlowClosed", spec := "flowClosed", unfollowed := true, recurses := true, plainKeys := false, apart := false, narrowed := true }
def FlowClosedUptoSaid : Prop := flowClosedUptoRow.holds Try.pinned (OpenSpec.upto flowClosedSpec)

/-- 'parcloselaw07.FlowGrows', WHERE WHAT IT READS IS OF BULK AT MOST 1048576: true; the input reads as it did. -/
def flowGrowsUptoRow : OpenClaim := { program := "ytiddidenjckjhaa", sum := "3172a6b1b8f773a0c00eddcc6ffe710a9c9234290f7f900da5f334536b3358ca", func := "parclose/parcloselaw07.FlowGrows", spec := "flowGrows", unfollowed := true, recurses := true, plainKeys := false, apart := false, narrowed := true }
def FlowGrowsUptoSaid : Prop := flowGrowsUptoRow.holds Try.pinned (OpenSpec.upto flowGrowsSpec)

/-- 'parcloselaw32.LabelTells', WHERE WHAT IT READS IS OF BULK AT MOST 1048576: true; the input reads as it did. -/
def labelTellsUptoRow : OpenClaim := { program := "ytiddidenjckjhaa", sum := "3172a6b1b8f773a0c00eddcc6ffe710a9c9234290f7f900da5f334536b3358ca", func := "parclose/parcloselaw32.LabelTells", spec := "labelTells", unfollowed := true, recurses := true, plainKeys := false, apart := false, narrowed := true }
def LabelTellsUptoSaid : Prop := labelTellsUptoRow.holds Try.pinned (OpenSpec.upto labelTellsSpec)

/-- 'parcloselaw32.LabelLeast', WHERE WHAT IT READS IS OF BULK AT MOST 1048576: true; the input reads as it did. -/
def labelLeastUptoRow : OpenClaim := { program := "ytiddidenjckjhaa", sum := "3172a6b1b8f773a0c00eddcc6ffe710a9c9234290f7f900da5f334536b3358ca", func := "parclose/parcloselaw32.LabelLeast", spec := "labelLeast", unfollowed := true, recurses := true, plainKeys := false, apart := false, narrowed := true }
def LabelLeastUptoSaid : Prop := labelLeastUptoRow.holds Try.pinned (OpenSpec.upto labelLeastSpec)

end Rows
end Go.Proofs.Ytiddidenjckjhaa
