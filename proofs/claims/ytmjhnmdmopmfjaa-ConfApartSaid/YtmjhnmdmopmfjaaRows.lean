/-
  No cell of these rows narrows 'for every input' (looked for: loops, veiled, ifaces, maps, wideKeys, modest, calm, conditions, laid).
  DERIVED. THE GIVEN ROWS OF THIS SEAT. 12 by the template 'for every input the law returns true; each argument reads behind the call as it read before'; 0 by the template 'total and deterministic' (their statements: YtmjhnmdmopmfjaaTotals.lean).
  GIVEN WITH THE SEED: the statements are not yours to turn. If you find one false, say at which input.
  Laid BY PROGRAM, IN A SANDBOX (cutbox-rows.mjs): the forced cells as the released guide's own fill.sh prints them over the translation 973fbb1c488781ce… (all of the seat's roots in one cut). By AI agents, Wed Nov 11 2026. No macro, syntax, notation, axiom, sorry.
-/
import Derived.Test.YtmjhnmdmopmfjaaChecked
import GoSem.Claim
import GoSem.ClaimJoined
import GoSem.ClaimMapViews
import Derived.JoinedTies
import Derived.KernelRfl
namespace Go.Proofs.Ytmjhnmdmopmfjaa
/- THE CELL 'sum', in the pinned program and in every row, IS THE sha256 OF THE DUMP (.gsa) THAT YtmjhnmdmopmfjaaProg.lean LOADS. Nothing in Lean hashes anything: it is a label: what it is worth is what the hold of that sum in a sandbox is worth. -/
noncomputable def Try.pinned : Pinned := { name := "ytmjhnmdmopmfjaa", sum := "973fbb1c488781ce1a393ddd386137c38a11d2dcf5c9345c922dfbb40dce8940", checked := Try.checked }
namespace Rows
def none {H : Type} : Left H := { results := [], args := [] }

/-- 'parcloselaw03.ConfNames': WHATEVER THE INPUT: true; the input reads as it did. -/
def confNamesSpec : ChangeSpec := { name := "confNames", fn := fun _ => fun
  | [d1, d2, d3] => { results := [.lit (.bool true)], args := [d1, d2, d3] }
  | _ => none }
def confNamesRow : OpenClaim := { program := "ytmjhnmdmopmfjaa", sum := "973fbb1c488781ce1a393ddd386137c38a11d2dcf5c9345c922dfbb40dce8940", func := "parclose/parcloselaw03.ConfNames", spec := "confNames", apart := false }
def ConfNamesSaid : Prop := confNamesRow.holds Try.pinned (OpenSpec.ofChange confNamesSpec)

/-- ITS FALSE NEIGHBOUR: 'it returns false'. Refute it at one input. -/
def confNamesWrong : ChangeSpec := { name := "confNames", fn := fun _ => fun
  | [d1, d2, d3] => { results := [.lit (.bool false)], args := [d1, d2, d3] }
  | _ => none }
def ConfNamesWrongFalsely : Prop := confNamesRow.holds Try.pinned (OpenSpec.ofChange confNamesWrong)

/-- 'parcloselaw03.ConfApart': WHATEVER THE INPUT: true; the input reads as it did. -/
def confApartSpec : ChangeSpec := { name := "confApart", fn := fun _ => fun
  | [d] => { results := [.lit (.bool true)], args := [d] }
  | _ => none }
def confApartRow : OpenClaim := { program := "ytmjhnmdmopmfjaa", sum := "973fbb1c488781ce1a393ddd386137c38a11d2dcf5c9345c922dfbb40dce8940", func := "parclose/parcloselaw03.ConfApart", spec := "confApart", apart := false }
def ConfApartSaid : Prop := confApartRow.holds Try.pinned (OpenSpec.ofChange confApartSpec)

/-- ITS FALSE NEIGHBOUR: 'it returns false'. Refute it at one input. -/
def confApartWrong : ChangeSpec := { name := "confApart", fn := fun _ => fun
  | [d] => { results := [.lit (.bool false)], args := [d] }
  | _ => none }
def ConfApartWrongFalsely : Prop := confApartRow.holds Try.pinned (OpenSpec.ofChange confApartWrong)

/-- 'parcloselaw03.ConfRights': WHATEVER THE INPUT: true; the input reads as it did. -/
def confRightsSpec : ChangeSpec := { name := "confRights", fn := fun _ => fun
  | [d1, d2, d3] => { results := [.lit (.bool true)], args := [d1, d2, d3] }
  | _ => none }
def confRightsRow : OpenClaim := { program := "ytmjhnmdmopmfjaa", sum := "973fbb1c488781ce1a393ddd386137c38a11d2dcf5c9345c922dfbb40dce8940", func := "parclose/parcloselaw03.ConfRights", spec := "confRights", unfollowed := true, recurses := true, apart := false }
def ConfRightsSaid : Prop := confRightsRow.holds Try.pinned (OpenSpec.ofChange confRightsSpec)

/-- ITS FALSE NEIGHBOUR: 'it returns false'. Refute it at one input. -/
def confRightsWrong : ChangeSpec := { name := "confRights", fn := fun _ => fun
  | [d1, d2, d3] => { results := [.lit (.bool false)], args := [d1, d2, d3] }
  | _ => none }
def ConfRightsWrongFalsely : Prop := confRightsRow.holds Try.pinned (OpenSpec.ofChange confRightsWrong)

/-- 'parcloselaw03.ConfSames': WHATEVER THE INPUT: true; the input reads as it did. -/
def confSamesSpec : ChangeSpec := { name := "confSames", fn := fun _ => fun
  | [d1, d2] => { results := [.lit (.bool true)], args := [d1, d2] }
  | _ => none }
def confSamesRow : OpenClaim := { program := "ytmjhnmdmopmfjaa", sum := "973fbb1c488781ce1a393ddd386137c38a11d2dcf5c9345c922dfbb40dce8940", func := "parclose/parcloselaw03.ConfSames", spec := "confSames", unfollowed := true, recurses := true, apart := false }
def ConfSamesSaid : Prop := confSamesRow.holds Try.pinned (OpenSpec.ofChange confSamesSpec)

/-- ITS FALSE NEIGHBOUR: 'it returns false'. Refute it at one input. -/
def confSamesWrong : ChangeSpec := { name := "confSames", fn := fun _ => fun
  | [d1, d2] => { results := [.lit (.bool false)], args := [d1, d2] }
  | _ => none }
def ConfSamesWrongFalsely : Prop := confSamesRow.holds Try.pinned (OpenSpec.ofChange confSamesWrong)

/-- 'parcloselaw33.DiffApplies': WHATEVER THE INPUT: true; the input reads as it did. -/
def diffAppliesSpec : ChangeSpec := { name := "diffApplies", fn := fun _ => fun
  | [d1, d2] => { results := [.lit (.bool true)], args := [d1, d2] }
  | _ => none }
def diffAppliesRow : OpenClaim := { program := "ytmjhnmdmopmfjaa", sum := "973fbb1c488781ce1a393ddd386137c38a11d2dcf5c9345c922dfbb40dce8940", func := "parclose/parcloselaw33.DiffApplies", spec := "diffApplies", unfollowed := true, recurses := true, apart := false }
def DiffAppliesSaid : Prop := diffAppliesRow.holds Try.pinned (OpenSpec.ofChange diffAppliesSpec)

/-- ITS FALSE NEIGHBOUR: 'it returns false'. Refute it at one input. -/
def diffAppliesWrong : ChangeSpec := { name := "diffApplies", fn := fun _ => fun
  | [d1, d2] => { results := [.lit (.bool false)], args := [d1, d2] }
  | _ => none }
def DiffAppliesWrongFalsely : Prop := diffAppliesRow.holds Try.pinned (OpenSpec.ofChange diffAppliesWrong)

/-- 'parcloselaw33.DiffTells': WHATEVER THE INPUT: true; the input reads as it did. -/
def diffTellsSpec : ChangeSpec := { name := "diffTells", fn := fun _ => fun
  | [d1, d2] => { results := [.lit (.bool true)], args := [d1, d2] }
  | _ => none }
def diffTellsRow : OpenClaim := { program := "ytmjhnmdmopmfjaa", sum := "973fbb1c488781ce1a393ddd386137c38a11d2dcf5c9345c922dfbb40dce8940", func := "parclose/parcloselaw33.DiffTells", spec := "diffTells", unfollowed := true, recurses := true, apart := false }
def DiffTellsSaid : Prop := diffTellsRow.holds Try.pinned (OpenSpec.ofChange diffTellsSpec)

/-- ITS FALSE NEIGHBOUR: 'it returns false'. Refute it at one input. -/
def diffTellsWrong : ChangeSpec := { name := "diffTells", fn := fun _ => fun
  | [d1, d2] => { results := [.lit (.bool false)], args := [d1, d2] }
  | _ => none }
def DiffTellsWrongFalsely : Prop := diffTellsRow.holds Try.pinned (OpenSpec.ofChange diffTellsWrong)

/-- 'parcloselaw33.DiffThere': WHATEVER THE INPUT: true; the input reads as it did. -/
def diffThereSpec : ChangeSpec := { name := "diffThere", fn := fun _ => fun
  | [d1, d2] => { results := [.lit (.bool true)], args := [d1, d2] }
  | _ => none }
def diffThereRow : OpenClaim := { program := "ytmjhnmdmopmfjaa", sum := "973fbb1c488781ce1a393ddd386137c38a11d2dcf5c9345c922dfbb40dce8940", func := "parclose/parcloselaw33.DiffThere", spec := "diffThere", unfollowed := true, recurses := true, apart := false }
def DiffThereSaid : Prop := diffThereRow.holds Try.pinned (OpenSpec.ofChange diffThereSpec)

/-- ITS FALSE NEIGHBOUR: 'it returns false'. Refute it at one input. -/
def diffThereWrong : ChangeSpec := { name := "diffThere", fn := fun _ => fun
  | [d1, d2] => { results := [.lit (.bool false)], args := [d1, d2] }
  | _ => none }
def DiffThereWrongFalsely : Prop := diffThereRow.holds Try.pinned (OpenSpec.ofChange diffThereWrong)

/-- 'parcloselaw33.DiffHalf': WHATEVER THE INPUT: true; the input reads as it did. -/
def diffHalfSpec : ChangeSpec := { name := "diffHalf", fn := fun _ => fun
  | [d1, d2, d3] => { results := [.lit (.bool true)], args := [d1, d2, d3] }
  | _ => none }
def diffHalfRow : OpenClaim := { program := "ytmjhnmdmopmfjaa", sum := "973fbb1c488781ce1a393ddd386137c38a11d2dcf5c9345c922dfbb40dce8940", func := "parclose/parcloselaw33.DiffHalf", spec := "diffHalf", unfollowed := true, recurses := true, apart := false }
def DiffHalfSaid : Prop := diffHalfRow.holds Try.pinned (OpenSpec.ofChange diffHalfSpec)

/-- ITS FALSE NEIGHBOUR: 'it returns false'. Refute it at one input. -/
def diffHalfWrong : ChangeSpec := { name := "diffHalf", fn := fun _ => fun
  | [d1, d2, d3] => { results := [.lit (.bool false)], args := [d1, d2, d3] }
  | _ => none }
def DiffHalfWrongFalsely : Prop := diffHalfRow.holds Try.pinned (OpenSpec.ofChange diffHalfWrong)

/-- 'parcloselaw05.ImageEncodes': WHATEVER THE INPUT: true; the input reads as it did. -/
def imageEncodesSpec : ChangeSpec := { name := "imageEncodes", fn := fun _ => fun
  | [d] => { results := [.lit (.bool true)], args := [d] }
  | _ => none }
def imageEncodesRow : OpenClaim := { program := "ytmjhnmdmopmfjaa", sum := "973fbb1c488781ce1a393ddd386137c38a11d2dcf5c9345c922dfbb40dce8940", func := "parclose/parcloselaw05.ImageEncodes", spec := "imageEncodes", unfollowed := true, recurses := true, apart := false }
def ImageEncodesSaid : Prop := imageEncodesRow.holds Try.pinned (OpenSpec.ofChange imageEncodesSpec)

/-- ITS FALSE NEIGHBOUR: 'it returns false'. Refute it at one input. -/
def imageEncodesWrong : ChangeSpec := { name := "imageEncodes", fn := fun _ => fun
  | [d] => { results := [.lit (.bool false)], args := [d] }
  | _ => none }
def ImageEncodesWrongFalsely : Prop := imageEncodesRow.holds Try.pinned (OpenSpec.ofChange imageEncodesWrong)

/-- 'parcloselaw05.ImageDecodes': WHATEVER THE INPUT: true; the input reads as it did. -/
def imageDecodesSpec : ChangeSpec := { name := "imageDecodes", fn := fun _ => fun
  | [d1, d2] => { results := [.lit (.bool true)], args := [d1, d2] }
  | _ => none }
def imageDecodesRow : OpenClaim := { program := "ytmjhnmdmopmfjaa", sum := "973fbb1c488781ce1a393ddd386137c38a11d2dcf5c9345c922dfbb40dce8940", func := "parclose/parcloselaw05.ImageDecodes", spec := "imageDecodes", unfollowed := true, recurses := true, apart := false }
def ImageDecodesSaid : Prop := imageDecodesRow.holds Try.pinned (OpenSpec.ofChange imageDecodesSpec)

/-- ITS FALSE NEIGHBOUR: 'it returns false'. Refute it at one input. -/
def imageDecodesWrong : ChangeSpec := { name := "imageDecodes", fn := fun _ => fun
  | [d1, d2] => { results := [.lit (.bool false)], args := [d1, d2] }
  | _ => none }
def ImageDecodesWrongFalsely : Prop := imageDecodesRow.holds Try.pinned (OpenSpec.ofChange imageDecodesWrong)

/-- 'parcloselaw05.ImageBack': WHATEVER THE INPUT: true; the input reads as it did. -/
def imageBackSpec : ChangeSpec := { name := "imageBack", fn := fun _ => fun
  | [d1, d2] => { results := [.lit (.bool true)], args := [d1, d2] }
  | _ => none }
def imageBackRow : OpenClaim := { program := "ytmjhnmdmopmfjaa", sum := "973fbb1c488781ce1a393ddd386137c38a11d2dcf5c9345c922dfbb40dce8940", func := "parclose/parcloselaw05.ImageBack", spec := "imageBack", unfollowed := true, recurses := true, apart := false }
def ImageBackSaid : Prop := imageBackRow.holds Try.pinned (OpenSpec.ofChange imageBackSpec)

/-- ITS FALSE NEIGHBOUR: 'it returns false'. Refute it at one input. -/
def imageBackWrong : ChangeSpec := { name := "imageBack", fn := fun _ => fun
  | [d1, d2] => { results := [.lit (.bool false)], args := [d1, d2] }
  | _ => none }
def ImageBackWrongFalsely : Prop := imageBackRow.holds Try.pinned (OpenSpec.ofChange imageBackWrong)

/-- 'parcloselaw05.ImageCuts': WHATEVER THE INPUT: true; the input reads as it did. -/
def imageCutsSpec : ChangeSpec := { name := "imageCuts", fn := fun _ => fun
  | [d1, d2, d3] => { results := [.lit (.bool true)], args := [d1, d2, d3] }
  | _ => none }
def imageCutsRow : OpenClaim := { program := "ytmjhnmdmopmfjaa", sum := "973fbb1c488781ce1a393ddd386137c38a11d2dcf5c9345c922dfbb40dce8940", func := "parclose/parcloselaw05.ImageCuts", spec := "imageCuts", unfollowed := true, recurses := true, apart := false }
def ImageCutsSaid : Prop := imageCutsRow.holds Try.pinned (OpenSpec.ofChange imageCutsSpec)

/-- ITS FALSE NEIGHBOUR: 'it returns false'. Refute it at one input. -/
def imageCutsWrong : ChangeSpec := { name := "imageCuts", fn := fun _ => fun
  | [d1, d2, d3] => { results := [.lit (.bool false)], args := [d1, d2, d3] }
  | _ => none }
def ImageCutsWrongFalsely : Prop := imageCutsRow.holds Try.pinned (OpenSpec.ofChange imageCutsWrong)

/- THE SECOND FORM. 'bulk': how many values and letters a reading holds, each counted each time it is reached (what is shared counts as often as it is met; a slice's spare places count too). A statement '..UptoSaid' is the law's where the arguments, and the package variables that the reading takes, are together of bulk at most 1048576: NARROWER than '..Said'. Prove '..Said' where nothing that the law and all that it calls make is longer than what came in: it says more and counts as full. Else prove '..UptoSaid'. A law counts once. -/
mutual
def uptoBulk {H : Type} : DataW H → Nat
  | .lit (.string bytes) => bytes.length + 1
  | .lit _ => 1
  | .nil => 1
  | .ptr d => uptoBulk d + 1
  | .slice elems spare => uptoBulkAll elems + uptoBulkAll spare + 1
  | .agg parts => uptoBulkAll parts + 1
  | .iface _ d => uptoBulk d + 1
  | .map entries => uptoBulkEntries entries + 1
  | .held _ => 1
def uptoBulkAll {H : Type} : List (DataW H) → Nat
  | [] => 0
  | d :: r => uptoBulk d + uptoBulkAll r
def uptoBulkEntries {H : Type} : List (Lit × DataW H) → Nat
  | [] => 0
  | x :: r => uptoBulkEntry x + uptoBulkEntries r
def uptoBulkEntry {H : Type} : Lit × DataW H → Nat
  | (.string bytes, d) => bytes.length + uptoBulk d + 1
  | (_, d) => uptoBulk d + 1
 end
def uptoSmall : (H : Type) → List (DataW H) → Bool := fun _ ds => decide (uptoBulkAll ds ≤ 1048576)
def OpenSpec.upto (s : _root_.Go.ChangeSpec) : _root_.Go.OpenSpec := { _root_.Go.OpenSpec.ofChange s with cond := some uptoSmall }

/-- 'parcloselaw03.ConfNames', WHERE WHAT IT READS IS OF BULK AT MOST 1048576: true; the input reads as it did. -/
def confNamesUptoRow : OpenClaim := { program := "ytmjhnmdmopmfjaa", sum := "973fbb1c488781ce1a393ddd386137c38a11d2dcf5c9345c922dfbb40dce8940", func := "parclose/parcloselaw03.ConfNames", spec := "confNames", apart := false, narrowed := true }
def ConfNamesUptoSaid : Prop := confNamesUptoRow.holds Try.pinned (OpenSpec.upto confNamesSpec)

/-- 'parcloselaw03.ConfApart', WHERE WHAT IT READS IS OF BULK AT MOST 1048576: true; the input reads as it did. -/
def confApartUptoRow : OpenClaim := { program := "ytmjhnmdmopmfjaa", sum := "973fbb1c488781ce1a393ddd386137c38a11d2dcf5c9345c922dfbb40dce8940", func := "parclose/parcloselaw03.ConfApart", spec := "confApart", apart := false, narrowed := true }
def ConfApartUptoSaid : Prop := confApartUptoRow.holds Try.pinned (OpenSpec.upto confApartSpec)

/-- 'parcloselaw03.ConfRights', WHERE WHAT IT READS IS OF BULK AT MOST 1048576: true; the input reads as it did. -/
def confRightsUptoRow : OpenClaim := { program := "ytmjhnmdmopmfjaa", sum := "973fbb1c488781ce1a393ddd386137c38a11d2dcf5c9345c922dfbb40dce8940", func := "parclose/parcloselaw03.ConfRights", spec := "confRights", unfollowed := true, recurses := true, apart := false, narrowed := true }
def ConfRightsUptoSaid : Prop := confRightsUptoRow.holds Try.pinned (OpenSpec.upto confRightsSpec)

/-- 'parcloselaw03.ConfSames', WHERE WHAT IT READS IS OF BULK AT MOST 1048576: true; the input reads as it did. -/
def confSamesUptoRow : OpenClaim := { program := "ytmjhnmdmopmfjaa", sum := "973fbb1c488781ce1a393ddd386137c38a11d2dcf5c9345c922dfbb40dce8940", func := "parclose/parcloselaw03.ConfSames", spec := "confSames", unfollowed := true, recurses := true, apart := false, narrowed := true }
def ConfSamesUptoSaid : Prop := confSamesUptoRow.holds Try.pinned (OpenSpec.upto confSamesSpec)

/-- 'parcloselaw33.DiffApplies', WHERE WHAT IT READS IS OF BULK AT MOST 1048576: true; the input reads as it did. -/
def diffAppliesUptoRow : OpenClaim := { program := "ytmjhnmdmopmfjaa", sum := "973fbb1c488781ce1a393ddd386137c38a11d2dcf5c9345c922dfbb40dce8940", func := "parclose/parcloselaw33.DiffApplies", spec := "diffApplies", unfollowed := true, recurses := true, apart := false, narrowed := true }
def DiffAppliesUptoSaid : Prop := diffAppliesUptoRow.holds Try.pinned (OpenSpec.upto diffAppliesSpec)

/-- 'parcloselaw33.DiffTells', WHERE WHAT IT READS IS OF BULK AT MOST 1048576: true; the input reads as it did. -/
def diffTellsUptoRow : OpenClaim := { program := "ytmjhnmdmopmfjaa", sum := "973fbb1c488781ce1a393ddd386137c38a11d2dcf5c9345c922dfbb40dce8940", func := "parclose/parcloselaw33.DiffTells", spec := "diffTells", unfollowed := true, recurses := true, apart := false, narrowed := true }
def DiffTellsUptoSaid : Prop := diffTellsUptoRow.holds Try.pinned (OpenSpec.upto diffTellsSpec)

/-- 'parcloselaw33.DiffThere', WHERE WHAT IT READS IS OF BULK AT MOST 1048576: true; the input reads as it did. -/
def diffThereUptoRow : OpenClaim := { program := "ytmjhnmdmopmfjaa", sum := "973fbb1c488781ce1a393ddd386137c38a11d2dcf5c9345c922dfbb40dce8940", func := "parclose/parcloselaw33.DiffThere", spec := "diffThere", unfollowed := true, recurses := true, apart := false, narrowed := true }
def DiffThereUptoSaid : Prop := diffThereUptoRow.holds Try.pinned (OpenSpec.upto diffThereSpec)

/-- 'parcloselaw33.DiffHalf', WHERE WHAT IT READS IS OF BULK AT MOST 1048576: true; the input reads as it did. -/
def diffHalfUptoRow : OpenClaim := { program := "ytmjhnmdmopmfjaa", sum := "973fbb1c488781ce1a393ddd386137c38a11d2dcf5c9345c922dfbb40dce8940", func := "parclose/parcloselaw33.DiffHalf", spec := "diffHalf", unfollowed := true, recurses := true, apart := false, narrowed := true }
def DiffHalfUptoSaid : Prop := diffHalfUptoRow.holds Try.pinned (OpenSpec.upto diffHalfSpec)

/-- 'parcloselaw05.ImageEncodes', WHERE WHAT IT READS IS OF BULK AT MOST 1048576: true; the input reads as it did. -/
def imageEncodesUptoRow : OpenClaim := { program := "ytmjhnmdmopmfjaa", sum := "973fbb1c488781ce1a393ddd386137c38a11d2dcf5c9345c922dfbb40dce8940", func := "parclose/parcloselaw05.ImageEncodes", spec := "imageEncodes", unfollowed := true, recurses := true, apart := false, narrowed := true }
def ImageEncodesUptoSaid : Prop := imageEncodesUptoRow.holds Try.pinned (OpenSpec.upto imageEncodesSpec)

/-- 'parcloselaw05.ImageDecodes', WHERE WHAT IT READS IS OF BULK AT MOST 1048576: true; the input reads as it did. -/
def imageDecodesUptoRow : OpenClaim := { program := "ytmjhnmdmopmfjaa", sum := "973fbb1c488781ce1a393ddd386137c38a11d2dcf5c9345c922dfbb40dce8940", func := "parclose/parcloselaw05.ImageDecodes", spec := "imageDecodes", unfollowed := true, recurses := true, apart := false, narrowed := true }
def ImageDecodesUptoSaid : Prop := imageDecodesUptoRow.holds Try.pinned (OpenSpec.upto imageDecodesSpec)

/-- 'parcloselaw05.ImageBack', WHERE WHAT IT READS IS OF BULK AT MOST 1048576: true; the input reads as it did. -/
def imageBackUptoRow : OpenClaim := { program := "ytmjhnmdmopmfjaa", sum := "973fbb1c488781ce1a393ddd386137c38a11d2dcf5c9345c922dfbb40dce8940", func := "parclose/parcloselaw05.ImageBack", spec := "imageBack", unfollowed := true, recurses := true, apart := false, narrowed := true }
def ImageBackUptoSaid : Prop := imageBackUptoRow.holds Try.pinned (OpenSpec.upto imageBackSpec)

/-- 'parcloselaw05.ImageCuts', WHERE WHAT IT READS IS OF BULK AT MOST 1048576: true; the input reads as it did. -/
def imageCutsUptoRow : OpenClaim := { program := "ytmjhnmdmopmfjaa", sum := "973fbb1c488781ce1a393ddd386137c38a11d2dcf5c9345c922dfbb40dce8940", func := "parclose/parcloselaw05.ImageCuts", spec := "imageCuts", unfollowed := true, recurses := true, apart := false, narrowed := true }
def ImageCutsUptoSaid : Prop := imageCutsUptoRow.holds Try.pinned (OpenSpec.upto imageCutsSpec)

end Rows
end Go.Proofs.Ytmjhnmdmopmfjaa
