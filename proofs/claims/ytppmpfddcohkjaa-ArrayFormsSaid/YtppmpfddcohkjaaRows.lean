/-
  NARROWER THAN 'FOR EVERY INPUT', by the rows' own cells (each row's printed sentence says how): Arrays: loops · ArrayMore: loops · ArrayParts: loops · Slices: loops · SliceRows: loops · SliceForms: loops · SliceShares: loops.
  DERIVED. THE GIVEN ROWS OF THIS SEAT. 15 by the template 'for every input the law returns true; each argument reads behind the call as it read before'; 0 by the template 'total and deterministic' (their statements: YtppmpfddcohkjaaTotals.lean).
  GIVEN WITH THE SEED: the statements are not yours to turn. If you find one false, say at which input.
  Laid BY PROGRAM, IN A SANDBOX (cutbox-rows.mjs): the forced cells as the released guide's own fill.sh prints them over the translation 4b956eea4556ba00… (all of the seat's roots in one cut). By AI agents, Wed Nov 11 2026. No macro, syntax, notation, axiom, sorry.
-/
import Derived.Test.YtppmpfddcohkjaaChecked
import GoSem.Claim
import GoSem.ClaimJoined
import GoSem.ClaimMapViews
import Derived.JoinedTies
import Derived.KernelRfl
namespace Go.Proofs.Ytppmpfddcohkjaa
/- THE CELL 'sum', in the pinned program and in every row, IS THE sha256 OF THE DUMP (.gsa) THAT YtppmpfddcohkjaaProg.lean LOADS. Nothing in Lean hashes anything: it is a label: what it is worth is what the hold of that sum in a sandbox is worth. -/
noncomputable def Try.pinned : Pinned := { name := "ytppmpfddcohkjaa", sum := "4b956eea4556ba00e2c8164c9f5b0bb409e6fb4b8057838ffc3a8109ab3fb5aa", checked := Try.checked }
namespace Rows
def none {H : Type} : Left H := { results := [], args := [] }

/-- 'quiverlaw8.Arrays': WHATEVER THE INPUT: true; the input reads as it did. -/
def arraysSpec : ChangeSpec := { name := "arrays", fn := fun _ => fun
  | [d1, d2, d3] => { results := [.lit (.bool true)], args := [d1, d2, d3] }
  | _ => none }
def arraysRow : OpenClaim := { program := "ytppmpfddcohkjaa", sum := "4b956eea4556ba00e2c8164c9f5b0bb409e6fb4b8057838ffc3a8109ab3fb5aa", func := "quiver/quiverlaw8.Arrays", spec := "arrays", unfollowed := true, recurses := true, loops := true, apart := false }
def ArraysSaid : Prop := arraysRow.holds Try.pinned (OpenSpec.ofChange arraysSpec)

/-- ITS FALSE NEIGHBOUR: 'it returns false'. Refute it at one input. -/
def arraysWrong : ChangeSpec := { name := "arrays", fn := fun _ => fun
  | [d1, d2, d3] => { results := [.lit (.bool false)], args := [d1, d2, d3] }
  | _ => none }
def ArraysWrongFalsely : Prop := arraysRow.holds Try.pinned (OpenSpec.ofChange arraysWrong)

/-- 'quiverlaw8.ArrayForms': WHATEVER THE INPUT: true; the input reads as it did. -/
def arrayFormsSpec : ChangeSpec := { name := "arrayForms", fn := fun _ => fun
  | [d1, d2] => { results := [.lit (.bool true)], args := [d1, d2] }
  | _ => none }
def arrayFormsRow : OpenClaim := { program := "ytppmpfddcohkjaa", sum := "4b956eea4556ba00e2c8164c9f5b0bb409e6fb4b8057838ffc3a8109ab3fb5aa", func := "quiver/quiverlaw8.ArrayForms", spec := "arrayForms", unfollowed := true, recurses := true, apart := false }
def ArrayFormsSaid : Prop := arrayFormsRow.holds Try.pinned (OpenSpec.ofChange arrayFormsSpec)

/-- ITS FALSE NEIGHBOUR: 'it returns false'. Refute it at one input. -/
def arrayFormsWrong : ChangeSpec := { name := "arrayForms", fn := fun _ => fun
  | [d1, d2] => { results := [.lit (.bool false)], args := [d1, d2] }
  | _ => none }
def ArrayFormsWrongFalsely : Prop := arrayFormsRow.holds Try.pinned (OpenSpec.ofChange arrayFormsWrong)

/-- 'quiverlaw8.ArrayEnds': WHATEVER THE INPUT: true; the input reads as it did. -/
def arrayEndsSpec : ChangeSpec := { name := "arrayEnds", fn := fun _ => fun
  | [d] => { results := [.lit (.bool true)], args := [d] }
  | _ => none }
def arrayEndsRow : OpenClaim := { program := "ytppmpfddcohkjaa", sum := "4b956eea4556ba00e2c8164c9f5b0bb409e6fb4b8057838ffc3a8109ab3fb5aa", func := "quiver/quiverlaw8.ArrayEnds", spec := "arrayEnds", unfollowed := true, recurses := true, apart := false }
def ArrayEndsSaid : Prop := arrayEndsRow.holds Try.pinned (OpenSpec.ofChange arrayEndsSpec)

/-- ITS FALSE NEIGHBOUR: 'it returns false'. Refute it at one input. -/
def arrayEndsWrong : ChangeSpec := { name := "arrayEnds", fn := fun _ => fun
  | [d] => { results := [.lit (.bool false)], args := [d] }
  | _ => none }
def ArrayEndsWrongFalsely : Prop := arrayEndsRow.holds Try.pinned (OpenSpec.ofChange arrayEndsWrong)

/-- 'quiverlaw8.ArrayMore': WHATEVER THE INPUT: true; the input reads as it did. -/
def arrayMoreSpec : ChangeSpec := { name := "arrayMore", fn := fun _ => fun
  | [d1, d2, d3, d4] => { results := [.lit (.bool true)], args := [d1, d2, d3, d4] }
  | _ => none }
def arrayMoreRow : OpenClaim := { program := "ytppmpfddcohkjaa", sum := "4b956eea4556ba00e2c8164c9f5b0bb409e6fb4b8057838ffc3a8109ab3fb5aa", func := "quiver/quiverlaw8.ArrayMore", spec := "arrayMore", unfollowed := true, recurses := true, loops := true, apart := false }
def ArrayMoreSaid : Prop := arrayMoreRow.holds Try.pinned (OpenSpec.ofChange arrayMoreSpec)

/-- ITS FALSE NEIGHBOUR: 'it returns false'. Refute it at one input. -/
def arrayMoreWrong : ChangeSpec := { name := "arrayMore", fn := fun _ => fun
  | [d1, d2, d3, d4] => { results := [.lit (.bool false)], args := [d1, d2, d3, d4] }
  | _ => none }
def ArrayMoreWrongFalsely : Prop := arrayMoreRow.holds Try.pinned (OpenSpec.ofChange arrayMoreWrong)

/-- 'quiverlaw8.ArrayParts': WHATEVER THE INPUT: true; the input reads as it did. -/
def arrayPartsSpec : ChangeSpec := { name := "arrayParts", fn := fun _ => fun
  | [d1, d2, d3, d4, d5] => { results := [.lit (.bool true)], args := [d1, d2, d3, d4, d5] }
  | _ => none }
def arrayPartsRow : OpenClaim := { program := "ytppmpfddcohkjaa", sum := "4b956eea4556ba00e2c8164c9f5b0bb409e6fb4b8057838ffc3a8109ab3fb5aa", func := "quiver/quiverlaw8.ArrayParts", spec := "arrayParts", unfollowed := true, recurses := true, loops := true, apart := false }
def ArrayPartsSaid : Prop := arrayPartsRow.holds Try.pinned (OpenSpec.ofChange arrayPartsSpec)

/-- ITS FALSE NEIGHBOUR: 'it returns false'. Refute it at one input. -/
def arrayPartsWrong : ChangeSpec := { name := "arrayParts", fn := fun _ => fun
  | [d1, d2, d3, d4, d5] => { results := [.lit (.bool false)], args := [d1, d2, d3, d4, d5] }
  | _ => none }
def ArrayPartsWrongFalsely : Prop := arrayPartsRow.holds Try.pinned (OpenSpec.ofChange arrayPartsWrong)

/-- 'quiverlaw11.Slices': WHATEVER THE INPUT: true; the input reads as it did. -/
def slicesSpec : ChangeSpec := { name := "slices", fn := fun _ => fun
  | [d1, d2, d3, d4, d5] => { results := [.lit (.bool true)], args := [d1, d2, d3, d4, d5] }
  | _ => none }
def slicesRow : OpenClaim := { program := "ytppmpfddcohkjaa", sum := "4b956eea4556ba00e2c8164c9f5b0bb409e6fb4b8057838ffc3a8109ab3fb5aa", func := "quiver/quiverlaw11.Slices", spec := "slices", unfollowed := true, recurses := true, loops := true, apart := false }
def SlicesSaid : Prop := slicesRow.holds Try.pinned (OpenSpec.ofChange slicesSpec)

/-- ITS FALSE NEIGHBOUR: 'it returns false'. Refute it at one input. -/
def slicesWrong : ChangeSpec := { name := "slices", fn := fun _ => fun
  | [d1, d2, d3, d4, d5] => { results := [.lit (.bool false)], args := [d1, d2, d3, d4, d5] }
  | _ => none }
def SlicesWrongFalsely : Prop := slicesRow.holds Try.pinned (OpenSpec.ofChange slicesWrong)

/-- 'quiverlaw11.SliceRows': WHATEVER THE INPUT: true; the input reads as it did. -/
def sliceRowsSpec : ChangeSpec := { name := "sliceRows", fn := fun _ => fun
  | [d1, d2, d3, d4, d5, d6] => { results := [.lit (.bool true)], args := [d1, d2, d3, d4, d5, d6] }
  | _ => none }
def sliceRowsRow : OpenClaim := { program := "ytppmpfddcohkjaa", sum := "4b956eea4556ba00e2c8164c9f5b0bb409e6fb4b8057838ffc3a8109ab3fb5aa", func := "quiver/quiverlaw11.SliceRows", spec := "sliceRows", unfollowed := true, recurses := true, loops := true, apart := false }
def SliceRowsSaid : Prop := sliceRowsRow.holds Try.pinned (OpenSpec.ofChange sliceRowsSpec)

/-- ITS FALSE NEIGHBOUR: 'it returns false'. Refute it at one input. -/
def sliceRowsWrong : ChangeSpec := { name := "sliceRows", fn := fun _ => fun
  | [d1, d2, d3, d4, d5, d6] => { results := [.lit (.bool false)], args := [d1, d2, d3, d4, d5, d6] }
  | _ => none }
def SliceRowsWrongFalsely : Prop := sliceRowsRow.holds Try.pinned (OpenSpec.ofChange sliceRowsWrong)

/-- 'quiverlaw11.SliceForms': WHATEVER THE INPUT: true; the input reads as it did. -/
def sliceFormsSpec : ChangeSpec := { name := "sliceForms", fn := fun _ => fun
  | [d1, d2, d3, d4] => { results := [.lit (.bool true)], args := [d1, d2, d3, d4] }
  | _ => none }
def sliceFormsRow : OpenClaim := { program := "ytppmpfddcohkjaa", sum := "4b956eea4556ba00e2c8164c9f5b0bb409e6fb4b8057838ffc3a8109ab3fb5aa", func := "quiver/quiverlaw11.SliceForms", spec := "sliceForms", unfollowed := true, recurses := true, loops := true, apart := false }
def SliceFormsSaid : Prop := sliceFormsRow.holds Try.pinned (OpenSpec.ofChange sliceFormsSpec)

/-- ITS FALSE NEIGHBOUR: 'it returns false'. Refute it at one input. -/
def sliceFormsWrong : ChangeSpec := { name := "sliceForms", fn := fun _ => fun
  | [d1, d2, d3, d4] => { results := [.lit (.bool false)], args := [d1, d2, d3, d4] }
  | _ => none }
def SliceFormsWrongFalsely : Prop := sliceFormsRow.holds Try.pinned (OpenSpec.ofChange sliceFormsWrong)

/-- 'quiverlaw11.SliceShares': WHATEVER THE INPUT: true; the input reads as it did. -/
def sliceSharesSpec : ChangeSpec := { name := "sliceShares", fn := fun _ => fun
  | [d1, d2, d3, d4] => { results := [.lit (.bool true)], args := [d1, d2, d3, d4] }
  | _ => none }
def sliceSharesRow : OpenClaim := { program := "ytppmpfddcohkjaa", sum := "4b956eea4556ba00e2c8164c9f5b0bb409e6fb4b8057838ffc3a8109ab3fb5aa", func := "quiver/quiverlaw11.SliceShares", spec := "sliceShares", unfollowed := true, recurses := true, loops := true, apart := false }
def SliceSharesSaid : Prop := sliceSharesRow.holds Try.pinned (OpenSpec.ofChange sliceSharesSpec)

/-- ITS FALSE NEIGHBOUR: 'it returns false'. Refute it at one input. -/
def sliceSharesWrong : ChangeSpec := { name := "sliceShares", fn := fun _ => fun
  | [d1, d2, d3, d4] => { results := [.lit (.bool false)], args := [d1, d2, d3, d4] }
  | _ => none }
def SliceSharesWrongFalsely : Prop := sliceSharesRow.holds Try.pinned (OpenSpec.ofChange sliceSharesWrong)

/-- 'quiverlaw21.Hybrids': WHATEVER THE INPUT: true; the input reads as it did. -/
def hybridsSpec : ChangeSpec := { name := "hybrids", fn := fun _ => fun
  | [d1, d2, d3, d4] => { results := [.lit (.bool true)], args := [d1, d2, d3, d4] }
  | _ => none }
def hybridsRow : OpenClaim := { program := "ytppmpfddcohkjaa", sum := "4b956eea4556ba00e2c8164c9f5b0bb409e6fb4b8057838ffc3a8109ab3fb5aa", func := "quiver/quiverlaw21.Hybrids", spec := "hybrids", inPlace := ["internal/abi.NoEscape"], unfollowed := true, recurses := true, apart := false }
def HybridsSaid : Prop := hybridsRow.holds Try.pinned (OpenSpec.ofChange hybridsSpec)

/-- ITS FALSE NEIGHBOUR: 'it returns false'. Refute it at one input. -/
def hybridsWrong : ChangeSpec := { name := "hybrids", fn := fun _ => fun
  | [d1, d2, d3, d4] => { results := [.lit (.bool false)], args := [d1, d2, d3, d4] }
  | _ => none }
def HybridsWrongFalsely : Prop := hybridsRow.holds Try.pinned (OpenSpec.ofChange hybridsWrong)

/-- 'quiverlaw21.HybridBack': WHATEVER THE INPUT: true; the input reads as it did. -/
def hybridBackSpec : ChangeSpec := { name := "hybridBack", fn := fun _ => fun
  | [d1, d2, d3] => { results := [.lit (.bool true)], args := [d1, d2, d3] }
  | _ => none }
def hybridBackRow : OpenClaim := { program := "ytppmpfddcohkjaa", sum := "4b956eea4556ba00e2c8164c9f5b0bb409e6fb4b8057838ffc3a8109ab3fb5aa", func := "quiver/quiverlaw21.HybridBack", spec := "hybridBack", inPlace := ["internal/abi.NoEscape"], unfollowed := true, recurses := true, apart := false }
def HybridBackSaid : Prop := hybridBackRow.holds Try.pinned (OpenSpec.ofChange hybridBackSpec)

/-- ITS FALSE NEIGHBOUR: 'it returns false'. Refute it at one input. -/
def hybridBackWrong : ChangeSpec := { name := "hybridBack", fn := fun _ => fun
  | [d1, d2, d3] => { results := [.lit (.bool false)], args := [d1, d2, d3] }
  | _ => none }
def HybridBackWrongFalsely : Prop := hybridBackRow.holds Try.pinned (OpenSpec.ofChange hybridBackWrong)

/-- 'quiverlaw21.HybridForms': WHATEVER THE INPUT: true; the input reads as it did. -/
def hybridFormsSpec : ChangeSpec := { name := "hybridForms", fn := fun _ => fun
  | [d1, d2] => { results := [.lit (.bool true)], args := [d1, d2] }
  | _ => none }
def hybridFormsRow : OpenClaim := { program := "ytppmpfddcohkjaa", sum := "4b956eea4556ba00e2c8164c9f5b0bb409e6fb4b8057838ffc3a8109ab3fb5aa", func := "quiver/quiverlaw21.HybridForms", spec := "hybridForms", inPlace := ["internal/abi.NoEscape"], unfollowed := true, recurses := true, apart := false }
def HybridFormsSaid : Prop := hybridFormsRow.holds Try.pinned (OpenSpec.ofChange hybridFormsSpec)

/-- ITS FALSE NEIGHBOUR: 'it returns false'. Refute it at one input. -/
def hybridFormsWrong : ChangeSpec := { name := "hybridForms", fn := fun _ => fun
  | [d1, d2] => { results := [.lit (.bool false)], args := [d1, d2] }
  | _ => none }
def HybridFormsWrongFalsely : Prop := hybridFormsRow.holds Try.pinned (OpenSpec.ofChange hybridFormsWrong)

/-- 'quiverlaw21.HybridRuns': WHATEVER THE INPUT: true; the input reads as it did. -/
def hybridRunsSpec : ChangeSpec := { name := "hybridRuns", fn := fun _ => fun
  | [d1, d2] => { results := [.lit (.bool true)], args := [d1, d2] }
  | _ => none }
def hybridRunsRow : OpenClaim := { program := "ytppmpfddcohkjaa", sum := "4b956eea4556ba00e2c8164c9f5b0bb409e6fb4b8057838ffc3a8109ab3fb5aa", func := "quiver/quiverlaw21.HybridRuns", spec := "hybridRuns", inPlace := ["internal/abi.NoEscape"], unfollowed := true, recurses := true, apart := false }
def HybridRunsSaid : Prop := hybridRunsRow.holds Try.pinned (OpenSpec.ofChange hybridRunsSpec)

/-- ITS FALSE NEIGHBOUR: 'it returns false'. Refute it at one input. -/
def hybridRunsWrong : ChangeSpec := { name := "hybridRuns", fn := fun _ => fun
  | [d1, d2] => { results := [.lit (.bool false)], args := [d1, d2] }
  | _ => none }
def HybridRunsWrongFalsely : Prop := hybridRunsRow.holds Try.pinned (OpenSpec.ofChange hybridRunsWrong)

/-- 'quiverlaw21.HybridUnlike': WHATEVER THE INPUT: true; the input reads as it did. -/
def hybridUnlikeSpec : ChangeSpec := { name := "hybridUnlike", fn := fun _ => fun
  | [d1, d2, d3] => { results := [.lit (.bool true)], args := [d1, d2, d3] }
  | _ => none }
def hybridUnlikeRow : OpenClaim := { program := "ytppmpfddcohkjaa", sum := "4b956eea4556ba00e2c8164c9f5b0bb409e6fb4b8057838ffc3a8109ab3fb5aa", func := "quiver/quiverlaw21.HybridUnlike", spec := "hybridUnlike", inPlace := ["internal/abi.NoEscape"], unfollowed := true, recurses := true, apart := false }
def HybridUnlikeSaid : Prop := hybridUnlikeRow.holds Try.pinned (OpenSpec.ofChange hybridUnlikeSpec)

/-- ITS FALSE NEIGHBOUR: 'it returns false'. Refute it at one input. -/
def hybridUnlikeWrong : ChangeSpec := { name := "hybridUnlike", fn := fun _ => fun
  | [d1, d2, d3] => { results := [.lit (.bool false)], args := [d1, d2, d3] }
  | _ => none }
def HybridUnlikeWrongFalsely : Prop := hybridUnlikeRow.holds Try.pinned (OpenSpec.ofChange hybridUnlikeWrong)

/-- 'quiverlaw21.HybridMixed': WHATEVER THE INPUT: true; the input reads as it did. -/
def hybridMixedSpec : ChangeSpec := { name := "hybridMixed", fn := fun _ => fun
  | [d1, d2] => { results := [.lit (.bool true)], args := [d1, d2] }
  | _ => none }
def hybridMixedRow : OpenClaim := { program := "ytppmpfddcohkjaa", sum := "4b956eea4556ba00e2c8164c9f5b0bb409e6fb4b8057838ffc3a8109ab3fb5aa", func := "quiver/quiverlaw21.HybridMixed", spec := "hybridMixed", inPlace := ["internal/abi.NoEscape"], unfollowed := true, recurses := true, apart := false }
def HybridMixedSaid : Prop := hybridMixedRow.holds Try.pinned (OpenSpec.ofChange hybridMixedSpec)

/-- ITS FALSE NEIGHBOUR: 'it returns false'. Refute it at one input. -/
def hybridMixedWrong : ChangeSpec := { name := "hybridMixed", fn := fun _ => fun
  | [d1, d2] => { results := [.lit (.bool false)], args := [d1, d2] }
  | _ => none }
def HybridMixedWrongFalsely : Prop := hybridMixedRow.holds Try.pinned (OpenSpec.ofChange hybridMixedWrong)

/- THE SECOND FORM. 'bulk': how many values and letters a reading holds, each counted each time it is reached (what is shared counts as often as it is met; a slice's spare places count too). A statement '..UptoSaid' is the law's where the arguments, and the package variables that the reading takes, are together of bulk at most 1048576: NARROWER than '..Said'. Prove '..Said' where nothing that the law and all that it calls make is longer than what came in: it says more and counts as full. Else prove '..UptoSaid'. A law counts once. -/
mutual
def uptoBulk {H : Type} : DataW H → Nat
  | .lit (.string bytes) => bytes.length + 1
  | .lit _ => 1
  | .nil => 1
  | .ptr d => uptoBulk d + 1
  | .slice elems spare => uptoBulkAll elems + uptoBulkAll spare + 1
  | .agg parts => uptoBulkAll parts + 1
  | .iface _ d => uptoBulk d + 1
  | .map entries => uptoBulkEntries entries + 1
  | .held _ => 1
def uptoBulkAll {H : Type} : List (DataW H) → Nat
  | [] => 0
  | d :: r => uptoBulk d + uptoBulkAll r
def uptoBulkEntries {H : Type} : List (Lit × DataW H) → Nat
  | [] => 0
  | x :: r => uptoBulkEntry x + uptoBulkEntries r
def uptoBulkEntry {H : Type} : Lit × DataW H → Nat
  | (.string bytes, d) => bytes.length + uptoBulk d + 1
  | (_, d) => uptoBulk d + 1
 end
def uptoSmall : (H : Type) → List (DataW H) → Bool := fun _ ds => decide (uptoBulkAll ds ≤ 1048576)
def OpenSpec.upto (s : _root_.Go.ChangeSpec) : _root_.Go.OpenSpec := { _root_.Go.OpenSpec.ofChange s with cond := some uptoSmall }

/-- 'quiverlaw8.Arrays', WHERE WHAT IT READS IS OF BULK AT MOST 1048576: true; the input reads as it did. -/
def arraysUptoRow : OpenClaim := { program := "ytppmpfddcohkjaa", sum := "4b956eea4556ba00e2c8164c9f5b0bb409e6fb4b8057838ffc3a8109ab3fb5aa", func := "quiver/quiverlaw8.Arrays", spec := "arrays", unfollowed := true, recurses := true, loops := true, apart := false, narrowed := true }
def ArraysUptoSaid : Prop := arraysUptoRow.holds Try.pinned (OpenSpec.upto arraysSpec)

/-- 'quiverlaw8.ArrayForms', WHERE WHAT IT READS IS OF BULK AT MOST 1048576: true; the input reads as it did. -/
def arrayFormsUptoRow : OpenClaim := { program := "ytppmpfddcohkjaa", sum := "4b956eea4556ba00e2c8164c9f5b0bb409e6fb4b8057838ffc3a8109ab3fb5aa", func := "quiver/quiverlaw8.ArrayForms", spec := "arrayForms", unfollowed := true, recurses := true, apart := false, narrowed := true }
def ArrayFormsUptoSaid : Prop := arrayFormsUptoRow.holds Try.pinned (OpenSpec.upto arrayFormsSpec)

/-- 'quiverlaw8.ArrayEnds', WHERE WHAT IT READS IS OF BULK AT MOST 1048576: true; the input reads as it did. -/
def arrayEndsUptoRow : OpenClaim := { program := "ytppmpfddcohkjaa", sum := "4b956eea4556ba00e2c8164c9f5b0bb409e6fb4b8057838ffc3a8109ab3fb5aa", func := "quiver/quiverlaw8.ArrayEnds", spec := "arrayEnds", unfollowed := true, recurses := true, apart := false, narrowed := true }
def ArrayEndsUptoSaid : Prop := arrayEndsUptoRow.holds Try.pinned (OpenSpec.upto arrayEndsSpec)

/-- 'quiverlaw8.ArrayMore', WHERE WHAT IT READS IS OF BULK AT MOST 1048576: true; the input reads as it did. -/
def arrayMoreUptoRow : OpenClaim := { program := "ytppmpfddcohkjaa", sum := "4b956eea4556ba00e2c8164c9f5b0bb409e6fb4b8057838ffc3a8109ab3fb5aa", func := "quiver/quiverlaw8.ArrayMore", spec := "arrayMore", unfollowed := true, recurses := true, loops := true, apart := false, narrowed := true }
def ArrayMoreUptoSaid : Prop := arrayMoreUptoRow.holds Try.pinned (OpenSpec.upto arrayMoreSpec)

/-- 'quiverlaw8.ArrayParts', WHERE WHAT IT READS IS OF BULK AT MOST 1048576: true; the input reads as it did. -/
def arrayPartsUptoRow : OpenClaim := { program := "ytppmpfddcohkjaa", sum := "4b956eea4556ba00e2c8164c9f5b0bb409e6fb4b8057838ffc3a8109ab3fb5aa", func := "quiver/quiverlaw8.ArrayParts", spec := "arrayParts", unfollowed := true, recurses := true, loops := true, apart := false, narrowed := true }
def ArrayPartsUptoSaid : Prop := arrayPartsUptoRow.holds Try.pinned (OpenSpec.upto arrayPartsSpec)

/-- 'quiverlaw11.Slices', WHERE WHAT IT READS IS OF BULK AT MOST 1048576: true; the input reads as it did. -/
def slicesUptoRow : OpenClaim := { program := "ytppmpfddcohkjaa", sum := "4b956eea4556ba00e2c8164c9f5b0bb409e6fb4b8057838ffc3a8109ab3fb5aa", func := "quiver/quiverlaw11.Slices", spec := "slices", unfollowed := true, recurses := true, loops := true, apart := false, narrowed := true }
def SlicesUptoSaid : Prop := slicesUptoRow.holds Try.pinned (OpenSpec.upto slicesSpec)

/-- 'quiverlaw11.SliceRows', WHERE WHAT IT READS IS OF BULK AT MOST 1048576: true; the input reads as it did. -/
def sliceRowsUptoRow : OpenClaim := { program := "ytppmpfddcohkjaa", sum := "4b956eea4556ba00e2c8164c9f5b0bb409e6fb4b8057838ffc3a8109ab3fb5aa", func := "quiver/quiverlaw11.SliceRows", spec := "sliceRows", unfollowed := true, recurses := true, loops := true, apart := false, narrowed := true }
def SliceRowsUptoSaid : Prop := sliceRowsUptoRow.holds Try.pinned (OpenSpec.upto sliceRowsSpec)

/-- 'quiverlaw11.SliceForms', WHERE WHAT IT READS IS OF BULK AT MOST 1048576: true; the input reads as it did. -/
def sliceFormsUptoRow : OpenClaim := { program := "ytppmpfddcohkjaa", sum := "4b956eea4556ba00e2c8164c9f5b0bb409e6fb4b8057838ffc3a8109ab3fb5aa", func := "quiver/quiverlaw11.SliceForms", spec := "sliceForms", unfollowed := true, recurses := true, loops := true, apart := false, narrowed := true }
def SliceFormsUptoSaid : Prop := sliceFormsUptoRow.holds Try.pinned (OpenSpec.upto sliceFormsSpec)

/-- 'quiverlaw11.SliceShares', WHERE WHAT IT READS IS OF BULK AT MOST 1048576: true; the input reads as it did. -/
def sliceSharesUptoRow : OpenClaim := { program := "ytppmpfddcohkjaa", sum := "4b956eea4556ba00e2c8164c9f5b0bb409e6fb4b8057838ffc3a8109ab3fb5aa", func := "quiver/quiverlaw11.SliceShares", spec := "sliceShares", unfollowed := true, recurses := true, loops := true, apart := false, narrowed := true }
def SliceSharesUptoSaid : Prop := sliceSharesUptoRow.holds Try.pinned (OpenSpec.upto sliceSharesSpec)

/-- 'quiverlaw21.Hybrids', WHERE WHAT IT READS IS OF BULK AT MOST 1048576: true; the input reads as it did. -/
def hybridsUptoRow : OpenClaim := { program := "ytppmpfddcohkjaa", sum := "4b956eea4556ba00e2c8164c9f5b0bb409e6fb4b8057838ffc3a8109ab3fb5aa", func := "quiver/quiverlaw21.Hybrids", spec := "hybrids", inPlace := ["internal/abi.NoEscape"], unfollowed := true, recurses := true, apart := false, narrowed := true }
def HybridsUptoSaid : Prop := hybridsUptoRow.holds Try.pinned (OpenSpec.upto hybridsSpec)

/-- 'quiverlaw21.HybridBack', WHERE WHAT IT READS IS OF BULK AT MOST 1048576: true; the input reads as it did. -/
def hybridBackUptoRow : OpenClaim := { program := "ytppmpfddcohkjaa", sum := "4b956eea4556ba00e2c8164c9f5b0bb409e6fb4b8057838ffc3a8109ab3fb5aa", func := "quiver/quiverlaw21.HybridBack", spec := "hybridBack", inPlace := ["internal/abi.NoEscape"], unfollowed := true, recurses := true, apart := false, narrowed := true }
def HybridBackUptoSaid : Prop := hybridBackUptoRow.holds Try.pinned (OpenSpec.upto hybridBackSpec)

/-- 'quiverlaw21.HybridForms', WHERE WHAT IT READS IS OF BULK AT MOST 1048576: true; the input reads as it did. -/
def hybridFormsUptoRow : OpenClaim := { program := "ytppmpfddcohkjaa", sum := "4b956eea4556ba00e2c8164c9f5b0bb409e6fb4b8057838ffc3a8109ab3fb5aa", func := "quiver/quiverlaw21.HybridForms", spec := "hybridForms", inPlace := ["internal/abi.NoEscape"], unfollowed := true, recurses := true, apart := false, narrowed := true }
def HybridFormsUptoSaid : Prop := hybridFormsUptoRow.holds Try.pinned (OpenSpec.upto hybridFormsSpec)

/-- 'quiverlaw21.HybridRuns', WHERE WHAT IT READS IS OF BULK AT MOST 1048576: true; the input reads as it did. -/
def hybridRunsUptoRow : OpenClaim := { program := "ytppmpfddcohkjaa", sum := "4b956eea4556ba00e2c8164c9f5b0bb409e6fb4b8057838ffc3a8109ab3fb5aa", func := "quiver/quiverlaw21.HybridRuns", spec := "hybridRuns", inPlace := ["internal/abi.NoEscape"], unfollowed := true, recurses := true, apart := false, narrowed := true }
def HybridRunsUptoSaid : Prop := hybridRunsUptoRow.holds Try.pinned (OpenSpec.upto hybridRunsSpec)

/-- 'quiverlaw21.HybridUnlike', WHERE WHAT IT READS IS OF BULK AT MOST 1048576: true; the input reads as it did. -/
def hybridUnlikeUptoRow : OpenClaim := { program := "ytppmpfddcohkjaa", sum := "4b956eea4556ba00e2c8164c9f5b0bb409e6fb4b8057838ffc3a8109ab3fb5aa", func := "quiver/quiverlaw21.HybridUnlike", spec := "hybridUnlike", inPlace := ["internal/abi.NoEscape"], unfollowed := true, recurses := true, apart := false, narrowed := true }
def HybridUnlikeUptoSaid : Prop := hybridUnlikeUptoRow.holds Try.pinned (OpenSpec.upto hybridUnlikeSpec)

/-- 'quiverlaw21.HybridMixed', WHERE WHAT IT READS IS OF BULK AT MOST 1048576: true; the input reads as it did. -/
def hybridMixedUptoRow : OpenClaim := { program := "ytppmpfddcohkjaa", sum := "4b956eea4556ba00e2c8164c9f5b0bb409e6fb4b8057838ffc3a8109ab3fb5aa", func := "quiver/quiverlaw21.HybridMixed", spec := "hybridMixed", inPlace := ["internal/abi.NoEscape"], unfollowed := true, recurses := true, apart := false, narrowed := true }
def HybridMixedUptoSaid : Prop := hybridMixedUptoRow.holds Try.pinned (OpenSpec.upto hybridMixedSpec)

end Rows
end Go.Proofs.Ytppmpfddcohkjaa
