/-
  NARROWER THAN 'FOR EVERY INPUT', by the rows' own cells (each row's printed sentence says how): Slices: loops.
  DERIVED. THE GIVEN ROWS OF THIS SEAT. 3 by the template 'for every input the law returns true; each argument reads behind the call as it read before'; 0 by the template 'total and deterministic' (their statements: YtjkokaockhecnaaTotals.lean).
  GIVEN WITH THE SEED: the statements are not yours to turn. If you find one false, say at which input.
  Laid BY PROGRAM, IN A SANDBOX (cutbox-rows.mjs): the forced cells as the released guide's own fill.sh prints them over the translation d5a0548dfc8b0d5d… (all of the seat's roots in one cut). By AI agents, Wed Nov 11 2026. No macro, syntax, notation, axiom, sorry.
-/
import Derived.Test.YtjkokaockhecnaaChecked
import GoSem.Claim
import GoSem.ClaimJoined
import GoSem.ClaimMapViews
import Derived.JoinedTies
import Derived.KernelRfl
namespace Go.Proofs.Ytjkokaockhecnaa
/- THE CELL 'sum', in the pinned program and in every row, IS THE sha256 OF THE DUMP (.gsa) THAT YtjkokaockhecnaaProg.lean LOADS. Nothing in Lean hashes anything: it is a label: what it is worth is what the hold of that sum in a sandbox is worth. -/
noncomputable def Try.pinned : Pinned := { name := "ytjkokaockhecnaa", sum := "d5a0548dfc8b0d5d75a4cdbed1f67f189b7048410051aaece203a4a36b7dc5b5", checked := Try.checked }
namespace Rows
def none {H : Type} : Left H := { results := [], args := [] }

/-- 'quiverlaw8.ArrayForms': WHATEVER THE INPUT: true; the input reads as it did. -/
def arrayFormsSpec : ChangeSpec := { name := "arrayForms", fn := fun _ => fun
  | [d1, d2] => { results := [.lit (.bool true)], args := [d1, d2] }
  | _ => none }
def arrayFormsRow : OpenClaim := { program := "ytjkokaockhecnaa", sum := "d5a0548dfc8b0d5d75a4cdbed1f67f189b7048410051aaece203a4a36b7dc5b5", func := "quiver/quiverlaw8.ArrayForms", spec := "arrayForms", unfollowed := true, recurses := true, apart := false }
def ArrayFormsSaid : Prop := arrayFormsRow.holds Try.pinned (OpenSpec.ofChange arrayFormsSpec)

/-- ITS FALSE NEIGHBOUR: 'it returns false'. Refute it at one input. -/
def arrayFormsWrong : ChangeSpec := { name := "arrayForms", fn := fun _ => fun
  | [d1, d2] => { results := [.lit (.bool false)], args := [d1, d2] }
  | _ => none }
def ArrayFormsWrongFalsely : Prop := arrayFormsRow.holds Try.pinned (OpenSpec.ofChange arrayFormsWrong)

/-- 'quiverlaw8.ArrayEnds': WHATEVER THE INPUT: true; the input reads as it did. -/
def arrayEndsSpec : ChangeSpec := { name := "arrayEnds", fn := fun _ => fun
  | [d] => { results := [.lit (.bool true)], args := [d] }
  | _ => none }
def arrayEndsRow : OpenClaim := { program := "ytjkokaockhecnaa", sum := "d5a0548dfc8b0d5d75a4cdbed1f67f189b7048410051aaece203a4a36b7dc5b5", func := "quiver/quiverlaw8.ArrayEnds", spec := "arrayEnds", unfollowed := true, recurses := true, apart := false }
def ArrayEndsSaid : Prop := arrayEndsRow.holds Try.pinned (OpenSpec.ofChange arrayEndsSpec)

/-- ITS FALSE NEIGHBOUR: 'it returns false'. Refute it at one input. -/
def arrayEndsWrong : ChangeSpec := { name := "arrayEnds", fn := fun _ => fun
  | [d] => { results := [.lit (.bool false)], args := [d] }
  | _ => none }
def ArrayEndsWrongFalsely : Prop := arrayEndsRow.holds Try.pinned (OpenSpec.ofChange arrayEndsWrong)

/-- 'quiverlaw11.Slices': WHATEVER THE INPUT: true; the input reads as it did. -/
def slicesSpec : ChangeSpec := { name := "slices", fn := fun _ => fun
  | [d1, d2, d3, d4, d5] => { results := [.lit (.bool true)], args := [d1, d2, d3, d4, d5] }
  | _ => none }
def slicesRow : OpenClaim := { program := "ytjkokaockhecnaa", sum := "d5a0548dfc8b0d5d75a4cdbed1f67f189b7048410051aaece203a4a36b7dc5b5", func := "quiver/quiverlaw11.Slices", spec := "slices", unfollowed := true, recurses := true, loops := true, apart := false }
def SlicesSaid : Prop := slicesRow.holds Try.pinned (OpenSpec.ofChange slicesSpec)

/-- ITS FALSE NEIGHBOUR: 'it returns false'. Refute it at one input. -/
def slicesWrong : ChangeSpec := { name := "slices", fn := fun _ => fun
  | [d1, d2, d3, d4, d5] => { results := [.lit (.bool false)], args := [d1, d2, d3, d4, d5] }
  | _ => none }
def SlicesWrongFalsely : Prop := slicesRow.holds Try.pinned (OpenSpec.ofChange slicesWrong)

/- THE SECOND FORM. 'bulk': how many values and letters a reading holds, each counted each time it is reached (what is shared counts as often as it is met; a slice's spare places count too). A statement '..UptoSaid' is the law's where the arguments, and the package variables that the reading takes, are together of bulk at most 1048576: NARROWER than '..Said'. Prove '..Said' where nothing that the law and all that it calls make is longer than what came in: it says more and counts as full. Else prove '..UptoSaid'. A law counts once. -/
mutual
def uptoBulk {H : Type} : DataW H → Nat
  | .lit (.string bytes) => bytes.length + 1
  | .lit _ => 1
  | .nil => 1
  | .ptr d => uptoBulk d + 1
  | .slice elems spare => uptoBulkAll elems + uptoBulkAll spare + 1
  | .agg parts => uptoBulkAll parts + 1
  | .iface _ d => uptoBulk d + 1
  | .map entries => uptoBulkEntries entries + 1
  | .held _ => 1
def uptoBulkAll {H : Type} : List (DataW H) → Nat
  | [] => 0
  | d :: r => uptoBulk d + uptoBulkAll r
def uptoBulkEntries {H : Type} : List (Lit × DataW H) → Nat
  | [] => 0
  | x :: r => uptoBulkEntry x + uptoBulkEntries r
def uptoBulkEntry {H : Type} : Lit × DataW H → Nat
  | (.string bytes, d) => bytes.length + uptoBulk d + 1
  | (_, d) => uptoBulk d + 1
 end
def uptoSmall : (H : Type) → List (DataW H) → Bool := fun _ ds => decide (uptoBulkAll ds ≤ 1048576)
def OpenSpec.upto (s : _root_.Go.ChangeSpec) : _root_.Go.OpenSpec := { _root_.Go.OpenSpec.ofChange s with cond := some uptoSmall }

/-- 'quiverlaw8.ArrayForms', WHERE WHAT IT READS IS OF BULK AT MOST 1048576: true; the input reads as it did. -/
def arrayFormsUptoRow : OpenClaim := { program := "ytjkokaockhecnaa", sum := "d5a0548dfc8b0d5d75a4cdbed1f67f189b7048410051aaece203a4a36b7dc5b5", func := "quiver/quiverlaw8.ArrayForms", spec := "arrayForms", unfollowed := true, recurses := true, apart := false, narrowed := true }
def ArrayFormsUptoSaid : Prop := arrayFormsUptoRow.holds Try.pinned (OpenSpec.upto arrayFormsSpec)

/-- 'quiverlaw8.ArrayEnds', WHERE WHAT IT READS IS OF BULK AT MOST 1048576: true; the input reads as it did. -/
def arrayEndsUptoRow : OpenClaim := { program := "ytjkokaockhecnaa", sum := "d5a0548dfc8b0d5d75a4cdbed1f67f189b7048410051aaece203a4a36b7dc5b5", func := "quiver/quiverlaw8.ArrayEnds", spec := "arrayEnds", unfollowed := true, recurses := true, apart := false, narrowed := true }
def ArrayEndsUptoSaid : Prop := arrayEndsUptoRow.holds Try.pinned (OpenSpec.upto arrayEndsSpec)

/-- 'quiverlaw11.Slices', WHERE WHAT IT READS IS OF BULK AT MOST 1048576: true; the input reads as it did. -/
def slicesUptoRow : OpenClaim := { program := "ytjkokaockhecnaa", sum := "d5a0548dfc8b0d5d75a4cdbed1f67f189b7048410051aaece203a4a36b7dc5b5", func := "quiver/quiverlaw11.Slices", spec := "slices", unfollowed := true, recurses := true, loops := true, apart := false, narrowed := true }
def SlicesUptoSaid : Prop := slicesUptoRow.holds Try.pinned (OpenSpec.upto slicesSpec)

end Rows
end Go.Proofs.Ytjkokaockhecnaa
