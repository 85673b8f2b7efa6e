/-
  No cell of these rows narrows 'for every input' (looked for: loops, veiled, ifaces, maps, wideKeys, modest, calm, conditions, laid).
  DERIVED. THE GIVEN ROWS OF THIS SEAT. 16 by the template 'for every input the law returns true; each argument reads behind the call as it read before'; 0 by the template 'total and deterministic' (their statements: YtgedegmcbkligaaTotals.lean).
  GIVEN WITH THE SEED: the statements are not yours to turn. If you find one false, say at which input.
  Laid BY PROGRAM, IN A SANDBOX (cutbox-rows.mjs): the forced cells as the released guide's own fill.sh prints them over the translation 53d5588e86515170… (all of the seat's roots in one cut). By AI agents, Wed Nov 11 2026. No macro, syntax, notation, axiom, sorry.
-/
import Derived.Test.YtgedegmcbkligaaChecked
import GoSem.Claim
import GoSem.ClaimJoined
import GoSem.ClaimMapViews
import Derived.JoinedTies
import Derived.KernelRfl
namespace Go.Proofs.Ytgedegmcbkligaa
/- THE CELL 'sum', in the pinned program and in every row, IS THE sha256 OF THE DUMP (.gsa) THAT YtgedegmcbkligaaProg.lean LOADS. Nothing in Lean hashes anything: it is a label: what it is worth is what the hold of that sum in a sandbox is worth. -/
noncomputable def Try.pinned : Pinned := { name := "ytgedegmcbkligaa", sum := "53d5588e86515170f9be040e598c7af9c47b9ee395c174621f0df55b588e1224", checked := Try.checked }
namespace Rows
def none {H : Type} : Left H := { results := [], args := [] }

/-- 'quiverlaw3.Nums': WHATEVER THE INPUT: true; the input reads as it did. -/
def numsSpec : ChangeSpec := { name := "nums", fn := fun _ => fun
  | [d1, d2, d3, d4] => { results := [.lit (.bool true)], args := [d1, d2, d3, d4] }
  | _ => none }
def numsRow : OpenClaim := { program := "ytgedegmcbkligaa", sum := "53d5588e86515170f9be040e598c7af9c47b9ee395c174621f0df55b588e1224", func := "quiver/quiverlaw3.Nums", spec := "nums", apart := false }
def NumsSaid : Prop := numsRow.holds Try.pinned (OpenSpec.ofChange numsSpec)

/-- ITS FALSE NEIGHBOUR: 'it returns false'. Refute it at one input. -/
def numsWrong : ChangeSpec := { name := "nums", fn := fun _ => fun
  | [d1, d2, d3, d4] => { results := [.lit (.bool false)], args := [d1, d2, d3, d4] }
  | _ => none }
def NumsWrongFalsely : Prop := numsRow.holds Try.pinned (OpenSpec.ofChange numsWrong)

/-- 'quiverlaw3.NumBack': WHATEVER THE INPUT: true; the input reads as it did. -/
def numBackSpec : ChangeSpec := { name := "numBack", fn := fun _ => fun
  | [d1, d2] => { results := [.lit (.bool true)], args := [d1, d2] }
  | _ => none }
def numBackRow : OpenClaim := { program := "ytgedegmcbkligaa", sum := "53d5588e86515170f9be040e598c7af9c47b9ee395c174621f0df55b588e1224", func := "quiver/quiverlaw3.NumBack", spec := "numBack", apart := false }
def NumBackSaid : Prop := numBackRow.holds Try.pinned (OpenSpec.ofChange numBackSpec)

/-- ITS FALSE NEIGHBOUR: 'it returns false'. Refute it at one input. -/
def numBackWrong : ChangeSpec := { name := "numBack", fn := fun _ => fun
  | [d1, d2] => { results := [.lit (.bool false)], args := [d1, d2] }
  | _ => none }
def NumBackWrongFalsely : Prop := numBackRow.holds Try.pinned (OpenSpec.ofChange numBackWrong)

/-- 'quiverlaw3.NumForms': WHATEVER THE INPUT: true; the input reads as it did. -/
def numFormsSpec : ChangeSpec := { name := "numForms", fn := fun _ => fun
  | [d1, d2] => { results := [.lit (.bool true)], args := [d1, d2] }
  | _ => none }
def numFormsRow : OpenClaim := { program := "ytgedegmcbkligaa", sum := "53d5588e86515170f9be040e598c7af9c47b9ee395c174621f0df55b588e1224", func := "quiver/quiverlaw3.NumForms", spec := "numForms", apart := false }
def NumFormsSaid : Prop := numFormsRow.holds Try.pinned (OpenSpec.ofChange numFormsSpec)

/-- ITS FALSE NEIGHBOUR: 'it returns false'. Refute it at one input. -/
def numFormsWrong : ChangeSpec := { name := "numForms", fn := fun _ => fun
  | [d1, d2] => { results := [.lit (.bool false)], args := [d1, d2] }
  | _ => none }
def NumFormsWrongFalsely : Prop := numFormsRow.holds Try.pinned (OpenSpec.ofChange numFormsWrong)

/-- 'quiverlaw3.NumRow': WHATEVER THE INPUT: true; the input reads as it did. -/
def numRowSpec : ChangeSpec := { name := "numRow", fn := fun _ => fun
  | [d] => { results := [.lit (.bool true)], args := [d] }
  | _ => none }
def numRowRow : OpenClaim := { program := "ytgedegmcbkligaa", sum := "53d5588e86515170f9be040e598c7af9c47b9ee395c174621f0df55b588e1224", func := "quiver/quiverlaw3.NumRow", spec := "numRow", apart := false }
def NumRowSaid : Prop := numRowRow.holds Try.pinned (OpenSpec.ofChange numRowSpec)

/-- ITS FALSE NEIGHBOUR: 'it returns false'. Refute it at one input. -/
def numRowWrong : ChangeSpec := { name := "numRow", fn := fun _ => fun
  | [d] => { results := [.lit (.bool false)], args := [d] }
  | _ => none }
def NumRowWrongFalsely : Prop := numRowRow.holds Try.pinned (OpenSpec.ofChange numRowWrong)

/-- 'quiverlaw3.NumUnlike': WHATEVER THE INPUT: true; the input reads as it did. -/
def numUnlikeSpec : ChangeSpec := { name := "numUnlike", fn := fun _ => fun
  | [d1, d2] => { results := [.lit (.bool true)], args := [d1, d2] }
  | _ => none }
def numUnlikeRow : OpenClaim := { program := "ytgedegmcbkligaa", sum := "53d5588e86515170f9be040e598c7af9c47b9ee395c174621f0df55b588e1224", func := "quiver/quiverlaw3.NumUnlike", spec := "numUnlike", apart := false }
def NumUnlikeSaid : Prop := numUnlikeRow.holds Try.pinned (OpenSpec.ofChange numUnlikeSpec)

/-- ITS FALSE NEIGHBOUR: 'it returns false'. Refute it at one input. -/
def numUnlikeWrong : ChangeSpec := { name := "numUnlike", fn := fun _ => fun
  | [d1, d2] => { results := [.lit (.bool false)], args := [d1, d2] }
  | _ => none }
def NumUnlikeWrongFalsely : Prop := numUnlikeRow.holds Try.pinned (OpenSpec.ofChange numUnlikeWrong)

/-- 'quiverlaw6.Schemas': WHATEVER THE INPUT: true; the input reads as it did. -/
def schemasSpec : ChangeSpec := { name := "schemas", fn := fun _ => fun
  | [d1, d2] => { results := [.lit (.bool true)], args := [d1, d2] }
  | _ => none }
def schemasRow : OpenClaim := { program := "ytgedegmcbkligaa", sum := "53d5588e86515170f9be040e598c7af9c47b9ee395c174621f0df55b588e1224", func := "quiver/quiverlaw6.Schemas", spec := "schemas", apart := false }
def SchemasSaid : Prop := schemasRow.holds Try.pinned (OpenSpec.ofChange schemasSpec)

/-- ITS FALSE NEIGHBOUR: 'it returns false'. Refute it at one input. -/
def schemasWrong : ChangeSpec := { name := "schemas", fn := fun _ => fun
  | [d1, d2] => { results := [.lit (.bool false)], args := [d1, d2] }
  | _ => none }
def SchemasWrongFalsely : Prop := schemasRow.holds Try.pinned (OpenSpec.ofChange schemasWrong)

/-- 'quiverlaw6.SchemaBack': WHATEVER THE INPUT: true; the input reads as it did. -/
def schemaBackSpec : ChangeSpec := { name := "schemaBack", fn := fun _ => fun
  | [d1, d2] => { results := [.lit (.bool true)], args := [d1, d2] }
  | _ => none }
def schemaBackRow : OpenClaim := { program := "ytgedegmcbkligaa", sum := "53d5588e86515170f9be040e598c7af9c47b9ee395c174621f0df55b588e1224", func := "quiver/quiverlaw6.SchemaBack", spec := "schemaBack", apart := false }
def SchemaBackSaid : Prop := schemaBackRow.holds Try.pinned (OpenSpec.ofChange schemaBackSpec)

/-- ITS FALSE NEIGHBOUR: 'it returns false'. Refute it at one input. -/
def schemaBackWrong : ChangeSpec := { name := "schemaBack", fn := fun _ => fun
  | [d1, d2] => { results := [.lit (.bool false)], args := [d1, d2] }
  | _ => none }
def SchemaBackWrongFalsely : Prop := schemaBackRow.holds Try.pinned (OpenSpec.ofChange schemaBackWrong)

/-- 'quiverlaw6.SchemaForms': WHATEVER THE INPUT: true; the input reads as it did. -/
def schemaFormsSpec : ChangeSpec := { name := "schemaForms", fn := fun _ => fun
  | [d1, d2] => { results := [.lit (.bool true)], args := [d1, d2] }
  | _ => none }
def schemaFormsRow : OpenClaim := { program := "ytgedegmcbkligaa", sum := "53d5588e86515170f9be040e598c7af9c47b9ee395c174621f0df55b588e1224", func := "quiver/quiverlaw6.SchemaForms", spec := "schemaForms", apart := false }
def SchemaFormsSaid : Prop := schemaFormsRow.holds Try.pinned (OpenSpec.ofChange schemaFormsSpec)

/-- ITS FALSE NEIGHBOUR: 'it returns false'. Refute it at one input. -/
def schemaFormsWrong : ChangeSpec := { name := "schemaForms", fn := fun _ => fun
  | [d1, d2] => { results := [.lit (.bool false)], args := [d1, d2] }
  | _ => none }
def SchemaFormsWrongFalsely : Prop := schemaFormsRow.holds Try.pinned (OpenSpec.ofChange schemaFormsWrong)

/-- 'quiverlaw6.SchemaUnlike': WHATEVER THE INPUT: true; the input reads as it did. -/
def schemaUnlikeSpec : ChangeSpec := { name := "schemaUnlike", fn := fun _ => fun
  | [d1, d2] => { results := [.lit (.bool true)], args := [d1, d2] }
  | _ => none }
def schemaUnlikeRow : OpenClaim := { program := "ytgedegmcbkligaa", sum := "53d5588e86515170f9be040e598c7af9c47b9ee395c174621f0df55b588e1224", func := "quiver/quiverlaw6.SchemaUnlike", spec := "schemaUnlike", apart := false }
def SchemaUnlikeSaid : Prop := schemaUnlikeRow.holds Try.pinned (OpenSpec.ofChange schemaUnlikeSpec)

/-- ITS FALSE NEIGHBOUR: 'it returns false'. Refute it at one input. -/
def schemaUnlikeWrong : ChangeSpec := { name := "schemaUnlike", fn := fun _ => fun
  | [d1, d2] => { results := [.lit (.bool false)], args := [d1, d2] }
  | _ => none }
def SchemaUnlikeWrongFalsely : Prop := schemaUnlikeRow.holds Try.pinned (OpenSpec.ofChange schemaUnlikeWrong)

/-- 'quiverlaw6.SchemaCut': WHATEVER THE INPUT: true; the input reads as it did. -/
def schemaCutSpec : ChangeSpec := { name := "schemaCut", fn := fun _ => fun
  | [d1, d2, d3] => { results := [.lit (.bool true)], args := [d1, d2, d3] }
  | _ => none }
def schemaCutRow : OpenClaim := { program := "ytgedegmcbkligaa", sum := "53d5588e86515170f9be040e598c7af9c47b9ee395c174621f0df55b588e1224", func := "quiver/quiverlaw6.SchemaCut", spec := "schemaCut", apart := false }
def SchemaCutSaid : Prop := schemaCutRow.holds Try.pinned (OpenSpec.ofChange schemaCutSpec)

/-- ITS FALSE NEIGHBOUR: 'it returns false'. Refute it at one input. -/
def schemaCutWrong : ChangeSpec := { name := "schemaCut", fn := fun _ => fun
  | [d1, d2, d3] => { results := [.lit (.bool false)], args := [d1, d2, d3] }
  | _ => none }
def SchemaCutWrongFalsely : Prop := schemaCutRow.holds Try.pinned (OpenSpec.ofChange schemaCutWrong)

/-- 'quiverlaw5.Types': WHATEVER THE INPUT: true; the input reads as it did. -/
def typesSpec : ChangeSpec := { name := "types", fn := fun _ => fun
  | [d1, d2] => { results := [.lit (.bool true)], args := [d1, d2] }
  | _ => none }
def typesRow : OpenClaim := { program := "ytgedegmcbkligaa", sum := "53d5588e86515170f9be040e598c7af9c47b9ee395c174621f0df55b588e1224", func := "quiver/quiverlaw5.Types", spec := "types", apart := false }
def TypesSaid : Prop := typesRow.holds Try.pinned (OpenSpec.ofChange typesSpec)

/-- ITS FALSE NEIGHBOUR: 'it returns false'. Refute it at one input. -/
def typesWrong : ChangeSpec := { name := "types", fn := fun _ => fun
  | [d1, d2] => { results := [.lit (.bool false)], args := [d1, d2] }
  | _ => none }
def TypesWrongFalsely : Prop := typesRow.holds Try.pinned (OpenSpec.ofChange typesWrong)

/-- 'quiverlaw5.TypesLevels': WHATEVER THE INPUT: true; the input reads as it did. -/
def typesLevelsSpec : ChangeSpec := { name := "typesLevels", fn := fun _ => fun
  | [d] => { results := [.lit (.bool true)], args := [d] }
  | _ => none }
def typesLevelsRow : OpenClaim := { program := "ytgedegmcbkligaa", sum := "53d5588e86515170f9be040e598c7af9c47b9ee395c174621f0df55b588e1224", func := "quiver/quiverlaw5.TypesLevels", spec := "typesLevels", apart := false }
def TypesLevelsSaid : Prop := typesLevelsRow.holds Try.pinned (OpenSpec.ofChange typesLevelsSpec)

/-- ITS FALSE NEIGHBOUR: 'it returns false'. Refute it at one input. -/
def typesLevelsWrong : ChangeSpec := { name := "typesLevels", fn := fun _ => fun
  | [d] => { results := [.lit (.bool false)], args := [d] }
  | _ => none }
def TypesLevelsWrongFalsely : Prop := typesLevelsRow.holds Try.pinned (OpenSpec.ofChange typesLevelsWrong)

/-- 'quiverlaw5.TypesForms': WHATEVER THE INPUT: true; the input reads as it did. -/
def typesFormsSpec : ChangeSpec := { name := "typesForms", fn := fun _ => fun
  | [d1, d2] => { results := [.lit (.bool true)], args := [d1, d2] }
  | _ => none }
def typesFormsRow : OpenClaim := { program := "ytgedegmcbkligaa", sum := "53d5588e86515170f9be040e598c7af9c47b9ee395c174621f0df55b588e1224", func := "quiver/quiverlaw5.TypesForms", spec := "typesForms", apart := false }
def TypesFormsSaid : Prop := typesFormsRow.holds Try.pinned (OpenSpec.ofChange typesFormsSpec)

/-- ITS FALSE NEIGHBOUR: 'it returns false'. Refute it at one input. -/
def typesFormsWrong : ChangeSpec := { name := "typesForms", fn := fun _ => fun
  | [d1, d2] => { results := [.lit (.bool false)], args := [d1, d2] }
  | _ => none }
def TypesFormsWrongFalsely : Prop := typesFormsRow.holds Try.pinned (OpenSpec.ofChange typesFormsWrong)

/-- 'quiverlaw5.TypesDeep': WHATEVER THE INPUT: true; the input reads as it did. -/
def typesDeepSpec : ChangeSpec := { name := "typesDeep", fn := fun _ => fun
  | [d1, d2] => { results := [.lit (.bool true)], args := [d1, d2] }
  | _ => none }
def typesDeepRow : OpenClaim := { program := "ytgedegmcbkligaa", sum := "53d5588e86515170f9be040e598c7af9c47b9ee395c174621f0df55b588e1224", func := "quiver/quiverlaw5.TypesDeep", spec := "typesDeep", apart := false }
def TypesDeepSaid : Prop := typesDeepRow.holds Try.pinned (OpenSpec.ofChange typesDeepSpec)

/-- ITS FALSE NEIGHBOUR: 'it returns false'. Refute it at one input. -/
def typesDeepWrong : ChangeSpec := { name := "typesDeep", fn := fun _ => fun
  | [d1, d2] => { results := [.lit (.bool false)], args := [d1, d2] }
  | _ => none }
def TypesDeepWrongFalsely : Prop := typesDeepRow.holds Try.pinned (OpenSpec.ofChange typesDeepWrong)

/-- 'quiverlaw5.TypesKids': WHATEVER THE INPUT: true; the input reads as it did. -/
def typesKidsSpec : ChangeSpec := { name := "typesKids", fn := fun _ => fun
  | [d] => { results := [.lit (.bool true)], args := [d] }
  | _ => none }
def typesKidsRow : OpenClaim := { program := "ytgedegmcbkligaa", sum := "53d5588e86515170f9be040e598c7af9c47b9ee395c174621f0df55b588e1224", func := "quiver/quiverlaw5.TypesKids", spec := "typesKids", apart := false }
def TypesKidsSaid : Prop := typesKidsRow.holds Try.pinned (OpenSpec.ofChange typesKidsSpec)

/-- ITS FALSE NEIGHBOUR: 'it returns false'. Refute it at one input. -/
def typesKidsWrong : ChangeSpec := { name := "typesKids", fn := fun _ => fun
  | [d] => { results := [.lit (.bool false)], args := [d] }
  | _ => none }
def TypesKidsWrongFalsely : Prop := typesKidsRow.holds Try.pinned (OpenSpec.ofChange typesKidsWrong)

/-- 'quiverlaw5.TypesSchema': WHATEVER THE INPUT: true; the input reads as it did. -/
def typesSchemaSpec : ChangeSpec := { name := "typesSchema", fn := fun _ => fun
  | [d] => { results := [.lit (.bool true)], args := [d] }
  | _ => none }
def typesSchemaRow : OpenClaim := { program := "ytgedegmcbkligaa", sum := "53d5588e86515170f9be040e598c7af9c47b9ee395c174621f0df55b588e1224", func := "quiver/quiverlaw5.TypesSchema", spec := "typesSchema", apart := false }
def TypesSchemaSaid : Prop := typesSchemaRow.holds Try.pinned (OpenSpec.ofChange typesSchemaSpec)

/-- ITS FALSE NEIGHBOUR: 'it returns false'. Refute it at one input. -/
def typesSchemaWrong : ChangeSpec := { name := "typesSchema", fn := fun _ => fun
  | [d] => { results := [.lit (.bool false)], args := [d] }
  | _ => none }
def TypesSchemaWrongFalsely : Prop := typesSchemaRow.holds Try.pinned (OpenSpec.ofChange typesSchemaWrong)

/- THE SECOND FORM. 'bulk': how many values and letters a reading holds, each counted each time it is reached (what is shared counts as often as it is met; a slice's spare places count too). A statement '..UptoSaid' is the law's where the arguments, and the package variables that the reading takes, are together of bulk at most 1048576: NARROWER than '..Said'. Prove '..Said' where nothing that the law and all that it calls make is longer than what came in: it says more and counts as full. Else prove '..UptoSaid'. A law counts once. -/
mutual
def uptoBulk {H : Type} : DataW H → Nat
  | .lit (.string bytes) => bytes.length + 1
  | .lit _ => 1
  | .nil => 1
  | .ptr d => uptoBulk d + 1
  | .slice elems spare => uptoBulkAll elems + uptoBulkAll spare + 1
  | .agg parts => uptoBulkAll parts + 1
  | .iface _ d => uptoBulk d + 1
  | .map entries => uptoBulkEntries entries + 1
  | .held _ => 1
def uptoBulkAll {H : Type} : List (DataW H) → Nat
  | [] => 0
  | d :: r => uptoBulk d + uptoBulkAll r
def uptoBulkEntries {H : Type} : List (Lit × DataW H) → Nat
  | [] => 0
  | x :: r => uptoBulkEntry x + uptoBulkEntries r
def uptoBulkEntry {H : Type} : Lit × DataW H → Nat
  | (.string bytes, d) => bytes.length + uptoBulk d + 1
  | (_, d) => uptoBulk d + 1
 end
def uptoSmall : (H : Type) → List (DataW H) → Bool := fun _ ds => decide (uptoBulkAll ds ≤ 1048576)
def OpenSpec.upto (s : _root_.Go.ChangeSpec) : _root_.Go.OpenSpec := { _root_.Go.OpenSpec.ofChange s with cond := some uptoSmall }

/-- 'quiverlaw3.Nums', WHERE WHAT IT READS IS OF BULK AT MOST 1048576: true; the input reads as it did. -/
def numsUptoRow : OpenClaim := { program := "ytgedegmcbkligaa", sum := "53d5588e86515170f9be040e598c7af9c47b9ee395c174621f0df55b588e1224", func := "quiver/quiverlaw3.Nums", spec := "nums", apart := false, narrowed := true }
def NumsUptoSaid : Prop := numsUptoRow.holds Try.pinned (OpenSpec.upto numsSpec)

/-- 'quiverlaw3.NumBack', WHERE WHAT IT READS IS OF BULK AT MOST 1048576: true; the input reads as it did. -/
def numBackUptoRow : OpenClaim := { program := "ytgedegmcbkligaa", sum := "53d5588e86515170f9be040e598c7af9c47b9ee395c174621f0df55b588e1224", func := "quiver/quiverlaw3.NumBack", spec := "numBack", apart := false, narrowed := true }
def NumBackUptoSaid : Prop := numBackUptoRow.holds Try.pinned (OpenSpec.upto numBackSpec)

/-- 'quiverlaw3.NumForms', WHERE WHAT IT READS IS OF BULK AT MOST 1048576: true; the input reads as it did. -/
def numFormsUptoRow : OpenClaim := { program := "ytgedegmcbkligaa", sum := "53d5588e86515170f9be040e598c7af9c47b9ee395c174621f0df55b588e1224", func := "quiver/quiverlaw3.NumForms", spec := "numForms", apart := false, narrowed := true }
def NumFormsUptoSaid : Prop := numFormsUptoRow.holds Try.pinned (OpenSpec.upto numFormsSpec)

/-- 'quiverlaw3.NumRow', WHERE WHAT IT READS IS OF BULK AT MOST 1048576: true; the input reads as it did. -/
def numRowUptoRow : OpenClaim := { program := "ytgedegmcbkligaa", sum := "53d5588e86515170f9be040e598c7af9c47b9ee395c174621f0df55b588e1224", func := "quiver/quiverlaw3.NumRow", spec := "numRow", apart := false, narrowed := true }
def NumRowUptoSaid : Prop := numRowUptoRow.holds Try.pinned (OpenSpec.upto numRowSpec)

/-- 'quiverlaw3.NumUnlike', WHERE WHAT IT READS IS OF BULK AT MOST 1048576: true; the input reads as it did. -/
def numUnlikeUptoRow : OpenClaim := { program := "ytgedegmcbkligaa", sum := "53d5588e86515170f9be040e598c7af9c47b9ee395c174621f0df55b588e1224", func := "quiver/quiverlaw3.NumUnlike", spec := "numUnlike", apart := false, narrowed := true }
def NumUnlikeUptoSaid : Prop := numUnlikeUptoRow.holds Try.pinned (OpenSpec.upto numUnlikeSpec)

/-- 'quiverlaw6.Schemas', WHERE WHAT IT READS IS OF BULK AT MOST 1048576: true; the input reads as it did. -/
def schemasUptoRow : OpenClaim := { program := "ytgedegmcbkligaa", sum := "53d5588e86515170f9be040e598c7af9c47b9ee395c174621f0df55b588e1224", func := "quiver/quiverlaw6.Schemas", spec := "schemas", apart := false, narrowed := true }
def SchemasUptoSaid : Prop := schemasUptoRow.holds Try.pinned (OpenSpec.upto schemasSpec)

/-- 'quiverlaw6.SchemaBack', WHERE WHAT IT READS IS OF BULK AT MOST 1048576: true; the input reads as it did. -/
def schemaBackUptoRow : OpenClaim := { program := "ytgedegmcbkligaa", sum := "53d5588e86515170f9be040e598c7af9c47b9ee395c174621f0df55b588e1224", func := "quiver/quiverlaw6.SchemaBack", spec := "schemaBack", apart := false, narrowed := true }
def SchemaBackUptoSaid : Prop := schemaBackUptoRow.holds Try.pinned (OpenSpec.upto schemaBackSpec)

/-- 'quiverlaw6.SchemaForms', WHERE WHAT IT READS IS OF BULK AT MOST 1048576: true; the input reads as it did. -/
def schemaFormsUptoRow : OpenClaim := { program := "ytgedegmcbkligaa", sum := "53d5588e86515170f9be040e598c7af9c47b9ee395c174621f0df55b588e1224", func := "quiver/quiverlaw6.SchemaForms", spec := "schemaForms", apart := false, narrowed := true }
def SchemaFormsUptoSaid : Prop := schemaFormsUptoRow.holds Try.pinned (OpenSpec.upto schemaFormsSpec)

/-- 'quiverlaw6.SchemaUnlike', WHERE WHAT IT READS IS OF BULK AT MOST 1048576: true; the input reads as it did. -/
def schemaUnlikeUptoRow : OpenClaim := { program := "ytgedegmcbkligaa", sum := "53d5588e86515170f9be040e598c7af9c47b9ee395c174621f0df55b588e1224", func := "quiver/quiverlaw6.SchemaUnlike", spec := "schemaUnlike", apart := false, narrowed := true }
def SchemaUnlikeUptoSaid : Prop := schemaUnlikeUptoRow.holds Try.pinned (OpenSpec.upto schemaUnlikeSpec)

/-- 'quiverlaw6.SchemaCut', WHERE WHAT IT READS IS OF BULK AT MOST 1048576: true; the input reads as it did. -/
def schemaCutUptoRow : OpenClaim := { program := "ytgedegmcbkligaa", sum := "53d5588e86515170f9be040e598c7af9c47b9ee395c174621f0df55b588e1224", func := "quiver/quiverlaw6.SchemaCut", spec := "schemaCut", apart := false, narrowed := true }
def SchemaCutUptoSaid : Prop := schemaCutUptoRow.holds Try.pinned (OpenSpec.upto schemaCutSpec)

/-- 'quiverlaw5.Types', WHERE WHAT IT READS IS OF BULK AT MOST 1048576: true; the input reads as it did. -/
def typesUptoRow : OpenClaim := { program := "ytgedegmcbkligaa", sum := "53d5588e86515170f9be040e598c7af9c47b9ee395c174621f0df55b588e1224", func := "quiver/quiverlaw5.Types", spec := "types", apart := false, narrowed := true }
def TypesUptoSaid : Prop := typesUptoRow.holds Try.pinned (OpenSpec.upto typesSpec)

/-- 'quiverlaw5.TypesLevels', WHERE WHAT IT READS IS OF BULK AT MOST 1048576: true; the input reads as it did. -/
def typesLevelsUptoRow : OpenClaim := { program := "ytgedegmcbkligaa", sum := "53d5588e86515170f9be040e598c7af9c47b9ee395c174621f0df55b588e1224", func := "quiver/quiverlaw5.TypesLevels", spec := "typesLevels", apart := false, narrowed := true }
def TypesLevelsUptoSaid : Prop := typesLevelsUptoRow.holds Try.pinned (OpenSpec.upto typesLevelsSpec)

/-- 'quiverlaw5.TypesForms', WHERE WHAT IT READS IS OF BULK AT MOST 1048576: true; the input reads as it did. -/
def typesFormsUptoRow : OpenClaim := { program := "ytgedegmcbkligaa", sum := "53d5588e86515170f9be040e598c7af9c47b9ee395c174621f0df55b588e1224", func := "quiver/quiverlaw5.TypesForms", spec := "typesForms", apart := false, narrowed := true }
def TypesFormsUptoSaid : Prop := typesFormsUptoRow.holds Try.pinned (OpenSpec.upto typesFormsSpec)

/-- 'quiverlaw5.TypesDeep', WHERE WHAT IT READS IS OF BULK AT MOST 1048576: true; the input reads as it did. -/
def typesDeepUptoRow : OpenClaim := { program := "ytgedegmcbkligaa", sum := "53d5588e86515170f9be040e598c7af9c47b9ee395c174621f0df55b588e1224", func := "quiver/quiverlaw5.TypesDeep", spec := "typesDeep", apart := false, narrowed := true }
def TypesDeepUptoSaid : Prop := typesDeepUptoRow.holds Try.pinned (OpenSpec.upto typesDeepSpec)

/-- 'quiverlaw5.TypesKids', WHERE WHAT IT READS IS OF BULK AT MOST 1048576: true; the input reads as it did. -/
def typesKidsUptoRow : OpenClaim := { program := "ytgedegmcbkligaa", sum := "53d5588e86515170f9be040e598c7af9c47b9ee395c174621f0df55b588e1224", func := "quiver/quiverlaw5.TypesKids", spec := "typesKids", apart := false, narrowed := true }
def TypesKidsUptoSaid : Prop := typesKidsUptoRow.holds Try.pinned (OpenSpec.upto typesKidsSpec)

/-- 'quiverlaw5.TypesSchema', WHERE WHAT IT READS IS OF BULK AT MOST 1048576: true; the input reads as it did. -/
def typesSchemaUptoRow : OpenClaim := { program := "ytgedegmcbkligaa", sum := "53d5588e86515170f9be040e598c7af9c47b9ee395c174621f0df55b588e1224", func := "quiver/quiverlaw5.TypesSchema", spec := "typesSchema", apart := false, narrowed := true }
def TypesSchemaUptoSaid : Prop := typesSchemaUptoRow.holds Try.pinned (OpenSpec.upto typesSchemaSpec)

end Rows
end Go.Proofs.Ytgedegmcbkligaa
