/-
  DERIVED. GIVEN WITH THE SEED: THE CARDS: each row of YtjkokaockhecnaaGreatDoorRows.lean that lists a variable, with what it lists TIED to the program's text (the seventh form; the later family's looks); each row that meets fmt, with fmt's text TOLD by the authors' own Lean function (tested against real Go, not proved from fmt's source: count such statements apart). THE CARD IS WHAT COUNTS. Prove the row's statement (the work); the ties are given (YtjkokaockhecnaaGreatDoorTie.lean); close each card by the builder's one call (the guide's Derived/Test/ToyasCard.lean, 'card_holds'). Laid BY PROGRAM, IN A SANDBOX (cutbox-door.mjs). By AI agents, Wed Nov 11 2026. No macro, syntax, notation, axiom, sorry.
-/
import Derived.Test.YtjkokaockhecnaaGreatDoorRows
import GoSem.ClaimSeven
namespace Go.Proofs.YtjkokaockhecnaaGreatDoor
namespace Rows

/-- THE TIED CARD OF 'quiverlaw15.EqualOne'. -/
def equalOneCard : Claim7 := { stood := { row := equalOneRow, standIns := [], harness := (true, "52845fe508dcabec48b8c09b0971282379919c52e0c7981bd53bbdeed90f8ec4"), looks := true }, kinds := [], alts := [], laidByText := true, laidKinds := [.data, .data, .data], laidTests := true, laidLooks := .later }
def EqualOneCardSaid : Prop := Claim7.holds Tryz.pinned (.plain (OpenSpec.ofChange equalOneSpec)) equalOneCard

/-- THE TIED CARD OF 'quiverlaw22.Pages'. -/
def pagesCard : Claim7 := { stood := { row := pagesRow, standIns := [], harness := (true, "52845fe508dcabec48b8c09b0971282379919c52e0c7981bd53bbdeed90f8ec4"), looks := true }, kinds := [], alts := [], laidByText := true, laidKinds := [.data, .data, .data, .sentinel, .sentinel], laidTests := true, laidLooks := .later }
def PagesCardSaid : Prop := Claim7.holds Tryz.pinned (.plain (OpenSpec.ofChange pagesSpec)) pagesCard

/-- THE TIED CARD OF 'quiverlaw22.PageBack'. -/
def pageBackCard : Claim7 := { stood := { row := pageBackRow, standIns := [], harness := (true, "52845fe508dcabec48b8c09b0971282379919c52e0c7981bd53bbdeed90f8ec4"), looks := true }, kinds := [], alts := [], laidByText := true, laidKinds := [.data, .data, .data, .sentinel, .sentinel], laidTests := true, laidLooks := .later }
def PageBackCardSaid : Prop := Claim7.holds Tryz.pinned (.plain (OpenSpec.ofChange pageBackSpec)) pageBackCard

/-- THE TIED CARD OF 'quiverlaw22.PageForms'. -/
def pageFormsCard : Claim7 := { stood := { row := pageFormsRow, standIns := [], harness := (true, "52845fe508dcabec48b8c09b0971282379919c52e0c7981bd53bbdeed90f8ec4"), looks := true }, kinds := [], alts := [], laidByText := true, laidKinds := [.data, .data, .data, .sentinel, .sentinel], laidTests := true, laidLooks := .later }
def PageFormsCardSaid : Prop := Claim7.holds Tryz.pinned (.plain (OpenSpec.ofChange pageFormsSpec)) pageFormsCard

/-- THE TIED CARD OF 'quiverlaw22.PageTexts'. -/
def pageTextsCard : Claim7 := { stood := { row := pageTextsRow, standIns := [], harness := (true, "52845fe508dcabec48b8c09b0971282379919c52e0c7981bd53bbdeed90f8ec4"), looks := true }, kinds := [], alts := [], laidByText := true, laidKinds := [.data, .data, .data, .sentinel, .sentinel], laidTests := true, laidLooks := .later }
def PageTextsCardSaid : Prop := Claim7.holds Tryz.pinned (.plain (OpenSpec.ofChange pageTextsSpec)) pageTextsCard

/-- THE TIED CARD OF 'quiverlaw22.PageAgain'. -/
def pageAgainCard : Claim7 := { stood := { row := pageAgainRow, standIns := [], harness := (true, "52845fe508dcabec48b8c09b0971282379919c52e0c7981bd53bbdeed90f8ec4"), looks := true }, kinds := [], alts := [], laidByText := true, laidKinds := [.data, .data, .data, .sentinel, .sentinel], laidTests := true, laidLooks := .later }
def PageAgainCardSaid : Prop := Claim7.holds Tryz.pinned (.plain (OpenSpec.ofChange pageAgainSpec)) pageAgainCard

/-- THE TIED CARD OF 'quiverlaw22.PageUnlike'. -/
def pageUnlikeCard : Claim7 := { stood := { row := pageUnlikeRow, standIns := [], harness := (true, "52845fe508dcabec48b8c09b0971282379919c52e0c7981bd53bbdeed90f8ec4"), looks := true }, kinds := [], alts := [], laidByText := true, laidKinds := [.data, .data, .data, .sentinel, .sentinel], laidTests := true, laidLooks := .later }
def PageUnlikeCardSaid : Prop := Claim7.holds Tryz.pinned (.plain (OpenSpec.ofChange pageUnlikeSpec)) pageUnlikeCard

/-- THE TIED CARD OF 'quiverlaw23.Chunks'. -/
def chunksCard : Claim7 := { stood := { row := chunksRow, standIns := [], harness := (true, "52845fe508dcabec48b8c09b0971282379919c52e0c7981bd53bbdeed90f8ec4"), looks := true }, kinds := [], alts := [], laidByText := true, laidKinds := [.data, .data, .data, .sentinel, .sentinel], laidTests := true, laidLooks := .later }
def ChunksCardSaid : Prop := Claim7.holds Tryz.pinned (.plain (OpenSpec.ofChange chunksSpec)) chunksCard

/-- THE TIED CARD OF 'quiverlaw23.ChunkBack'. -/
def chunkBackCard : Claim7 := { stood := { row := chunkBackRow, standIns := [], harness := (true, "52845fe508dcabec48b8c09b0971282379919c52e0c7981bd53bbdeed90f8ec4"), looks := true }, kinds := [], alts := [], laidByText := true, laidKinds := [.data, .data, .data, .sentinel, .sentinel], laidTests := true, laidLooks := .later }
def ChunkBackCardSaid : Prop := Claim7.holds Tryz.pinned (.plain (OpenSpec.ofChange chunkBackSpec)) chunkBackCard

/-- THE TIED CARD OF 'quiverlaw23.ChunkForms'. -/
def chunkFormsCard : Claim7 := { stood := { row := chunkFormsRow, standIns := [], harness := (true, "52845fe508dcabec48b8c09b0971282379919c52e0c7981bd53bbdeed90f8ec4"), looks := true }, kinds := [], alts := [], laidByText := true, laidKinds := [.data, .data, .data, .sentinel, .sentinel], laidTests := true, laidLooks := .later }
def ChunkFormsCardSaid : Prop := Claim7.holds Tryz.pinned (.plain (OpenSpec.ofChange chunkFormsSpec)) chunkFormsCard

/-- THE TIED CARD OF 'quiverlaw23.ChunkAny'. -/
def chunkAnyCard : Claim7 := { stood := { row := chunkAnyRow, standIns := [], harness := (true, "52845fe508dcabec48b8c09b0971282379919c52e0c7981bd53bbdeed90f8ec4"), looks := true }, kinds := [], alts := [], laidByText := true, laidKinds := [.data, .data, .data, .sentinel, .sentinel], laidTests := true, laidLooks := .later }
def ChunkAnyCardSaid : Prop := Claim7.holds Tryz.pinned (.plain (OpenSpec.ofChange chunkAnySpec)) chunkAnyCard

/-- THE TIED CARD OF 'quiverlaw23.ChunkOrder'. -/
def chunkOrderCard : Claim7 := { stood := { row := chunkOrderRow, standIns := [], harness := (true, "52845fe508dcabec48b8c09b0971282379919c52e0c7981bd53bbdeed90f8ec4"), looks := true }, kinds := [], alts := [], laidByText := true, laidKinds := [.data, .data, .data, .sentinel, .sentinel], laidTests := true, laidLooks := .later }
def ChunkOrderCardSaid : Prop := Claim7.holds Tryz.pinned (.plain (OpenSpec.ofChange chunkOrderSpec)) chunkOrderCard

/-- THE SECOND FORM's CARD OF 'quiverlaw15.EqualOne'. -/
def equalOneUptoCard : Claim7 := { stood := { row := equalOneUptoRow, standIns := [], harness := (true, "52845fe508dcabec48b8c09b0971282379919c52e0c7981bd53bbdeed90f8ec4"), looks := true }, kinds := [], alts := [], laidByText := true, laidKinds := [.data, .data, .data], laidTests := true, laidLooks := .later }
def EqualOneUptoCardSaid : Prop := Claim7.holds Tryz.pinned (.plain (OpenSpec.upto equalOneSpec)) equalOneUptoCard

/-- THE SECOND FORM's CARD OF 'quiverlaw22.Pages'. -/
def pagesUptoCard : Claim7 := { stood := { row := pagesUptoRow, standIns := [], harness := (true, "52845fe508dcabec48b8c09b0971282379919c52e0c7981bd53bbdeed90f8ec4"), looks := true }, kinds := [], alts := [], laidByText := true, laidKinds := [.data, .data, .data, .sentinel, .sentinel], laidTests := true, laidLooks := .later }
def PagesUptoCardSaid : Prop := Claim7.holds Tryz.pinned (.plain (OpenSpec.upto pagesSpec)) pagesUptoCard

/-- THE SECOND FORM's CARD OF 'quiverlaw22.PageBack'. -/
def pageBackUptoCard : Claim7 := { stood := { row := pageBackUptoRow, standIns := [], harness := (true, "52845fe508dcabec48b8c09b0971282379919c52e0c7981bd53bbdeed90f8ec4"), looks := true }, kinds := [], alts := [], laidByText := true, laidKinds := [.data, .data, .data, .sentinel, .sentinel], laidTests := true, laidLooks := .later }
def PageBackUptoCardSaid : Prop := Claim7.holds Tryz.pinned (.plain (OpenSpec.upto pageBackSpec)) pageBackUptoCard

/-- THE SECOND FORM's CARD OF 'quiverlaw22.PageForms'. -/
def pageFormsUptoCard : Claim7 := { stood := { row := pageFormsUptoRow, standIns := [], harness := (true, "52845fe508dcabec48b8c09b0971282379919c52e0c7981bd53bbdeed90f8ec4"), looks := true }, kinds := [], alts := [], laidByText := true, laidKinds := [.data, .data, .data, .sentinel, .sentinel], laidTests := true, laidLooks := .later }
def PageFormsUptoCardSaid : Prop := Claim7.holds Tryz.pinned (.plain (OpenSpec.upto pageFormsSpec)) pageFormsUptoCard

/-- THE SECOND FORM's CARD OF 'quiverlaw22.PageTexts'. -/
def pageTextsUptoCard : Claim7 := { stood := { row := pageTextsUptoRow, standIns := [], harness := (true, "52845fe508dcabec48b8c09b0971282379919c52e0c7981bd53bbdeed90f8ec4"), looks := true }, kinds := [], alts := [], laidByText := true, laidKinds := [.data, .data, .data, .sentinel, .sentinel], laidTests := true, laidLooks := .later }
def PageTextsUptoCardSaid : Prop := Claim7.holds Tryz.pinned (.plain (OpenSpec.upto pageTextsSpec)) pageTextsUptoCard

/-- THE SECOND FORM's CARD OF 'quiverlaw22.PageAgain'. -/
def pageAgainUptoCard : Claim7 := { stood := { row := pageAgainUptoRow, standIns := [], harness := (true, "52845fe508dcabec48b8c09b0971282379919c52e0c7981bd53bbdeed90f8ec4"), looks := true }, kinds := [], alts := [], laidByText := true, laidKinds := [.data, .data, .data, .sentinel, .sentinel], laidTests := true, laidLooks := .later }
def PageAgainUptoCardSaid : Prop := Claim7.holds Tryz.pinned (.plain (OpenSpec.upto pageAgainSpec)) pageAgainUptoCard

/-- THE SECOND FORM's CARD OF 'quiverlaw22.PageUnlike'. -/
def pageUnlikeUptoCard : Claim7 := { stood := { row := pageUnlikeUptoRow, standIns := [], harness := (true, "52845fe508dcabec48b8c09b0971282379919c52e0c7981bd53bbdeed90f8ec4"), looks := true }, kinds := [], alts := [], laidByText := true, laidKinds := [.data, .data, .data, .sentinel, .sentinel], laidTests := true, laidLooks := .later }
def PageUnlikeUptoCardSaid : Prop := Claim7.holds Tryz.pinned (.plain (OpenSpec.upto pageUnlikeSpec)) pageUnlikeUptoCard

/-- THE SECOND FORM's CARD OF 'quiverlaw23.Chunks'. -/
def chunksUptoCard : Claim7 := { stood := { row := chunksUptoRow, standIns := [], harness := (true, "52845fe508dcabec48b8c09b0971282379919c52e0c7981bd53bbdeed90f8ec4"), looks := true }, kinds := [], alts := [], laidByText := true, laidKinds := [.data, .data, .data, .sentinel, .sentinel], laidTests := true, laidLooks := .later }
def ChunksUptoCardSaid : Prop := Claim7.holds Tryz.pinned (.plain (OpenSpec.upto chunksSpec)) chunksUptoCard

/-- THE SECOND FORM's CARD OF 'quiverlaw23.ChunkBack'. -/
def chunkBackUptoCard : Claim7 := { stood := { row := chunkBackUptoRow, standIns := [], harness := (true, "52845fe508dcabec48b8c09b0971282379919c52e0c7981bd53bbdeed90f8ec4"), looks := true }, kinds := [], alts := [], laidByText := true, laidKinds := [.data, .data, .data, .sentinel, .sentinel], laidTests := true, laidLooks := .later }
def ChunkBackUptoCardSaid : Prop := Claim7.holds Tryz.pinned (.plain (OpenSpec.upto chunkBackSpec)) chunkBackUptoCard

/-- THE SECOND FORM's CARD OF 'quiverlaw23.ChunkForms'. -/
def chunkFormsUptoCard : Claim7 := { stood := { row := chunkFormsUptoRow, standIns := [], harness := (true, "52845fe508dcabec48b8c09b0971282379919c52e0c7981bd53bbdeed90f8ec4"), looks := true }, kinds := [], alts := [], laidByText := true, laidKinds := [.data, .data, .data, .sentinel, .sentinel], laidTests := true, laidLooks := .later }
def ChunkFormsUptoCardSaid : Prop := Claim7.holds Tryz.pinned (.plain (OpenSpec.upto chunkFormsSpec)) chunkFormsUptoCard

/-- THE SECOND FORM's CARD OF 'quiverlaw23.ChunkAny'. -/
def chunkAnyUptoCard : Claim7 := { stood := { row := chunkAnyUptoRow, standIns := [], harness := (true, "52845fe508dcabec48b8c09b0971282379919c52e0c7981bd53bbdeed90f8ec4"), looks := true }, kinds := [], alts := [], laidByText := true, laidKinds := [.data, .data, .data, .sentinel, .sentinel], laidTests := true, laidLooks := .later }
def ChunkAnyUptoCardSaid : Prop := Claim7.holds Tryz.pinned (.plain (OpenSpec.upto chunkAnySpec)) chunkAnyUptoCard

/-- THE SECOND FORM's CARD OF 'quiverlaw23.ChunkOrder'. -/
def chunkOrderUptoCard : Claim7 := { stood := { row := chunkOrderUptoRow, standIns := [], harness := (true, "52845fe508dcabec48b8c09b0971282379919c52e0c7981bd53bbdeed90f8ec4"), looks := true }, kinds := [], alts := [], laidByText := true, laidKinds := [.data, .data, .data, .sentinel, .sentinel], laidTests := true, laidLooks := .later }
def ChunkOrderUptoCardSaid : Prop := Claim7.holds Tryz.pinned (.plain (OpenSpec.upto chunkOrderSpec)) chunkOrderUptoCard
end Rows
end Go.Proofs.YtjkokaockhecnaaGreatDoor
