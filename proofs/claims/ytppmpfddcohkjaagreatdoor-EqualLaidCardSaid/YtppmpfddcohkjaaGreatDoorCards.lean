/-
  DERIVED. GIVEN WITH THE SEED: THE CARDS: each row of YtppmpfddcohkjaaGreatDoorRows.lean that lists a variable, with what it lists TIED to the program's text (the seventh form; the later family's looks); each row that meets fmt, with fmt's text TOLD by the authors' own Lean function (tested against real Go, not proved from fmt's source: count such statements apart). THE CARD IS WHAT COUNTS. Prove the row's statement (the work); the ties are given (YtppmpfddcohkjaaGreatDoorTie.lean); close each card by the builder's one call (the guide's Derived/Test/ToyasCard.lean, 'card_holds'). Laid BY PROGRAM, IN A SANDBOX (cutbox-door.mjs). By AI agents, Wed Nov 11 2026. No macro, syntax, notation, axiom, sorry.
-/
import Derived.Test.YtppmpfddcohkjaaGreatDoorRows
import GoSem.ClaimSeven
namespace Go.Proofs.YtppmpfddcohkjaaGreatDoor
namespace Rows

/-- THE TIED CARD OF 'quiverlaw9.ReadLaid'. -/
def readLaidCard : Claim7 := { stood := { row := readLaidRow, standIns := [], harness := (true, "29528be8094e7e913c24e3f0085b4d8a419b3f4f16073003bae71a02870e6d20"), looks := false }, kinds := [], alts := [], laidByText := true, laidKinds := [.data, .data, .data], laidTests := true, laidLooks := .later }
def ReadLaidCardSaid : Prop := Claim7.holds Tryz.pinned (.plain (OpenSpec.ofChange readLaidSpec)) readLaidCard

/-- THE TIED CARD OF 'quiverlaw15.Equals'. -/
def equalsCard : Claim7 := { stood := { row := equalsRow, standIns := [], harness := (true, "29528be8094e7e913c24e3f0085b4d8a419b3f4f16073003bae71a02870e6d20"), looks := false }, kinds := [], alts := [], laidByText := true, laidKinds := [.data, .data, .data], laidTests := true, laidLooks := .later }
def EqualsCardSaid : Prop := Claim7.holds Tryz.pinned (.plain (OpenSpec.ofChange equalsSpec)) equalsCard

/-- THE TIED CARD OF 'quiverlaw15.EqualLaid'. -/
def equalLaidCard : Claim7 := { stood := { row := equalLaidRow, standIns := [], harness := (true, "29528be8094e7e913c24e3f0085b4d8a419b3f4f16073003bae71a02870e6d20"), looks := false }, kinds := [], alts := [], laidByText := true, laidKinds := [.data, .data, .data], laidTests := true, laidLooks := .later }
def EqualLaidCardSaid : Prop := Claim7.holds Tryz.pinned (.plain (OpenSpec.ofChange equalLaidSpec)) equalLaidCard

/-- THE TIED CARD OF 'quiverlaw15.EqualRow'. -/
def equalRowCard : Claim7 := { stood := { row := equalRowRow, standIns := [], harness := (true, "29528be8094e7e913c24e3f0085b4d8a419b3f4f16073003bae71a02870e6d20"), looks := false }, kinds := [], alts := [], laidByText := true, laidKinds := [.data, .data, .data], laidTests := true, laidLooks := .later }
def EqualRowCardSaid : Prop := Claim7.holds Tryz.pinned (.plain (OpenSpec.ofChange equalRowSpec)) equalRowCard

/-- THE TIED CARD OF 'quiverlaw15.EqualOne'. -/
def equalOneCard : Claim7 := { stood := { row := equalOneRow, standIns := [], harness := (true, "29528be8094e7e913c24e3f0085b4d8a419b3f4f16073003bae71a02870e6d20"), looks := false }, kinds := [], alts := [], laidByText := true, laidKinds := [.data, .data, .data], laidTests := true, laidLooks := .later }
def EqualOneCardSaid : Prop := Claim7.holds Tryz.pinned (.plain (OpenSpec.ofChange equalOneSpec)) equalOneCard

/-- THE TIED CARD OF 'quiverlaw15.EqualParts'. -/
def equalPartsCard : Claim7 := { stood := { row := equalPartsRow, standIns := [], harness := (true, "29528be8094e7e913c24e3f0085b4d8a419b3f4f16073003bae71a02870e6d20"), looks := false }, kinds := [], alts := [], laidByText := true, laidKinds := [.data, .data, .data], laidTests := true, laidLooks := .later }
def EqualPartsCardSaid : Prop := Claim7.holds Tryz.pinned (.plain (OpenSpec.ofChange equalPartsSpec)) equalPartsCard

/-- THE SECOND FORM's CARD OF 'quiverlaw9.ReadLaid'. -/
def readLaidUptoCard : Claim7 := { stood := { row := readLaidUptoRow, standIns := [], harness := (true, "29528be8094e7e913c24e3f0085b4d8a419b3f4f16073003bae71a02870e6d20"), looks := false }, kinds := [], alts := [], laidByText := true, laidKinds := [.data, .data, .data], laidTests := true, laidLooks := .later }
def ReadLaidUptoCardSaid : Prop := Claim7.holds Tryz.pinned (.plain (OpenSpec.upto readLaidSpec)) readLaidUptoCard

/-- THE SECOND FORM's CARD OF 'quiverlaw15.Equals'. -/
def equalsUptoCard : Claim7 := { stood := { row := equalsUptoRow, standIns := [], harness := (true, "29528be8094e7e913c24e3f0085b4d8a419b3f4f16073003bae71a02870e6d20"), looks := false }, kinds := [], alts := [], laidByText := true, laidKinds := [.data, .data, .data], laidTests := true, laidLooks := .later }
def EqualsUptoCardSaid : Prop := Claim7.holds Tryz.pinned (.plain (OpenSpec.upto equalsSpec)) equalsUptoCard

/-- THE SECOND FORM's CARD OF 'quiverlaw15.EqualLaid'. -/
def equalLaidUptoCard : Claim7 := { stood := { row := equalLaidUptoRow, standIns := [], harness := (true, "29528be8094e7e913c24e3f0085b4d8a419b3f4f16073003bae71a02870e6d20"), looks := false }, kinds := [], alts := [], laidByText := true, laidKinds := [.data, .data, .data], laidTests := true, laidLooks := .later }
def EqualLaidUptoCardSaid : Prop := Claim7.holds Tryz.pinned (.plain (OpenSpec.upto equalLaidSpec)) equalLaidUptoCard

/-- THE SECOND FORM's CARD OF 'quiverlaw15.EqualRow'. -/
def equalRowUptoCard : Claim7 := { stood := { row := equalRowUptoRow, standIns := [], harness := (true, "29528be8094e7e913c24e3f0085b4d8a419b3f4f16073003bae71a02870e6d20"), looks := false }, kinds := [], alts := [], laidByText := true, laidKinds := [.data, .data, .data], laidTests := true, laidLooks := .later }
def EqualRowUptoCardSaid : Prop := Claim7.holds Tryz.pinned (.plain (OpenSpec.upto equalRowSpec)) equalRowUptoCard

/-- THE SECOND FORM's CARD OF 'quiverlaw15.EqualOne'. -/
def equalOneUptoCard : Claim7 := { stood := { row := equalOneUptoRow, standIns := [], harness := (true, "29528be8094e7e913c24e3f0085b4d8a419b3f4f16073003bae71a02870e6d20"), looks := false }, kinds := [], alts := [], laidByText := true, laidKinds := [.data, .data, .data], laidTests := true, laidLooks := .later }
def EqualOneUptoCardSaid : Prop := Claim7.holds Tryz.pinned (.plain (OpenSpec.upto equalOneSpec)) equalOneUptoCard

/-- THE SECOND FORM's CARD OF 'quiverlaw15.EqualParts'. -/
def equalPartsUptoCard : Claim7 := { stood := { row := equalPartsUptoRow, standIns := [], harness := (true, "29528be8094e7e913c24e3f0085b4d8a419b3f4f16073003bae71a02870e6d20"), looks := false }, kinds := [], alts := [], laidByText := true, laidKinds := [.data, .data, .data], laidTests := true, laidLooks := .later }
def EqualPartsUptoCardSaid : Prop := Claim7.holds Tryz.pinned (.plain (OpenSpec.upto equalPartsSpec)) equalPartsUptoCard
end Rows
end Go.Proofs.YtppmpfddcohkjaaGreatDoor
