/-
  DERIVED. GIVEN WITH THE SEED: THE CARDS: each row of YtppmpfddcohkjaaDoorRows.lean that lists a variable, with what it lists TIED to the program's text (the seventh form; the later family's looks); each row that meets fmt, with fmt's text TOLD by the authors' own Lean function (tested against real Go, not proved from fmt's source: count such statements apart). THE CARD IS WHAT COUNTS. Prove the row's statement (the work); the ties are given (YtppmpfddcohkjaaDoorTie.lean); close each card by the builder's one call (the guide's Derived/Test/ToyasCard.lean, 'card_holds'). Laid BY PROGRAM, IN A SANDBOX (cutbox-door.mjs). By AI agents, Wed Nov 11 2026. No macro, syntax, notation, axiom, sorry.
-/
import Derived.Test.YtppmpfddcohkjaaDoorRows
import GoSem.ClaimSeven
namespace Go.Proofs.YtppmpfddcohkjaaDoor
namespace Rows

/-- THE TIED CARD OF 'quiverlaw9.Reads'. -/
def readsCard : Claim7 := { stood := { row := readsRow, standIns := [], harness := (true, "cfd88b0ec4670f9fae9793d57cc7b772c52b803c8c5ba533c7bc960bb250d4ec"), looks := false }, kinds := [], alts := [], laidByText := true, laidKinds := [.data, .data, .data], laidTests := true, laidLooks := .later }
def ReadsCardSaid : Prop := Claim7.holds Tryd.pinned (.plain (OpenSpec.ofChange readsSpec)) readsCard

/-- THE TIED CARD OF 'quiverlaw9.ReadFits'. -/
def readFitsCard : Claim7 := { stood := { row := readFitsRow, standIns := [], harness := (true, "cfd88b0ec4670f9fae9793d57cc7b772c52b803c8c5ba533c7bc960bb250d4ec"), looks := false }, kinds := [], alts := [], laidByText := true, laidKinds := [.data, .data, .data], laidTests := true, laidLooks := .later }
def ReadFitsCardSaid : Prop := Claim7.holds Tryd.pinned (.plain (OpenSpec.ofChange readFitsSpec)) readFitsCard

/-- THE TIED CARD OF 'quiverlaw9.ReadForms'. -/
def readFormsCard : Claim7 := { stood := { row := readFormsRow, standIns := [], harness := (true, "cfd88b0ec4670f9fae9793d57cc7b772c52b803c8c5ba533c7bc960bb250d4ec"), looks := false }, kinds := [], alts := [], laidByText := true, laidKinds := [.data, .data, .data], laidTests := true, laidLooks := .later }
def ReadFormsCardSaid : Prop := Claim7.holds Tryd.pinned (.plain (OpenSpec.ofChange readFormsSpec)) readFormsCard

/-- THE TIED CARD OF 'quiverlaw9.ReadUnder'. -/
def readUnderCard : Claim7 := { stood := { row := readUnderRow, standIns := [], harness := (true, "cfd88b0ec4670f9fae9793d57cc7b772c52b803c8c5ba533c7bc960bb250d4ec"), looks := false }, kinds := [], alts := [], laidByText := true, laidKinds := [.data, .data, .data], laidTests := true, laidLooks := .later }
def ReadUnderCardSaid : Prop := Claim7.holds Tryd.pinned (.plain (OpenSpec.ofChange readUnderSpec)) readUnderCard

/-- THE SECOND FORM's CARD OF 'quiverlaw9.Reads'. -/
def readsUptoCard : Claim7 := { stood := { row := readsUptoRow, standIns := [], harness := (true, "cfd88b0ec4670f9fae9793d57cc7b772c52b803c8c5ba533c7bc960bb250d4ec"), looks := false }, kinds := [], alts := [], laidByText := true, laidKinds := [.data, .data, .data], laidTests := true, laidLooks := .later }
def ReadsUptoCardSaid : Prop := Claim7.holds Tryd.pinned (.plain (OpenSpec.upto readsSpec)) readsUptoCard

/-- THE SECOND FORM's CARD OF 'quiverlaw9.ReadFits'. -/
def readFitsUptoCard : Claim7 := { stood := { row := readFitsUptoRow, standIns := [], harness := (true, "cfd88b0ec4670f9fae9793d57cc7b772c52b803c8c5ba533c7bc960bb250d4ec"), looks := false }, kinds := [], alts := [], laidByText := true, laidKinds := [.data, .data, .data], laidTests := true, laidLooks := .later }
def ReadFitsUptoCardSaid : Prop := Claim7.holds Tryd.pinned (.plain (OpenSpec.upto readFitsSpec)) readFitsUptoCard

/-- THE SECOND FORM's CARD OF 'quiverlaw9.ReadForms'. -/
def readFormsUptoCard : Claim7 := { stood := { row := readFormsUptoRow, standIns := [], harness := (true, "cfd88b0ec4670f9fae9793d57cc7b772c52b803c8c5ba533c7bc960bb250d4ec"), looks := false }, kinds := [], alts := [], laidByText := true, laidKinds := [.data, .data, .data], laidTests := true, laidLooks := .later }
def ReadFormsUptoCardSaid : Prop := Claim7.holds Tryd.pinned (.plain (OpenSpec.upto readFormsSpec)) readFormsUptoCard

/-- THE SECOND FORM's CARD OF 'quiverlaw9.ReadUnder'. -/
def readUnderUptoCard : Claim7 := { stood := { row := readUnderUptoRow, standIns := [], harness := (true, "cfd88b0ec4670f9fae9793d57cc7b772c52b803c8c5ba533c7bc960bb250d4ec"), looks := false }, kinds := [], alts := [], laidByText := true, laidKinds := [.data, .data, .data], laidTests := true, laidLooks := .later }
def ReadUnderUptoCardSaid : Prop := Claim7.holds Tryd.pinned (.plain (OpenSpec.upto readUnderSpec)) readUnderUptoCard
end Rows
end Go.Proofs.YtppmpfddcohkjaaDoor
