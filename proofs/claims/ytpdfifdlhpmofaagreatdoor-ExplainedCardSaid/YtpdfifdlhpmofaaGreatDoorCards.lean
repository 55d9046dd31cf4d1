/-
  DERIVED. GIVEN WITH THE SEED: THE CARDS: each row of YtpdfifdlhpmofaaGreatDoorRows.lean that lists a variable, with what it lists TIED to the program's text (the seventh form; the later family's looks); each row that meets fmt, with fmt's text TOLD by the authors' own Lean function (tested against real Go, not proved from fmt's source: count such statements apart). THE CARD IS WHAT COUNTS. Prove the row's statement (the work); the ties are given (YtpdfifdlhpmofaaGreatDoorTie.lean); close each card by the builder's one call (the guide's Derived/Test/ToyasCard.lean, 'card_holds'). Laid BY PROGRAM, IN A SANDBOX (cutbox-door.mjs). By AI agents, Wed Nov 11 2026. No macro, syntax, notation, axiom, sorry.
-/
import Derived.Test.YtpdfifdlhpmofaaGreatDoorRows
import GoSem.ClaimSeven
namespace Go.Proofs.YtpdfifdlhpmofaaGreatDoor
namespace Rows

/-- THE TIED CARD OF 'commitslaw.Compiles'. -/
def compilesCard : Claim7 := { stood := { row := compilesRow, standIns := [], harness := (true, "7845aaeef35639c2a72e0852d15e3f46db0a75a699761104d11a59dcd92d4a22"), looks := true }, kinds := [], alts := [], laidByText := true, laidKinds := [.data, .data, .data, .data, .handle, .sentinel, .sentinel, .mapped, .pinned], laidTests := true, laidLooks := .later }
def CompilesCardSaid : Prop := Claim7.holds Tryz.pinned (.plain (OpenSpec.ofChange compilesSpec)) compilesCard

/-- THE TIED CARD OF 'commitslaw.Serial'. -/
def serialCard : Claim7 := { stood := { row := serialRow, standIns := [], harness := (true, "7845aaeef35639c2a72e0852d15e3f46db0a75a699761104d11a59dcd92d4a22"), looks := true }, kinds := [], alts := [], laidByText := true, laidKinds := [.data, .data, .data, .data, .handle, .sentinel, .sentinel, .mapped, .pinned], laidTests := true, laidLooks := .later }
def SerialCardSaid : Prop := Claim7.holds Tryz.pinned (.plain (OpenSpec.ofChange serialSpec)) serialCard

/-- THE TIED CARD OF 'commitslaw.Explained'. -/
def explainedCard : Claim7 := { stood := { row := explainedRow, standIns := [], harness := (true, "7845aaeef35639c2a72e0852d15e3f46db0a75a699761104d11a59dcd92d4a22"), looks := true }, kinds := [], alts := [], laidByText := true, laidKinds := [.data, .data, .data, .data, .handle, .sentinel, .sentinel, .mapped, .pinned], laidTests := true, laidLooks := .later }
def ExplainedCardSaid : Prop := Claim7.holds Tryz.pinned (.plain (OpenSpec.ofChange explainedSpec)) explainedCard

/-- THE TIED CARD OF 'commitslaw.Apart'. -/
def apartCard : Claim7 := { stood := { row := apartRow, standIns := [], harness := (true, "7845aaeef35639c2a72e0852d15e3f46db0a75a699761104d11a59dcd92d4a22"), looks := true }, kinds := [], alts := [], laidByText := true, laidKinds := [.data, .data, .data, .data, .handle, .sentinel, .sentinel, .mapped, .pinned], laidTests := true, laidLooks := .later }
def ApartCardSaid : Prop := Claim7.holds Tryz.pinned (.plain (OpenSpec.ofChange apartSpec)) apartCard

/-- THE TIED CARD OF 'commitslaw.Readers'. -/
def readersCard : Claim7 := { stood := { row := readersRow, standIns := [], harness := (true, "7845aaeef35639c2a72e0852d15e3f46db0a75a699761104d11a59dcd92d4a22"), looks := true }, kinds := [], alts := [], laidByText := true, laidKinds := [.data, .data, .data, .data, .handle, .sentinel, .sentinel, .mapped, .pinned], laidTests := true, laidLooks := .later }
def ReadersCardSaid : Prop := Claim7.holds Tryz.pinned (.plain (OpenSpec.ofChange readersSpec)) readersCard

/-- THE TIED CARD OF 'commitslaw.Left'. -/
def leftCard : Claim7 := { stood := { row := leftRow, standIns := [], harness := (true, "7845aaeef35639c2a72e0852d15e3f46db0a75a699761104d11a59dcd92d4a22"), looks := true }, kinds := [], alts := [], laidByText := true, laidKinds := [.data, .data, .data, .data, .handle, .sentinel, .sentinel, .mapped, .pinned], laidTests := true, laidLooks := .later }
def LeftCardSaid : Prop := Claim7.holds Tryz.pinned (.plain (OpenSpec.ofChange leftSpec)) leftCard

/-- THE SECOND FORM's CARD OF 'commitslaw.Compiles'. -/
def compilesUptoCard : Claim7 := { stood := { row := compilesUptoRow, standIns := [], harness := (true, "7845aaeef35639c2a72e0852d15e3f46db0a75a699761104d11a59dcd92d4a22"), looks := true }, kinds := [], alts := [], laidByText := true, laidKinds := [.data, .data, .data, .data, .handle, .sentinel, .sentinel, .mapped, .pinned], laidTests := true, laidLooks := .later }
def CompilesUptoCardSaid : Prop := Claim7.holds Tryz.pinned (.plain (OpenSpec.upto compilesSpec)) compilesUptoCard

/-- THE SECOND FORM's CARD OF 'commitslaw.Serial'. -/
def serialUptoCard : Claim7 := { stood := { row := serialUptoRow, standIns := [], harness := (true, "7845aaeef35639c2a72e0852d15e3f46db0a75a699761104d11a59dcd92d4a22"), looks := true }, kinds := [], alts := [], laidByText := true, laidKinds := [.data, .data, .data, .data, .handle, .sentinel, .sentinel, .mapped, .pinned], laidTests := true, laidLooks := .later }
def SerialUptoCardSaid : Prop := Claim7.holds Tryz.pinned (.plain (OpenSpec.upto serialSpec)) serialUptoCard

/-- THE SECOND FORM's CARD OF 'commitslaw.Explained'. -/
def explainedUptoCard : Claim7 := { stood := { row := explainedUptoRow, standIns := [], harness := (true, "7845aaeef35639c2a72e0852d15e3f46db0a75a699761104d11a59dcd92d4a22"), looks := true }, kinds := [], alts := [], laidByText := true, laidKinds := [.data, .data, .data, .data, .handle, .sentinel, .sentinel, .mapped, .pinned], laidTests := true, laidLooks := .later }
def ExplainedUptoCardSaid : Prop := Claim7.holds Tryz.pinned (.plain (OpenSpec.upto explainedSpec)) explainedUptoCard

/-- THE SECOND FORM's CARD OF 'commitslaw.Apart'. -/
def apartUptoCard : Claim7 := { stood := { row := apartUptoRow, standIns := [], harness := (true, "7845aaeef35639c2a72e0852d15e3f46db0a75a699761104d11a59dcd92d4a22"), looks := true }, kinds := [], alts := [], laidByText := true, laidKinds := [.data, .data, .data, .data, .handle, .sentinel, .sentinel, .mapped, .pinned], laidTests := true, laidLooks := .later }
def ApartUptoCardSaid : Prop := Claim7.holds Tryz.pinned (.plain (OpenSpec.upto apartSpec)) apartUptoCard

/-- THE SECOND FORM's CARD OF 'commitslaw.Readers'. -/
def readersUptoCard : Claim7 := { stood := { row := readersUptoRow, standIns := [], harness := (true, "7845aaeef35639c2a72e0852d15e3f46db0a75a699761104d11a59dcd92d4a22"), looks := true }, kinds := [], alts := [], laidByText := true, laidKinds := [.data, .data, .data, .data, .handle, .sentinel, .sentinel, .mapped, .pinned], laidTests := true, laidLooks := .later }
def ReadersUptoCardSaid : Prop := Claim7.holds Tryz.pinned (.plain (OpenSpec.upto readersSpec)) readersUptoCard

/-- THE SECOND FORM's CARD OF 'commitslaw.Left'. -/
def leftUptoCard : Claim7 := { stood := { row := leftUptoRow, standIns := [], harness := (true, "7845aaeef35639c2a72e0852d15e3f46db0a75a699761104d11a59dcd92d4a22"), looks := true }, kinds := [], alts := [], laidByText := true, laidKinds := [.data, .data, .data, .data, .handle, .sentinel, .sentinel, .mapped, .pinned], laidTests := true, laidLooks := .later }
def LeftUptoCardSaid : Prop := Claim7.holds Tryz.pinned (.plain (OpenSpec.upto leftSpec)) leftUptoCard
end Rows
end Go.Proofs.YtpdfifdlhpmofaaGreatDoor
