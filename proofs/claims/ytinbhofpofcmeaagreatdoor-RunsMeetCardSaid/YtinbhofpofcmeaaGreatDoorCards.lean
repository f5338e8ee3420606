/-
  DERIVED. GIVEN WITH THE SEED: THE CARDS: each row of YtinbhofpofcmeaaGreatDoorRows.lean that lists a variable, with what it lists TIED to the program's text (the seventh form; the later family's looks); each row that meets fmt, with fmt's text TOLD by the authors' own Lean function (tested against real Go, not proved from fmt's source: count such statements apart). THE CARD IS WHAT COUNTS. Prove the row's statement (the work); the ties are given (YtinbhofpofcmeaaGreatDoorTie.lean); close each card by the builder's one call (the guide's Derived/Test/ToyasCard.lean, 'card_holds'). Laid BY PROGRAM, IN A SANDBOX (cutbox-door.mjs). By AI agents, Wed Nov 11 2026. No macro, syntax, notation, axiom, sorry.
-/
import Derived.Test.YtinbhofpofcmeaaGreatDoorRows
import GoSem.ClaimSeven
namespace Go.Proofs.YtinbhofpofcmeaaGreatDoor
namespace Rows

/-- THE TIED CARD OF 'transitlaw25.RunsOfDay'. -/
def runsOfDayCard : Claim7 := { stood := { row := runsOfDayRow, standIns := [], harness := (true, "52be1df692ecca0e4e5f533600feff515799a76a876e94abe34ae70c46ed7d34"), looks := true }, kinds := [], alts := [], laidByText := true, laidKinds := [.data, .data, .data, .sentinel, .sentinel], laidTests := true, laidLooks := .later }
def RunsOfDayCardSaid : Prop := Claim7.holds Tryz.pinned (.plain (OpenSpec.ofChange runsOfDaySpec)) runsOfDayCard

/-- THE TIED CARD OF 'transitlaw25.RunsKeys'. -/
def runsKeysCard : Claim7 := { stood := { row := runsKeysRow, standIns := [], harness := (true, "52be1df692ecca0e4e5f533600feff515799a76a876e94abe34ae70c46ed7d34"), looks := true }, kinds := [], alts := [], laidByText := true, laidKinds := [.data, .data, .data, .sentinel, .sentinel], laidTests := true, laidLooks := .later }
def RunsKeysCardSaid : Prop := Claim7.holds Tryz.pinned (.plain (OpenSpec.ofChange runsKeysSpec)) runsKeysCard

/-- THE TIED CARD OF 'transitlaw25.RunsParses'. -/
def runsParsesCard : Claim7 := { stood := { row := runsParsesRow, standIns := [], harness := (true, "52be1df692ecca0e4e5f533600feff515799a76a876e94abe34ae70c46ed7d34"), looks := true }, kinds := [], alts := [], laidByText := true, laidKinds := [.data, .data, .data, .sentinel, .sentinel], laidTests := true, laidLooks := .later }
def RunsParsesCardSaid : Prop := Claim7.holds Tryz.pinned (.plain (OpenSpec.ofChange runsParsesSpec)) runsParsesCard

/-- THE TIED CARD OF 'transitlaw25.RunsService'. -/
def runsServiceCard : Claim7 := { stood := { row := runsServiceRow, standIns := [], harness := (true, "52be1df692ecca0e4e5f533600feff515799a76a876e94abe34ae70c46ed7d34"), looks := true }, kinds := [], alts := [], laidByText := true, laidKinds := [.data, .data, .data, .sentinel, .sentinel], laidTests := true, laidLooks := .later }
def RunsServiceCardSaid : Prop := Claim7.holds Tryz.pinned (.plain (OpenSpec.ofChange runsServiceSpec)) runsServiceCard

/-- THE TIED CARD OF 'transitlaw25.RunsFinds'. -/
def runsFindsCard : Claim7 := { stood := { row := runsFindsRow, standIns := [], harness := (true, "52be1df692ecca0e4e5f533600feff515799a76a876e94abe34ae70c46ed7d34"), looks := true }, kinds := [], alts := [], laidByText := true, laidKinds := [.data, .data, .data, .sentinel, .sentinel], laidTests := true, laidLooks := .later }
def RunsFindsCardSaid : Prop := Claim7.holds Tryz.pinned (.plain (OpenSpec.ofChange runsFindsSpec)) runsFindsCard

/-- THE TIED CARD OF 'transitlaw25.RunsOfDays'. -/
def runsOfDaysCard : Claim7 := { stood := { row := runsOfDaysRow, standIns := [], harness := (true, "52be1df692ecca0e4e5f533600feff515799a76a876e94abe34ae70c46ed7d34"), looks := true }, kinds := [], alts := [], laidByText := true, laidKinds := [.data, .data, .data, .sentinel, .sentinel], laidTests := true, laidLooks := .later }
def RunsOfDaysCardSaid : Prop := Claim7.holds Tryz.pinned (.plain (OpenSpec.ofChange runsOfDaysSpec)) runsOfDaysCard

/-- THE TIED CARD OF 'transitlaw25.RunsDays'. -/
def runsDaysCard : Claim7 := { stood := { row := runsDaysRow, standIns := [], harness := (true, "52be1df692ecca0e4e5f533600feff515799a76a876e94abe34ae70c46ed7d34"), looks := true }, kinds := [], alts := [], laidByText := true, laidKinds := [.data, .data, .data, .sentinel, .sentinel], laidTests := true, laidLooks := .later }
def RunsDaysCardSaid : Prop := Claim7.holds Tryz.pinned (.plain (OpenSpec.ofChange runsDaysSpec)) runsDaysCard

/-- THE TIED CARD OF 'transitlaw25.RunsLinks'. -/
def runsLinksCard : Claim7 := { stood := { row := runsLinksRow, standIns := [], harness := (true, "52be1df692ecca0e4e5f533600feff515799a76a876e94abe34ae70c46ed7d34"), looks := true }, kinds := [], alts := [], laidByText := true, laidKinds := [.data, .data, .data, .sentinel, .sentinel], laidTests := true, laidLooks := .later }
def RunsLinksCardSaid : Prop := Claim7.holds Tryz.pinned (.plain (OpenSpec.ofChange runsLinksSpec)) runsLinksCard

/-- THE TIED CARD OF 'transitlaw25.RunsMeet'. -/
def runsMeetCard : Claim7 := { stood := { row := runsMeetRow, standIns := [], harness := (true, "52be1df692ecca0e4e5f533600feff515799a76a876e94abe34ae70c46ed7d34"), looks := true }, kinds := [], alts := [], laidByText := true, laidKinds := [.data, .data, .data, .sentinel, .sentinel], laidTests := true, laidLooks := .later }
def RunsMeetCardSaid : Prop := Claim7.holds Tryz.pinned (.plain (OpenSpec.ofChange runsMeetSpec)) runsMeetCard

/-- THE SECOND FORM's CARD OF 'transitlaw25.RunsOfDay'. -/
def runsOfDayUptoCard : Claim7 := { stood := { row := runsOfDayUptoRow, standIns := [], harness := (true, "52be1df692ecca0e4e5f533600feff515799a76a876e94abe34ae70c46ed7d34"), looks := true }, kinds := [], alts := [], laidByText := true, laidKinds := [.data, .data, .data, .sentinel, .sentinel], laidTests := true, laidLooks := .later }
def RunsOfDayUptoCardSaid : Prop := Claim7.holds Tryz.pinned (.plain (OpenSpec.upto runsOfDaySpec)) runsOfDayUptoCard

/-- THE SECOND FORM's CARD OF 'transitlaw25.RunsKeys'. -/
def runsKeysUptoCard : Claim7 := { stood := { row := runsKeysUptoRow, standIns := [], harness := (true, "52be1df692ecca0e4e5f533600feff515799a76a876e94abe34ae70c46ed7d34"), looks := true }, kinds := [], alts := [], laidByText := true, laidKinds := [.data, .data, .data, .sentinel, .sentinel], laidTests := true, laidLooks := .later }
def RunsKeysUptoCardSaid : Prop := Claim7.holds Tryz.pinned (.plain (OpenSpec.upto runsKeysSpec)) runsKeysUptoCard

/-- THE SECOND FORM's CARD OF 'transitlaw25.RunsParses'. -/
def runsParsesUptoCard : Claim7 := { stood := { row := runsParsesUptoRow, standIns := [], harness := (true, "52be1df692ecca0e4e5f533600feff515799a76a876e94abe34ae70c46ed7d34"), looks := true }, kinds := [], alts := [], laidByText := true, laidKinds := [.data, .data, .data, .sentinel, .sentinel], laidTests := true, laidLooks := .later }
def RunsParsesUptoCardSaid : Prop := Claim7.holds Tryz.pinned (.plain (OpenSpec.upto runsParsesSpec)) runsParsesUptoCard

/-- THE SECOND FORM's CARD OF 'transitlaw25.RunsService'. -/
def runsServiceUptoCard : Claim7 := { stood := { row := runsServiceUptoRow, standIns := [], harness := (true, "52be1df692ecca0e4e5f533600feff515799a76a876e94abe34ae70c46ed7d34"), looks := true }, kinds := [], alts := [], laidByText := true, laidKinds := [.data, .data, .data, .sentinel, .sentinel], laidTests := true, laidLooks := .later }
def RunsServiceUptoCardSaid : Prop := Claim7.holds Tryz.pinned (.plain (OpenSpec.upto runsServiceSpec)) runsServiceUptoCard

/-- THE SECOND FORM's CARD OF 'transitlaw25.RunsFinds'. -/
def runsFindsUptoCard : Claim7 := { stood := { row := runsFindsUptoRow, standIns := [], harness := (true, "52be1df692ecca0e4e5f533600feff515799a76a876e94abe34ae70c46ed7d34"), looks := true }, kinds := [], alts := [], laidByText := true, laidKinds := [.data, .data, .data, .sentinel, .sentinel], laidTests := true, laidLooks := .later }
def RunsFindsUptoCardSaid : Prop := Claim7.holds Tryz.pinned (.plain (OpenSpec.upto runsFindsSpec)) runsFindsUptoCard

/-- THE SECOND FORM's CARD OF 'transitlaw25.RunsOfDays'. -/
def runsOfDaysUptoCard : Claim7 := { stood := { row := runsOfDaysUptoRow, standIns := [], harness := (true, "52be1df692ecca0e4e5f533600feff515799a76a876e94abe34ae70c46ed7d34"), looks := true }, kinds := [], alts := [], laidByText := true, laidKinds := [.data, .data, .data, .sentinel, .sentinel], laidTests := true, laidLooks := .later }
def RunsOfDaysUptoCardSaid : Prop := Claim7.holds Tryz.pinned (.plain (OpenSpec.upto runsOfDaysSpec)) runsOfDaysUptoCard

/-- THE SECOND FORM's CARD OF 'transitlaw25.RunsDays'. -/
def runsDaysUptoCard : Claim7 := { stood := { row := runsDaysUptoRow, standIns := [], harness := (true, "52be1df692ecca0e4e5f533600feff515799a76a876e94abe34ae70c46ed7d34"), looks := true }, kinds := [], alts := [], laidByText := true, laidKinds := [.data, .data, .data, .sentinel, .sentinel], laidTests := true, laidLooks := .later }
def RunsDaysUptoCardSaid : Prop := Claim7.holds Tryz.pinned (.plain (OpenSpec.upto runsDaysSpec)) runsDaysUptoCard

/-- THE SECOND FORM's CARD OF 'transitlaw25.RunsLinks'. -/
def runsLinksUptoCard : Claim7 := { stood := { row := runsLinksUptoRow, standIns := [], harness := (true, "52be1df692ecca0e4e5f533600feff515799a76a876e94abe34ae70c46ed7d34"), looks := true }, kinds := [], alts := [], laidByText := true, laidKinds := [.data, .data, .data, .sentinel, .sentinel], laidTests := true, laidLooks := .later }
def RunsLinksUptoCardSaid : Prop := Claim7.holds Tryz.pinned (.plain (OpenSpec.upto runsLinksSpec)) runsLinksUptoCard

/-- THE SECOND FORM's CARD OF 'transitlaw25.RunsMeet'. -/
def runsMeetUptoCard : Claim7 := { stood := { row := runsMeetUptoRow, standIns := [], harness := (true, "52be1df692ecca0e4e5f533600feff515799a76a876e94abe34ae70c46ed7d34"), looks := true }, kinds := [], alts := [], laidByText := true, laidKinds := [.data, .data, .data, .sentinel, .sentinel], laidTests := true, laidLooks := .later }
def RunsMeetUptoCardSaid : Prop := Claim7.holds Tryz.pinned (.plain (OpenSpec.upto runsMeetSpec)) runsMeetUptoCard
end Rows
end Go.Proofs.YtinbhofpofcmeaaGreatDoor
