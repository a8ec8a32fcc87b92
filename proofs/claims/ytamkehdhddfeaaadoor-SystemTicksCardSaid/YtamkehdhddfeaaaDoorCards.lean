/-
  DERIVED. GIVEN WITH THE SEED: THE CARDS: each row of YtamkehdhddfeaaaDoorRows.lean that lists a variable, with what it lists TIED to the program's text (the seventh form; the later family's looks); each row that meets fmt, with fmt's text TOLD by the authors' own Lean function (tested against real Go, not proved from fmt's source: count such statements apart). THE CARD IS WHAT COUNTS. Prove the row's statement (the work); the ties are given (YtamkehdhddfeaaaDoorTie.lean); close each card by the builder's one call (the guide's Derived/Test/ToyasCard.lean, 'card_holds'). Laid BY PROGRAM, IN A SANDBOX (cutbox-door.mjs). By AI agents, Wed Nov 11 2026. No macro, syntax, notation, axiom, sorry.
-/
import Derived.Test.YtamkehdhddfeaaaDoorRows
import GoSem.ClaimSeven
namespace Go.Proofs.YtamkehdhddfeaaaDoor
namespace Rows

/-- THE TIED CARD OF 'estoppellaw15.SystemStates'. -/
def systemStatesCard : Claim7 := { stood := { row := systemStatesRow, standIns := [], harness := (true, "52c5cd57b9a9069506012b575b49decaf26c24264aa309e8436560df5398d505"), looks := false }, kinds := [], alts := [], laidByText := true, laidKinds := [.data, .data], laidTests := true, laidLooks := .later }
def SystemStatesCardSaid : Prop := Claim7.holds Tryd.pinned (.plain (OpenSpec.ofChange systemStatesSpec)) systemStatesCard

/-- THE TIED CARD OF 'estoppellaw15.SystemNoReturn'. -/
def systemNoReturnCard : Claim7 := { stood := { row := systemNoReturnRow, standIns := [], harness := (true, "52c5cd57b9a9069506012b575b49decaf26c24264aa309e8436560df5398d505"), looks := false }, kinds := [], alts := [], laidByText := true, laidKinds := [.data, .data], laidTests := true, laidLooks := .later }
def SystemNoReturnCardSaid : Prop := Claim7.holds Tryd.pinned (.plain (OpenSpec.ofChange systemNoReturnSpec)) systemNoReturnCard

/-- THE TIED CARD OF 'estoppellaw15.SystemStarts'. -/
def systemStartsCard : Claim7 := { stood := { row := systemStartsRow, standIns := [], harness := (true, "52c5cd57b9a9069506012b575b49decaf26c24264aa309e8436560df5398d505"), looks := false }, kinds := [], alts := [], laidByText := true, laidKinds := [.data, .data], laidTests := true, laidLooks := .later }
def SystemStartsCardSaid : Prop := Claim7.holds Tryd.pinned (.plain (OpenSpec.ofChange systemStartsSpec)) systemStartsCard

/-- THE TIED CARD OF 'estoppellaw15.SystemBreach'. -/
def systemBreachCard : Claim7 := { stood := { row := systemBreachRow, standIns := [], harness := (true, "52c5cd57b9a9069506012b575b49decaf26c24264aa309e8436560df5398d505"), looks := false }, kinds := [], alts := [], laidByText := true, laidKinds := [.data, .data], laidTests := true, laidLooks := .later }
def SystemBreachCardSaid : Prop := Claim7.holds Tryd.pinned (.plain (OpenSpec.ofChange systemBreachSpec)) systemBreachCard

/-- THE TIED CARD OF 'estoppellaw15.SystemActs'. -/
def systemActsCard : Claim7 := { stood := { row := systemActsRow, standIns := [], harness := (true, "52c5cd57b9a9069506012b575b49decaf26c24264aa309e8436560df5398d505"), looks := false }, kinds := [], alts := [], laidByText := true, laidKinds := [.data, .data], laidTests := true, laidLooks := .later }
def SystemActsCardSaid : Prop := Claim7.holds Tryd.pinned (.plain (OpenSpec.ofChange systemActsSpec)) systemActsCard

/-- THE TIED CARD OF 'estoppellaw15.SystemTicks'. -/
def systemTicksCard : Claim7 := { stood := { row := systemTicksRow, standIns := [], harness := (true, "52c5cd57b9a9069506012b575b49decaf26c24264aa309e8436560df5398d505"), looks := false }, kinds := [], alts := [], laidByText := true, laidKinds := [.data, .data], laidTests := true, laidLooks := .later }
def SystemTicksCardSaid : Prop := Claim7.holds Tryd.pinned (.plain (OpenSpec.ofChange systemTicksSpec)) systemTicksCard

/-- THE SECOND FORM's CARD OF 'estoppellaw15.SystemStates'. -/
def systemStatesUptoCard : Claim7 := { stood := { row := systemStatesUptoRow, standIns := [], harness := (true, "52c5cd57b9a9069506012b575b49decaf26c24264aa309e8436560df5398d505"), looks := false }, kinds := [], alts := [], laidByText := true, laidKinds := [.data, .data], laidTests := true, laidLooks := .later }
def SystemStatesUptoCardSaid : Prop := Claim7.holds Tryd.pinned (.plain (OpenSpec.upto systemStatesSpec)) systemStatesUptoCard

/-- THE SECOND FORM's CARD OF 'estoppellaw15.SystemNoReturn'. -/
def systemNoReturnUptoCard : Claim7 := { stood := { row := systemNoReturnUptoRow, standIns := [], harness := (true, "52c5cd57b9a9069506012b575b49decaf26c24264aa309e8436560df5398d505"), looks := false }, kinds := [], alts := [], laidByText := true, laidKinds := [.data, .data], laidTests := true, laidLooks := .later }
def SystemNoReturnUptoCardSaid : Prop := Claim7.holds Tryd.pinned (.plain (OpenSpec.upto systemNoReturnSpec)) systemNoReturnUptoCard

/-- THE SECOND FORM's CARD OF 'estoppellaw15.SystemStarts'. -/
def systemStartsUptoCard : Claim7 := { stood := { row := systemStartsUptoRow, standIns := [], harness := (true, "52c5cd57b9a9069506012b575b49decaf26c24264aa309e8436560df5398d505"), looks := false }, kinds := [], alts := [], laidByText := true, laidKinds := [.data, .data], laidTests := true, laidLooks := .later }
def SystemStartsUptoCardSaid : Prop := Claim7.holds Tryd.pinned (.plain (OpenSpec.upto systemStartsSpec)) systemStartsUptoCard

/-- THE SECOND FORM's CARD OF 'estoppellaw15.SystemBreach'. -/
def systemBreachUptoCard : Claim7 := { stood := { row := systemBreachUptoRow, standIns := [], harness := (true, "52c5cd57b9a9069506012b575b49decaf26c24264aa309e8436560df5398d505"), looks := false }, kinds := [], alts := [], laidByText := true, laidKinds := [.data, .data], laidTests := true, laidLooks := .later }
def SystemBreachUptoCardSaid : Prop := Claim7.holds Tryd.pinned (.plain (OpenSpec.upto systemBreachSpec)) systemBreachUptoCard

/-- THE SECOND FORM's CARD OF 'estoppellaw15.SystemActs'. -/
def systemActsUptoCard : Claim7 := { stood := { row := systemActsUptoRow, standIns := [], harness := (true, "52c5cd57b9a9069506012b575b49decaf26c24264aa309e8436560df5398d505"), looks := false }, kinds := [], alts := [], laidByText := true, laidKinds := [.data, .data], laidTests := true, laidLooks := .later }
def SystemActsUptoCardSaid : Prop := Claim7.holds Tryd.pinned (.plain (OpenSpec.upto systemActsSpec)) systemActsUptoCard

/-- THE SECOND FORM's CARD OF 'estoppellaw15.SystemTicks'. -/
def systemTicksUptoCard : Claim7 := { stood := { row := systemTicksUptoRow, standIns := [], harness := (true, "52c5cd57b9a9069506012b575b49decaf26c24264aa309e8436560df5398d505"), looks := false }, kinds := [], alts := [], laidByText := true, laidKinds := [.data, .data], laidTests := true, laidLooks := .later }
def SystemTicksUptoCardSaid : Prop := Claim7.holds Tryd.pinned (.plain (OpenSpec.upto systemTicksSpec)) systemTicksUptoCard
end Rows
end Go.Proofs.YtamkehdhddfeaaaDoor
