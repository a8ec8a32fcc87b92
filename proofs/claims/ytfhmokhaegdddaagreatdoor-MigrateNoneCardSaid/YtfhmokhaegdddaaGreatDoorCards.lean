/-
  DERIVED. GIVEN WITH THE SEED: THE CARDS: each row of YtfhmokhaegdddaaGreatDoorRows.lean that lists a variable, with what it lists TIED to the program's text (the seventh form; the later family's looks); each row that meets fmt, with fmt's text TOLD by the authors' own Lean function (tested against real Go, not proved from fmt's source: count such statements apart). THE CARD IS WHAT COUNTS. Prove the row's statement (the work); the ties are given (YtfhmokhaegdddaaGreatDoorTie.lean); close each card by the builder's one call (the guide's Derived/Test/ToyasCard.lean, 'card_holds'). Laid BY PROGRAM, IN A SANDBOX (cutbox-door.mjs). By AI agents, Wed Nov 11 2026. No macro, syntax, notation, axiom, sorry.
-/
import Derived.Test.YtfhmokhaegdddaaGreatDoorRows
import GoSem.ClaimSeven
namespace Go.Proofs.YtfhmokhaegdddaaGreatDoor
namespace Rows

/-- THE TIED CARD OF 'estoppellaw27.MigrateKeeps'. -/
def migrateKeepsCard : Claim7 := { stood := { row := migrateKeepsRow, standIns := [], harness := (true, "a33d9919a3e02029747f97a36ab6905d560b5ab493a84df56e28734c59c5c2e4"), looks := false }, kinds := [], alts := [], laidByText := true, laidKinds := [.data, .data], laidTests := true, laidLooks := .later }
def MigrateKeepsCardSaid : Prop := Claim7.holds Tryz.pinned (.plain (OpenSpec.ofChange migrateKeepsSpec)) migrateKeepsCard

/-- THE TIED CARD OF 'estoppellaw27.MigrateFails'. -/
def migrateFailsCard : Claim7 := { stood := { row := migrateFailsRow, standIns := [], harness := (true, "a33d9919a3e02029747f97a36ab6905d560b5ab493a84df56e28734c59c5c2e4"), looks := false }, kinds := [], alts := [], laidByText := true, laidKinds := [.data, .data], laidTests := true, laidLooks := .later }
def MigrateFailsCardSaid : Prop := Claim7.holds Tryz.pinned (.plain (OpenSpec.ofChange migrateFailsSpec)) migrateFailsCard

/-- THE TIED CARD OF 'estoppellaw27.MigrateSpans'. -/
def migrateSpansCard : Claim7 := { stood := { row := migrateSpansRow, standIns := [], harness := (true, "a33d9919a3e02029747f97a36ab6905d560b5ab493a84df56e28734c59c5c2e4"), looks := false }, kinds := [], alts := [], laidByText := true, laidKinds := [.data, .data], laidTests := true, laidLooks := .later }
def MigrateSpansCardSaid : Prop := Claim7.holds Tryz.pinned (.plain (OpenSpec.ofChange migrateSpansSpec)) migrateSpansCard

/-- THE TIED CARD OF 'estoppellaw27.MigrateStates'. -/
def migrateStatesCard : Claim7 := { stood := { row := migrateStatesRow, standIns := [], harness := (true, "a33d9919a3e02029747f97a36ab6905d560b5ab493a84df56e28734c59c5c2e4"), looks := false }, kinds := [], alts := [], laidByText := true, laidKinds := [.data, .data], laidTests := true, laidLooks := .later }
def MigrateStatesCardSaid : Prop := Claim7.holds Tryz.pinned (.plain (OpenSpec.ofChange migrateStatesSpec)) migrateStatesCard

/-- THE TIED CARD OF 'estoppellaw27.MigrateNone'. -/
def migrateNoneCard : Claim7 := { stood := { row := migrateNoneRow, standIns := [], harness := (true, "a33d9919a3e02029747f97a36ab6905d560b5ab493a84df56e28734c59c5c2e4"), looks := false }, kinds := [], alts := [], laidByText := true, laidKinds := [.data, .data], laidTests := true, laidLooks := .later }
def MigrateNoneCardSaid : Prop := Claim7.holds Tryz.pinned (.plain (OpenSpec.ofChange migrateNoneSpec)) migrateNoneCard

/-- THE SECOND FORM's CARD OF 'estoppellaw27.MigrateKeeps'. -/
def migrateKeepsUptoCard : Claim7 := { stood := { row := migrateKeepsUptoRow, standIns := [], harness := (true, "a33d9919a3e02029747f97a36ab6905d560b5ab493a84df56e28734c59c5c2e4"), looks := false }, kinds := [], alts := [], laidByText := true, laidKinds := [.data, .data], laidTests := true, laidLooks := .later }
def MigrateKeepsUptoCardSaid : Prop := Claim7.holds Tryz.pinned (.plain (OpenSpec.upto migrateKeepsSpec)) migrateKeepsUptoCard

/-- THE SECOND FORM's CARD OF 'estoppellaw27.MigrateFails'. -/
def migrateFailsUptoCard : Claim7 := { stood := { row := migrateFailsUptoRow, standIns := [], harness := (true, "a33d9919a3e02029747f97a36ab6905d560b5ab493a84df56e28734c59c5c2e4"), looks := false }, kinds := [], alts := [], laidByText := true, laidKinds := [.data, .data], laidTests := true, laidLooks := .later }
def MigrateFailsUptoCardSaid : Prop := Claim7.holds Tryz.pinned (.plain (OpenSpec.upto migrateFailsSpec)) migrateFailsUptoCard

/-- THE SECOND FORM's CARD OF 'estoppellaw27.MigrateSpans'. -/
def migrateSpansUptoCard : Claim7 := { stood := { row := migrateSpansUptoRow, standIns := [], harness := (true, "a33d9919a3e02029747f97a36ab6905d560b5ab493a84df56e28734c59c5c2e4"), looks := false }, kinds := [], alts := [], laidByText := true, laidKinds := [.data, .data], laidTests := true, laidLooks := .later }
def MigrateSpansUptoCardSaid : Prop := Claim7.holds Tryz.pinned (.plain (OpenSpec.upto migrateSpansSpec)) migrateSpansUptoCard

/-- THE SECOND FORM's CARD OF 'estoppellaw27.MigrateStates'. -/
def migrateStatesUptoCard : Claim7 := { stood := { row := migrateStatesUptoRow, standIns := [], harness := (true, "a33d9919a3e02029747f97a36ab6905d560b5ab493a84df56e28734c59c5c2e4"), looks := false }, kinds := [], alts := [], laidByText := true, laidKinds := [.data, .data], laidTests := true, laidLooks := .later }
def MigrateStatesUptoCardSaid : Prop := Claim7.holds Tryz.pinned (.plain (OpenSpec.upto migrateStatesSpec)) migrateStatesUptoCard

/-- THE SECOND FORM's CARD OF 'estoppellaw27.MigrateNone'. -/
def migrateNoneUptoCard : Claim7 := { stood := { row := migrateNoneUptoRow, standIns := [], harness := (true, "a33d9919a3e02029747f97a36ab6905d560b5ab493a84df56e28734c59c5c2e4"), looks := false }, kinds := [], alts := [], laidByText := true, laidKinds := [.data, .data], laidTests := true, laidLooks := .later }
def MigrateNoneUptoCardSaid : Prop := Claim7.holds Tryz.pinned (.plain (OpenSpec.upto migrateNoneSpec)) migrateNoneUptoCard
end Rows
end Go.Proofs.YtfhmokhaegdddaaGreatDoor
