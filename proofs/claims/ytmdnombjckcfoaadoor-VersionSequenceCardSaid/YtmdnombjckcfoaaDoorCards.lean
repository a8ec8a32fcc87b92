/-
  DERIVED. GIVEN WITH THE SEED: THE CARDS: each row of YtmdnombjckcfoaaDoorRows.lean that lists a variable, with what it lists TIED to the program's text (the seventh form; the later family's looks); each row that meets fmt, with fmt's text TOLD by the authors' own Lean function (tested against real Go, not proved from fmt's source: count such statements apart). THE CARD IS WHAT COUNTS. Prove the row's statement (the work); the ties are given (YtmdnombjckcfoaaDoorTie.lean); close each card by the builder's one call (the guide's Derived/Test/ToyasCard.lean, 'card_holds'). Laid BY PROGRAM, IN A SANDBOX (cutbox-door.mjs). By AI agents, Wed Nov 11 2026. No macro, syntax, notation, axiom, sorry.
-/
import Derived.Test.YtmdnombjckcfoaaDoorRows
import GoSem.ClaimSeven
namespace Go.Proofs.YtmdnombjckcfoaaDoor
namespace Rows

/-- THE TIED CARD OF 'estoppellaw36.ProjectAll'. -/
def projectAllCard : Claim7 := { stood := { row := projectAllRow, standIns := [], harness := (true, "bc1b7c5aa80d0542b7f7f575eaf2cfecb59a603e0f07c310c126fd7811071603"), looks := false }, kinds := [], alts := [], laidByText := true, laidKinds := [.data, .data], laidTests := true, laidLooks := .later }
def ProjectAllCardSaid : Prop := Claim7.holds Tryd.pinned (.plain (OpenSpec.ofChange projectAllSpec)) projectAllCard

/-- THE TIED CARD OF 'estoppellaw36.ProjectBeginnings'. -/
def projectBeginningsCard : Claim7 := { stood := { row := projectBeginningsRow, standIns := [], harness := (true, "bc1b7c5aa80d0542b7f7f575eaf2cfecb59a603e0f07c310c126fd7811071603"), looks := false }, kinds := [], alts := [], laidByText := true, laidKinds := [.data, .data], laidTests := true, laidLooks := .later }
def ProjectBeginningsCardSaid : Prop := Claim7.holds Tryd.pinned (.plain (OpenSpec.ofChange projectBeginningsSpec)) projectBeginningsCard

/-- THE TIED CARD OF 'estoppellaw36.ProjectOwn'. -/
def projectOwnCard : Claim7 := { stood := { row := projectOwnRow, standIns := [], harness := (true, "bc1b7c5aa80d0542b7f7f575eaf2cfecb59a603e0f07c310c126fd7811071603"), looks := false }, kinds := [], alts := [], laidByText := true, laidKinds := [.data, .data], laidTests := true, laidLooks := .later }
def ProjectOwnCardSaid : Prop := Claim7.holds Tryd.pinned (.plain (OpenSpec.ofChange projectOwnSpec)) projectOwnCard

/-- THE TIED CARD OF 'estoppellaw36.ProjectPrivate'. -/
def projectPrivateCard : Claim7 := { stood := { row := projectPrivateRow, standIns := [], harness := (true, "bc1b7c5aa80d0542b7f7f575eaf2cfecb59a603e0f07c310c126fd7811071603"), looks := false }, kinds := [], alts := [], laidByText := true, laidKinds := [.data, .data], laidTests := true, laidLooks := .later }
def ProjectPrivateCardSaid : Prop := Claim7.holds Tryd.pinned (.plain (OpenSpec.ofChange projectPrivateSpec)) projectPrivateCard

/-- THE TIED CARD OF 'estoppellaw36.ProjectHidden'. -/
def projectHiddenCard : Claim7 := { stood := { row := projectHiddenRow, standIns := [], harness := (true, "bc1b7c5aa80d0542b7f7f575eaf2cfecb59a603e0f07c310c126fd7811071603"), looks := false }, kinds := [], alts := [], laidByText := true, laidKinds := [.data, .data], laidTests := true, laidLooks := .later }
def ProjectHiddenCardSaid : Prop := Claim7.holds Tryd.pinned (.plain (OpenSpec.ofChange projectHiddenSpec)) projectHiddenCard

/-- THE TIED CARD OF 'estoppellaw25.VersionOrders'. -/
def versionOrdersCard : Claim7 := { stood := { row := versionOrdersRow, standIns := [], harness := (true, "bc1b7c5aa80d0542b7f7f575eaf2cfecb59a603e0f07c310c126fd7811071603"), looks := false }, kinds := [], alts := [], laidByText := true, laidKinds := [.data, .data], laidTests := true, laidLooks := .later }
def VersionOrdersCardSaid : Prop := Claim7.holds Tryd.pinned (.plain (OpenSpec.ofChange versionOrdersSpec)) versionOrdersCard

/-- THE TIED CARD OF 'estoppellaw25.VersionSequence'. -/
def versionSequenceCard : Claim7 := { stood := { row := versionSequenceRow, standIns := [], harness := (true, "bc1b7c5aa80d0542b7f7f575eaf2cfecb59a603e0f07c310c126fd7811071603"), looks := false }, kinds := [], alts := [], laidByText := true, laidKinds := [.data, .data], laidTests := true, laidLooks := .later }
def VersionSequenceCardSaid : Prop := Claim7.holds Tryd.pinned (.plain (OpenSpec.ofChange versionSequenceSpec)) versionSequenceCard

/-- THE TIED CARD OF 'estoppellaw25.VersionCounts'. -/
def versionCountsCard : Claim7 := { stood := { row := versionCountsRow, standIns := [], harness := (true, "bc1b7c5aa80d0542b7f7f575eaf2cfecb59a603e0f07c310c126fd7811071603"), looks := false }, kinds := [], alts := [], laidByText := true, laidKinds := [.data, .data], laidTests := true, laidLooks := .later }
def VersionCountsCardSaid : Prop := Claim7.holds Tryd.pinned (.plain (OpenSpec.ofChange versionCountsSpec)) versionCountsCard

/-- THE TIED CARD OF 'estoppellaw25.VersionDays'. -/
def versionDaysCard : Claim7 := { stood := { row := versionDaysRow, standIns := [], harness := (true, "bc1b7c5aa80d0542b7f7f575eaf2cfecb59a603e0f07c310c126fd7811071603"), looks := false }, kinds := [], alts := [], laidByText := true, laidKinds := [.data, .data], laidTests := true, laidLooks := .later }
def VersionDaysCardSaid : Prop := Claim7.holds Tryd.pinned (.plain (OpenSpec.ofChange versionDaysSpec)) versionDaysCard

/-- THE TIED CARD OF 'estoppellaw25.VersionLeavesOut'. -/
def versionLeavesOutCard : Claim7 := { stood := { row := versionLeavesOutRow, standIns := [], harness := (true, "bc1b7c5aa80d0542b7f7f575eaf2cfecb59a603e0f07c310c126fd7811071603"), looks := false }, kinds := [], alts := [], laidByText := true, laidKinds := [.data, .data], laidTests := true, laidLooks := .later }
def VersionLeavesOutCardSaid : Prop := Claim7.holds Tryd.pinned (.plain (OpenSpec.ofChange versionLeavesOutSpec)) versionLeavesOutCard

/-- THE TIED CARD OF 'estoppellaw25.VersionChanges'. -/
def versionChangesCard : Claim7 := { stood := { row := versionChangesRow, standIns := [], harness := (true, "bc1b7c5aa80d0542b7f7f575eaf2cfecb59a603e0f07c310c126fd7811071603"), looks := false }, kinds := [], alts := [], laidByText := true, laidKinds := [.data, .data], laidTests := true, laidLooks := .later }
def VersionChangesCardSaid : Prop := Claim7.holds Tryd.pinned (.plain (OpenSpec.ofChange versionChangesSpec)) versionChangesCard

/-- THE SECOND FORM's CARD OF 'estoppellaw36.ProjectAll'. -/
def projectAllUptoCard : Claim7 := { stood := { row := projectAllUptoRow, standIns := [], harness := (true, "bc1b7c5aa80d0542b7f7f575eaf2cfecb59a603e0f07c310c126fd7811071603"), looks := false }, kinds := [], alts := [], laidByText := true, laidKinds := [.data, .data], laidTests := true, laidLooks := .later }
def ProjectAllUptoCardSaid : Prop := Claim7.holds Tryd.pinned (.plain (OpenSpec.upto projectAllSpec)) projectAllUptoCard

/-- THE SECOND FORM's CARD OF 'estoppellaw36.ProjectBeginnings'. -/
def projectBeginningsUptoCard : Claim7 := { stood := { row := projectBeginningsUptoRow, standIns := [], harness := (true, "bc1b7c5aa80d0542b7f7f575eaf2cfecb59a603e0f07c310c126fd7811071603"), looks := false }, kinds := [], alts := [], laidByText := true, laidKinds := [.data, .data], laidTests := true, laidLooks := .later }
def ProjectBeginningsUptoCardSaid : Prop := Claim7.holds Tryd.pinned (.plain (OpenSpec.upto projectBeginningsSpec)) projectBeginningsUptoCard

/-- THE SECOND FORM's CARD OF 'estoppellaw36.ProjectOwn'. -/
def projectOwnUptoCard : Claim7 := { stood := { row := projectOwnUptoRow, standIns := [], harness := (true, "bc1b7c5aa80d0542b7f7f575eaf2cfecb59a603e0f07c310c126fd7811071603"), looks := false }, kinds := [], alts := [], laidByText := true, laidKinds := [.data, .data], laidTests := true, laidLooks := .later }
def ProjectOwnUptoCardSaid : Prop := Claim7.holds Tryd.pinned (.plain (OpenSpec.upto projectOwnSpec)) projectOwnUptoCard

/-- THE SECOND FORM's CARD OF 'estoppellaw36.ProjectPrivate'. -/
def projectPrivateUptoCard : Claim7 := { stood := { row := projectPrivateUptoRow, standIns := [], harness := (true, "bc1b7c5aa80d0542b7f7f575eaf2cfecb59a603e0f07c310c126fd7811071603"), looks := false }, kinds := [], alts := [], laidByText := true, laidKinds := [.data, .data], laidTests := true, laidLooks := .later }
def ProjectPrivateUptoCardSaid : Prop := Claim7.holds Tryd.pinned (.plain (OpenSpec.upto projectPrivateSpec)) projectPrivateUptoCard

/-- THE SECOND FORM's CARD OF 'estoppellaw36.ProjectHidden'. -/
def projectHiddenUptoCard : Claim7 := { stood := { row := projectHiddenUptoRow, standIns := [], harness := (true, "bc1b7c5aa80d0542b7f7f575eaf2cfecb59a603e0f07c310c126fd7811071603"), looks := false }, kinds := [], alts := [], laidByText := true, laidKinds := [.data, .data], laidTests := true, laidLooks := .later }
def ProjectHiddenUptoCardSaid : Prop := Claim7.holds Tryd.pinned (.plain (OpenSpec.upto projectHiddenSpec)) projectHiddenUptoCard

/-- THE SECOND FORM's CARD OF 'estoppellaw25.VersionOrders'. -/
def versionOrdersUptoCard : Claim7 := { stood := { row := versionOrdersUptoRow, standIns := [], harness := (true, "bc1b7c5aa80d0542b7f7f575eaf2cfecb59a603e0f07c310c126fd7811071603"), looks := false }, kinds := [], alts := [], laidByText := true, laidKinds := [.data, .data], laidTests := true, laidLooks := .later }
def VersionOrdersUptoCardSaid : Prop := Claim7.holds Tryd.pinned (.plain (OpenSpec.upto versionOrdersSpec)) versionOrdersUptoCard

/-- THE SECOND FORM's CARD OF 'estoppellaw25.VersionSequence'. -/
def versionSequenceUptoCard : Claim7 := { stood := { row := versionSequenceUptoRow, standIns := [], harness := (true, "bc1b7c5aa80d0542b7f7f575eaf2cfecb59a603e0f07c310c126fd7811071603"), looks := false }, kinds := [], alts := [], laidByText := true, laidKinds := [.data, .data], laidTests := true, laidLooks := .later }
def VersionSequenceUptoCardSaid : Prop := Claim7.holds Tryd.pinned (.plain (OpenSpec.upto versionSequenceSpec)) versionSequenceUptoCard

/-- THE SECOND FORM's CARD OF 'estoppellaw25.VersionCounts'. -/
def versionCountsUptoCard : Claim7 := { stood := { row := versionCountsUptoRow, standIns := [], harness := (true, "bc1b7c5aa80d0542b7f7f575eaf2cfecb59a603e0f07c310c126fd7811071603"), looks := false }, kinds := [], alts := [], laidByText := true, laidKinds := [.data, .data], laidTests := true, laidLooks := .later }
def VersionCountsUptoCardSaid : Prop := Claim7.holds Tryd.pinned (.plain (OpenSpec.upto versionCountsSpec)) versionCountsUptoCard

/-- THE SECOND FORM's CARD OF 'estoppellaw25.VersionDays'. -/
def versionDaysUptoCard : Claim7 := { stood := { row := versionDaysUptoRow, standIns := [], harness := (true, "bc1b7c5aa80d0542b7f7f575eaf2cfecb59a603e0f07c310c126fd7811071603"), looks := false }, kinds := [], alts := [], laidByText := true, laidKinds := [.data, .data], laidTests := true, laidLooks := .later }
def VersionDaysUptoCardSaid : Prop := Claim7.holds Tryd.pinned (.plain (OpenSpec.upto versionDaysSpec)) versionDaysUptoCard

/-- THE SECOND FORM's CARD OF 'estoppellaw25.VersionLeavesOut'. -/
def versionLeavesOutUptoCard : Claim7 := { stood := { row := versionLeavesOutUptoRow, standIns := [], harness := (true, "bc1b7c5aa80d0542b7f7f575eaf2cfecb59a603e0f07c310c126fd7811071603"), looks := false }, kinds := [], alts := [], laidByText := true, laidKinds := [.data, .data], laidTests := true, laidLooks := .later }
def VersionLeavesOutUptoCardSaid : Prop := Claim7.holds Tryd.pinned (.plain (OpenSpec.upto versionLeavesOutSpec)) versionLeavesOutUptoCard

/-- THE SECOND FORM's CARD OF 'estoppellaw25.VersionChanges'. -/
def versionChangesUptoCard : Claim7 := { stood := { row := versionChangesUptoRow, standIns := [], harness := (true, "bc1b7c5aa80d0542b7f7f575eaf2cfecb59a603e0f07c310c126fd7811071603"), looks := false }, kinds := [], alts := [], laidByText := true, laidKinds := [.data, .data], laidTests := true, laidLooks := .later }
def VersionChangesUptoCardSaid : Prop := Claim7.holds Tryd.pinned (.plain (OpenSpec.upto versionChangesSpec)) versionChangesUptoCard
end Rows
end Go.Proofs.YtmdnombjckcfoaaDoor
