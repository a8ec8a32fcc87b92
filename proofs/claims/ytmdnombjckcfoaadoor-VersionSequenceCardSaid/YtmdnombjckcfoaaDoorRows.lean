/-
  NARROWER THAN 'FOR EVERY INPUT', by the rows' own cells (each row's printed sentence says how): ProjectAll: laid · ProjectBeginnings: laid · ProjectOwn: laid · ProjectPrivate: laid · ProjectHidden: laid · VersionOrders: laid · VersionSequence: laid · VersionCounts: laid · VersionDays: laid · VersionLeavesOut: laid · VersionChanges: laid.
  DERIVED. THE GIVEN ROWS OF THIS SEAT. 11 by the template 'for every input the law returns true; each argument reads behind the call as it read before'; 0 by the template 'total and deterministic' (their statements: YtmdnombjckcfoaaDoorTotals.lean).
  GIVEN WITH THE SEED: the statements are not yours to turn. If you find one false, say at which input.
  Laid BY PROGRAM, IN A SANDBOX (cutbox-rows.mjs): the forced cells as the released guide's own fill.sh prints them over the translation 0b9fa4e35cbba785… (all of the seat's roots in one cut). By AI agents, Wed Nov 11 2026. No macro, syntax, notation, axiom, sorry.
-/
import Derived.Test.YtmdnombjckcfoaaDoorChecked
import GoSem.Claim
import GoSem.ClaimJoined
import GoSem.ClaimMapViews
import Derived.JoinedTies
import Derived.KernelRfl
namespace Go.Proofs.YtmdnombjckcfoaaDoor
/- THE CELL 'sum', in the pinned program and in every row, IS THE sha256 OF THE DUMP (.gsa) THAT YtmdnombjckcfoaaDoorProg.lean LOADS. Nothing in Lean hashes anything: it is a label: what it is worth is what the hold of that sum in a sandbox is worth. -/
noncomputable def Tryd.pinned : Pinned := { name := "ytmdnombjckcfoaadoor", sum := "0b9fa4e35cbba785a871d16c078fd9a7f14a9b91a622b4e70fbc17ee3bbce6af", checked := Tryd.checked }
namespace Rows
def none {H : Type} : Left H := { results := [], args := [] }

/- WHAT THE LISTED PACKAGE-LEVEL VARIABLES READ AS WHEN THE CALL BEGINS. Each datum BY PROGRAM (the guide's laid-datum.mjs) off the statement by which the dump's own 'gosem.cut.vars' lays the variable. In a bare row this is a premise. The card (YtmdnombjckcfoaaDoorCards.lean) ties it to the program's text. -/
def laid_estoppel_quantity_whole {H : Type} : DataW H := .agg [.lit (.int .i64 1), .lit (.int .i64 1)]
def laid_estoppel_contract_none {H : Type} : DataW H := .agg [.lit (.int .i64 0), .lit (.int .i64 1)]

/-- 'estoppellaw36.ProjectAll': WHATEVER THE INPUT: true; the input reads as it did. -/
def projectAllSpec : ChangeSpec := { name := "projectAll", fn := fun _ => fun
  | [d1, d2, d3] => { results := [.lit (.bool true)], args := [d1, d2, d3] }
  | _ => none }
def projectAllRow : OpenClaim := { program := "ytmdnombjckcfoaadoor", sum := "0b9fa4e35cbba785a871d16c078fd9a7f14a9b91a622b4e70fbc17ee3bbce6af", func := "estoppel/estoppellaw36.ProjectAll", spec := "projectAll", unfollowed := true, recurses := true, named := ["estoppel/quantity.whole", "estoppel/contract.none"], apart := false, laid := [("estoppel/quantity.whole", laid_estoppel_quantity_whole), ("estoppel/contract.none", laid_estoppel_contract_none)] }
def ProjectAllSaid : Prop := projectAllRow.holds Tryd.pinned (OpenSpec.ofChange projectAllSpec)

/-- ITS FALSE NEIGHBOUR: 'it returns false'. Refute it at one input. -/
def projectAllWrong : ChangeSpec := { name := "projectAll", fn := fun _ => fun
  | [d1, d2, d3] => { results := [.lit (.bool false)], args := [d1, d2, d3] }
  | _ => none }
def ProjectAllWrongFalsely : Prop := projectAllRow.holds Tryd.pinned (OpenSpec.ofChange projectAllWrong)

/-- 'estoppellaw36.ProjectBeginnings': WHATEVER THE INPUT: true; the input reads as it did. -/
def projectBeginningsSpec : ChangeSpec := { name := "projectBeginnings", fn := fun _ => fun
  | [d1, d2, d3, d4] => { results := [.lit (.bool true)], args := [d1, d2, d3, d4] }
  | _ => none }
def projectBeginningsRow : OpenClaim := { program := "ytmdnombjckcfoaadoor", sum := "0b9fa4e35cbba785a871d16c078fd9a7f14a9b91a622b4e70fbc17ee3bbce6af", func := "estoppel/estoppellaw36.ProjectBeginnings", spec := "projectBeginnings", unfollowed := true, recurses := true, named := ["estoppel/quantity.whole", "estoppel/contract.none"], apart := false, laid := [("estoppel/quantity.whole", laid_estoppel_quantity_whole), ("estoppel/contract.none", laid_estoppel_contract_none)] }
def ProjectBeginningsSaid : Prop := projectBeginningsRow.holds Tryd.pinned (OpenSpec.ofChange projectBeginningsSpec)

/-- ITS FALSE NEIGHBOUR: 'it returns false'. Refute it at one input. -/
def projectBeginningsWrong : ChangeSpec := { name := "projectBeginnings", fn := fun _ => fun
  | [d1, d2, d3, d4] => { results := [.lit (.bool false)], args := [d1, d2, d3, d4] }
  | _ => none }
def ProjectBeginningsWrongFalsely : Prop := projectBeginningsRow.holds Tryd.pinned (OpenSpec.ofChange projectBeginningsWrong)

/-- 'estoppellaw36.ProjectOwn': WHATEVER THE INPUT: true; the input reads as it did. -/
def projectOwnSpec : ChangeSpec := { name := "projectOwn", fn := fun _ => fun
  | [d1, d2, d3] => { results := [.lit (.bool true)], args := [d1, d2, d3] }
  | _ => none }
def projectOwnRow : OpenClaim := { program := "ytmdnombjckcfoaadoor", sum := "0b9fa4e35cbba785a871d16c078fd9a7f14a9b91a622b4e70fbc17ee3bbce6af", func := "estoppel/estoppellaw36.ProjectOwn", spec := "projectOwn", unfollowed := true, recurses := true, named := ["estoppel/quantity.whole", "estoppel/contract.none"], apart := false, laid := [("estoppel/quantity.whole", laid_estoppel_quantity_whole), ("estoppel/contract.none", laid_estoppel_contract_none)] }
def ProjectOwnSaid : Prop := projectOwnRow.holds Tryd.pinned (OpenSpec.ofChange projectOwnSpec)

/-- ITS FALSE NEIGHBOUR: 'it returns false'. Refute it at one input. -/
def projectOwnWrong : ChangeSpec := { name := "projectOwn", fn := fun _ => fun
  | [d1, d2, d3] => { results := [.lit (.bool false)], args := [d1, d2, d3] }
  | _ => none }
def ProjectOwnWrongFalsely : Prop := projectOwnRow.holds Tryd.pinned (OpenSpec.ofChange projectOwnWrong)

/-- 'estoppellaw36.ProjectPrivate': WHATEVER THE INPUT: true; the input reads as it did. -/
def projectPrivateSpec : ChangeSpec := { name := "projectPrivate", fn := fun _ => fun
  | [d1, d2, d3, d4] => { results := [.lit (.bool true)], args := [d1, d2, d3, d4] }
  | _ => none }
def projectPrivateRow : OpenClaim := { program := "ytmdnombjckcfoaadoor", sum := "0b9fa4e35cbba785a871d16c078fd9a7f14a9b91a622b4e70fbc17ee3bbce6af", func := "estoppel/estoppellaw36.ProjectPrivate", spec := "projectPrivate", unfollowed := true, recurses := true, named := ["estoppel/quantity.whole", "estoppel/contract.none"], apart := false, laid := [("estoppel/quantity.whole", laid_estoppel_quantity_whole), ("estoppel/contract.none", laid_estoppel_contract_none)] }
def ProjectPrivateSaid : Prop := projectPrivateRow.holds Tryd.pinned (OpenSpec.ofChange projectPrivateSpec)

/-- ITS FALSE NEIGHBOUR: 'it returns false'. Refute it at one input. -/
def projectPrivateWrong : ChangeSpec := { name := "projectPrivate", fn := fun _ => fun
  | [d1, d2, d3, d4] => { results := [.lit (.bool false)], args := [d1, d2, d3, d4] }
  | _ => none }
def ProjectPrivateWrongFalsely : Prop := projectPrivateRow.holds Tryd.pinned (OpenSpec.ofChange projectPrivateWrong)

/-- 'estoppellaw36.ProjectHidden': WHATEVER THE INPUT: true; the input reads as it did. -/
def projectHiddenSpec : ChangeSpec := { name := "projectHidden", fn := fun _ => fun
  | [d1, d2, d3, d4, d5] => { results := [.lit (.bool true)], args := [d1, d2, d3, d4, d5] }
  | _ => none }
def projectHiddenRow : OpenClaim := { program := "ytmdnombjckcfoaadoor", sum := "0b9fa4e35cbba785a871d16c078fd9a7f14a9b91a622b4e70fbc17ee3bbce6af", func := "estoppel/estoppellaw36.ProjectHidden", spec := "projectHidden", unfollowed := true, recurses := true, named := ["estoppel/quantity.whole", "estoppel/contract.none"], apart := false, laid := [("estoppel/quantity.whole", laid_estoppel_quantity_whole), ("estoppel/contract.none", laid_estoppel_contract_none)] }
def ProjectHiddenSaid : Prop := projectHiddenRow.holds Tryd.pinned (OpenSpec.ofChange projectHiddenSpec)

/-- ITS FALSE NEIGHBOUR: 'it returns false'. Refute it at one input. -/
def projectHiddenWrong : ChangeSpec := { name := "projectHidden", fn := fun _ => fun
  | [d1, d2, d3, d4, d5] => { results := [.lit (.bool false)], args := [d1, d2, d3, d4, d5] }
  | _ => none }
def ProjectHiddenWrongFalsely : Prop := projectHiddenRow.holds Tryd.pinned (OpenSpec.ofChange projectHiddenWrong)

/-- 'estoppellaw25.VersionOrders': WHATEVER THE INPUT: true; the input reads as it did. -/
def versionOrdersSpec : ChangeSpec := { name := "versionOrders", fn := fun _ => fun
  | [d] => { results := [.lit (.bool true)], args := [d] }
  | _ => none }
def versionOrdersRow : OpenClaim := { program := "ytmdnombjckcfoaadoor", sum := "0b9fa4e35cbba785a871d16c078fd9a7f14a9b91a622b4e70fbc17ee3bbce6af", func := "estoppel/estoppellaw25.VersionOrders", spec := "versionOrders", unfollowed := true, recurses := true, named := ["estoppel/quantity.whole", "estoppel/contract.none"], apart := false, laid := [("estoppel/quantity.whole", laid_estoppel_quantity_whole), ("estoppel/contract.none", laid_estoppel_contract_none)] }
def VersionOrdersSaid : Prop := versionOrdersRow.holds Tryd.pinned (OpenSpec.ofChange versionOrdersSpec)

/-- ITS FALSE NEIGHBOUR: 'it returns false'. Refute it at one input. -/
def versionOrdersWrong : ChangeSpec := { name := "versionOrders", fn := fun _ => fun
  | [d] => { results := [.lit (.bool false)], args := [d] }
  | _ => none }
def VersionOrdersWrongFalsely : Prop := versionOrdersRow.holds Tryd.pinned (OpenSpec.ofChange versionOrdersWrong)

/-- 'estoppellaw25.VersionSequence': WHATEVER THE INPUT: true; the input reads as it did. -/
def versionSequenceSpec : ChangeSpec := { name := "versionSequence", fn := fun _ => fun
  | [d1, d2, d3, d4, d5] => { results := [.lit (.bool true)], args := [d1, d2, d3, d4, d5] }
  | _ => none }
def versionSequenceRow : OpenClaim := { program := "ytmdnombjckcfoaadoor", sum := "0b9fa4e35cbba785a871d16c078fd9a7f14a9b91a622b4e70fbc17ee3bbce6af", func := "estoppel/estoppellaw25.VersionSequence", spec := "versionSequence", unfollowed := true, recurses := true, named := ["estoppel/quantity.whole", "estoppel/contract.none"], apart := false, laid := [("estoppel/quantity.whole", laid_estoppel_quantity_whole), ("estoppel/contract.none", laid_estoppel_contract_none)] }
def VersionSequenceSaid : Prop := versionSequenceRow.holds Tryd.pinned (OpenSpec.ofChange versionSequenceSpec)

/-- ITS FALSE NEIGHBOUR: 'it returns false'. Refute it at one input. -/
def versionSequenceWrong : ChangeSpec := { name := "versionSequence", fn := fun _ => fun
  | [d1, d2, d3, d4, d5] => { results := [.lit (.bool false)], args := [d1, d2, d3, d4, d5] }
  | _ => none }
def VersionSequenceWrongFalsely : Prop := versionSequenceRow.holds Tryd.pinned (OpenSpec.ofChange versionSequenceWrong)

/-- 'estoppellaw25.VersionCounts': WHATEVER THE INPUT: true; the input reads as it did. -/
def versionCountsSpec : ChangeSpec := { name := "versionCounts", fn := fun _ => fun
  | [d1, d2, d3, d4] => { results := [.lit (.bool true)], args := [d1, d2, d3, d4] }
  | _ => none }
def versionCountsRow : OpenClaim := { program := "ytmdnombjckcfoaadoor", sum := "0b9fa4e35cbba785a871d16c078fd9a7f14a9b91a622b4e70fbc17ee3bbce6af", func := "estoppel/estoppellaw25.VersionCounts", spec := "versionCounts", unfollowed := true, recurses := true, named := ["estoppel/quantity.whole", "estoppel/contract.none"], apart := false, laid := [("estoppel/quantity.whole", laid_estoppel_quantity_whole), ("estoppel/contract.none", laid_estoppel_contract_none)] }
def VersionCountsSaid : Prop := versionCountsRow.holds Tryd.pinned (OpenSpec.ofChange versionCountsSpec)

/-- ITS FALSE NEIGHBOUR: 'it returns false'. Refute it at one input. -/
def versionCountsWrong : ChangeSpec := { name := "versionCounts", fn := fun _ => fun
  | [d1, d2, d3, d4] => { results := [.lit (.bool false)], args := [d1, d2, d3, d4] }
  | _ => none }
def VersionCountsWrongFalsely : Prop := versionCountsRow.holds Tryd.pinned (OpenSpec.ofChange versionCountsWrong)

/-- 'estoppellaw25.VersionDays': WHATEVER THE INPUT: true; the input reads as it did. -/
def versionDaysSpec : ChangeSpec := { name := "versionDays", fn := fun _ => fun
  | [d1, d2, d3, d4, d5] => { results := [.lit (.bool true)], args := [d1, d2, d3, d4, d5] }
  | _ => none }
def versionDaysRow : OpenClaim := { program := "ytmdnombjckcfoaadoor", sum := "0b9fa4e35cbba785a871d16c078fd9a7f14a9b91a622b4e70fbc17ee3bbce6af", func := "estoppel/estoppellaw25.VersionDays", spec := "versionDays", unfollowed := true, recurses := true, named := ["estoppel/quantity.whole", "estoppel/contract.none"], apart := false, laid := [("estoppel/quantity.whole", laid_estoppel_quantity_whole), ("estoppel/contract.none", laid_estoppel_contract_none)] }
def VersionDaysSaid : Prop := versionDaysRow.holds Tryd.pinned (OpenSpec.ofChange versionDaysSpec)

/-- ITS FALSE NEIGHBOUR: 'it returns false'. Refute it at one input. -/
def versionDaysWrong : ChangeSpec := { name := "versionDays", fn := fun _ => fun
  | [d1, d2, d3, d4, d5] => { results := [.lit (.bool false)], args := [d1, d2, d3, d4, d5] }
  | _ => none }
def VersionDaysWrongFalsely : Prop := versionDaysRow.holds Tryd.pinned (OpenSpec.ofChange versionDaysWrong)

/-- 'estoppellaw25.VersionLeavesOut': WHATEVER THE INPUT: true; the input reads as it did. -/
def versionLeavesOutSpec : ChangeSpec := { name := "versionLeavesOut", fn := fun _ => fun
  | [d1, d2, d3, d4] => { results := [.lit (.bool true)], args := [d1, d2, d3, d4] }
  | _ => none }
def versionLeavesOutRow : OpenClaim := { program := "ytmdnombjckcfoaadoor", sum := "0b9fa4e35cbba785a871d16c078fd9a7f14a9b91a622b4e70fbc17ee3bbce6af", func := "estoppel/estoppellaw25.VersionLeavesOut", spec := "versionLeavesOut", unfollowed := true, recurses := true, named := ["estoppel/quantity.whole", "estoppel/contract.none"], apart := false, laid := [("estoppel/quantity.whole", laid_estoppel_quantity_whole), ("estoppel/contract.none", laid_estoppel_contract_none)] }
def VersionLeavesOutSaid : Prop := versionLeavesOutRow.holds Tryd.pinned (OpenSpec.ofChange versionLeavesOutSpec)

/-- ITS FALSE NEIGHBOUR: 'it returns false'. Refute it at one input. -/
def versionLeavesOutWrong : ChangeSpec := { name := "versionLeavesOut", fn := fun _ => fun
  | [d1, d2, d3, d4] => { results := [.lit (.bool false)], args := [d1, d2, d3, d4] }
  | _ => none }
def VersionLeavesOutWrongFalsely : Prop := versionLeavesOutRow.holds Tryd.pinned (OpenSpec.ofChange versionLeavesOutWrong)

/-- 'estoppellaw25.VersionChanges': WHATEVER THE INPUT: true; the input reads as it did. -/
def versionChangesSpec : ChangeSpec := { name := "versionChanges", fn := fun _ => fun
  | [d1, d2, d3, d4] => { results := [.lit (.bool true)], args := [d1, d2, d3, d4] }
  | _ => none }
def versionChangesRow : OpenClaim := { program := "ytmdnombjckcfoaadoor", sum := "0b9fa4e35cbba785a871d16c078fd9a7f14a9b91a622b4e70fbc17ee3bbce6af", func := "estoppel/estoppellaw25.VersionChanges", spec := "versionChanges", unfollowed := true, recurses := true, named := ["estoppel/quantity.whole", "estoppel/contract.none"], apart := false, laid := [("estoppel/quantity.whole", laid_estoppel_quantity_whole), ("estoppel/contract.none", laid_estoppel_contract_none)] }
def VersionChangesSaid : Prop := versionChangesRow.holds Tryd.pinned (OpenSpec.ofChange versionChangesSpec)

/-- ITS FALSE NEIGHBOUR: 'it returns false'. Refute it at one input. -/
def versionChangesWrong : ChangeSpec := { name := "versionChanges", fn := fun _ => fun
  | [d1, d2, d3, d4] => { results := [.lit (.bool false)], args := [d1, d2, d3, d4] }
  | _ => none }
def VersionChangesWrongFalsely : Prop := versionChangesRow.holds Tryd.pinned (OpenSpec.ofChange versionChangesWrong)

/- THE SECOND FORM. 'bulk': how many values and letters a reading holds, each counted each time it is reached (what is shared counts as often as it is met; a slice's spare places count too). A statement '..UptoSaid' is the law's where the arguments, and the package variables that the reading takes, are together of bulk at most 1048576: NARROWER than '..Said'. Prove '..Said' where nothing that the law and all that it calls make is longer than what came in: it says more and counts as full. Else prove '..UptoSaid'. A law counts once. -/
mutual
def uptoBulk {H : Type} : DataW H → Nat
  | .lit (.string bytes) => bytes.length + 1
  | .lit _ => 1
  | .nil => 1
  | .ptr d => uptoBulk d + 1
  | .slice elems spare => uptoBulkAll elems + uptoBulkAll spare + 1
  | .agg parts => uptoBulkAll parts + 1
  | .iface _ d => uptoBulk d + 1
  | .map entries => uptoBulkEntries entries + 1
  | .held _ => 1
def uptoBulkAll {H : Type} : List (DataW H) → Nat
  | [] => 0
  | d :: r => uptoBulk d + uptoBulkAll r
def uptoBulkEntries {H : Type} : List (Lit × DataW H) → Nat
  | [] => 0
  | x :: r => uptoBulkEntry x + uptoBulkEntries r
def uptoBulkEntry {H : Type} : Lit × DataW H → Nat
  | (.string bytes, d) => bytes.length + uptoBulk d + 1
  | (_, d) => uptoBulk d + 1
 end
def uptoSmall : (H : Type) → List (DataW H) → Bool := fun _ ds => decide (uptoBulkAll ds ≤ 1048576)
def OpenSpec.upto (s : _root_.Go.ChangeSpec) : _root_.Go.OpenSpec := { _root_.Go.OpenSpec.ofChange s with cond := some uptoSmall }

/-- 'estoppellaw36.ProjectAll', WHERE WHAT IT READS IS OF BULK AT MOST 1048576: true; the input reads as it did. -/
def projectAllUptoRow : OpenClaim := { program := "ytmdnombjckcfoaadoor", sum := "0b9fa4e35cbba785a871d16c078fd9a7f14a9b91a622b4e70fbc17ee3bbce6af", func := "estoppel/estoppellaw36.ProjectAll", spec := "projectAll", unfollowed := true, recurses := true, named := ["estoppel/quantity.whole", "estoppel/contract.none"], apart := false, laid := [("estoppel/quantity.whole", laid_estoppel_quantity_whole), ("estoppel/contract.none", laid_estoppel_contract_none)], narrowed := true }
def ProjectAllUptoSaid : Prop := projectAllUptoRow.holds Tryd.pinned (OpenSpec.upto projectAllSpec)

/-- 'estoppellaw36.ProjectBeginnings', WHERE WHAT IT READS IS OF BULK AT MOST 1048576: true; the input reads as it did. -/
def projectBeginningsUptoRow : OpenClaim := { program := "ytmdnombjckcfoaadoor", sum := "0b9fa4e35cbba785a871d16c078fd9a7f14a9b91a622b4e70fbc17ee3bbce6af", func := "estoppel/estoppellaw36.ProjectBeginnings", spec := "projectBeginnings", unfollowed := true, recurses := true, named := ["estoppel/quantity.whole", "estoppel/contract.none"], apart := false, laid := [("estoppel/quantity.whole", laid_estoppel_quantity_whole), ("estoppel/contract.none", laid_estoppel_contract_none)], narrowed := true }
def ProjectBeginningsUptoSaid : Prop := projectBeginningsUptoRow.holds Tryd.pinned (OpenSpec.upto projectBeginningsSpec)

/-- 'estoppellaw36.ProjectOwn', WHERE WHAT IT READS IS OF BULK AT MOST 1048576: true; the input reads as it did. -/
def projectOwnUptoRow : OpenClaim := { program := "ytmdnombjckcfoaadoor", sum := "0b9fa4e35cbba785a871d16c078fd9a7f14a9b91a622b4e70fbc17ee3bbce6af", func := "estoppel/estoppellaw36.ProjectOwn", spec := "projectOwn", unfollowed := true, recurses := true, named := ["estoppel/quantity.whole", "estoppel/contract.none"], apart := false, laid := [("estoppel/quantity.whole", laid_estoppel_quantity_whole), ("estoppel/contract.none", laid_estoppel_contract_none)], narrowed := true }
def ProjectOwnUptoSaid : Prop := projectOwnUptoRow.holds Tryd.pinned (OpenSpec.upto projectOwnSpec)

/-- 'estoppellaw36.ProjectPrivate', WHERE WHAT IT READS IS OF BULK AT MOST 1048576: true; the input reads as it did. -/
def projectPrivateUptoRow : OpenClaim := { program := "ytmdnombjckcfoaadoor", sum := "0b9fa4e35cbba785a871d16c078fd9a7f14a9b91a622b4e70fbc17ee3bbce6af", func := "estoppel/estoppellaw36.ProjectPrivate", spec := "projectPrivate", unfollowed := true, recurses := true, named := ["estoppel/quantity.whole", "estoppel/contract.none"], apart := false, laid := [("estoppel/quantity.whole", laid_estoppel_quantity_whole), ("estoppel/contract.none", laid_estoppel_contract_none)], narrowed := true }
def ProjectPrivateUptoSaid : Prop := projectPrivateUptoRow.holds Tryd.pinned (OpenSpec.upto projectPrivateSpec)

/-- 'estoppellaw36.ProjectHidden', WHERE WHAT IT READS IS OF BULK AT MOST 1048576: true; the input reads as it did. -/
def projectHiddenUptoRow : OpenClaim := { program := "ytmdnombjckcfoaadoor", sum := "0b9fa4e35cbba785a871d16c078fd9a7f14a9b91a622b4e70fbc17ee3bbce6af", func := "estoppel/estoppellaw36.ProjectHidden", spec := "projectHidden", unfollowed := true, recurses := true, named := ["estoppel/quantity.whole", "estoppel/contract.none"], apart := false, laid := [("estoppel/quantity.whole", laid_estoppel_quantity_whole), ("estoppel/contract.none", laid_estoppel_contract_none)], narrowed := true }
def ProjectHiddenUptoSaid : Prop := projectHiddenUptoRow.holds Tryd.pinned (OpenSpec.upto projectHiddenSpec)

/-- 'estoppellaw25.VersionOrders', WHERE WHAT IT READS IS OF BULK AT MOST 1048576: true; the input reads as it did. -/
def versionOrdersUptoRow : OpenClaim := { program := "ytmdnombjckcfoaadoor", sum := "0b9fa4e35cbba785a871d16c078fd9a7f14a9b91a622b4e70fbc17ee3bbce6af", func := "estoppel/estoppellaw25.VersionOrders", spec := "versionOrders", unfollowed := true, recurses := true, named := ["estoppel/quantity.whole", "estoppel/contract.none"], apart := false, laid := [("estoppel/quantity.whole", laid_estoppel_quantity_whole), ("estoppel/contract.none", laid_estoppel_contract_none)], narrowed := true }
def VersionOrdersUptoSaid : Prop := versionOrdersUptoRow.holds Tryd.pinned (OpenSpec.upto versionOrdersSpec)

/-- 'estoppellaw25.VersionSequence', WHERE WHAT IT READS IS OF BULK AT MOST 1048576: true; the input reads as it did. -/
def versionSequenceUptoRow : OpenClaim := { program := "ytmdnombjckcfoaadoor", sum := "0b9fa4e35cbba785a871d16c078fd9a7f14a9b91a622b4e70fbc17ee3bbce6af", func := "estoppel/estoppellaw25.VersionSequence", spec := "versionSequence", unfollowed := true, recurses := true, named := ["estoppel/quantity.whole", "estoppel/contract.none"], apart := false, laid := [("estoppel/quantity.whole", laid_estoppel_quantity_whole), ("estoppel/contract.none", laid_estoppel_contract_none)], narrowed := true }
def VersionSequenceUptoSaid : Prop := versionSequenceUptoRow.holds Tryd.pinned (OpenSpec.upto versionSequenceSpec)

/-- 'estoppellaw25.VersionCounts', WHERE WHAT IT READS IS OF BULK AT MOST 1048576: true; the input reads as it did. -/
def versionCountsUptoRow : OpenClaim := { program := "ytmdnombjckcfoaadoor", sum := "0b9fa4e35cbba785a871d16c078fd9a7f14a9b91a622b4e70fbc17ee3bbce6af", func := "estoppel/estoppellaw25.VersionCounts", spec := "versionCounts", unfollowed := true, recurses := true, named := ["estoppel/quantity.whole", "estoppel/contract.none"], apart := false, laid := [("estoppel/quantity.whole", laid_estoppel_quantity_whole), ("estoppel/contract.none", laid_estoppel_contract_none)], narrowed := true }
def VersionCountsUptoSaid : Prop := versionCountsUptoRow.holds Tryd.pinned (OpenSpec.upto versionCountsSpec)

/-- 'estoppellaw25.VersionDays', WHERE WHAT IT READS IS OF BULK AT MOST 1048576: true; the input reads as it did. -/
def versionDaysUptoRow : OpenClaim := { program := "ytmdnombjckcfoaadoor", sum := "0b9fa4e35cbba785a871d16c078fd9a7f14a9b91a622b4e70fbc17ee3bbce6af", func := "estoppel/estoppellaw25.VersionDays", spec := "versionDays", unfollowed := true, recurses := true, named := ["estoppel/quantity.whole", "estoppel/contract.none"], apart := false, laid := [("estoppel/quantity.whole", laid_estoppel_quantity_whole), ("estoppel/contract.none", laid_estoppel_contract_none)], narrowed := true }
def VersionDaysUptoSaid : Prop := versionDaysUptoRow.holds Tryd.pinned (OpenSpec.upto versionDaysSpec)

/-- 'estoppellaw25.VersionLeavesOut', WHERE WHAT IT READS IS OF BULK AT MOST 1048576: true; the input reads as it did. -/
def versionLeavesOutUptoRow : OpenClaim := { program := "ytmdnombjckcfoaadoor", sum := "0b9fa4e35cbba785a871d16c078fd9a7f14a9b91a622b4e70fbc17ee3bbce6af", func := "estoppel/estoppellaw25.VersionLeavesOut", spec := "versionLeavesOut", unfollowed := true, recurses := true, named := ["estoppel/quantity.whole", "estoppel/contract.none"], apart := false, laid := [("estoppel/quantity.whole", laid_estoppel_quantity_whole), ("estoppel/contract.none", laid_estoppel_contract_none)], narrowed := true }
def VersionLeavesOutUptoSaid : Prop := versionLeavesOutUptoRow.holds Tryd.pinned (OpenSpec.upto versionLeavesOutSpec)

/-- 'estoppellaw25.VersionChanges', WHERE WHAT IT READS IS OF BULK AT MOST 1048576: true; the input reads as it did. -/
def versionChangesUptoRow : OpenClaim := { program := "ytmdnombjckcfoaadoor", sum := "0b9fa4e35cbba785a871d16c078fd9a7f14a9b91a622b4e70fbc17ee3bbce6af", func := "estoppel/estoppellaw25.VersionChanges", spec := "versionChanges", unfollowed := true, recurses := true, named := ["estoppel/quantity.whole", "estoppel/contract.none"], apart := false, laid := [("estoppel/quantity.whole", laid_estoppel_quantity_whole), ("estoppel/contract.none", laid_estoppel_contract_none)], narrowed := true }
def VersionChangesUptoSaid : Prop := versionChangesUptoRow.holds Tryd.pinned (OpenSpec.upto versionChangesSpec)

end Rows
end Go.Proofs.YtmdnombjckcfoaaDoor
