/-
  NARROWER THAN 'FOR EVERY INPUT', by the rows' own cells (each row's printed sentence says how): SystemStates: laid · SystemNoReturn: laid · SystemStarts: laid · SystemBreach: laid · SystemActs: laid · SystemTicks: laid.
  DERIVED. THE GIVEN ROWS OF THIS SEAT. 6 by the template 'for every input the law returns true; each argument reads behind the call as it read before'; 0 by the template 'total and deterministic' (their statements: YtamkehdhddfeaaaDoorTotals.lean).
  GIVEN WITH THE SEED: the statements are not yours to turn. If you find one false, say at which input.
  Laid BY PROGRAM, IN A SANDBOX (cutbox-rows.mjs): the forced cells as the released guide's own fill.sh prints them over the translation e5cf83ec4511a6fe… (all of the seat's roots in one cut). By AI agents, Wed Nov 11 2026. No macro, syntax, notation, axiom, sorry.
-/
import Derived.Test.YtamkehdhddfeaaaDoorChecked
import GoSem.Claim
import GoSem.ClaimJoined
import GoSem.ClaimMapViews
import Derived.JoinedTies
import Derived.KernelRfl
namespace Go.Proofs.YtamkehdhddfeaaaDoor
/- THE CELL 'sum', in the pinned program and in every row, IS THE sha256 OF THE DUMP (.gsa) THAT YtamkehdhddfeaaaDoorProg.lean LOADS. Nothing in Lean hashes anything: it is a label: what it is worth is what the hold of that sum in a sandbox is worth. -/
noncomputable def Tryd.pinned : Pinned := { name := "ytamkehdhddfeaaadoor", sum := "e5cf83ec4511a6fef4191fbfe2a99e33ad0889e2f90dd0579a3ad0b0ebd7e850", checked := Tryd.checked }
namespace Rows
def none {H : Type} : Left H := { results := [], args := [] }

/- WHAT THE LISTED PACKAGE-LEVEL VARIABLES READ AS WHEN THE CALL BEGINS. Each datum BY PROGRAM (the guide's laid-datum.mjs) off the statement by which the dump's own 'gosem.cut.vars' lays the variable. In a bare row this is a premise. The card (YtamkehdhddfeaaaDoorCards.lean) ties it to the program's text. -/
def laid_estoppel_quantity_whole {H : Type} : DataW H := .agg [.lit (.int .i64 1), .lit (.int .i64 1)]
def laid_estoppel_contract_none {H : Type} : DataW H := .agg [.lit (.int .i64 0), .lit (.int .i64 1)]

/-- 'estoppellaw15.SystemStates': WHATEVER THE INPUT: true; the input reads as it did. -/
def systemStatesSpec : ChangeSpec := { name := "systemStates", fn := fun _ => fun
  | [d1, d2, d3] => { results := [.lit (.bool true)], args := [d1, d2, d3] }
  | _ => none }
def systemStatesRow : OpenClaim := { program := "ytamkehdhddfeaaadoor", sum := "e5cf83ec4511a6fef4191fbfe2a99e33ad0889e2f90dd0579a3ad0b0ebd7e850", func := "estoppel/estoppellaw15.SystemStates", spec := "systemStates", unfollowed := true, recurses := true, named := ["estoppel/quantity.whole", "estoppel/contract.none"], apart := false, laid := [("estoppel/quantity.whole", laid_estoppel_quantity_whole), ("estoppel/contract.none", laid_estoppel_contract_none)] }
def SystemStatesSaid : Prop := systemStatesRow.holds Tryd.pinned (OpenSpec.ofChange systemStatesSpec)

/-- ITS FALSE NEIGHBOUR: 'it returns false'. Refute it at one input. -/
def systemStatesWrong : ChangeSpec := { name := "systemStates", fn := fun _ => fun
  | [d1, d2, d3] => { results := [.lit (.bool false)], args := [d1, d2, d3] }
  | _ => none }
def SystemStatesWrongFalsely : Prop := systemStatesRow.holds Tryd.pinned (OpenSpec.ofChange systemStatesWrong)

/-- 'estoppellaw15.SystemNoReturn': WHATEVER THE INPUT: true; the input reads as it did. -/
def systemNoReturnSpec : ChangeSpec := { name := "systemNoReturn", fn := fun _ => fun
  | [d1, d2, d3] => { results := [.lit (.bool true)], args := [d1, d2, d3] }
  | _ => none }
def systemNoReturnRow : OpenClaim := { program := "ytamkehdhddfeaaadoor", sum := "e5cf83ec4511a6fef4191fbfe2a99e33ad0889e2f90dd0579a3ad0b0ebd7e850", func := "estoppel/estoppellaw15.SystemNoReturn", spec := "systemNoReturn", unfollowed := true, recurses := true, named := ["estoppel/quantity.whole", "estoppel/contract.none"], apart := false, laid := [("estoppel/quantity.whole", laid_estoppel_quantity_whole), ("estoppel/contract.none", laid_estoppel_contract_none)] }
def SystemNoReturnSaid : Prop := systemNoReturnRow.holds Tryd.pinned (OpenSpec.ofChange systemNoReturnSpec)

/-- ITS FALSE NEIGHBOUR: 'it returns false'. Refute it at one input. -/
def systemNoReturnWrong : ChangeSpec := { name := "systemNoReturn", fn := fun _ => fun
  | [d1, d2, d3] => { results := [.lit (.bool false)], args := [d1, d2, d3] }
  | _ => none }
def SystemNoReturnWrongFalsely : Prop := systemNoReturnRow.holds Tryd.pinned (OpenSpec.ofChange systemNoReturnWrong)

/-- 'estoppellaw15.SystemStarts': WHATEVER THE INPUT: true; the input reads as it did. -/
def systemStartsSpec : ChangeSpec := { name := "systemStarts", fn := fun _ => fun
  | [d1, d2, d3] => { results := [.lit (.bool true)], args := [d1, d2, d3] }
  | _ => none }
def systemStartsRow : OpenClaim := { program := "ytamkehdhddfeaaadoor", sum := "e5cf83ec4511a6fef4191fbfe2a99e33ad0889e2f90dd0579a3ad0b0ebd7e850", func := "estoppel/estoppellaw15.SystemStarts", spec := "systemStarts", unfollowed := true, recurses := true, named := ["estoppel/quantity.whole", "estoppel/contract.none"], apart := false, laid := [("estoppel/quantity.whole", laid_estoppel_quantity_whole), ("estoppel/contract.none", laid_estoppel_contract_none)] }
def SystemStartsSaid : Prop := systemStartsRow.holds Tryd.pinned (OpenSpec.ofChange systemStartsSpec)

/-- ITS FALSE NEIGHBOUR: 'it returns false'. Refute it at one input. -/
def systemStartsWrong : ChangeSpec := { name := "systemStarts", fn := fun _ => fun
  | [d1, d2, d3] => { results := [.lit (.bool false)], args := [d1, d2, d3] }
  | _ => none }
def SystemStartsWrongFalsely : Prop := systemStartsRow.holds Tryd.pinned (OpenSpec.ofChange systemStartsWrong)

/-- 'estoppellaw15.SystemBreach': WHATEVER THE INPUT: true; the input reads as it did. -/
def systemBreachSpec : ChangeSpec := { name := "systemBreach", fn := fun _ => fun
  | [d1, d2, d3, d4] => { results := [.lit (.bool true)], args := [d1, d2, d3, d4] }
  | _ => none }
def systemBreachRow : OpenClaim := { program := "ytamkehdhddfeaaadoor", sum := "e5cf83ec4511a6fef4191fbfe2a99e33ad0889e2f90dd0579a3ad0b0ebd7e850", func := "estoppel/estoppellaw15.SystemBreach", spec := "systemBreach", unfollowed := true, recurses := true, named := ["estoppel/quantity.whole", "estoppel/contract.none"], apart := false, laid := [("estoppel/quantity.whole", laid_estoppel_quantity_whole), ("estoppel/contract.none", laid_estoppel_contract_none)] }
def SystemBreachSaid : Prop := systemBreachRow.holds Tryd.pinned (OpenSpec.ofChange systemBreachSpec)

/-- ITS FALSE NEIGHBOUR: 'it returns false'. Refute it at one input. -/
def systemBreachWrong : ChangeSpec := { name := "systemBreach", fn := fun _ => fun
  | [d1, d2, d3, d4] => { results := [.lit (.bool false)], args := [d1, d2, d3, d4] }
  | _ => none }
def SystemBreachWrongFalsely : Prop := systemBreachRow.holds Tryd.pinned (OpenSpec.ofChange systemBreachWrong)

/-- 'estoppellaw15.SystemActs': WHATEVER THE INPUT: true; the input reads as it did. -/
def systemActsSpec : ChangeSpec := { name := "systemActs", fn := fun _ => fun
  | [d1, d2, d3] => { results := [.lit (.bool true)], args := [d1, d2, d3] }
  | _ => none }
def systemActsRow : OpenClaim := { program := "ytamkehdhddfeaaadoor", sum := "e5cf83ec4511a6fef4191fbfe2a99e33ad0889e2f90dd0579a3ad0b0ebd7e850", func := "estoppel/estoppellaw15.SystemActs", spec := "systemActs", unfollowed := true, recurses := true, named := ["estoppel/quantity.whole", "estoppel/contract.none"], apart := false, laid := [("estoppel/quantity.whole", laid_estoppel_quantity_whole), ("estoppel/contract.none", laid_estoppel_contract_none)] }
def SystemActsSaid : Prop := systemActsRow.holds Tryd.pinned (OpenSpec.ofChange systemActsSpec)

/-- ITS FALSE NEIGHBOUR: 'it returns false'. Refute it at one input. -/
def systemActsWrong : ChangeSpec := { name := "systemActs", fn := fun _ => fun
  | [d1, d2, d3] => { results := [.lit (.bool false)], args := [d1, d2, d3] }
  | _ => none }
def SystemActsWrongFalsely : Prop := systemActsRow.holds Tryd.pinned (OpenSpec.ofChange systemActsWrong)

/-- 'estoppellaw15.SystemTicks': WHATEVER THE INPUT: true; the input reads as it did. -/
def systemTicksSpec : ChangeSpec := { name := "systemTicks", fn := fun _ => fun
  | [d1, d2] => { results := [.lit (.bool true)], args := [d1, d2] }
  | _ => none }
def systemTicksRow : OpenClaim := { program := "ytamkehdhddfeaaadoor", sum := "e5cf83ec4511a6fef4191fbfe2a99e33ad0889e2f90dd0579a3ad0b0ebd7e850", func := "estoppel/estoppellaw15.SystemTicks", spec := "systemTicks", unfollowed := true, recurses := true, named := ["estoppel/quantity.whole", "estoppel/contract.none"], apart := false, laid := [("estoppel/quantity.whole", laid_estoppel_quantity_whole), ("estoppel/contract.none", laid_estoppel_contract_none)] }
def SystemTicksSaid : Prop := systemTicksRow.holds Tryd.pinned (OpenSpec.ofChange systemTicksSpec)

/-- ITS FALSE NEIGHBOUR: 'it returns false'. Refute it at one input. -/
def systemTicksWrong : ChangeSpec := { name := "systemTicks", fn := fun _ => fun
  | [d1, d2] => { results := [.lit (.bool false)], args := [d1, d2] }
  | _ => none }
def SystemTicksWrongFalsely : Prop := systemTicksRow.holds Tryd.pinned (OpenSpec.ofChange systemTicksWrong)

/- THE SECOND FORM. 'bulk': how many values and letters a reading holds, each counted each time it is reached (what is shared counts as often as it is met; a slice's spare places count too). A statement '..UptoSaid' is the law's where the arguments, and the package variables that the reading takes, are together of bulk at most 1048576: NARROWER than '..Said'. Prove '..Said' where nothing that the law and all that it calls make is longer than what came in: it says more and counts as full. Else prove '..UptoSaid'. A law counts once. -/
mutual
def uptoBulk {H : Type} : DataW H → Nat
  | .lit (.string bytes) => bytes.length + 1
  | .lit _ => 1
  | .nil => 1
  | .ptr d => uptoBulk d + 1
  | .slice elems spare => uptoBulkAll elems + uptoBulkAll spare + 1
  | .agg parts => uptoBulkAll parts + 1
  | .iface _ d => uptoBulk d + 1
  | .map entries => uptoBulkEntries entries + 1
  | .held _ => 1
def uptoBulkAll {H : Type} : List (DataW H) → Nat
  | [] => 0
  | d :: r => uptoBulk d + uptoBulkAll r
def uptoBulkEntries {H : Type} : List (Lit × DataW H) → Nat
  | [] => 0
  | x :: r => uptoBulkEntry x + uptoBulkEntries r
def uptoBulkEntry {H : Type} : Lit × DataW H → Nat
  | (.string bytes, d) => bytes.length + uptoBulk d + 1
  | (_, d) => uptoBulk d + 1
 end
def uptoSmall : (H : Type) → List (DataW H) → Bool := fun _ ds => decide (uptoBulkAll ds ≤ 1048576)
def OpenSpec.upto (s : _root_.Go.ChangeSpec) : _root_.Go.OpenSpec := { _root_.Go.OpenSpec.ofChange s with cond := some uptoSmall }

/-- 'estoppellaw15.SystemStates', WHERE WHAT IT READS IS OF BULK AT MOST 1048576: true; the input reads as it did. -/
def systemStatesUptoRow : OpenClaim := { program := "ytamkehdhddfeaaadoor", sum := "e5cf83ec4511a6fef4191fbfe2a99e33ad0889e2f90dd0579a3ad0b0ebd7e850", func := "estoppel/estoppellaw15.SystemStates", spec := "systemStates", unfollowed := true, recurses := true, named := ["estoppel/quantity.whole", "estoppel/contract.none"], apart := false, laid := [("estoppel/quantity.whole", laid_estoppel_quantity_whole), ("estoppel/contract.none", laid_estoppel_contract_none)], narrowed := true }
def SystemStatesUptoSaid : Prop := systemStatesUptoRow.holds Tryd.pinned (OpenSpec.upto systemStatesSpec)

/-- 'estoppellaw15.SystemNoReturn', WHERE WHAT IT READS IS OF BULK AT MOST 1048576: true; the input reads as it did. -/
def systemNoReturnUptoRow : OpenClaim := { program := "ytamkehdhddfeaaadoor", sum := "e5cf83ec4511a6fef4191fbfe2a99e33ad0889e2f90dd0579a3ad0b0ebd7e850", func := "estoppel/estoppellaw15.SystemNoReturn", spec := "systemNoReturn", unfollowed := true, recurses := true, named := ["estoppel/quantity.whole", "estoppel/contract.none"], apart := false, laid := [("estoppel/quantity.whole", laid_estoppel_quantity_whole), ("estoppel/contract.none", laid_estoppel_contract_none)], narrowed := true }
def SystemNoReturnUptoSaid : Prop := systemNoReturnUptoRow.holds Tryd.pinned (OpenSpec.upto systemNoReturnSpec)

/-- 'estoppellaw15.SystemStarts', WHERE WHAT IT READS IS OF BULK AT MOST 1048576: true; the input reads as it did. -/
def systemStartsUptoRow : OpenClaim := { program := "ytamkehdhddfeaaadoor", sum := "e5cf83ec4511a6fef4191fbfe2a99e33ad0889e2f90dd0579a3ad0b0ebd7e850", func := "estoppel/estoppellaw15.SystemStarts", spec := "systemStarts", unfollowed := true, recurses := true, named := ["estoppel/quantity.whole", "estoppel/contract.none"], apart := false, laid := [("estoppel/quantity.whole", laid_estoppel_quantity_whole), ("estoppel/contract.none", laid_estoppel_contract_none)], narrowed := true }
def SystemStartsUptoSaid : Prop := systemStartsUptoRow.holds Tryd.pinned (OpenSpec.upto systemStartsSpec)

/-- 'estoppellaw15.SystemBreach', WHERE WHAT IT READS IS OF BULK AT MOST 1048576: true; the input reads as it did. -/
def systemBreachUptoRow : OpenClaim := { program := "ytamkehdhddfeaaadoor", sum := "e5cf83ec4511a6fef4191fbfe2a99e33ad0889e2f90dd0579a3ad0b0ebd7e850", func := "estoppel/estoppellaw15.SystemBreach", spec := "systemBreach", unfollowed := true, recurses := true, named := ["estoppel/quantity.whole", "estoppel/contract.none"], apart := false, laid := [("estoppel/quantity.whole", laid_estoppel_quantity_whole), ("estoppel/contract.none", laid_estoppel_contract_none)], narrowed := true }
def SystemBreachUptoSaid : Prop := systemBreachUptoRow.holds Tryd.pinned (OpenSpec.upto systemBreachSpec)

/-- 'estoppellaw15.SystemActs', WHERE WHAT IT READS IS OF BULK AT MOST 1048576: true; the input reads as it did. -/
def systemActsUptoRow : OpenClaim := { program := "ytamkehdhddfeaaadoor", sum := "e5cf83ec4511a6fef4191fbfe2a99e33ad0889e2f90dd0579a3ad0b0ebd7e850", func := "estoppel/estoppellaw15.SystemActs", spec := "systemActs", unfollowed := true, recurses := true, named := ["estoppel/quantity.whole", "estoppel/contract.none"], apart := false, laid := [("estoppel/quantity.whole", laid_estoppel_quantity_whole), ("estoppel/contract.none", laid_estoppel_contract_none)], narrowed := true }
def SystemActsUptoSaid : Prop := systemActsUptoRow.holds Tryd.pinned (OpenSpec.upto systemActsSpec)

/-- 'estoppellaw15.SystemTicks', WHERE WHAT IT READS IS OF BULK AT MOST 1048576: true; the input reads as it did. -/
def systemTicksUptoRow : OpenClaim := { program := "ytamkehdhddfeaaadoor", sum := "e5cf83ec4511a6fef4191fbfe2a99e33ad0889e2f90dd0579a3ad0b0ebd7e850", func := "estoppel/estoppellaw15.SystemTicks", spec := "systemTicks", unfollowed := true, recurses := true, named := ["estoppel/quantity.whole", "estoppel/contract.none"], apart := false, laid := [("estoppel/quantity.whole", laid_estoppel_quantity_whole), ("estoppel/contract.none", laid_estoppel_contract_none)], narrowed := true }
def SystemTicksUptoSaid : Prop := systemTicksUptoRow.holds Tryd.pinned (OpenSpec.upto systemTicksSpec)

end Rows
end Go.Proofs.YtamkehdhddfeaaaDoor
