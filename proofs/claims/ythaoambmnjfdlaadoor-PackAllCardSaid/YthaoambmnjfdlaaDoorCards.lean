/-
  DERIVED. GIVEN WITH THE SEED: THE CARDS: each row of YthaoambmnjfdlaaDoorRows.lean that lists a variable, with what it lists TIED to the program's text (the seventh form; the later family's looks); each row that meets fmt, with fmt's text TOLD by the authors' own Lean function (tested against real Go, not proved from fmt's source: count such statements apart). THE CARD IS WHAT COUNTS. Prove the row's statement (the work); the ties are given (YthaoambmnjfdlaaDoorTie.lean); close each card by the builder's one call (the guide's Derived/Test/ToyasCard.lean, 'card_holds'). Laid BY PROGRAM, IN A SANDBOX (cutbox-door.mjs). By AI agents, Wed Nov 11 2026. No macro, syntax, notation, axiom, sorry.
-/
import Derived.Test.YthaoambmnjfdlaaDoorRows
import GoSem.ClaimSeven
namespace Go.Proofs.YthaoambmnjfdlaaDoor
namespace Rows

/-- THE TIED CARD OF 'swinglelaw26.PackTrims'. -/
def packTrimsCard : Claim7 := { stood := { row := packTrimsRow, standIns := [], harness := (true, "53ffed8332108d5279ac1a738619d8849d1f4bfe9383d88ea70bf2ab54a55741"), looks := true }, kinds := [], alts := [], laidByText := true, laidKinds := [.data, .data], laidTests := true, laidLooks := .later }
def PackTrimsCardSaid : Prop := Claim7.holds Tryd.pinned (.plain (OpenSpec.ofChange packTrimsSpec)) packTrimsCard

/-- THE TIED CARD OF 'swinglelaw26.PackKnown'. -/
def packKnownCard : Claim7 := { stood := { row := packKnownRow, standIns := [], harness := (true, "53ffed8332108d5279ac1a738619d8849d1f4bfe9383d88ea70bf2ab54a55741"), looks := true }, kinds := [], alts := [], laidByText := true, laidKinds := [.data, .data], laidTests := true, laidLooks := .later }
def PackKnownCardSaid : Prop := Claim7.holds Tryd.pinned (.plain (OpenSpec.ofChange packKnownSpec)) packKnownCard

/-- THE TIED CARD OF 'swinglelaw26.PackLost'. -/
def packLostCard : Claim7 := { stood := { row := packLostRow, standIns := [], harness := (true, "53ffed8332108d5279ac1a738619d8849d1f4bfe9383d88ea70bf2ab54a55741"), looks := true }, kinds := [], alts := [], laidByText := true, laidKinds := [.data, .data], laidTests := true, laidLooks := .later }
def PackLostCardSaid : Prop := Claim7.holds Tryd.pinned (.plain (OpenSpec.ofChange packLostSpec)) packLostCard

/-- THE TIED CARD OF 'swinglelaw26.PackAll'. -/
def packAllCard : Claim7 := { stood := { row := packAllRow, standIns := [], harness := (true, "53ffed8332108d5279ac1a738619d8849d1f4bfe9383d88ea70bf2ab54a55741"), looks := true }, kinds := [], alts := [], laidByText := true, laidKinds := [.data, .data], laidTests := true, laidLooks := .later }
def PackAllCardSaid : Prop := Claim7.holds Tryd.pinned (.plain (OpenSpec.ofChange packAllSpec)) packAllCard

/-- THE SECOND FORM's CARD OF 'swinglelaw26.PackTrims'. -/
def packTrimsUptoCard : Claim7 := { stood := { row := packTrimsUptoRow, standIns := [], harness := (true, "53ffed8332108d5279ac1a738619d8849d1f4bfe9383d88ea70bf2ab54a55741"), looks := true }, kinds := [], alts := [], laidByText := true, laidKinds := [.data, .data], laidTests := true, laidLooks := .later }
def PackTrimsUptoCardSaid : Prop := Claim7.holds Tryd.pinned (.plain (OpenSpec.upto packTrimsSpec)) packTrimsUptoCard

/-- THE SECOND FORM's CARD OF 'swinglelaw26.PackKnown'. -/
def packKnownUptoCard : Claim7 := { stood := { row := packKnownUptoRow, standIns := [], harness := (true, "53ffed8332108d5279ac1a738619d8849d1f4bfe9383d88ea70bf2ab54a55741"), looks := true }, kinds := [], alts := [], laidByText := true, laidKinds := [.data, .data], laidTests := true, laidLooks := .later }
def PackKnownUptoCardSaid : Prop := Claim7.holds Tryd.pinned (.plain (OpenSpec.upto packKnownSpec)) packKnownUptoCard

/-- THE SECOND FORM's CARD OF 'swinglelaw26.PackLost'. -/
def packLostUptoCard : Claim7 := { stood := { row := packLostUptoRow, standIns := [], harness := (true, "53ffed8332108d5279ac1a738619d8849d1f4bfe9383d88ea70bf2ab54a55741"), looks := true }, kinds := [], alts := [], laidByText := true, laidKinds := [.data, .data], laidTests := true, laidLooks := .later }
def PackLostUptoCardSaid : Prop := Claim7.holds Tryd.pinned (.plain (OpenSpec.upto packLostSpec)) packLostUptoCard

/-- THE SECOND FORM's CARD OF 'swinglelaw26.PackAll'. -/
def packAllUptoCard : Claim7 := { stood := { row := packAllUptoRow, standIns := [], harness := (true, "53ffed8332108d5279ac1a738619d8849d1f4bfe9383d88ea70bf2ab54a55741"), looks := true }, kinds := [], alts := [], laidByText := true, laidKinds := [.data, .data], laidTests := true, laidLooks := .later }
def PackAllUptoCardSaid : Prop := Claim7.holds Tryd.pinned (.plain (OpenSpec.upto packAllSpec)) packAllUptoCard
end Rows
end Go.Proofs.YthaoambmnjfdlaaDoor
