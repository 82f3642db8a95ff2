/-
  DERIVED. GIVEN WITH THE SEED: THE CARDS: each row of YtbdagmhndndliaaDoorRows.lean that lists a variable, with what it lists TIED to the program's text (the seventh form; the later family's looks); each row that meets fmt, with fmt's text TOLD by the authors' own Lean function (tested against real Go, not proved from fmt's source: count such statements apart). THE CARD IS WHAT COUNTS. Prove the row's statement (the work); the ties are given (YtbdagmhndndliaaDoorTie.lean); close each card by the builder's one call (the guide's Derived/Test/ToyasCard.lean, 'card_holds'). Laid BY PROGRAM, IN A SANDBOX (cutbox-door.mjs). By AI agents, Wed Nov 11 2026. No macro, syntax, notation, axiom, sorry.
-/
import Derived.Test.YtbdagmhndndliaaDoorRows
import GoSem.ClaimSeven
namespace Go.Proofs.YtbdagmhndndliaaDoor
namespace Rows

/-- THE TIED CARD OF 'swinglelaw18.TableDerives'. -/
def tableDerivesCard : Claim7 := { stood := { row := tableDerivesRow, standIns := [], harness := (true, "b152ce6729516c5109647f78999469888ef266b4e7bd555cd753e9cdd7ecb9c5"), looks := true }, kinds := [], alts := [], laidByText := true, laidKinds := [.data], laidTests := true, laidLooks := .later }
def TableDerivesCardSaid : Prop := Claim7.holds Tryd.pinned (.plain (OpenSpec.ofChange tableDerivesSpec)) tableDerivesCard

/-- THE TIED CARD OF 'swinglelaw18.TableVerifies'. -/
def tableVerifiesCard : Claim7 := { stood := { row := tableVerifiesRow, standIns := [], harness := (true, "b152ce6729516c5109647f78999469888ef266b4e7bd555cd753e9cdd7ecb9c5"), looks := true }, kinds := [], alts := [], laidByText := true, laidKinds := [.data], laidTests := true, laidLooks := .later }
def TableVerifiesCardSaid : Prop := Claim7.holds Tryd.pinned (.plain (OpenSpec.ofChange tableVerifiesSpec)) tableVerifiesCard

/-- THE TIED CARD OF 'swinglelaw18.TableAnswers'. -/
def tableAnswersCard : Claim7 := { stood := { row := tableAnswersRow, standIns := [], harness := (true, "b152ce6729516c5109647f78999469888ef266b4e7bd555cd753e9cdd7ecb9c5"), looks := true }, kinds := [], alts := [], laidByText := true, laidKinds := [.data], laidTests := true, laidLooks := .later }
def TableAnswersCardSaid : Prop := Claim7.holds Tryd.pinned (.plain (OpenSpec.ofChange tableAnswersSpec)) tableAnswersCard

/-- THE TIED CARD OF 'swinglelaw18.TableStables'. -/
def tableStablesCard : Claim7 := { stood := { row := tableStablesRow, standIns := [], harness := (true, "b152ce6729516c5109647f78999469888ef266b4e7bd555cd753e9cdd7ecb9c5"), looks := true }, kinds := [], alts := [], laidByText := true, laidKinds := [.data], laidTests := true, laidLooks := .later }
def TableStablesCardSaid : Prop := Claim7.holds Tryd.pinned (.plain (OpenSpec.ofChange tableStablesSpec)) tableStablesCard

/-- THE TIED CARD OF 'swinglelaw18.TableHangs'. -/
def tableHangsCard : Claim7 := { stood := { row := tableHangsRow, standIns := [], harness := (true, "b152ce6729516c5109647f78999469888ef266b4e7bd555cd753e9cdd7ecb9c5"), looks := true }, kinds := [], alts := [], laidByText := true, laidKinds := [.data], laidTests := true, laidLooks := .later }
def TableHangsCardSaid : Prop := Claim7.holds Tryd.pinned (.plain (OpenSpec.ofChange tableHangsSpec)) tableHangsCard

/-- THE TIED CARD OF 'swinglelaw18.TableModels'. -/
def tableModelsCard : Claim7 := { stood := { row := tableModelsRow, standIns := [], harness := (true, "b152ce6729516c5109647f78999469888ef266b4e7bd555cd753e9cdd7ecb9c5"), looks := true }, kinds := [], alts := [], laidByText := true, laidKinds := [.data], laidTests := true, laidLooks := .later }
def TableModelsCardSaid : Prop := Claim7.holds Tryd.pinned (.plain (OpenSpec.ofChange tableModelsSpec)) tableModelsCard

/-- THE TIED CARD OF 'swinglelaw18.TableModular'. -/
def tableModularCard : Claim7 := { stood := { row := tableModularRow, standIns := [], harness := (true, "b152ce6729516c5109647f78999469888ef266b4e7bd555cd753e9cdd7ecb9c5"), looks := true }, kinds := [], alts := [], laidByText := true, laidKinds := [.data], laidTests := true, laidLooks := .later }
def TableModularCardSaid : Prop := Claim7.holds Tryd.pinned (.plain (OpenSpec.ofChange tableModularSpec)) tableModularCard

/-- THE TIED CARD OF 'swinglelaw18.TableKnown'. -/
def tableKnownCard : Claim7 := { stood := { row := tableKnownRow, standIns := [], harness := (true, "b152ce6729516c5109647f78999469888ef266b4e7bd555cd753e9cdd7ecb9c5"), looks := true }, kinds := [], alts := [], laidByText := true, laidKinds := [.data], laidTests := true, laidLooks := .later }
def TableKnownCardSaid : Prop := Claim7.holds Tryd.pinned (.plain (OpenSpec.ofChange tableKnownSpec)) tableKnownCard

/-- THE TIED CARD OF 'swinglelaw18.TableAny'. -/
def tableAnyCard : Claim7 := { stood := { row := tableAnyRow, standIns := [], harness := (true, "b152ce6729516c5109647f78999469888ef266b4e7bd555cd753e9cdd7ecb9c5"), looks := true }, kinds := [], alts := [], laidByText := true, laidKinds := [.data], laidTests := true, laidLooks := .later }
def TableAnyCardSaid : Prop := Claim7.holds Tryd.pinned (.plain (OpenSpec.ofChange tableAnySpec)) tableAnyCard

/-- THE TIED CARD OF 'swinglelaw18.TableSound'. -/
def tableSoundCard : Claim7 := { stood := { row := tableSoundRow, standIns := [], harness := (true, "b152ce6729516c5109647f78999469888ef266b4e7bd555cd753e9cdd7ecb9c5"), looks := true }, kinds := [], alts := [], laidByText := true, laidKinds := [.data], laidTests := true, laidLooks := .later }
def TableSoundCardSaid : Prop := Claim7.holds Tryd.pinned (.plain (OpenSpec.ofChange tableSoundSpec)) tableSoundCard

/-- THE TIED CARD OF 'swinglelaw18.TableComponents'. -/
def tableComponentsCard : Claim7 := { stood := { row := tableComponentsRow, standIns := [], harness := (true, "b152ce6729516c5109647f78999469888ef266b4e7bd555cd753e9cdd7ecb9c5"), looks := true }, kinds := [], alts := [], laidByText := true, laidKinds := [.data], laidTests := true, laidLooks := .later }
def TableComponentsCardSaid : Prop := Claim7.holds Tryd.pinned (.plain (OpenSpec.ofChange tableComponentsSpec)) tableComponentsCard

/-- THE SECOND FORM's CARD OF 'swinglelaw18.TableDerives'. -/
def tableDerivesUptoCard : Claim7 := { stood := { row := tableDerivesUptoRow, standIns := [], harness := (true, "b152ce6729516c5109647f78999469888ef266b4e7bd555cd753e9cdd7ecb9c5"), looks := true }, kinds := [], alts := [], laidByText := true, laidKinds := [.data], laidTests := true, laidLooks := .later }
def TableDerivesUptoCardSaid : Prop := Claim7.holds Tryd.pinned (.plain (OpenSpec.upto tableDerivesSpec)) tableDerivesUptoCard

/-- THE SECOND FORM's CARD OF 'swinglelaw18.TableVerifies'. -/
def tableVerifiesUptoCard : Claim7 := { stood := { row := tableVerifiesUptoRow, standIns := [], harness := (true, "b152ce6729516c5109647f78999469888ef266b4e7bd555cd753e9cdd7ecb9c5"), looks := true }, kinds := [], alts := [], laidByText := true, laidKinds := [.data], laidTests := true, laidLooks := .later }
def TableVerifiesUptoCardSaid : Prop := Claim7.holds Tryd.pinned (.plain (OpenSpec.upto tableVerifiesSpec)) tableVerifiesUptoCard

/-- THE SECOND FORM's CARD OF 'swinglelaw18.TableAnswers'. -/
def tableAnswersUptoCard : Claim7 := { stood := { row := tableAnswersUptoRow, standIns := [], harness := (true, "b152ce6729516c5109647f78999469888ef266b4e7bd555cd753e9cdd7ecb9c5"), looks := true }, kinds := [], alts := [], laidByText := true, laidKinds := [.data], laidTests := true, laidLooks := .later }
def TableAnswersUptoCardSaid : Prop := Claim7.holds Tryd.pinned (.plain (OpenSpec.upto tableAnswersSpec)) tableAnswersUptoCard

/-- THE SECOND FORM's CARD OF 'swinglelaw18.TableStables'. -/
def tableStablesUptoCard : Claim7 := { stood := { row := tableStablesUptoRow, standIns := [], harness := (true, "b152ce6729516c5109647f78999469888ef266b4e7bd555cd753e9cdd7ecb9c5"), looks := true }, kinds := [], alts := [], laidByText := true, laidKinds := [.data], laidTests := true, laidLooks := .later }
def TableStablesUptoCardSaid : Prop := Claim7.holds Tryd.pinned (.plain (OpenSpec.upto tableStablesSpec)) tableStablesUptoCard

/-- THE SECOND FORM's CARD OF 'swinglelaw18.TableHangs'. -/
def tableHangsUptoCard : Claim7 := { stood := { row := tableHangsUptoRow, standIns := [], harness := (true, "b152ce6729516c5109647f78999469888ef266b4e7bd555cd753e9cdd7ecb9c5"), looks := true }, kinds := [], alts := [], laidByText := true, laidKinds := [.data], laidTests := true, laidLooks := .later }
def TableHangsUptoCardSaid : Prop := Claim7.holds Tryd.pinned (.plain (OpenSpec.upto tableHangsSpec)) tableHangsUptoCard

/-- THE SECOND FORM's CARD OF 'swinglelaw18.TableModels'. -/
def tableModelsUptoCard : Claim7 := { stood := { row := tableModelsUptoRow, standIns := [], harness := (true, "b152ce6729516c5109647f78999469888ef266b4e7bd555cd753e9cdd7ecb9c5"), looks := true }, kinds := [], alts := [], laidByText := true, laidKinds := [.data], laidTests := true, laidLooks := .later }
def TableModelsUptoCardSaid : Prop := Claim7.holds Tryd.pinned (.plain (OpenSpec.upto tableModelsSpec)) tableModelsUptoCard

/-- THE SECOND FORM's CARD OF 'swinglelaw18.TableModular'. -/
def tableModularUptoCard : Claim7 := { stood := { row := tableModularUptoRow, standIns := [], harness := (true, "b152ce6729516c5109647f78999469888ef266b4e7bd555cd753e9cdd7ecb9c5"), looks := true }, kinds := [], alts := [], laidByText := true, laidKinds := [.data], laidTests := true, laidLooks := .later }
def TableModularUptoCardSaid : Prop := Claim7.holds Tryd.pinned (.plain (OpenSpec.upto tableModularSpec)) tableModularUptoCard

/-- THE SECOND FORM's CARD OF 'swinglelaw18.TableKnown'. -/
def tableKnownUptoCard : Claim7 := { stood := { row := tableKnownUptoRow, standIns := [], harness := (true, "b152ce6729516c5109647f78999469888ef266b4e7bd555cd753e9cdd7ecb9c5"), looks := true }, kinds := [], alts := [], laidByText := true, laidKinds := [.data], laidTests := true, laidLooks := .later }
def TableKnownUptoCardSaid : Prop := Claim7.holds Tryd.pinned (.plain (OpenSpec.upto tableKnownSpec)) tableKnownUptoCard

/-- THE SECOND FORM's CARD OF 'swinglelaw18.TableAny'. -/
def tableAnyUptoCard : Claim7 := { stood := { row := tableAnyUptoRow, standIns := [], harness := (true, "b152ce6729516c5109647f78999469888ef266b4e7bd555cd753e9cdd7ecb9c5"), looks := true }, kinds := [], alts := [], laidByText := true, laidKinds := [.data], laidTests := true, laidLooks := .later }
def TableAnyUptoCardSaid : Prop := Claim7.holds Tryd.pinned (.plain (OpenSpec.upto tableAnySpec)) tableAnyUptoCard

/-- THE SECOND FORM's CARD OF 'swinglelaw18.TableSound'. -/
def tableSoundUptoCard : Claim7 := { stood := { row := tableSoundUptoRow, standIns := [], harness := (true, "b152ce6729516c5109647f78999469888ef266b4e7bd555cd753e9cdd7ecb9c5"), looks := true }, kinds := [], alts := [], laidByText := true, laidKinds := [.data], laidTests := true, laidLooks := .later }
def TableSoundUptoCardSaid : Prop := Claim7.holds Tryd.pinned (.plain (OpenSpec.upto tableSoundSpec)) tableSoundUptoCard

/-- THE SECOND FORM's CARD OF 'swinglelaw18.TableComponents'. -/
def tableComponentsUptoCard : Claim7 := { stood := { row := tableComponentsUptoRow, standIns := [], harness := (true, "b152ce6729516c5109647f78999469888ef266b4e7bd555cd753e9cdd7ecb9c5"), looks := true }, kinds := [], alts := [], laidByText := true, laidKinds := [.data], laidTests := true, laidLooks := .later }
def TableComponentsUptoCardSaid : Prop := Claim7.holds Tryd.pinned (.plain (OpenSpec.upto tableComponentsSpec)) tableComponentsUptoCard
end Rows
end Go.Proofs.YtbdagmhndndliaaDoor
