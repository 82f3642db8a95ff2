/-
  NARROWER THAN 'FOR EVERY INPUT', by the rows' own cells (each row's printed sentence says how): TableDerives: laid · TableVerifies: laid · TableAnswers: laid · TableStables: laid · TableHangs: laid · TableModels: laid · TableModular: laid · TableKnown: laid · TableAny: laid · TableSound: laid · TableComponents: laid.
  DERIVED. THE GIVEN ROWS OF THIS SEAT. 11 by the template 'for every input the law returns true; each argument reads behind the call as it read before'; 0 by the template 'total and deterministic' (their statements: YtbdagmhndndliaaDoorTotals.lean).
  GIVEN WITH THE SEED: the statements are not yours to turn. If you find one false, say at which input.
  Laid BY PROGRAM, IN A SANDBOX (cutbox-rows.mjs): the forced cells as the released guide's own fill.sh prints them over the translation 70c67b50d4d27d7d… (all of the seat's roots in one cut). By AI agents, Wed Nov 11 2026. No macro, syntax, notation, axiom, sorry.
-/
import Derived.Test.YtbdagmhndndliaaDoorChecked
import GoSem.Claim
import GoSem.ClaimJoined
import GoSem.ClaimMapViews
import Derived.JoinedTies
import Derived.KernelRfl
namespace Go.Proofs.YtbdagmhndndliaaDoor
/- THE CELL 'sum', in the pinned program and in every row, IS THE sha256 OF THE DUMP (.gsa) THAT YtbdagmhndndliaaDoorProg.lean LOADS. Nothing in Lean hashes anything: it is a label: what it is worth is what the hold of that sum in a sandbox is worth. -/
noncomputable def Tryd.pinned : Pinned := { name := "ytbdagmhndndliaadoor", sum := "70c67b50d4d27d7d8ac8d8436c21cd7a64fab3ef365d2c62af39eba046d6263b", checked := Tryd.checked }
namespace Rows
def none {H : Type} : Left H := { results := [], args := [] }

/- WHAT THE LISTED PACKAGE-LEVEL VARIABLES READ AS WHEN THE CALL BEGINS. Each datum BY PROGRAM (the guide's laid-datum.mjs) off the statement by which the dump's own 'gosem.cut.vars' lays the variable. In a bare row this is a premise. The card (YtbdagmhndndliaaDoorCards.lean) ties it to the program's text. -/
def laid_math_bits_deBruijn64tab {H : Type} : DataW H := .agg [.lit (.int .u8 0), .lit (.int .u8 1), .lit (.int .u8 56), .lit (.int .u8 2), .lit (.int .u8 57), .lit (.int .u8 49), .lit (.int .u8 28), .lit (.int .u8 3), .lit (.int .u8 61), .lit (.int .u8 58), .lit (.int .u8 42), .lit (.int .u8 50), .lit (.int .u8 38), .lit (.int .u8 29), .lit (.int .u8 17), .lit (.int .u8 4), .lit (.int .u8 62), .lit (.int .u8 47), .lit (.int .u8 59), .lit (.int .u8 36), .lit (.int .u8 45), .lit (.int .u8 43), .lit (.int .u8 51), .lit (.int .u8 22), .lit (.int .u8 53), .lit (.int .u8 39), .lit (.int .u8 33), .lit (.int .u8 30), .lit (.int .u8 24), .lit (.int .u8 18), .lit (.int .u8 12), .lit (.int .u8 5), .lit (.int .u8 63), .lit (.int .u8 55), .lit (.int .u8 48), .lit (.int .u8 27), .lit (.int .u8 60), .lit (.int .u8 41), .lit (.int .u8 37), .lit (.int .u8 16), .lit (.int .u8 46), .lit (.int .u8 35), .lit (.int .u8 44), .lit (.int .u8 21), .lit (.int .u8 52), .lit (.int .u8 32), .lit (.int .u8 23), .lit (.int .u8 11), .lit (.int .u8 54), .lit (.int .u8 26), .lit (.int .u8 40), .lit (.int .u8 15), .lit (.int .u8 34), .lit (.int .u8 20), .lit (.int .u8 31), .lit (.int .u8 10), .lit (.int .u8 25), .lit (.int .u8 14), .lit (.int .u8 19), .lit (.int .u8 9), .lit (.int .u8 13), .lit (.int .u8 8), .lit (.int .u8 7), .lit (.int .u8 6)]

/-- 'swinglelaw18.TableDerives': WHATEVER THE INPUT: true; the input reads as it did. -/
def tableDerivesSpec : ChangeSpec := { name := "tableDerives", fn := fun _ => fun
  | [d] => { results := [.lit (.bool true)], args := [d] }
  | _ => none }
def tableDerivesRow : OpenClaim := { program := "ytbdagmhndndliaadoor", sum := "70c67b50d4d27d7d8ac8d8436c21cd7a64fab3ef365d2c62af39eba046d6263b", func := "swingle/swinglelaw18.TableDerives", spec := "tableDerives", unfollowed := true, recurses := true, named := ["math/bits.deBruijn64tab"], apart := false, laid := [("math/bits.deBruijn64tab", laid_math_bits_deBruijn64tab)] }
def TableDerivesSaid : Prop := tableDerivesRow.holds Tryd.pinned (OpenSpec.ofChange tableDerivesSpec)

/-- ITS FALSE NEIGHBOUR: 'it returns false'. Refute it at one input. -/
def tableDerivesWrong : ChangeSpec := { name := "tableDerives", fn := fun _ => fun
  | [d] => { results := [.lit (.bool false)], args := [d] }
  | _ => none }
def TableDerivesWrongFalsely : Prop := tableDerivesRow.holds Tryd.pinned (OpenSpec.ofChange tableDerivesWrong)

/-- 'swinglelaw18.TableVerifies': WHATEVER THE INPUT: true; the input reads as it did. -/
def tableVerifiesSpec : ChangeSpec := { name := "tableVerifies", fn := fun _ => fun
  | [d1, d2] => { results := [.lit (.bool true)], args := [d1, d2] }
  | _ => none }
def tableVerifiesRow : OpenClaim := { program := "ytbdagmhndndliaadoor", sum := "70c67b50d4d27d7d8ac8d8436c21cd7a64fab3ef365d2c62af39eba046d6263b", func := "swingle/swinglelaw18.TableVerifies", spec := "tableVerifies", unfollowed := true, recurses := true, named := ["math/bits.deBruijn64tab"], apart := false, laid := [("math/bits.deBruijn64tab", laid_math_bits_deBruijn64tab)] }
def TableVerifiesSaid : Prop := tableVerifiesRow.holds Tryd.pinned (OpenSpec.ofChange tableVerifiesSpec)

/-- ITS FALSE NEIGHBOUR: 'it returns false'. Refute it at one input. -/
def tableVerifiesWrong : ChangeSpec := { name := "tableVerifies", fn := fun _ => fun
  | [d1, d2] => { results := [.lit (.bool false)], args := [d1, d2] }
  | _ => none }
def TableVerifiesWrongFalsely : Prop := tableVerifiesRow.holds Tryd.pinned (OpenSpec.ofChange tableVerifiesWrong)

/-- 'swinglelaw18.TableAnswers': WHATEVER THE INPUT: true; the input reads as it did. -/
def tableAnswersSpec : ChangeSpec := { name := "tableAnswers", fn := fun _ => fun
  | [d1, d2] => { results := [.lit (.bool true)], args := [d1, d2] }
  | _ => none }
def tableAnswersRow : OpenClaim := { program := "ytbdagmhndndliaadoor", sum := "70c67b50d4d27d7d8ac8d8436c21cd7a64fab3ef365d2c62af39eba046d6263b", func := "swingle/swinglelaw18.TableAnswers", spec := "tableAnswers", unfollowed := true, recurses := true, named := ["math/bits.deBruijn64tab"], apart := false, laid := [("math/bits.deBruijn64tab", laid_math_bits_deBruijn64tab)] }
def TableAnswersSaid : Prop := tableAnswersRow.holds Tryd.pinned (OpenSpec.ofChange tableAnswersSpec)

/-- ITS FALSE NEIGHBOUR: 'it returns false'. Refute it at one input. -/
def tableAnswersWrong : ChangeSpec := { name := "tableAnswers", fn := fun _ => fun
  | [d1, d2] => { results := [.lit (.bool false)], args := [d1, d2] }
  | _ => none }
def TableAnswersWrongFalsely : Prop := tableAnswersRow.holds Tryd.pinned (OpenSpec.ofChange tableAnswersWrong)

/-- 'swinglelaw18.TableStables': WHATEVER THE INPUT: true; the input reads as it did. -/
def tableStablesSpec : ChangeSpec := { name := "tableStables", fn := fun _ => fun
  | [d1, d2] => { results := [.lit (.bool true)], args := [d1, d2] }
  | _ => none }
def tableStablesRow : OpenClaim := { program := "ytbdagmhndndliaadoor", sum := "70c67b50d4d27d7d8ac8d8436c21cd7a64fab3ef365d2c62af39eba046d6263b", func := "swingle/swinglelaw18.TableStables", spec := "tableStables", unfollowed := true, recurses := true, named := ["math/bits.deBruijn64tab"], apart := false, laid := [("math/bits.deBruijn64tab", laid_math_bits_deBruijn64tab)] }
def TableStablesSaid : Prop := tableStablesRow.holds Tryd.pinned (OpenSpec.ofChange tableStablesSpec)

/-- ITS FALSE NEIGHBOUR: 'it returns false'. Refute it at one input. -/
def tableStablesWrong : ChangeSpec := { name := "tableStables", fn := fun _ => fun
  | [d1, d2] => { results := [.lit (.bool false)], args := [d1, d2] }
  | _ => none }
def TableStablesWrongFalsely : Prop := tableStablesRow.holds Tryd.pinned (OpenSpec.ofChange tableStablesWrong)

/-- 'swinglelaw18.TableHangs': WHATEVER THE INPUT: true; the input reads as it did. -/
def tableHangsSpec : ChangeSpec := { name := "tableHangs", fn := fun _ => fun
  | [d1, d2] => { results := [.lit (.bool true)], args := [d1, d2] }
  | _ => none }
def tableHangsRow : OpenClaim := { program := "ytbdagmhndndliaadoor", sum := "70c67b50d4d27d7d8ac8d8436c21cd7a64fab3ef365d2c62af39eba046d6263b", func := "swingle/swinglelaw18.TableHangs", spec := "tableHangs", unfollowed := true, recurses := true, named := ["math/bits.deBruijn64tab"], apart := false, laid := [("math/bits.deBruijn64tab", laid_math_bits_deBruijn64tab)] }
def TableHangsSaid : Prop := tableHangsRow.holds Tryd.pinned (OpenSpec.ofChange tableHangsSpec)

/-- ITS FALSE NEIGHBOUR: 'it returns false'. Refute it at one input. -/
def tableHangsWrong : ChangeSpec := { name := "tableHangs", fn := fun _ => fun
  | [d1, d2] => { results := [.lit (.bool false)], args := [d1, d2] }
  | _ => none }
def TableHangsWrongFalsely : Prop := tableHangsRow.holds Tryd.pinned (OpenSpec.ofChange tableHangsWrong)

/-- 'swinglelaw18.TableModels': WHATEVER THE INPUT: true; the input reads as it did. -/
def tableModelsSpec : ChangeSpec := { name := "tableModels", fn := fun _ => fun
  | [d1, d2] => { results := [.lit (.bool true)], args := [d1, d2] }
  | _ => none }
def tableModelsRow : OpenClaim := { program := "ytbdagmhndndliaadoor", sum := "70c67b50d4d27d7d8ac8d8436c21cd7a64fab3ef365d2c62af39eba046d6263b", func := "swingle/swinglelaw18.TableModels", spec := "tableModels", unfollowed := true, recurses := true, named := ["math/bits.deBruijn64tab"], apart := false, laid := [("math/bits.deBruijn64tab", laid_math_bits_deBruijn64tab)] }
def TableModelsSaid : Prop := tableModelsRow.holds Tryd.pinned (OpenSpec.ofChange tableModelsSpec)

/-- ITS FALSE NEIGHBOUR: 'it returns false'. Refute it at one input. -/
def tableModelsWrong : ChangeSpec := { name := "tableModels", fn := fun _ => fun
  | [d1, d2] => { results := [.lit (.bool false)], args := [d1, d2] }
  | _ => none }
def TableModelsWrongFalsely : Prop := tableModelsRow.holds Tryd.pinned (OpenSpec.ofChange tableModelsWrong)

/-- 'swinglelaw18.TableModular': WHATEVER THE INPUT: true; the input reads as it did. -/
def tableModularSpec : ChangeSpec := { name := "tableModular", fn := fun _ => fun
  | [d1, d2, d3] => { results := [.lit (.bool true)], args := [d1, d2, d3] }
  | _ => none }
def tableModularRow : OpenClaim := { program := "ytbdagmhndndliaadoor", sum := "70c67b50d4d27d7d8ac8d8436c21cd7a64fab3ef365d2c62af39eba046d6263b", func := "swingle/swinglelaw18.TableModular", spec := "tableModular", unfollowed := true, recurses := true, named := ["math/bits.deBruijn64tab"], apart := false, laid := [("math/bits.deBruijn64tab", laid_math_bits_deBruijn64tab)] }
def TableModularSaid : Prop := tableModularRow.holds Tryd.pinned (OpenSpec.ofChange tableModularSpec)

/-- ITS FALSE NEIGHBOUR: 'it returns false'. Refute it at one input. -/
def tableModularWrong : ChangeSpec := { name := "tableModular", fn := fun _ => fun
  | [d1, d2, d3] => { results := [.lit (.bool false)], args := [d1, d2, d3] }
  | _ => none }
def TableModularWrongFalsely : Prop := tableModularRow.holds Tryd.pinned (OpenSpec.ofChange tableModularWrong)

/-- 'swinglelaw18.TableKnown': WHATEVER THE INPUT: true; the input reads as it did. -/
def tableKnownSpec : ChangeSpec := { name := "tableKnown", fn := fun _ => fun
  | [] => { results := [.lit (.bool true)], args := [] }
  | _ => none }
def tableKnownRow : OpenClaim := { program := "ytbdagmhndndliaadoor", sum := "70c67b50d4d27d7d8ac8d8436c21cd7a64fab3ef365d2c62af39eba046d6263b", func := "swingle/swinglelaw18.TableKnown", spec := "tableKnown", unfollowed := true, recurses := true, named := ["math/bits.deBruijn64tab"], apart := false, laid := [("math/bits.deBruijn64tab", laid_math_bits_deBruijn64tab)] }
def TableKnownSaid : Prop := tableKnownRow.holds Tryd.pinned (OpenSpec.ofChange tableKnownSpec)

/-- ITS FALSE NEIGHBOUR: 'it returns false'. Refute it at one input. -/
def tableKnownWrong : ChangeSpec := { name := "tableKnown", fn := fun _ => fun
  | [] => { results := [.lit (.bool false)], args := [] }
  | _ => none }
def TableKnownWrongFalsely : Prop := tableKnownRow.holds Tryd.pinned (OpenSpec.ofChange tableKnownWrong)

/-- 'swinglelaw18.TableAny': WHATEVER THE INPUT: true; the input reads as it did. -/
def tableAnySpec : ChangeSpec := { name := "tableAny", fn := fun _ => fun
  | [d1, d2] => { results := [.lit (.bool true)], args := [d1, d2] }
  | _ => none }
def tableAnyRow : OpenClaim := { program := "ytbdagmhndndliaadoor", sum := "70c67b50d4d27d7d8ac8d8436c21cd7a64fab3ef365d2c62af39eba046d6263b", func := "swingle/swinglelaw18.TableAny", spec := "tableAny", unfollowed := true, recurses := true, named := ["math/bits.deBruijn64tab"], apart := false, laid := [("math/bits.deBruijn64tab", laid_math_bits_deBruijn64tab)] }
def TableAnySaid : Prop := tableAnyRow.holds Tryd.pinned (OpenSpec.ofChange tableAnySpec)

/-- ITS FALSE NEIGHBOUR: 'it returns false'. Refute it at one input. -/
def tableAnyWrong : ChangeSpec := { name := "tableAny", fn := fun _ => fun
  | [d1, d2] => { results := [.lit (.bool false)], args := [d1, d2] }
  | _ => none }
def TableAnyWrongFalsely : Prop := tableAnyRow.holds Tryd.pinned (OpenSpec.ofChange tableAnyWrong)

/-- 'swinglelaw18.TableSound': WHATEVER THE INPUT: true; the input reads as it did. -/
def tableSoundSpec : ChangeSpec := { name := "tableSound", fn := fun _ => fun
  | [d] => { results := [.lit (.bool true)], args := [d] }
  | _ => none }
def tableSoundRow : OpenClaim := { program := "ytbdagmhndndliaadoor", sum := "70c67b50d4d27d7d8ac8d8436c21cd7a64fab3ef365d2c62af39eba046d6263b", func := "swingle/swinglelaw18.TableSound", spec := "tableSound", unfollowed := true, recurses := true, named := ["math/bits.deBruijn64tab"], apart := false, laid := [("math/bits.deBruijn64tab", laid_math_bits_deBruijn64tab)] }
def TableSoundSaid : Prop := tableSoundRow.holds Tryd.pinned (OpenSpec.ofChange tableSoundSpec)

/-- ITS FALSE NEIGHBOUR: 'it returns false'. Refute it at one input. -/
def tableSoundWrong : ChangeSpec := { name := "tableSound", fn := fun _ => fun
  | [d] => { results := [.lit (.bool false)], args := [d] }
  | _ => none }
def TableSoundWrongFalsely : Prop := tableSoundRow.holds Tryd.pinned (OpenSpec.ofChange tableSoundWrong)

/-- 'swinglelaw18.TableComponents': WHATEVER THE INPUT: true; the input reads as it did. -/
def tableComponentsSpec : ChangeSpec := { name := "tableComponents", fn := fun _ => fun
  | [d] => { results := [.lit (.bool true)], args := [d] }
  | _ => none }
def tableComponentsRow : OpenClaim := { program := "ytbdagmhndndliaadoor", sum := "70c67b50d4d27d7d8ac8d8436c21cd7a64fab3ef365d2c62af39eba046d6263b", func := "swingle/swinglelaw18.TableComponents", spec := "tableComponents", unfollowed := true, recurses := true, named := ["math/bits.deBruijn64tab"], apart := false, laid := [("math/bits.deBruijn64tab", laid_math_bits_deBruijn64tab)] }
def TableComponentsSaid : Prop := tableComponentsRow.holds Tryd.pinned (OpenSpec.ofChange tableComponentsSpec)

/-- ITS FALSE NEIGHBOUR: 'it returns false'. Refute it at one input. -/
def tableComponentsWrong : ChangeSpec := { name := "tableComponents", fn := fun _ => fun
  | [d] => { results := [.lit (.bool false)], args := [d] }
  | _ => none }
def TableComponentsWrongFalsely : Prop := tableComponentsRow.holds Tryd.pinned (OpenSpec.ofChange tableComponentsWrong)

/- THE SECOND FORM. 'bulk': how many values and letters a reading holds, each counted each time it is reached (what is shared counts as often as it is met; a slice's spare places count too). A statement '..UptoSaid' is the law's where the arguments, and the package variables that the reading takes, are together of bulk at most 1048576: NARROWER than '..Said'. Prove '..Said' where nothing that the law and all that it calls make is longer than what came in: it says more and counts as full. Else prove '..UptoSaid'. A law counts once. -/
mutual
def uptoBulk {H : Type} : DataW H → Nat
  | .lit (.string bytes) => bytes.length + 1
  | .lit _ => 1
  | .nil => 1
  | .ptr d => uptoBulk d + 1
  | .slice elems spare => uptoBulkAll elems + uptoBulkAll spare + 1
  | .agg parts => uptoBulkAll parts + 1
  | .iface _ d => uptoBulk d + 1
  | .map entries => uptoBulkEntries entries + 1
  | .held _ => 1
def uptoBulkAll {H : Type} : List (DataW H) → Nat
  | [] => 0
  | d :: r => uptoBulk d + uptoBulkAll r
def uptoBulkEntries {H : Type} : List (Lit × DataW H) → Nat
  | [] => 0
  | x :: r => uptoBulkEntry x + uptoBulkEntries r
def uptoBulkEntry {H : Type} : Lit × DataW H → Nat
  | (.string bytes, d) => bytes.length + uptoBulk d + 1
  | (_, d) => uptoBulk d + 1
 end
def uptoSmall : (H : Type) → List (DataW H) → Bool := fun _ ds => decide (uptoBulkAll ds ≤ 1048576)
def OpenSpec.upto (s : _root_.Go.ChangeSpec) : _root_.Go.OpenSpec := { _root_.Go.OpenSpec.ofChange s with cond := some uptoSmall }

/-- 'swinglelaw18.TableDerives', WHERE WHAT IT READS IS OF BULK AT MOST 1048576: true; the input reads as it did. -/
def tableDerivesUptoRow : OpenClaim := { program := "ytbdagmhndndliaadoor", sum := "70c67b50d4d27d7d8ac8d8436c21cd7a64fab3ef365d2c62af39eba046d6263b", func := "swingle/swinglelaw18.TableDerives", spec := "tableDerives", unfollowed := true, recurses := true, named := ["math/bits.deBruijn64tab"], apart := false, laid := [("math/bits.deBruijn64tab", laid_math_bits_deBruijn64tab)], narrowed := true }
def TableDerivesUptoSaid : Prop := tableDerivesUptoRow.holds Tryd.pinned (OpenSpec.upto tableDerivesSpec)

/-- 'swinglelaw18.TableVerifies', WHERE WHAT IT READS IS OF BULK AT MOST 1048576: true; the input reads as it did. -/
def tableVerifiesUptoRow : OpenClaim := { program := "ytbdagmhndndliaadoor", sum := "70c67b50d4d27d7d8ac8d8436c21cd7a64fab3ef365d2c62af39eba046d6263b", func := "swingle/swinglelaw18.TableVerifies", spec := "tableVerifies", unfollowed := true, recurses := true, named := ["math/bits.deBruijn64tab"], apart := false, laid := [("math/bits.deBruijn64tab", laid_math_bits_deBruijn64tab)], narrowed := true }
def TableVerifiesUptoSaid : Prop := tableVerifiesUptoRow.holds Tryd.pinned (OpenSpec.upto tableVerifiesSpec)

/-- 'swinglelaw18.TableAnswers', WHERE WHAT IT READS IS OF BULK AT MOST 1048576: true; the input reads as it did. -/
def tableAnswersUptoRow : OpenClaim := { program := "ytbdagmhndndliaadoor", sum := "70c67b50d4d27d7d8ac8d8436c21cd7a64fab3ef365d2c62af39eba046d6263b", func := "swingle/swinglelaw18.TableAnswers", spec := "tableAnswers", unfollowed := true, recurses := true, named := ["math/bits.deBruijn64tab"], apart := false, laid := [("math/bits.deBruijn64tab", laid_math_bits_deBruijn64tab)], narrowed := true }
def TableAnswersUptoSaid : Prop := tableAnswersUptoRow.holds Tryd.pinned (OpenSpec.upto tableAnswersSpec)

/-- 'swinglelaw18.TableStables', WHERE WHAT IT READS IS OF BULK AT MOST 1048576: true; the input reads as it did. -/
def tableStablesUptoRow : OpenClaim := { program := "ytbdagmhndndliaadoor", sum := "70c67b50d4d27d7d8ac8d8436c21cd7a64fab3ef365d2c62af39eba046d6263b", func := "swingle/swinglelaw18.TableStables", spec := "tableStables", unfollowed := true, recurses := true, named := ["math/bits.deBruijn64tab"], apart := false, laid := [("math/bits.deBruijn64tab", laid_math_bits_deBruijn64tab)], narrowed := true }
def TableStablesUptoSaid : Prop := tableStablesUptoRow.holds Tryd.pinned (OpenSpec.upto tableStablesSpec)

/-- 'swinglelaw18.TableHangs', WHERE WHAT IT READS IS OF BULK AT MOST 1048576: true; the input reads as it did. -/
def tableHangsUptoRow : OpenClaim := { program := "ytbdagmhndndliaadoor", sum := "70c67b50d4d27d7d8ac8d8436c21cd7a64fab3ef365d2c62af39eba046d6263b", func := "swingle/swinglelaw18.TableHangs", spec := "tableHangs", unfollowed := true, recurses := true, named := ["math/bits.deBruijn64tab"], apart := false, laid := [("math/bits.deBruijn64tab", laid_math_bits_deBruijn64tab)], narrowed := true }
def TableHangsUptoSaid : Prop := tableHangsUptoRow.holds Tryd.pinned (OpenSpec.upto tableHangsSpec)

/-- 'swinglelaw18.TableModels', WHERE WHAT IT READS IS OF BULK AT MOST 1048576: true; the input reads as it did. -/
def tableModelsUptoRow : OpenClaim := { program := "ytbdagmhndndliaadoor", sum := "70c67b50d4d27d7d8ac8d8436c21cd7a64fab3ef365d2c62af39eba046d6263b", func := "swingle/swinglelaw18.TableModels", spec := "tableModels", unfollowed := true, recurses := true, named := ["math/bits.deBruijn64tab"], apart := false, laid := [("math/bits.deBruijn64tab", laid_math_bits_deBruijn64tab)], narrowed := true }
def TableModelsUptoSaid : Prop := tableModelsUptoRow.holds Tryd.pinned (OpenSpec.upto tableModelsSpec)

/-- 'swinglelaw18.TableModular', WHERE WHAT IT READS IS OF BULK AT MOST 1048576: true; the input reads as it did. -/
def tableModularUptoRow : OpenClaim := { program := "ytbdagmhndndliaadoor", sum := "70c67b50d4d27d7d8ac8d8436c21cd7a64fab3ef365d2c62af39eba046d6263b", func := "swingle/swinglelaw18.TableModular", spec := "tableModular", unfollowed := true, recurses := true, named := ["math/bits.deBruijn64tab"], apart := false, laid := [("math/bits.deBruijn64tab", laid_math_bits_deBruijn64tab)], narrowed := true }
def TableModularUptoSaid : Prop := tableModularUptoRow.holds Tryd.pinned (OpenSpec.upto tableModularSpec)

/-- 'swinglelaw18.TableKnown', WHERE WHAT IT READS IS OF BULK AT MOST 1048576: true; the input reads as it did. -/
def tableKnownUptoRow : OpenClaim := { program := "ytbdagmhndndliaadoor", sum := "70c67b50d4d27d7d8ac8d8436c21cd7a64fab3ef365d2c62af39eba046d6263b", func := "swingle/swinglelaw18.TableKnown", spec := "tableKnown", unfollowed := true, recurses := true, named := ["math/bits.deBruijn64tab"], apart := false, laid := [("math/bits.deBruijn64tab", laid_math_bits_deBruijn64tab)], narrowed := true }
def TableKnownUptoSaid : Prop := tableKnownUptoRow.holds Tryd.pinned (OpenSpec.upto tableKnownSpec)

/-- 'swinglelaw18.TableAny', WHERE WHAT IT READS IS OF BULK AT MOST 1048576: true; the input reads as it did. -/
def tableAnyUptoRow : OpenClaim := { program := "ytbdagmhndndliaadoor", sum := "70c67b50d4d27d7d8ac8d8436c21cd7a64fab3ef365d2c62af39eba046d6263b", func := "swingle/swinglelaw18.TableAny", spec := "tableAny", unfollowed := true, recurses := true, named := ["math/bits.deBruijn64tab"], apart := false, laid := [("math/bits.deBruijn64tab", laid_math_bits_deBruijn64tab)], narrowed := true }
def TableAnyUptoSaid : Prop := tableAnyUptoRow.holds Tryd.pinned (OpenSpec.upto tableAnySpec)

/-- 'swinglelaw18.TableSound', WHERE WHAT IT READS IS OF BULK AT MOST 1048576: true; the input reads as it did. -/
def tableSoundUptoRow : OpenClaim := { program := "ytbdagmhndndliaadoor", sum := "70c67b50d4d27d7d8ac8d8436c21cd7a64fab3ef365d2c62af39eba046d6263b", func := "swingle/swinglelaw18.TableSound", spec := "tableSound", unfollowed := true, recurses := true, named := ["math/bits.deBruijn64tab"], apart := false, laid := [("math/bits.deBruijn64tab", laid_math_bits_deBruijn64tab)], narrowed := true }
def TableSoundUptoSaid : Prop := tableSoundUptoRow.holds Tryd.pinned (OpenSpec.upto tableSoundSpec)

/-- 'swinglelaw18.TableComponents', WHERE WHAT IT READS IS OF BULK AT MOST 1048576: true; the input reads as it did. -/
def tableComponentsUptoRow : OpenClaim := { program := "ytbdagmhndndliaadoor", sum := "70c67b50d4d27d7d8ac8d8436c21cd7a64fab3ef365d2c62af39eba046d6263b", func := "swingle/swinglelaw18.TableComponents", spec := "tableComponents", unfollowed := true, recurses := true, named := ["math/bits.deBruijn64tab"], apart := false, laid := [("math/bits.deBruijn64tab", laid_math_bits_deBruijn64tab)], narrowed := true }
def TableComponentsUptoSaid : Prop := tableComponentsUptoRow.holds Tryd.pinned (OpenSpec.upto tableComponentsSpec)

end Rows
end Go.Proofs.YtbdagmhndndliaaDoor
