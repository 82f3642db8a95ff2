/-
  No cell of these rows narrows 'for every input' (looked for: loops, veiled, ifaces, maps, wideKeys, modest, calm, conditions, laid).
  DERIVED. THE GIVEN ROWS OF THIS SEAT. 3 by the template 'for every input the law returns true; each argument reads behind the call as it read before'; 0 by the template 'total and deterministic' (their statements: YtdfmeclhlnabaaaGreatTotals.lean).
  GIVEN WITH THE SEED: the statements are not yours to turn. If you find one false, say at which input.
  Laid BY PROGRAM, IN A SANDBOX (cutbox-rows.mjs): the forced cells as the released guide's own fill.sh prints them over the translation 5365ef7f81c168b2… (all of the seat's roots in one cut). By AI agents, Wed Nov 11 2026. No macro, syntax, notation, axiom, sorry.
-/
import Derived.Test.YtdfmeclhlnabaaaGreatChecked
import GoSem.Claim
import GoSem.ClaimJoined
import GoSem.ClaimMapViews
import Derived.JoinedTies
import Derived.KernelRfl
namespace Go.Proofs.YtdfmeclhlnabaaaGreat
/- THE CELL 'sum', in the pinned program and in every row, IS THE sha256 OF THE DUMP (.gsa) THAT YtdfmeclhlnabaaaGreatProg.lean LOADS. Nothing in Lean hashes anything: it is a label: what it is worth is what the hold of that sum in a sandbox is worth. -/
noncomputable def Tryz.pinned : Pinned := { name := "ytdfmeclhlnabaaagreat", sum := "5365ef7f81c168b2a282376378bf18e44403a7e6c127f8e327ca5166688e55bc", checked := Tryz.checked }
namespace Rows
def none {H : Type} : Left H := { results := [], args := [] }

/-- 'swinglelaw07.FlatKnown': WHATEVER THE INPUT: true; the input reads as it did. -/
def flatKnownSpec : ChangeSpec := { name := "flatKnown", fn := fun _ => fun
  | [] => { results := [.lit (.bool true)], args := [] }
  | _ => none }
def flatKnownRow : OpenClaim := { program := "ytdfmeclhlnabaaagreat", sum := "5365ef7f81c168b2a282376378bf18e44403a7e6c127f8e327ca5166688e55bc", func := "swingle/swinglelaw07.FlatKnown", spec := "flatKnown", unfollowed := true, recurses := true, plainKeys := false, apart := false }
def FlatKnownSaid : Prop := flatKnownRow.holds Tryz.pinned (OpenSpec.ofChange flatKnownSpec)

/-- ITS FALSE NEIGHBOUR: 'it returns false'. Refute it at one input. -/
def flatKnownWrong : ChangeSpec := { name := "flatKnown", fn := fun _ => fun
  | [] => { results := [.lit (.bool false)], args := [] }
  | _ => none }
def FlatKnownWrongFalsely : Prop := flatKnownRow.holds Tryz.pinned (OpenSpec.ofChange flatKnownWrong)

/-- 'swinglelaw22.SpecKnown': WHATEVER THE INPUT: true; the input reads as it did. -/
def specKnownSpec : ChangeSpec := { name := "specKnown", fn := fun _ => fun
  | [] => { results := [.lit (.bool true)], args := [] }
  | _ => none }
def specKnownRow : OpenClaim := { program := "ytdfmeclhlnabaaagreat", sum := "5365ef7f81c168b2a282376378bf18e44403a7e6c127f8e327ca5166688e55bc", func := "swingle/swinglelaw22.SpecKnown", spec := "specKnown", unfollowed := true, recurses := true, plainKeys := false, apart := false }
def SpecKnownSaid : Prop := specKnownRow.holds Tryz.pinned (OpenSpec.ofChange specKnownSpec)

/-- ITS FALSE NEIGHBOUR: 'it returns false'. Refute it at one input. -/
def specKnownWrong : ChangeSpec := { name := "specKnown", fn := fun _ => fun
  | [] => { results := [.lit (.bool false)], args := [] }
  | _ => none }
def SpecKnownWrongFalsely : Prop := specKnownRow.holds Tryz.pinned (OpenSpec.ofChange specKnownWrong)

/-- 'swinglelaw11.PullKnown': WHATEVER THE INPUT: true; the input reads as it did. -/
def pullKnownSpec : ChangeSpec := { name := "pullKnown", fn := fun _ => fun
  | [] => { results := [.lit (.bool true)], args := [] }
  | _ => none }
def pullKnownRow : OpenClaim := { program := "ytdfmeclhlnabaaagreat", sum := "5365ef7f81c168b2a282376378bf18e44403a7e6c127f8e327ca5166688e55bc", func := "swingle/swinglelaw11.PullKnown", spec := "pullKnown", unfollowed := true, recurses := true, plainKeys := false, apart := false }
def PullKnownSaid : Prop := pullKnownRow.holds Tryz.pinned (OpenSpec.ofChange pullKnownSpec)

/-- ITS FALSE NEIGHBOUR: 'it returns false'. Refute it at one input. -/
def pullKnownWrong : ChangeSpec := { name := "pullKnown", fn := fun _ => fun
  | [] => { results := [.lit (.bool false)], args := [] }
  | _ => none }
def PullKnownWrongFalsely : Prop := pullKnownRow.holds Tryz.pinned (OpenSpec.ofChange pullKnownWrong)

/- THE SECOND FORM. 'bulk': how many values and letters a reading holds, each counted each time it is reached (what is shared counts as often as it is met; a slice's spare places count too). A statement '..UptoSaid' is the law's where the arguments, and the package variables that the reading takes, are together of bulk at most 1048576: NARROWER than '..Said'. Prove '..Said' where nothing that the law and all that it calls make is longer than what came in: it says more and counts as full. Else prove '..UptoSaid'. A law counts once. -/
mutual
def uptoBulk {H : Type} : DataW H → Nat
  | .lit (.string bytes) => bytes.length + 1
  | .lit _ => 1
  | .nil => 1
  | .ptr d => uptoBulk d + 1
  | .slice elems spare => uptoBulkAll elems + uptoBulkAll spare + 1
  | .agg parts => uptoBulkAll parts + 1
  | .iface _ d => uptoBulk d + 1
  | .map entries => uptoBulkEntries entries + 1
  | .held _ => 1
def uptoBulkAll {H : Type} : List (DataW H) → Nat
  | [] => 0
  | d :: r => uptoBulk d + uptoBulkAll r
def uptoBulkEntries {H : Type} : List (Lit × DataW H) → Nat
  | [] => 0
  | x :: r => uptoBulkEntry x + uptoBulkEntries r
def uptoBulkEntry {H : Type} : Lit × DataW H → Nat
  | (.string bytes, d) => bytes.length + uptoBulk d + 1
  | (_, d) => uptoBulk d + 1
 end
def uptoSmall : (H : Type) → List (DataW H) → Bool := fun _ ds => decide (uptoBulkAll ds ≤ 1048576)
def OpenSpec.upto (s : _root_.Go.ChangeSpec) : _root_.Go.OpenSpec := { _root_.Go.OpenSpec.ofChange s with cond := some uptoSmall }

/-- 'swinglelaw07.FlatKnown', WHERE WHAT IT READS IS OF BULK AT MOST 1048576: true; the input reads as it did. -/
def flatKnownUptoRow : OpenClaim := { program := "ytdfmeclhlnabaaagreat", sum := "5365ef7f81c168b2a282376378bf18e44403a7e6c127f8e327ca5166688e55bc", func := "swingle/swinglelaw07.FlatKnown", spec := "flatKnown", unfollowed := true, recurses := true, plainKeys := false, apart := false, narrowed := true }
def FlatKnownUptoSaid : Prop := flatKnownUptoRow.holds Tryz.pinned (OpenSpec.upto flatKnownSpec)

/-- 'swinglelaw22.SpecKnown', WHERE WHAT IT READS IS OF BULK AT MOST 1048576: true; the input reads as it did. -/
def specKnownUptoRow : OpenClaim := { program := "ytdfmeclhlnabaaagreat", sum := "5365ef7f81c168b2a282376378bf18e44403a7e6c127f8e327ca5166688e55bc", func := "swingle/swinglelaw22.SpecKnown", spec := "specKnown", unfollowed := true, recurses := true, plainKeys := false, apart := false, narrowed := true }
def SpecKnownUptoSaid : Prop := specKnownUptoRow.holds Tryz.pinned (OpenSpec.upto specKnownSpec)

/-- 'swinglelaw11.PullKnown', WHERE WHAT IT READS IS OF BULK AT MOST 1048576: true; the input reads as it did. -/
def pullKnownUptoRow : OpenClaim := { program := "ytdfmeclhlnabaaagreat", sum := "5365ef7f81c168b2a282376378bf18e44403a7e6c127f8e327ca5166688e55bc", func := "swingle/swinglelaw11.PullKnown", spec := "pullKnown", unfollowed := true, recurses := true, plainKeys := false, apart := false, narrowed := true }
def PullKnownUptoSaid : Prop := pullKnownUptoRow.holds Tryz.pinned (OpenSpec.upto pullKnownSpec)

end Rows
end Go.Proofs.YtdfmeclhlnabaaaGreat
