/-
  NARROWER THAN 'FOR EVERY INPUT', by the rows' own cells (each row's printed sentence says how): RuleTrees: loops · RuleMatches: loops · RuleMisses: loops · RuleLeads: loops · RuleLacks: loops · RuleOrders: loops · RuleChecks: loops.
  DERIVED. THE GIVEN ROWS OF THIS SEAT. 8 by the template 'for every input the law returns true; each argument reads behind the call as it read before'; 0 by the template 'total and deterministic' (their statements: YtgmjpmeddajmgaaGreatTotals.lean).
  GIVEN WITH THE SEED: the statements are not yours to turn. If you find one false, say at which input.
  Laid BY PROGRAM, IN A SANDBOX (cutbox-rows.mjs): the forced cells as the released guide's own fill.sh prints them over the translation a5e3d285eedc3c9a… (all of the seat's roots in one cut). By AI agents, Wed Nov 11 2026. No macro, syntax, notation, axiom, sorry.
-/
import Derived.Test.YtgmjpmeddajmgaaGreatChecked
import GoSem.Claim
import GoSem.ClaimJoined
import GoSem.ClaimMapViews
import Derived.JoinedTies
import Derived.KernelRfl
namespace Go.Proofs.YtgmjpmeddajmgaaGreat
/- THE CELL 'sum', in the pinned program and in every row, IS THE sha256 OF THE DUMP (.gsa) THAT YtgmjpmeddajmgaaGreatProg.lean LOADS. Nothing in Lean hashes anything: it is a label: what it is worth is what the hold of that sum in a sandbox is worth. -/
noncomputable def Tryz.pinned : Pinned := { name := "ytgmjpmeddajmgaagreat", sum := "a5e3d285eedc3c9a1e798f6c9f6d171ac4b0ccc34612af8b40aacca74e098e5d", checked := Tryz.checked }
namespace Rows
def none {H : Type} : Left H := { results := [], args := [] }

/-- 'swinglelaw05.RuleTrees': WHATEVER THE INPUT: true; the input reads as it did. -/
def ruleTreesSpec : ChangeSpec := { name := "ruleTrees", fn := fun _ => fun
  | [d1, d2] => { results := [.lit (.bool true)], args := [d1, d2] }
  | _ => none }
def ruleTreesRow : OpenClaim := { program := "ytgmjpmeddajmgaagreat", sum := "a5e3d285eedc3c9a1e798f6c9f6d171ac4b0ccc34612af8b40aacca74e098e5d", func := "swingle/swinglelaw05.RuleTrees", spec := "ruleTrees", unfollowed := true, recurses := true, loops := true, plainKeys := false, apart := false }
def RuleTreesSaid : Prop := ruleTreesRow.holds Tryz.pinned (OpenSpec.ofChange ruleTreesSpec)

/-- ITS FALSE NEIGHBOUR: 'it returns false'. Refute it at one input. -/
def ruleTreesWrong : ChangeSpec := { name := "ruleTrees", fn := fun _ => fun
  | [d1, d2] => { results := [.lit (.bool false)], args := [d1, d2] }
  | _ => none }
def RuleTreesWrongFalsely : Prop := ruleTreesRow.holds Tryz.pinned (OpenSpec.ofChange ruleTreesWrong)

/-- 'swinglelaw05.RuleMatches': WHATEVER THE INPUT: true; the input reads as it did. -/
def ruleMatchesSpec : ChangeSpec := { name := "ruleMatches", fn := fun _ => fun
  | [d1, d2, d3] => { results := [.lit (.bool true)], args := [d1, d2, d3] }
  | _ => none }
def ruleMatchesRow : OpenClaim := { program := "ytgmjpmeddajmgaagreat", sum := "a5e3d285eedc3c9a1e798f6c9f6d171ac4b0ccc34612af8b40aacca74e098e5d", func := "swingle/swinglelaw05.RuleMatches", spec := "ruleMatches", unfollowed := true, recurses := true, loops := true, plainKeys := false, apart := false }
def RuleMatchesSaid : Prop := ruleMatchesRow.holds Tryz.pinned (OpenSpec.ofChange ruleMatchesSpec)

/-- ITS FALSE NEIGHBOUR: 'it returns false'. Refute it at one input. -/
def ruleMatchesWrong : ChangeSpec := { name := "ruleMatches", fn := fun _ => fun
  | [d1, d2, d3] => { results := [.lit (.bool false)], args := [d1, d2, d3] }
  | _ => none }
def RuleMatchesWrongFalsely : Prop := ruleMatchesRow.holds Tryz.pinned (OpenSpec.ofChange ruleMatchesWrong)

/-- 'swinglelaw05.RuleMisses': WHATEVER THE INPUT: true; the input reads as it did. -/
def ruleMissesSpec : ChangeSpec := { name := "ruleMisses", fn := fun _ => fun
  | [d1, d2, d3] => { results := [.lit (.bool true)], args := [d1, d2, d3] }
  | _ => none }
def ruleMissesRow : OpenClaim := { program := "ytgmjpmeddajmgaagreat", sum := "a5e3d285eedc3c9a1e798f6c9f6d171ac4b0ccc34612af8b40aacca74e098e5d", func := "swingle/swinglelaw05.RuleMisses", spec := "ruleMisses", unfollowed := true, recurses := true, loops := true, plainKeys := false, apart := false }
def RuleMissesSaid : Prop := ruleMissesRow.holds Tryz.pinned (OpenSpec.ofChange ruleMissesSpec)

/-- ITS FALSE NEIGHBOUR: 'it returns false'. Refute it at one input. -/
def ruleMissesWrong : ChangeSpec := { name := "ruleMisses", fn := fun _ => fun
  | [d1, d2, d3] => { results := [.lit (.bool false)], args := [d1, d2, d3] }
  | _ => none }
def RuleMissesWrongFalsely : Prop := ruleMissesRow.holds Tryz.pinned (OpenSpec.ofChange ruleMissesWrong)

/-- 'swinglelaw05.RuleLeads': WHATEVER THE INPUT: true; the input reads as it did. -/
def ruleLeadsSpec : ChangeSpec := { name := "ruleLeads", fn := fun _ => fun
  | [d1, d2, d3] => { results := [.lit (.bool true)], args := [d1, d2, d3] }
  | _ => none }
def ruleLeadsRow : OpenClaim := { program := "ytgmjpmeddajmgaagreat", sum := "a5e3d285eedc3c9a1e798f6c9f6d171ac4b0ccc34612af8b40aacca74e098e5d", func := "swingle/swinglelaw05.RuleLeads", spec := "ruleLeads", unfollowed := true, recurses := true, loops := true, plainKeys := false, apart := false }
def RuleLeadsSaid : Prop := ruleLeadsRow.holds Tryz.pinned (OpenSpec.ofChange ruleLeadsSpec)

/-- ITS FALSE NEIGHBOUR: 'it returns false'. Refute it at one input. -/
def ruleLeadsWrong : ChangeSpec := { name := "ruleLeads", fn := fun _ => fun
  | [d1, d2, d3] => { results := [.lit (.bool false)], args := [d1, d2, d3] }
  | _ => none }
def RuleLeadsWrongFalsely : Prop := ruleLeadsRow.holds Tryz.pinned (OpenSpec.ofChange ruleLeadsWrong)

/-- 'swinglelaw05.RuleLacks': WHATEVER THE INPUT: true; the input reads as it did. -/
def ruleLacksSpec : ChangeSpec := { name := "ruleLacks", fn := fun _ => fun
  | [d1, d2, d3, d4] => { results := [.lit (.bool true)], args := [d1, d2, d3, d4] }
  | _ => none }
def ruleLacksRow : OpenClaim := { program := "ytgmjpmeddajmgaagreat", sum := "a5e3d285eedc3c9a1e798f6c9f6d171ac4b0ccc34612af8b40aacca74e098e5d", func := "swingle/swinglelaw05.RuleLacks", spec := "ruleLacks", unfollowed := true, recurses := true, loops := true, plainKeys := false, apart := false }
def RuleLacksSaid : Prop := ruleLacksRow.holds Tryz.pinned (OpenSpec.ofChange ruleLacksSpec)

/-- ITS FALSE NEIGHBOUR: 'it returns false'. Refute it at one input. -/
def ruleLacksWrong : ChangeSpec := { name := "ruleLacks", fn := fun _ => fun
  | [d1, d2, d3, d4] => { results := [.lit (.bool false)], args := [d1, d2, d3, d4] }
  | _ => none }
def RuleLacksWrongFalsely : Prop := ruleLacksRow.holds Tryz.pinned (OpenSpec.ofChange ruleLacksWrong)

/-- 'swinglelaw05.RuleOrders': WHATEVER THE INPUT: true; the input reads as it did. -/
def ruleOrdersSpec : ChangeSpec := { name := "ruleOrders", fn := fun _ => fun
  | [d1, d2, d3, d4] => { results := [.lit (.bool true)], args := [d1, d2, d3, d4] }
  | _ => none }
def ruleOrdersRow : OpenClaim := { program := "ytgmjpmeddajmgaagreat", sum := "a5e3d285eedc3c9a1e798f6c9f6d171ac4b0ccc34612af8b40aacca74e098e5d", func := "swingle/swinglelaw05.RuleOrders", spec := "ruleOrders", unfollowed := true, recurses := true, loops := true, plainKeys := false, apart := false }
def RuleOrdersSaid : Prop := ruleOrdersRow.holds Tryz.pinned (OpenSpec.ofChange ruleOrdersSpec)

/-- ITS FALSE NEIGHBOUR: 'it returns false'. Refute it at one input. -/
def ruleOrdersWrong : ChangeSpec := { name := "ruleOrders", fn := fun _ => fun
  | [d1, d2, d3, d4] => { results := [.lit (.bool false)], args := [d1, d2, d3, d4] }
  | _ => none }
def RuleOrdersWrongFalsely : Prop := ruleOrdersRow.holds Tryz.pinned (OpenSpec.ofChange ruleOrdersWrong)

/-- 'swinglelaw05.RuleKnown': WHATEVER THE INPUT: true; the input reads as it did. -/
def ruleKnownSpec : ChangeSpec := { name := "ruleKnown", fn := fun _ => fun
  | [] => { results := [.lit (.bool true)], args := [] }
  | _ => none }
def ruleKnownRow : OpenClaim := { program := "ytgmjpmeddajmgaagreat", sum := "a5e3d285eedc3c9a1e798f6c9f6d171ac4b0ccc34612af8b40aacca74e098e5d", func := "swingle/swinglelaw05.RuleKnown", spec := "ruleKnown", unfollowed := true, recurses := true, plainKeys := false, apart := false }
def RuleKnownSaid : Prop := ruleKnownRow.holds Tryz.pinned (OpenSpec.ofChange ruleKnownSpec)

/-- ITS FALSE NEIGHBOUR: 'it returns false'. Refute it at one input. -/
def ruleKnownWrong : ChangeSpec := { name := "ruleKnown", fn := fun _ => fun
  | [] => { results := [.lit (.bool false)], args := [] }
  | _ => none }
def RuleKnownWrongFalsely : Prop := ruleKnownRow.holds Tryz.pinned (OpenSpec.ofChange ruleKnownWrong)

/-- 'swinglelaw05.RuleChecks': WHATEVER THE INPUT: true; the input reads as it did. -/
def ruleChecksSpec : ChangeSpec := { name := "ruleChecks", fn := fun _ => fun
  | [d1, d2] => { results := [.lit (.bool true)], args := [d1, d2] }
  | _ => none }
def ruleChecksRow : OpenClaim := { program := "ytgmjpmeddajmgaagreat", sum := "a5e3d285eedc3c9a1e798f6c9f6d171ac4b0ccc34612af8b40aacca74e098e5d", func := "swingle/swinglelaw05.RuleChecks", spec := "ruleChecks", unfollowed := true, recurses := true, loops := true, plainKeys := false, apart := false }
def RuleChecksSaid : Prop := ruleChecksRow.holds Tryz.pinned (OpenSpec.ofChange ruleChecksSpec)

/-- ITS FALSE NEIGHBOUR: 'it returns false'. Refute it at one input. -/
def ruleChecksWrong : ChangeSpec := { name := "ruleChecks", fn := fun _ => fun
  | [d1, d2] => { results := [.lit (.bool false)], args := [d1, d2] }
  | _ => none }
def RuleChecksWrongFalsely : Prop := ruleChecksRow.holds Tryz.pinned (OpenSpec.ofChange ruleChecksWrong)

/- THE SECOND FORM. 'bulk': how many values and letters a reading holds, each counted each time it is reached (what is shared counts as often as it is met; a slice's spare places count too). A statement '..UptoSaid' is the law's where the arguments, and the package variables that the reading takes, are together of bulk at most 1048576: NARROWER than '..Said'. Prove '..Said' where nothing that the law and all that it calls make is longer than what came in: it says more and counts as full. Else prove '..UptoSaid'. A law counts once. -/
mutual
def uptoBulk {H : Type} : DataW H → Nat
  | .lit (.string bytes) => bytes.length + 1
  | .lit _ => 1
  | .nil => 1
  | .ptr d => uptoBulk d + 1
  | .slice elems spare => uptoBulkAll elems + uptoBulkAll spare + 1
  | .agg parts => uptoBulkAll parts + 1
  | .iface _ d => uptoBulk d + 1
  | .map entries => uptoBulkEntries entries + 1
  | .held _ => 1
def uptoBulkAll {H : Type} : List (DataW H) → Nat
  | [] => 0
  | d :: r => uptoBulk d + uptoBulkAll r
def uptoBulkEntries {H : Type} : List (Lit × DataW H) → Nat
  | [] => 0
  | x :: r => uptoBulkEntry x + uptoBulkEntries r
def uptoBulkEntry {H : Type} : Lit × DataW H → Nat
  | (.string bytes, d) => bytes.length + uptoBulk d + 1
  | (_, d) => uptoBulk d + 1
 end
def uptoSmall : (H : Type) → List (DataW H) → Bool := fun _ ds => decide (uptoBulkAll ds ≤ 1048576)
def OpenSpec.upto (s : _root_.Go.ChangeSpec) : _root_.Go.OpenSpec := { _root_.Go.OpenSpec.ofChange s with cond := some uptoSmall }

/-- 'swinglelaw05.RuleTrees', WHERE WHAT IT READS IS OF BULK AT MOST 1048576: true; the input reads as it did. -/
def ruleTreesUptoRow : OpenClaim := { program := "ytgmjpmeddajmgaagreat", sum := "a5e3d285eedc3c9a1e798f6c9f6d171ac4b0ccc34612af8b40aacca74e098e5d", func := "swingle/swinglelaw05.RuleTrees", spec := "ruleTrees", unfollowed := true, recurses := true, loops := true, plainKeys := false, apart := false, narrowed := true }
def RuleTreesUptoSaid : Prop := ruleTreesUptoRow.holds Tryz.pinned (OpenSpec.upto ruleTreesSpec)

/-- 'swinglelaw05.RuleMatches', WHERE WHAT IT READS IS OF BULK AT MOST 1048576: true; the input reads as it did. -/
def ruleMatchesUptoRow : OpenClaim := { program := "ytgmjpmeddajmgaagreat", sum := "a5e3d285eedc3c9a1e798f6c9f6d171ac4b0ccc34612af8b40aacca74e098e5d", func := "swingle/swinglelaw05.RuleMatches", spec := "ruleMatches", unfollowed := true, recurses := true, loops := true, plainKeys := false, apart := false, narrowed := true }
def RuleMatchesUptoSaid : Prop := ruleMatchesUptoRow.holds Tryz.pinned (OpenSpec.upto ruleMatchesSpec)

/-- 'swinglelaw05.RuleMisses', WHERE WHAT IT READS IS OF BULK AT MOST 1048576: true; the input reads as it did. -/
def ruleMissesUptoRow : OpenClaim := { program := "ytgmjpmeddajmgaagreat", sum := "a5e3d285eedc3c9a1e798f6c9f6d171ac4b0ccc34612af8b40aacca74e098e5d", func := "swingle/swinglelaw05.RuleMisses", spec := "ruleMisses", unfollowed := true, recurses := true, loops := true, plainKeys := false, apart := false, narrowed := true }
def RuleMissesUptoSaid : Prop := ruleMissesUptoRow.holds Tryz.pinned (OpenSpec.upto ruleMissesSpec)

/-- 'swinglelaw05.RuleLeads', WHERE WHAT IT READS IS OF BULK AT MOST 1048576: true; the input reads as it did. -/
def ruleLeadsUptoRow : OpenClaim := { program := "ytgmjpmeddajmgaagreat", sum := "a5e3d285eedc3c9a1e798f6c9f6d171ac4b0ccc34612af8b40aacca74e098e5d", func := "swingle/swinglelaw05.RuleLeads", spec := "ruleLeads", unfollowed := true, recurses := true, loops := true, plainKeys := false, apart := false, narrowed := true }
def RuleLeadsUptoSaid : Prop := ruleLeadsUptoRow.holds Tryz.pinned (OpenSpec.upto ruleLeadsSpec)

/-- 'swinglelaw05.RuleLacks', WHERE WHAT IT READS IS OF BULK AT MOST 1048576: true; the input reads as it did. -/
def ruleLacksUptoRow : OpenClaim := { program := "ytgmjpmeddajmgaagreat", sum := "a5e3d285eedc3c9a1e798f6c9f6d171ac4b0ccc34612af8b40aacca74e098e5d", func := "swingle/swinglelaw05.RuleLacks", spec := "ruleLacks", unfollowed := true, recurses := true, loops := true, plainKeys := false, apart := false, narrowed := true }
def RuleLacksUptoSaid : Prop := ruleLacksUptoRow.holds Tryz.pinned (OpenSpec.upto ruleLacksSpec)

/-- 'swinglelaw05.RuleOrders', WHERE WHAT IT READS IS OF BULK AT MOST 1048576: true; the input reads as it did. -/
def ruleOrdersUptoRow : OpenClaim := { program := "ytgmjpmeddajmgaagreat", sum := "a5e3d285eedc3c9a1e798f6c9f6d171ac4b0ccc34612af8b40aacca74e098e5d", func := "swingle/swinglelaw05.RuleOrders", spec := "ruleOrders", unfollowed := true, recurses := true, loops := true, plainKeys := false, apart := false, narrowed := true }
def RuleOrdersUptoSaid : Prop := ruleOrdersUptoRow.holds Tryz.pinned (OpenSpec.upto ruleOrdersSpec)

/-- 'swinglelaw05.RuleKnown', WHERE WHAT IT READS IS OF BULK AT MOST 1048576: true; the input reads as it did. -/
def ruleKnownUptoRow : OpenClaim := { program := "ytgmjpmeddajmgaagreat", sum := "a5e3d285eedc3c9a1e798f6c9f6d171ac4b0ccc34612af8b40aacca74e098e5d", func := "swingle/swinglelaw05.RuleKnown", spec := "ruleKnown", unfollowed := true, recurses := true, plainKeys := false, apart := false, narrowed := true }
def RuleKnownUptoSaid : Prop := ruleKnownUptoRow.holds Tryz.pinned (OpenSpec.upto ruleKnownSpec)

/-- 'swinglelaw05.RuleChecks', WHERE WHAT IT READS IS OF BULK AT MOST 1048576: true; the input reads as it did. -/
def ruleChecksUptoRow : OpenClaim := { program := "ytgmjpmeddajmgaagreat", sum := "a5e3d285eedc3c9a1e798f6c9f6d171ac4b0ccc34612af8b40aacca74e098e5d", func := "swingle/swinglelaw05.RuleChecks", spec := "ruleChecks", unfollowed := true, recurses := true, loops := true, plainKeys := false, apart := false, narrowed := true }
def RuleChecksUptoSaid : Prop := ruleChecksUptoRow.holds Tryz.pinned (OpenSpec.upto ruleChecksSpec)

end Rows
end Go.Proofs.YtgmjpmeddajmgaaGreat
