/-
  No cell of these rows narrows 'for every input' (looked for: loops, veiled, ifaces, maps, wideKeys, modest, calm, conditions, laid).
  DERIVED. THE GIVEN ROWS OF THIS SEAT. 6 by the template 'for every input the law returns true; each argument reads behind the call as it read before'; 0 by the template 'total and deterministic' (their statements: YthaoambmnjfdlaaTotals.lean).
  GIVEN WITH THE SEED: the statements are not yours to turn. If you find one false, say at which input.
  Laid BY PROGRAM, IN A SANDBOX (cutbox-rows.mjs): the forced cells as the released guide's own fill.sh prints them over the translation 4012a2b1bcf6c757… (all of the seat's roots in one cut). By AI agents, Wed Nov 11 2026. No macro, syntax, notation, axiom, sorry.
-/
import Derived.Test.YthaoambmnjfdlaaChecked
import GoSem.Claim
import GoSem.ClaimJoined
import GoSem.ClaimMapViews
import Derived.JoinedTies
import Derived.KernelRfl
namespace Go.Proofs.Ythaoambmnjfdlaa
/- THE CELL 'sum', in the pinned program and in every row, IS THE sha256 OF THE DUMP (.gsa) THAT YthaoambmnjfdlaaProg.lean LOADS. Nothing in Lean hashes anything: it is a label: what it is worth is what the hold of that sum in a sandbox is worth. -/
noncomputable def Try.pinned : Pinned := { name := "ythaoambmnjfdlaa", sum := "4012a2b1bcf6c757db5719c6f0909bab931168456a1d867c6d125b4a3335a212", checked := Try.checked }
namespace Rows
def none {H : Type} : Left H := { results := [], args := [] }

/-- 'swinglelaw26.PackFaults': WHATEVER THE INPUT: true; the input reads as it did. -/
def packFaultsSpec : ChangeSpec := { name := "packFaults", fn := fun _ => fun
  | [d1, d2, d3] => { results := [.lit (.bool true)], args := [d1, d2, d3] }
  | _ => none }
def packFaultsRow : OpenClaim := { program := "ythaoambmnjfdlaa", sum := "4012a2b1bcf6c757db5719c6f0909bab931168456a1d867c6d125b4a3335a212", func := "swingle/swinglelaw26.PackFaults", spec := "packFaults", unfollowed := true, recurses := true, plainKeys := false, apart := false }
def PackFaultsSaid : Prop := packFaultsRow.holds Try.pinned (OpenSpec.ofChange packFaultsSpec)

/-- ITS FALSE NEIGHBOUR: 'it returns false'. Refute it at one input. -/
def packFaultsWrong : ChangeSpec := { name := "packFaults", fn := fun _ => fun
  | [d1, d2, d3] => { results := [.lit (.bool false)], args := [d1, d2, d3] }
  | _ => none }
def PackFaultsWrongFalsely : Prop := packFaultsRow.holds Try.pinned (OpenSpec.ofChange packFaultsWrong)

/-- 'swinglelaw26.PackBests': WHATEVER THE INPUT: true; the input reads as it did. -/
def packBestsSpec : ChangeSpec := { name := "packBests", fn := fun _ => fun
  | [d1, d2] => { results := [.lit (.bool true)], args := [d1, d2] }
  | _ => none }
def packBestsRow : OpenClaim := { program := "ythaoambmnjfdlaa", sum := "4012a2b1bcf6c757db5719c6f0909bab931168456a1d867c6d125b4a3335a212", func := "swingle/swinglelaw26.PackBests", spec := "packBests", unfollowed := true, recurses := true, plainKeys := false, apart := false }
def PackBestsSaid : Prop := packBestsRow.holds Try.pinned (OpenSpec.ofChange packBestsSpec)

/-- ITS FALSE NEIGHBOUR: 'it returns false'. Refute it at one input. -/
def packBestsWrong : ChangeSpec := { name := "packBests", fn := fun _ => fun
  | [d1, d2] => { results := [.lit (.bool false)], args := [d1, d2] }
  | _ => none }
def PackBestsWrongFalsely : Prop := packBestsRow.holds Try.pinned (OpenSpec.ofChange packBestsWrong)

/-- 'swinglelaw26.PackCores': WHATEVER THE INPUT: true; the input reads as it did. -/
def packCoresSpec : ChangeSpec := { name := "packCores", fn := fun _ => fun
  | [d1, d2] => { results := [.lit (.bool true)], args := [d1, d2] }
  | _ => none }
def packCoresRow : OpenClaim := { program := "ythaoambmnjfdlaa", sum := "4012a2b1bcf6c757db5719c6f0909bab931168456a1d867c6d125b4a3335a212", func := "swingle/swinglelaw26.PackCores", spec := "packCores", unfollowed := true, recurses := true, plainKeys := false, apart := false }
def PackCoresSaid : Prop := packCoresRow.holds Try.pinned (OpenSpec.ofChange packCoresSpec)

/-- ITS FALSE NEIGHBOUR: 'it returns false'. Refute it at one input. -/
def packCoresWrong : ChangeSpec := { name := "packCores", fn := fun _ => fun
  | [d1, d2] => { results := [.lit (.bool false)], args := [d1, d2] }
  | _ => none }
def PackCoresWrongFalsely : Prop := packCoresRow.holds Try.pinned (OpenSpec.ofChange packCoresWrong)

/-- 'swinglelaw26.PackNears': WHATEVER THE INPUT: true; the input reads as it did. -/
def packNearsSpec : ChangeSpec := { name := "packNears", fn := fun _ => fun
  | [d1, d2, d3] => { results := [.lit (.bool true)], args := [d1, d2, d3] }
  | _ => none }
def packNearsRow : OpenClaim := { program := "ythaoambmnjfdlaa", sum := "4012a2b1bcf6c757db5719c6f0909bab931168456a1d867c6d125b4a3335a212", func := "swingle/swinglelaw26.PackNears", spec := "packNears", unfollowed := true, recurses := true, plainKeys := false, apart := false }
def PackNearsSaid : Prop := packNearsRow.holds Try.pinned (OpenSpec.ofChange packNearsSpec)

/-- ITS FALSE NEIGHBOUR: 'it returns false'. Refute it at one input. -/
def packNearsWrong : ChangeSpec := { name := "packNears", fn := fun _ => fun
  | [d1, d2, d3] => { results := [.lit (.bool false)], args := [d1, d2, d3] }
  | _ => none }
def PackNearsWrongFalsely : Prop := packNearsRow.holds Try.pinned (OpenSpec.ofChange packNearsWrong)

/-- 'swinglelaw26.PackCore': WHATEVER THE INPUT: true; the input reads as it did. -/
def packCoreSpec : ChangeSpec := { name := "packCore", fn := fun _ => fun
  | [d1, d2] => { results := [.lit (.bool true)], args := [d1, d2] }
  | _ => none }
def packCoreRow : OpenClaim := { program := "ythaoambmnjfdlaa", sum := "4012a2b1bcf6c757db5719c6f0909bab931168456a1d867c6d125b4a3335a212", func := "swingle/swinglelaw26.PackCore", spec := "packCore", unfollowed := true, recurses := true, plainKeys := false, apart := false }
def PackCoreSaid : Prop := packCoreRow.holds Try.pinned (OpenSpec.ofChange packCoreSpec)

/-- ITS FALSE NEIGHBOUR: 'it returns false'. Refute it at one input. -/
def packCoreWrong : ChangeSpec := { name := "packCore", fn := fun _ => fun
  | [d1, d2] => { results := [.lit (.bool false)], args := [d1, d2] }
  | _ => none }
def PackCoreWrongFalsely : Prop := packCoreRow.holds Try.pinned (OpenSpec.ofChange packCoreWrong)

/-- 'swinglelaw26.PackNewest': WHATEVER THE INPUT: true; the input reads as it did. -/
def packNewestSpec : ChangeSpec := { name := "packNewest", fn := fun _ => fun
  | [d1, d2, d3] => { results := [.lit (.bool true)], args := [d1, d2, d3] }
  | _ => none }
def packNewestRow : OpenClaim := { program := "ythaoambmnjfdlaa", sum := "4012a2b1bcf6c757db5719c6f0909bab931168456a1d867c6d125b4a3335a212", func := "swingle/swinglelaw26.PackNewest", spec := "packNewest", unfollowed := true, recurses := true, plainKeys := false, apart := false }
def PackNewestSaid : Prop := packNewestRow.holds Try.pinned (OpenSpec.ofChange packNewestSpec)

/-- ITS FALSE NEIGHBOUR: 'it returns false'. Refute it at one input. -/
def packNewestWrong : ChangeSpec := { name := "packNewest", fn := fun _ => fun
  | [d1, d2, d3] => { results := [.lit (.bool false)], args := [d1, d2, d3] }
  | _ => none }
def PackNewestWrongFalsely : Prop := packNewestRow.holds Try.pinned (OpenSpec.ofChange packNewestWrong)

/- THE SECOND FORM. 'bulk': how many values and letters a reading holds, each counted each time it is reached (what is shared counts as often as it is met; a slice's spare places count too). A statement '..UptoSaid' is the law's where the arguments, and the package variables that the reading takes, are together of bulk at most 1048576: NARROWER than '..Said'. Prove '..Said' where nothing that the law and all that it calls make is longer than what came in: it says more and counts as full. Else prove '..UptoSaid'. A law counts once. -/
mutual
def uptoBulk {H : Type} : DataW H → Nat
  | .lit (.string bytes) => bytes.length + 1
  | .lit _ => 1
  | .nil => 1
  | .ptr d => uptoBulk d + 1
  | .slice elems spare => uptoBulkAll elems + uptoBulkAll spare + 1
  | .agg parts => uptoBulkAll parts + 1
  | .iface _ d => uptoBulk d + 1
  | .map entries => uptoBulkEntries entries + 1
  | .held _ => 1
def uptoBulkAll {H : Type} : List (DataW H) → Nat
  | [] => 0
  | d :: r => uptoBulk d + uptoBulkAll r
def uptoBulkEntries {H : Type} : List (Lit × DataW H) → Nat
  | [] => 0
  | x :: r => uptoBulkEntry x + uptoBulkEntries r
def uptoBulkEntry {H : Type} : Lit × DataW H → Nat
  | (.string bytes, d) => bytes.length + uptoBulk d + 1
  | (_, d) => uptoBulk d + 1
 end
def uptoSmall : (H : Type) → List (DataW H) → Bool := fun _ ds => decide (uptoBulkAll ds ≤ 1048576)
def OpenSpec.upto (s : _root_.Go.ChangeSpec) : _root_.Go.OpenSpec := { _root_.Go.OpenSpec.ofChange s with cond := some uptoSmall }

/-- 'swinglelaw26.PackFaults', WHERE WHAT IT READS IS OF BULK AT MOST 1048576: true; the input reads as it did. -/
def packFaultsUptoRow : OpenClaim := { program := "ythaoambmnjfdlaa", sum := "4012a2b1bcf6c757db5719c6f0909bab931168456a1d867c6d125b4a3335a212", func := "swingle/swinglelaw26.PackFaults", spec := "packFaults", unfollowed := true, recurses := true, plainKeys := false, apart := false, narrowed := true }
def PackFaultsUptoSaid : Prop := packFaultsUptoRow.holds Try.pinned (OpenSpec.upto packFaultsSpec)

/-- 'swinglelaw26.PackBests', WHERE WHAT IT READS IS OF BULK AT MOST 1048576: true; the input reads as it did. -/
def packBestsUptoRow : OpenClaim := { program := "ythaoambmnjfdlaa", sum := "4012a2b1bcf6c757db5719c6f0909bab931168456a1d867c6d125b4a3335a212", func := "swingle/swinglelaw26.PackBests", spec := "packBests", unfollowed := true, recurses := true, plainKeys := false, apart := false, narrowed := true }
def PackBestsUptoSaid : Prop := packBestsUptoRow.holds Try.pinned (OpenSpec.upto packBestsSpec)

/-- 'swinglelaw26.PackCores', WHERE WHAT IT READS IS OF BULK AT MOST 1048576: true; the input reads as it did. -/
def packCoresUptoRow : OpenClaim := { program := "ythaoambmnjfdlaa", sum := "4012a2b1bcf6c757db5719c6f0909bab931168456a1d867c6d125b4a3335a212", func := "swingle/swinglelaw26.PackCores", spec := "packCores", unfollowed := true, recurses := true, plainKeys := false, apart := false, narrowed := true }
def PackCoresUptoSaid : Prop := packCoresUptoRow.holds Try.pinned (OpenSpec.upto packCoresSpec)

/-- 'swinglelaw26.PackNears', WHERE WHAT IT READS IS OF BULK AT MOST 1048576: true; the input reads as it did. -/
def packNearsUptoRow : OpenClaim := { program := "ythaoambmnjfdlaa", sum := "4012a2b1bcf6c757db5719c6f0909bab931168456a1d867c6d125b4a3335a212", func := "swingle/swinglelaw26.PackNears", spec := "packNears", unfollowed := true, recurses := true, plainKeys := false, apart := false, narrowed := true }
def PackNearsUptoSaid : Prop := packNearsUptoRow.holds Try.pinned (OpenSpec.upto packNearsSpec)

/-- 'swinglelaw26.PackCore', WHERE WHAT IT READS IS OF BULK AT MOST 1048576: true; the input reads as it did. -/
def packCoreUptoRow : OpenClaim := { program := "ythaoambmnjfdlaa", sum := "4012a2b1bcf6c757db5719c6f0909bab931168456a1d867c6d125b4a3335a212", func := "swingle/swinglelaw26.PackCore", spec := "packCore", unfollowed := true, recurses := true, plainKeys := false, apart := false, narrowed := true }
def PackCoreUptoSaid : Prop := packCoreUptoRow.holds Try.pinned (OpenSpec.upto packCoreSpec)

/-- 'swinglelaw26.PackNewest', WHERE WHAT IT READS IS OF BULK AT MOST 1048576: true; the input reads as it did. -/
def packNewestUptoRow : OpenClaim := { program := "ythaoambmnjfdlaa", sum := "4012a2b1bcf6c757db5719c6f0909bab931168456a1d867c6d125b4a3335a212", func := "swingle/swinglelaw26.PackNewest", spec := "packNewest", unfollowed := true, recurses := true, plainKeys := false, apart := false, narrowed := true }
def PackNewestUptoSaid : Prop := packNewestUptoRow.holds Try.pinned (OpenSpec.upto packNewestSpec)

end Rows
end Go.Proofs.Ythaoambmnjfdlaa
