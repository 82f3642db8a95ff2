/- Part 4 of the proof: lemmas. -/
import Derived.Test.YtdfmeclhlnabaaaGreatM3
namespace Go.Proofs.YtdfmeclhlnabaaaGreat
open Go Go.Avm Go.Bvm
set_option maxRecDepth 100000
noncomputable section
def plP : AV := .bool true
theorem plP_run : runQ c3 124 [pP] plP = true := by decide +kernel
theorem plP_low : below0 [pP] = true := by decide +kernel
theorem plP_does : ∀ (R : Res) (hp : List AObj) (g : R.σ), Does Tryz.prog R 124 [pP] hp g (.ret plP) hp g := known_as c3_ok plP_run plP_low
def c4 : Cf := addK c3 124 [pP] plP
theorem c4_ok : CfOk c4 := c3_ok.add plP_does
end
end Go.Proofs.YtdfmeclhlnabaaaGreat
