/- Part 6 of the proof: lemmas. -/
import Derived.Test.YtdfmeclhlnabaaaGreatM5
namespace Go.Proofs.YtdfmeclhlnabaaaGreat
open Go Go.Avm Go.Bvm
set_option maxRecDepth 100000
noncomputable section
def frL : AV := .bool true
theorem frL_run : runQ c5 31 [fvL] frL = true := by decide +kernel
theorem frL_low : below0 [fvL] = true := by decide +kernel
theorem frL_does : ∀ (R : Res) (hp : List AObj) (g : R.σ), Does Tryz.prog R 31 [fvL] hp g (.ret frL) hp g := known_as c5_ok frL_run frL_low
def c6 : Cf := addK c5 31 [fvL] frL
theorem c6_ok : CfOk c6 := c5_ok.add frL_does
end
end Go.Proofs.YtdfmeclhlnabaaaGreat
