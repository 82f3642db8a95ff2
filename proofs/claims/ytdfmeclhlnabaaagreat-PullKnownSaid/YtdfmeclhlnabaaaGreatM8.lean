/- Part 8 of the proof: lemmas. -/
import Derived.Test.YtdfmeclhlnabaaaGreatM7
namespace Go.Proofs.YtdfmeclhlnabaaaGreat
open Go Go.Avm Go.Bvm
set_option maxRecDepth 100000
noncomputable section
def gD : AV := mkA 3 [mkI 12, mkI 0, mkS .opn 3 2 [mkI 4, mkI 1, mkS .nil 0 0 [], mkI 4, mkI 1, mkS .nil 0 0 []]]
def vD : AV := mkT 3 [mkS .opn 3 2 [mkI 3, mkI 0, mkS .nil 0 0 [], mkI 3, mkI 1, mkS .nil 0 0 []], mkI 4, mkI 16]
theorem vD_run : runQ c7 53 [gD] vD = true := by decide +kernel
theorem vD_low : below0 [gD] = true := by decide +kernel
theorem vD_does : ∀ (R : Res) (hp : List AObj) (g : R.σ), Does Tryz.prog R 53 [gD] hp g (.ret vD) hp g := known_as c7_ok vD_run vD_low
def c8 : Cf := addK c7 53 [gD] vD
theorem c8_ok : CfOk c8 := c7_ok.add vD_does
end
end Go.Proofs.YtdfmeclhlnabaaaGreat
