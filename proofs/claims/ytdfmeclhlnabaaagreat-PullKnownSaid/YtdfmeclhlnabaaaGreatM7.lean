/- Part 7 of the proof: lemmas. -/
import Derived.Test.YtdfmeclhlnabaaaGreatM6
namespace Go.Proofs.YtdfmeclhlnabaaaGreat
open Go Go.Avm Go.Bvm
set_option maxRecDepth 100000
noncomputable section
def gC : AV := mkA 3 [mkI 4, mkI 0, mkS .opn 3 2 [mkI 4, mkI 1, mkS .nil 0 0 [], mkI 4, mkI 1, mkS .nil 0 0 []]]
def vC : AV := mkT 3 [mkS .opn 3 3 [mkI 3, mkI 2, mkS .nil 0 0 [], mkI 3, mkI 3, mkS .auto 3 1 [mkI 3, mkI 2, mkS .nil 0 0 []], mkI 3, mkI 3, mkS .auto 3 1 [mkI 3, mkI 3, mkS .auto 3 1 [mkI 3, mkI 2, mkS .nil 0 0 []]]], mkI 4, mkI 13]
theorem vC_run : runQ c6 53 [gC] vC = true := by decide +kernel
theorem vC_low : below0 [gC] = true := by decide +kernel
theorem vC_does : ∀ (R : Res) (hp : List AObj) (g : R.σ), Does Tryz.prog R 53 [gC] hp g (.ret vC) hp g := known_as c6_ok vC_run vC_low
def c7 : Cf := addK c6 53 [gC] vC
theorem c7_ok : CfOk c7 := c6_ok.add vC_does
end
end Go.Proofs.YtdfmeclhlnabaaaGreat
