/- Part 9 of the proof: lemmas. -/
import Derived.Test.YtdfmeclhlnabaaaGreatM8
namespace Go.Proofs.YtdfmeclhlnabaaaGreat
open Go Go.Avm Go.Bvm
set_option maxRecDepth 100000
noncomputable section
def gE : AV := mkA 3 [mkI 11, mkI 0, mkS .opn 3 2 [mkI 4, mkI 1, mkS .nil 0 0 [], mkI 3, mkI 3, mkS .opn 3 1 [mkI 3, mkI 2, mkS .nil 0 0 []]]]
def vE : AV := mkT 3 [mkS .auto 3 1 [mkI 3, mkI 1, mkS .nil 0 0 []], mkI 1, mkI 8]
theorem vE_run : runQ c8 53 [gE] vE = true := by decide +kernel
theorem vE_low : below0 [gE] = true := by decide +kernel
theorem vE_does : ∀ (R : Res) (hp : List AObj) (g : R.σ), Does Tryz.prog R 53 [gE] hp g (.ret vE) hp g := known_as c8_ok vE_run vE_low
def c9 : Cf := addK c8 53 [gE] vE
theorem c9_ok : CfOk c9 := c8_ok.add vE_does
end
end Go.Proofs.YtdfmeclhlnabaaaGreat
