/- Part 6 of the proof: lemmas. -/
import Derived.Test.YtdfmeclhlnabaaaGreatM5
namespace Go.Proofs.YtdfmeclhlnabaaaGreat
open Go Go.Avm Go.Bvm
set_option maxRecDepth 100000
noncomputable section
def gB : AV := mkA 3 [mkI 4, mkI 2, mkS .opn 3 1 [mkI 4, mkI 1, mkS .nil 0 0 []]]
def vB : AV := mkT 3 [mkS .auto 3 2 [mkI 3, mkI 2, mkS .nil 0 0 [], mkI 3, mkI 3, mkS .auto 3 1 [mkI 3, mkI 3, mkS .auto 3 1 [mkI 3, mkI 2, mkS .nil 0 0 []]]], mkI 2, mkI 11]
theorem vB_run : runQ c5 53 [gB] vB = true := by decide +kernel
theorem vB_low : below0 [gB] = true := by decide +kernel
theorem vB_does : ∀ (R : Res) (hp : List AObj) (g : R.σ), Does Tryz.prog R 53 [gB] hp g (.ret vB) hp g := known_as c5_ok vB_run vB_low
def c6 : Cf := addK c5 53 [gB] vB
theorem c6_ok : CfOk c6 := c5_ok.add vB_does
end
end Go.Proofs.YtdfmeclhlnabaaaGreat
