/- Part 5 of the proof: lemmas. -/
import Derived.Test.YtdfmeclhlnabaaaGreatM4
namespace Go.Proofs.YtdfmeclhlnabaaaGreat
open Go Go.Avm Go.Bvm
set_option maxRecDepth 100000
noncomputable section
def gA : AV := mkA 3 [mkI 4, mkI 1, mkS .nil 0 0 []]
def vA : AV := mkT 3 [mkS .auto 3 2 [mkI 3, mkI 2, mkS .nil 0 0 [], mkI 3, mkI 3, mkS .auto 3 1 [mkI 3, mkI 2, mkS .nil 0 0 []]], mkI 2, mkI 4]
theorem vA_run : runQ c4 53 [gA] vA = true := by decide +kernel
theorem vA_low : below0 [gA] = true := by decide +kernel
theorem vA_does : ∀ (R : Res) (hp : List AObj) (g : R.σ), Does Tryz.prog R 53 [gA] hp g (.ret vA) hp g := known_as c4_ok vA_run vA_low
def c5 : Cf := addK c4 53 [gA] vA
theorem c5_ok : CfOk c5 := c4_ok.add vA_does
end
end Go.Proofs.YtdfmeclhlnabaaaGreat
