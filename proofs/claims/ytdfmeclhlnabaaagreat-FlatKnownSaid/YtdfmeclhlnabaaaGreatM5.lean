/- Part 5 of the proof: lemmas. -/
import Derived.Test.YtdfmeclhlnabaaaGreatM4
namespace Go.Proofs.YtdfmeclhlnabaaaGreat
open Go Go.Avm Go.Bvm
set_option maxRecDepth 100000
noncomputable section
def pw : AV := mkA 3 [mkS .opn 2 6 [.str ⟨#[70, 97, 108, 115, 101]⟩, mkI 0, .str ⟨#[84, 114, 117, 101]⟩, mkI 0, .str ⟨#[90]⟩, mkI 0, .str ⟨#[83]⟩, mkI 1, .str ⟨#[78, 105, 108]⟩, mkI 0, .str ⟨#[67, 111, 110, 115]⟩, mkI 2], mkS .opn 2 4 [.str ⟨#[97, 100, 100]⟩, mkI 2, .str ⟨#[111, 114]⟩, mkI 2, .str ⟨#[99, 111, 105, 110]⟩, mkI 0, .str ⟨#[108, 101, 110]⟩, mkI 1], mkS .auto 6 9 [mkI 0, mkS .opn 3 2 [mkI 3, mkI 2, mkS .nil 0 0 [], mkI 1, mkI 0, mkS .nil 0 0 []], mkI 1, mkI 0, mkS .nil 0 0 [], mkI 1, mkI 0, mkS .opn 3 2 [mkI 3, mkI 3, mkS .opn 3 1 [mkI 1, mkI 0, mkS .nil 0 0 []], mkI 1, mkI 1, mkS .nil 0 0 []], mkI 3, mkI 3, mkS .opn 3 1 [mkI 4, mkI 0, mkS .opn 3 2 [mkI 1, mkI 0, mkS .nil 0 0 [], mkI 1, mkI 1, mkS .nil 0 0 []]], mkI 2, mkI 1, mkS .opn 3 2 [mkI 3, mkI 1, mkS .nil 0 0 [], mkI 1, mkI 0, mkS .nil 0 0 []], mkI 3, mkI 1, mkS .nil 0 0 [], mkI 1, mkI 1, mkS .opn 3 2 [mkI 1, mkI 0, mkS .nil 0 0 [], mkI 3, mkI 1, mkS .nil 0 0 []], mkI 3, mkI 1, mkS .nil 0 0 [], mkI 1, mkI 1, mkS .opn 3 2 [mkI 3, mkI 0, mkS .nil 0 0 [], mkI 3, mkI 0, mkS .nil 0 0 []], mkI 3, mkI 0, mkS .nil 0 0 [], mkI 0, mkI 2, mkS .nil 0 0 [], mkI 3, mkI 2, mkS .nil 0 0 [], mkI 0, mkI 2, mkS .nil 0 0 [], mkI 3, mkI 3, mkS .opn 3 1 [mkI 3, mkI 2, mkS .nil 0 0 []], mkI 0, mkI 3, mkS .opn 3 1 [mkI 3, mkI 5, mkS .opn 3 2 [mkI 1, mkI 0, mkS .nil 0 0 [], mkI 1, mkI 1, mkS .nil 0 0 []]], mkI 3, mkI 3, mkS .opn 3 1 [mkI 4, mkI 3, mkS .opn 3 1 [mkI 1, mkI 1, mkS .nil 0 0 []]], mkI 2, mkI 3, mkS .opn 3 1 [mkI 1, mkI 0, mkS .nil 0 0 []], mkI 4, mkI 0, mkS .opn 3 2 [mkI 1, mkI 1, mkS .nil 0 0 [], mkI 1, mkI 1, mkS .nil 0 0 []], mkI 2]]
def rwL : AV := .bool true
theorem rwL_run : runQ c4 60 [pw] rwL = true := by decide +kernel
theorem rwL_low : below0 [pw] = true := by decide +kernel
theorem rwL_does : ∀ (R : Res) (hp : List AObj) (g : R.σ), Does Tryz.prog R 60 [pw] hp g (.ret rwL) hp g := known_as c4_ok rwL_run rwL_low
def c5 : Cf := addK c4 60 [pw] rwL
theorem c5_ok : CfOk c5 := c4_ok.add rwL_does
end
end Go.Proofs.YtdfmeclhlnabaaaGreat
