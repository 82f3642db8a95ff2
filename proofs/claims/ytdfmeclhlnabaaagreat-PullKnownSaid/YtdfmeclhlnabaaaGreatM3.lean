/- Part 3 of the proof: lemmas. -/
import Derived.Test.YtdfmeclhlnabaaaGreatM2
namespace Go.Proofs.YtdfmeclhlnabaaaGreat
open Go Go.Avm Go.Bvm
set_option maxRecDepth 100000
noncomputable section
def c0 : Cf := ⟨Tryz.prog, drawsC Tryz.prog, fun _ => [], fun f => Nat.beq f 132⟩
theorem c0_ok : CfOk c0 := ⟨by kernel_rfl, by kernel_rfl, rfl, fun _ m hm => (by cases hm)⟩
def sgP : AV := mkA 2 [mkS .opn 2 4 [.str ⟨#[70, 97, 108, 115, 101]⟩, mkI 0, .str ⟨#[84, 114, 117, 101]⟩, mkI 0, .str ⟨#[90]⟩, mkI 0, .str ⟨#[83]⟩, mkI 1], mkS .opn 2 3 [.str ⟨#[97, 100, 100]⟩, mkI 2, .str ⟨#[99, 111, 105, 110]⟩, mkI 0, .str ⟨#[116, 119, 105, 99, 101]⟩, mkI 1]]
def pPr : AV := mkA 3 [mkS .opn 2 4 [.str ⟨#[70, 97, 108, 115, 101]⟩, mkI 0, .str ⟨#[84, 114, 117, 101]⟩, mkI 0, .str ⟨#[90]⟩, mkI 0, .str ⟨#[83]⟩, mkI 1], mkS .opn 2 3 [.str ⟨#[97, 100, 100]⟩, mkI 2, .str ⟨#[99, 111, 105, 110]⟩, mkI 0, .str ⟨#[116, 119, 105, 99, 101]⟩, mkI 1], mkS .opn 6 4 [mkI 0, mkS .opn 3 2 [mkI 3, mkI 2, mkS .nil 0 0 [], mkI 1, mkI 0, mkS .nil 0 0 []], mkI 1, mkI 0, mkS .nil 0 0 [], mkI 1, mkI 0, mkS .opn 3 2 [mkI 3, mkI 3, mkS .opn 3 1 [mkI 1, mkI 0, mkS .nil 0 0 []], mkI 1, mkI 1, mkS .nil 0 0 []], mkI 3, mkI 3, mkS .opn 3 1 [mkI 4, mkI 0, mkS .opn 3 2 [mkI 1, mkI 0, mkS .nil 0 0 [], mkI 1, mkI 1, mkS .nil 0 0 []]], mkI 2, mkI 1, mkS .nil 0 0 [], mkI 7, mkI 0, mkS .opn 3 2 [mkI 3, mkI 2, mkS .nil 0 0 [], mkI 3, mkI 3, mkS .opn 3 1 [mkI 3, mkI 2, mkS .nil 0 0 []]], mkI 0, mkI 2, mkS .opn 3 1 [mkI 1, mkI 0, mkS .nil 0 0 []], mkI 4, mkI 0, mkS .opn 3 2 [mkI 1, mkI 0, mkS .nil 0 0 [], mkI 1, mkI 0, mkS .nil 0 0 []], mkI 1]]
def pP : AV := mkA 4 [mkS .opn 2 4 [.str ⟨#[70, 97, 108, 115, 101]⟩, mkI 0, .str ⟨#[84, 114, 117, 101]⟩, mkI 0, .str ⟨#[90]⟩, mkI 0, .str ⟨#[83]⟩, mkI 1], mkS .opn 2 3 [.str ⟨#[97, 100, 100]⟩, mkI 2, .str ⟨#[99, 111, 105, 110]⟩, mkI 0, .str ⟨#[116, 119, 105, 99, 101]⟩, mkI 1], mkS .opn 6 4 [mkI 0, mkS .opn 3 2 [mkI 3, mkI 2, mkS .nil 0 0 [], mkI 1, mkI 0, mkS .nil 0 0 []], mkI 1, mkI 0, mkS .nil 0 0 [], mkI 1, mkI 0, mkS .opn 3 2 [mkI 3, mkI 3, mkS .opn 3 1 [mkI 1, mkI 0, mkS .nil 0 0 []], mkI 1, mkI 1, mkS .nil 0 0 []], mkI 3, mkI 3, mkS .opn 3 1 [mkI 4, mkI 0, mkS .opn 3 2 [mkI 1, mkI 0, mkS .nil 0 0 [], mkI 1, mkI 1, mkS .nil 0 0 []]], mkI 2, mkI 1, mkS .nil 0 0 [], mkI 7, mkI 0, mkS .opn 3 2 [mkI 3, mkI 2, mkS .nil 0 0 [], mkI 3, mkI 3, mkS .opn 3 1 [mkI 3, mkI 2, mkS .nil 0 0 []]], mkI 0, mkI 2, mkS .opn 3 1 [mkI 1, mkI 0, mkS .nil 0 0 []], mkI 4, mkI 0, mkS .opn 3 2 [mkI 1, mkI 0, mkS .nil 0 0 [], mkI 1, mkI 0, mkS .nil 0 0 []], mkI 1], mkS .auto 6 3 [mkI 1, mkI 0, mkS .auto 8 2 [mkI 2, mkS .nil 0 0 [], mkI 3, mkI 0, mkS .nil 0 0 [], mkS .nil 0 0 [], mkI 0, mkS .opn 1 1 [mkI 1], mkI 3, mkS .auto 1 1 [mkI 2], mkI 3, mkI 0, mkS .nil 0 0 [], mkS .nil 0 0 [], mkI 1, mkS .opn 1 2 [mkI 2, mkI 1]], mkS .nil 0 0 [], mkI 0, mkS .nil 0 0 [], mkI 3, mkI 0, mkS .nil 0 0 [], mkS .nil 0 0 [], mkI 2, mkS .opn 1 0 [], mkI 3, mkI 0, mkS .nil 0 0 [], mkS .nil 0 0 [], mkI 3, mkS .opn 1 1 [mkI 0]]]
theorem pP_run : runQ c0 57 [] pP = true := by decide +kernel
theorem pP_low : below0 [] = true := by decide +kernel
theorem pP_does : ∀ (R : Res) (hp : List AObj) (g : R.σ), Does Tryz.prog R 57 [] hp g (.ret pP) hp g := known_as c0_ok pP_run pP_low
def c1 : Cf := addK c0 57 [] pP
theorem c1_ok : CfOk c1 := c0_ok.add pP_does
def csP : AV := mkI 0
theorem csP_run : runQ c1 129 [sgP] csP = true := by decide +kernel
theorem csP_low : below0 [sgP] = true := by decide +kernel
theorem csP_does : ∀ (R : Res) (hp : List AObj) (g : R.σ), Does Tryz.prog R 129 [sgP] hp g (.ret csP) hp g := known_as c1_ok csP_run csP_low
def c2 : Cf := addK c1 129 [sgP] csP
theorem c2_ok : CfOk c2 := c1_ok.add csP_does
def rwP : AV := .bool true
theorem rwP_run : runQ c2 60 [pPr] rwP = true := by decide +kernel
theorem rwP_low : below0 [pPr] = true := by decide +kernel
theorem rwP_does : ∀ (R : Res) (hp : List AObj) (g : R.σ), Does Tryz.prog R 60 [pPr] hp g (.ret rwP) hp g := known_as c2_ok rwP_run rwP_low
def c3 : Cf := addK c2 60 [pPr] rwP
theorem c3_ok : CfOk c3 := c2_ok.add rwP_does
end
end Go.Proofs.YtdfmeclhlnabaaaGreat
