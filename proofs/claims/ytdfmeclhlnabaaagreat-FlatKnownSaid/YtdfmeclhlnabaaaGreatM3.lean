/- Part 3 of the proof: lemmas. -/
import Derived.Test.YtdfmeclhlnabaaaGreatM2
namespace Go.Proofs.YtdfmeclhlnabaaaGreat
open Go Go.Avm Go.Bvm
set_option maxRecDepth 100000
noncomputable section
def c0 : Cf := ⟨Tryz.prog, drawsC Tryz.prog, fun _ => [], fun f => Nat.beq f 132⟩
theorem c0_ok : CfOk c0 := ⟨by kernel_rfl, by kernel_rfl, rfl, fun _ m hm => (by cases hm)⟩
def sgL : AV := mkA 2 [mkS .opn 2 6 [.str ⟨#[70, 97, 108, 115, 101]⟩, mkI 0, .str ⟨#[84, 114, 117, 101]⟩, mkI 0, .str ⟨#[90]⟩, mkI 0, .str ⟨#[83]⟩, mkI 1, .str ⟨#[78, 105, 108]⟩, mkI 0, .str ⟨#[67, 111, 110, 115]⟩, mkI 2], mkS .opn 2 4 [.str ⟨#[97, 100, 100]⟩, mkI 2, .str ⟨#[111, 114]⟩, mkI 2, .str ⟨#[99, 111, 105, 110]⟩, mkI 0, .str ⟨#[108, 101, 110]⟩, mkI 1]]
def pvL : AV := mkA 3 [mkS .opn 2 6 [.str ⟨#[70, 97, 108, 115, 101]⟩, mkI 0, .str ⟨#[84, 114, 117, 101]⟩, mkI 0, .str ⟨#[90]⟩, mkI 0, .str ⟨#[83]⟩, mkI 1, .str ⟨#[78, 105, 108]⟩, mkI 0, .str ⟨#[67, 111, 110, 115]⟩, mkI 2], mkS .opn 2 4 [.str ⟨#[97, 100, 100]⟩, mkI 2, .str ⟨#[111, 114]⟩, mkI 2, .str ⟨#[99, 111, 105, 110]⟩, mkI 0, .str ⟨#[108, 101, 110]⟩, mkI 1], mkS .opn 6 9 [mkI 0, mkS .opn 3 2 [mkI 3, mkI 2, mkS .nil 0 0 [], mkI 1, mkI 0, mkS .nil 0 0 []], mkI 1, mkI 0, mkS .nil 0 0 [], mkI 1, mkI 0, mkS .opn 3 2 [mkI 3, mkI 3, mkS .opn 3 1 [mkI 1, mkI 0, mkS .nil 0 0 []], mkI 1, mkI 1, mkS .nil 0 0 []], mkI 3, mkI 3, mkS .opn 3 1 [mkI 4, mkI 0, mkS .opn 3 2 [mkI 1, mkI 0, mkS .nil 0 0 [], mkI 1, mkI 1, mkS .nil 0 0 []]], mkI 2, mkI 1, mkS .opn 3 2 [mkI 3, mkI 1, mkS .nil 0 0 [], mkI 1, mkI 0, mkS .nil 0 0 []], mkI 3, mkI 1, mkS .nil 0 0 [], mkI 1, mkI 1, mkS .opn 3 2 [mkI 1, mkI 0, mkS .nil 0 0 [], mkI 3, mkI 1, mkS .nil 0 0 []], mkI 3, mkI 1, mkS .nil 0 0 [], mkI 1, mkI 1, mkS .opn 3 2 [mkI 3, mkI 0, mkS .nil 0 0 [], mkI 3, mkI 0, mkS .nil 0 0 []], mkI 3, mkI 0, mkS .nil 0 0 [], mkI 0, mkI 2, mkS .nil 0 0 [], mkI 3, mkI 2, mkS .nil 0 0 [], mkI 0, mkI 2, mkS .nil 0 0 [], mkI 3, mkI 3, mkS .opn 3 1 [mkI 3, mkI 2, mkS .nil 0 0 []], mkI 0, mkI 3, mkS .opn 3 1 [mkI 3, mkI 5, mkS .opn 3 2 [mkI 1, mkI 0, mkS .nil 0 0 [], mkI 1, mkI 1, mkS .nil 0 0 []]], mkI 3, mkI 3, mkS .opn 3 1 [mkI 4, mkI 3, mkS .opn 3 1 [mkI 1, mkI 1, mkS .nil 0 0 []]], mkI 2, mkI 3, mkS .opn 3 1 [mkI 1, mkI 0, mkS .nil 0 0 []], mkI 4, mkI 0, mkS .opn 3 2 [mkI 1, mkI 1, mkS .nil 0 0 [], mkI 1, mkI 1, mkS .nil 0 0 []], mkI 2]]
theorem pvL_run : runQ c0 7 [] pvL = true := by decide +kernel
theorem pvL_low : below0 [] = true := by decide +kernel
theorem pvL_does : ∀ (R : Res) (hp : List AObj) (g : R.σ), Does Tryz.prog R 7 [] hp g (.ret pvL) hp g := known_as c0_ok pvL_run pvL_low
def c1 : Cf := addK c0 7 [] pvL
theorem c1_ok : CfOk c1 := c0_ok.add pvL_does
def cs1L : AV := mkI 0
theorem cs1L_run : runQ c1 129 [sgL] cs1L = true := by decide +kernel
theorem cs1L_low : below0 [sgL] = true := by decide +kernel
theorem cs1L_does : ∀ (R : Res) (hp : List AObj) (g : R.σ), Does Tryz.prog R 129 [sgL] hp g (.ret cs1L) hp g := known_as c1_ok cs1L_run cs1L_low
def c2 : Cf := addK c1 129 [sgL] cs1L
theorem c2_ok : CfOk c2 := c1_ok.add cs1L_does
def rvL : AV := .bool true
theorem rvL_run : runQ c2 60 [pvL] rvL = true := by decide +kernel
theorem rvL_low : below0 [pvL] = true := by decide +kernel
theorem rvL_does : ∀ (R : Res) (hp : List AObj) (g : R.σ), Does Tryz.prog R 60 [pvL] hp g (.ret rvL) hp g := known_as c2_ok rvL_run rvL_low
def c3 : Cf := addK c2 60 [pvL] rvL
theorem c3_ok : CfOk c3 := c2_ok.add rvL_does
end
end Go.Proofs.YtdfmeclhlnabaaaGreat
