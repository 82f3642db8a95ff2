/- Part 7 of the proof: lemmas. -/
import Derived.Test.YtdfmeclhlnabaaaGreatM6
namespace Go.Proofs.YtdfmeclhlnabaaaGreat
open Go Go.Avm Go.Bvm
set_option maxRecDepth 100000
noncomputable section
def f8L : AV := .bool true
theorem f8L_run : runQ c6 8 [fvL] f8L = true := by decide +kernel
theorem f8L_low : below0 [fvL] = true := by decide +kernel
theorem f8L_does : ∀ (R : Res) (hp : List AObj) (g : R.σ), Does Tryz.prog R 8 [fvL] hp g (.ret f8L) hp g := known_as c6_ok f8L_run f8L_low
def c7 : Cf := addK c6 8 [fvL] f8L
theorem c7_ok : CfOk c7 := c6_ok.add f8L_does
def f9L : AV := .bool true
theorem f9L_run : runQ c7 9 [fvL] f9L = true := by decide +kernel
theorem f9L_low : below0 [fvL] = true := by decide +kernel
theorem f9L_does : ∀ (R : Res) (hp : List AObj) (g : R.σ), Does Tryz.prog R 9 [fvL] hp g (.ret f9L) hp g := known_as c7_ok f9L_run f9L_low
def c8 : Cf := addK c7 9 [fvL] f9L
theorem c8_ok : CfOk c8 := c7_ok.add f9L_does
end
end Go.Proofs.YtdfmeclhlnabaaaGreat
