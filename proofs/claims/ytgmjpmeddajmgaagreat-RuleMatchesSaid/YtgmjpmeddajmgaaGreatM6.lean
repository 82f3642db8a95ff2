/- Part 6 of the proof: lemmas. -/
import Derived.Test.YtgmjpmeddajmgaaGreatM5
namespace Go.Proofs.YtgmjpmeddajmgaaGreat
open Go Go.Avm Go.Bvm
set_option maxRecDepth 100000
theorem known_run12:isT (run c2 12 [])=true:=by decide +kernel
end Go.Proofs.YtgmjpmeddajmgaaGreat
