/- RuleKnown returns true, and leaves its arguments as they were. No conditions: every input that can be read as data. -/
import Derived.Test.YtgmjpmeddajmgaaGreatM3
namespace Go.Proofs.YtgmjpmeddajmgaaGreat
open Go Go.Avm Go.Bvm
set_option maxRecDepth 100000
theorem known_run : isT (run c2 9 []) = true := by decide +kernel
theorem c_RuleKnown (R : Res) (hp : List AObj) (g : R.σ) : Does Tryz.prog R 9 [] hp g (.ret (.bool true)) hp g := does_any' (run_does c2_ok (isT_some known_run)) trivial R hp g
end Go.Proofs.YtgmjpmeddajmgaaGreat
namespace Go.Proofs.YtgmjpmeddajmgaaGreat
open Go Go.Avm Go.WideShapes Go.ChangeShapes
set_option maxRecDepth 100000 in
theorem ruleKnown_lifted (os : Os) (started : os.Started) (H : Type) (enc : TypeId × Value → H) :
    ReturnsInHanded {} Tryz.checked os 9 .any (Rows.ruleKnownSpec.pre6 enc Tryz.prog Tryz.f9 Rows.ruleKnownRow.domain Rows.ruleKnownRow.apart) (Rows.ruleKnownSpec.post enc Tryz.prog Tryz.f9 Rows.ruleKnownRow.apart Rows.ruleKnownRow.fresh Rows.ruleKnownRow.handsOn Rows.ruleKnownRow.again) :=
  law_returns (C := Tryz.checked) (tb := 4) (X := fun l => l = []) (by kernel_rfl) started (by kernel_rfl) Tryz.func9
    (ChangeSpec.witness6 (enc := enc) (C := Tryz.checked) false ⟨#[], #[], []⟩ 8 (by kernel_rfl) (by kernel_rfl) (by kernel_rfl) (by kernel_rfl))
    rfl (fun ds h => by
      match ds, h with
      | [], _ => rfl) (by kernel_rfl)
    (fun t ht => by
      have ht : t ∈ [] := ht
      cases ht
      ) rfl Tryz.underlying4
    (args_nil)
    (fun avs e0 => by
      subst e0
      exact c_RuleKnown Res.none  [] ())
theorem ruleKnown_holds : Rows.RuleKnownSaid :=
  OpenClaim.holds_of_wide 9 Tryz.f9 rfl rfl rfl rfl rfl rfl rfl ⟨rfl, rfl, rfl, rfl, rfl⟩ rfl rfl rfl rfl rfl (by kernel_rfl) Tryz.func9 (by kernel_rfl)
    (of_decide_eq_true (by kernel_rfl)) (by unfold Func.isWrapper; rw [if_neg (by decide +kernel)]; exact ⟨rfl, rfl⟩)
    (fun os started H enc _ => ruleKnown_lifted os started H enc)
#print axioms ruleKnown_holds
end Go.Proofs.YtgmjpmeddajmgaaGreat
