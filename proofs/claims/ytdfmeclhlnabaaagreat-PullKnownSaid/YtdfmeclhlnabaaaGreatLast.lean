/- PullKnown returns true, and leaves its arguments as they were. No conditions: every input that can be read as data. -/
import Derived.Test.YtdfmeclhlnabaaaGreatM9
namespace Go.Proofs.YtdfmeclhlnabaaaGreat
open Go Go.Avm Go.Bvm
set_option maxRecDepth 100000
noncomputable section
theorem known_run : isT (run c9 5 []) = true := by decide +kernel
theorem c_PullKnown (R : Res) (hp : List AObj) (g : R.σ) : Does Tryz.prog R 5 [] hp g (.ret (.bool true)) hp g := does_any' (run_does c9_ok (isT_some known_run)) trivial R hp g
end
end Go.Proofs.YtdfmeclhlnabaaaGreat
namespace Go.Proofs.YtdfmeclhlnabaaaGreat
open Go Go.Avm Go.WideShapes Go.ChangeShapes
set_option maxRecDepth 100000 in
theorem pullKnown_lifted (os : Os) (started : os.Started) (H : Type) (enc : TypeId × Value → H) :
    ReturnsInHanded {} Tryz.checked os 5 .any (Rows.pullKnownSpec.pre6 enc Tryz.prog Tryz.f5 Rows.pullKnownRow.domain Rows.pullKnownRow.apart) (Rows.pullKnownSpec.post enc Tryz.prog Tryz.f5 Rows.pullKnownRow.apart Rows.pullKnownRow.fresh Rows.pullKnownRow.handsOn Rows.pullKnownRow.again) :=
  law_returns (C := Tryz.checked) (tb := 4) (X := fun l => l = []) (by kernel_rfl) started (by kernel_rfl) Tryz.func5
    (ChangeSpec.witness6 (enc := enc) (C := Tryz.checked) false ⟨#[], #[], []⟩ 8 (by kernel_rfl) (by kernel_rfl) (by kernel_rfl) (by kernel_rfl))
    rfl (fun ds h => by
      match ds, h with
      | [], _ => rfl) (by kernel_rfl)
    (fun t ht => by
      have ht : t ∈ [] := ht
      cases ht
      ) rfl Tryz.underlying4
    (args_nil)
    (fun avs e0 => by
      subst e0
      exact c_PullKnown Res.none  [] ())
theorem fact_in : (Rows.pullKnownRow.inPlace == Tryz.pinned.checked.prog.inPlace 5) = true := by kernel_rfl
theorem fact_un : (Rows.pullKnownRow.unfollowed == Tryz.pinned.checked.prog.unfollowed 5) = true := by kernel_rfl
theorem fact_re : (Rows.pullKnownRow.recurses == Tryz.pinned.checked.prog.recurses 5) = true := by kernel_rfl
theorem fact_na : (Rows.pullKnownRow.named == Tryz.pinned.checked.prog.varsNamed 5) = true := by kernel_rfl
theorem facts : joinedFacts Tryz.pinned.checked.prog 5 Tryz.f5 Rows.pullKnownSpec Rows.pullKnownRow = true := by
  unfold joinedFacts
  rw [fact_in, fact_un, fact_re, fact_na]
  kernel_rfl
theorem named : Tryz.pinned.checked.prog.funcNamed Rows.pullKnownRow.func = some 5 := by kernel_rfl
theorem pullKnown_holds : Rows.PullKnownSaid :=
  OpenClaim.holds_of_wide 5 Tryz.f5 rfl rfl rfl rfl rfl rfl rfl ⟨rfl, rfl, rfl, rfl, rfl⟩ rfl rfl rfl rfl rfl named Tryz.func5 facts
    (of_decide_eq_true (by kernel_rfl)) (by unfold Func.isWrapper; rw [if_neg (by decide +kernel)]; exact ⟨rfl, rfl⟩)
    (fun os started H enc _ => pullKnown_lifted os started H enc)
#print axioms pullKnown_holds
end Go.Proofs.YtdfmeclhlnabaaaGreat
