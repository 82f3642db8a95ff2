/- FlatKnown returns true, and leaves its arguments as they were. No conditions: every input that can be read as data. -/
import Derived.Test.YtdfmeclhlnabaaaGreatM7
namespace Go.Proofs.YtdfmeclhlnabaaaGreat
open Go Go.Avm Go.Bvm
set_option maxRecDepth 100000
noncomputable section
theorem known_run : isT (run c8 3 []) = true := by decide +kernel
theorem c_FlatKnown (R : Res) (hp : List AObj) (g : R.σ) : Does Tryz.prog R 3 [] hp g (.ret (.bool true)) hp g := does_any' (run_does c8_ok (isT_some known_run)) trivial R hp g
end
end Go.Proofs.YtdfmeclhlnabaaaGreat
namespace Go.Proofs.YtdfmeclhlnabaaaGreat
open Go Go.Avm Go.WideShapes Go.ChangeShapes
set_option maxRecDepth 100000 in
theorem flatKnown_lifted (os : Os) (started : os.Started) (H : Type) (enc : TypeId × Value → H) :
    ReturnsInHanded {} Tryz.checked os 3 .any (Rows.flatKnownSpec.pre6 enc Tryz.prog Tryz.f3 Rows.flatKnownRow.domain Rows.flatKnownRow.apart) (Rows.flatKnownSpec.post enc Tryz.prog Tryz.f3 Rows.flatKnownRow.apart Rows.flatKnownRow.fresh Rows.flatKnownRow.handsOn Rows.flatKnownRow.again) :=
  law_returns (C := Tryz.checked) (tb := 4) (X := fun l => l = []) (by kernel_rfl) started (by kernel_rfl) Tryz.func3
    (ChangeSpec.witness6 (enc := enc) (C := Tryz.checked) false ⟨#[], #[], []⟩ 8 (by kernel_rfl) (by kernel_rfl) (by kernel_rfl) (by kernel_rfl))
    rfl (fun ds h => by
      match ds, h with
      | [], _ => rfl) (by kernel_rfl)
    (fun t ht => by
      have ht : t ∈ [] := ht
      cases ht
      ) rfl Tryz.underlying4
    (args_nil)
    (fun avs e0 => by
      subst e0
      exact c_FlatKnown Res.none  [] ())
theorem fact_in : (Rows.flatKnownRow.inPlace == Tryz.pinned.checked.prog.inPlace 3) = true := by kernel_rfl
theorem fact_un : (Rows.flatKnownRow.unfollowed == Tryz.pinned.checked.prog.unfollowed 3) = true := by kernel_rfl
theorem fact_re : (Rows.flatKnownRow.recurses == Tryz.pinned.checked.prog.recurses 3) = true := by kernel_rfl
theorem fact_na : (Rows.flatKnownRow.named == Tryz.pinned.checked.prog.varsNamed 3) = true := by kernel_rfl
theorem facts : joinedFacts Tryz.pinned.checked.prog 3 Tryz.f3 Rows.flatKnownSpec Rows.flatKnownRow = true := by
  unfold joinedFacts
  rw [fact_in, fact_un, fact_re, fact_na]
  kernel_rfl
theorem named : Tryz.pinned.checked.prog.funcNamed Rows.flatKnownRow.func = some 3 := by kernel_rfl
theorem flatKnown_holds : Rows.FlatKnownSaid :=
  OpenClaim.holds_of_wide 3 Tryz.f3 rfl rfl rfl rfl rfl rfl rfl ⟨rfl, rfl, rfl, rfl, rfl⟩ rfl rfl rfl rfl rfl named Tryz.func3 facts
    (of_decide_eq_true (by kernel_rfl)) (by unfold Func.isWrapper; rw [if_neg (by decide +kernel)]; exact ⟨rfl, rfl⟩)
    (fun os started H enc _ => flatKnown_lifted os started H enc)
#print axioms flatKnown_holds
end Go.Proofs.YtdfmeclhlnabaaaGreat
