import Derived.Test.YtlabkganboebeaaGreatZ
import Derived.Test.YtlabkganboebeaaGreatF
import Derived.Test.YtlabkganboebeaaGreatRows
set_option linter.all false
/-
PlainParts: for every configuration, result and number of a partition the call returns true, and its arguments read as they did; without conditions.
-/
namespace Go.Proofs.YtlabkganboebeaaGreat
open Go Go.ChangeShapes Go.WideShapes Go.ChangeAt Go.RowKit Go.Proofs
theorem over : Rows.plainPartsRow.holds Tryz.pinned (OpenSpec.ofChange Rows.plainPartsSpec) :=
  OpenClaim.holds_of_wide 6 Tryz.f6 rfl rfl rfl rfl rfl rfl rfl ⟨rfl, rfl, rfl, rfl, rfl⟩ rfl rfl rfl rfl rfl (by kernel_rfl) Tryz.func6 plainParts_facts
    (of_decide_eq_true (by kernel_rfl)) (by unfold Func.isWrapper; first | (rw [if_pos (by decide +kernel)]; kernel_rfl) | (rw [if_neg (by decide +kernel)]; exact ⟨rfl, rfl⟩))
    (fun os started H enc _ => lifted os started H enc)

/-- ████ THE STATEMENT ████ -/
theorem plainParts : Rows.PlainPartsSaid := over
end Go.Proofs.YtlabkganboebeaaGreat
