import Derived.JoinedOf
import Derived.Test.YtlabkganboebeaaGreatRows
/-
Closed facts of a row.
-/
namespace Go.Proofs.YtlabkganboebeaaGreat
open Go Go.Proofs
set_option maxRecDepth 100000 in
theorem plainParts_fact11 : ((Rows.plainPartsRow.recurses == Tryz.pinned.checked.prog.recurses 6)) = true := by kernel_rfl
set_option maxRecDepth 100000 in
theorem plainParts_fact26 : ((Rows.plainPartsRow.lifted == Tryz.pinned.checked.prog.liftsFinal)) = true := by kernel_rfl
set_option maxRecDepth 100000 in
theorem plainParts_fact27 : ((Tryz.pinned.checked.prog.make == some Rows.plainPartsRow.make)) = true := by kernel_rfl
set_option maxRecDepth 100000 in
theorem plainParts_fact28 : ((Rows.plainPartsRow.kinds == (if Rows.plainPartsRow.domain.isEmpty then [] else Tryz.f6.params.toList.map fun t => match Tryz.pinned.checked.prog.underlying t with | some (.int k) => some k | _ => none))) = true := by kernel_rfl
set_option maxRecDepth 100000 in
theorem plainParts_fact29 : ((Rows.plainPartsRow.pinned == Rows.plainPartsRow.pinnedBy)) = true := by kernel_rfl
set_option maxRecDepth 100000 in
theorem plainParts_fact30 : ((Rows.plainPartsRow.veiled == (Tryz.f6.params.toList ++ Rows.plainPartsSpec.plain.varTypes Tryz.pinned.checked.prog ++ Tryz.f6.resultTypes.toList).any (Tryz.pinned.checked.prog.veiledRec ·))) = true := by kernel_rfl
set_option maxRecDepth 100000 in
theorem plainParts_fact31 : (Rows.plainPartsRow.veiledFits Tryz.pinned.checked.prog Tryz.f6.params.toList (Tryz.f6.params.toList ++ Rows.plainPartsSpec.plain.varTypes Tryz.pinned.checked.prog ++ Tryz.f6.resultTypes.toList)) = true := by kernel_rfl
end Go.Proofs.YtlabkganboebeaaGreat
