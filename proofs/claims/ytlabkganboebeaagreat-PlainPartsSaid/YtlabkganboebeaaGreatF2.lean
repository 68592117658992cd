import Derived.JoinedOf
import Derived.Test.YtlabkganboebeaaGreatRows
/-
Closed facts of a row.
-/
namespace Go.Proofs.YtlabkganboebeaaGreat
open Go Go.Proofs
set_option maxRecDepth 100000 in
theorem plainParts_fact10 : ((Rows.plainPartsRow.unfollowed == Tryz.pinned.checked.prog.unfollowed 6)) = true := by kernel_rfl
set_option maxRecDepth 100000 in
theorem plainParts_fact20 : ((Rows.plainPartsRow.ifacesOut == Tryz.f6.resultTypes.toList.any (Tryz.pinned.checked.prog.ifacesRec ·))) = true := by kernel_rfl
set_option maxRecDepth 100000 in
theorem plainParts_fact21 : ((Rows.plainPartsRow.loopsOut == Tryz.f6.resultTypes.toList.any (Tryz.pinned.checked.prog.loopsFrom ·))) = true := by kernel_rfl
set_option maxRecDepth 100000 in
theorem plainParts_fact22 : ((Rows.plainPartsRow.plainKeys == Tryz.pinned.checked.prog.plainKeys)) = true := by kernel_rfl
set_option maxRecDepth 100000 in
theorem plainParts_fact23 : (Rows.plainPartsRow.shortTexts.isNone) = true := by kernel_rfl
set_option maxRecDepth 100000 in
theorem plainParts_fact24 : (Tryz.pinned.checked.prog.stopsHeard) = true := by kernel_rfl
set_option maxRecDepth 100000 in
theorem plainParts_fact25 : (Tryz.pinned.checked.prog.mayEnter) = true := by kernel_rfl
end Go.Proofs.YtlabkganboebeaaGreat
