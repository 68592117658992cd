import Derived.JoinedOf
import Derived.Test.YtlabkganboebeaaGreatRows
/-
Closed facts of a row.
-/
namespace Go.Proofs.YtlabkganboebeaaGreat
open Go Go.Proofs
set_option maxRecDepth 100000 in
theorem plainParts_fact9 : ((Rows.plainPartsRow.inPlace == Tryz.pinned.checked.prog.inPlace 6)) = true := by kernel_rfl
set_option maxRecDepth 100000 in
theorem plainParts_fact13 : ((Rows.plainPartsRow.maps == (Tryz.f6.params.toList ++ Rows.plainPartsSpec.plain.varTypes Tryz.pinned.checked.prog).any (Tryz.pinned.checked.prog.mapsRec ·))) = true := by kernel_rfl
set_option maxRecDepth 100000 in
theorem plainParts_fact14 : ((Rows.plainPartsRow.ifaces == (Tryz.f6.params.toList ++ Rows.plainPartsSpec.plain.varTypes Tryz.pinned.checked.prog).any (Tryz.pinned.checked.prog.ifacesRec ·))) = true := by kernel_rfl
set_option maxRecDepth 100000 in
theorem plainParts_fact15 : ((Rows.plainPartsRow.mapsOut == Tryz.pinned.checked.prog.mapsAmong Tryz.f6.resultTypes.toList)) = true := by kernel_rfl
set_option maxRecDepth 100000 in
theorem plainParts_fact16 : ((Rows.plainPartsRow.loops == (Tryz.f6.params.toList ++ Rows.plainPartsSpec.plain.varTypes Tryz.pinned.checked.prog).any (Tryz.pinned.checked.prog.loopsFrom ·))) = true := by kernel_rfl
set_option maxRecDepth 100000 in
theorem plainParts_fact17 : ((Rows.plainPartsRow.wideKeys == (Tryz.f6.params.toList ++ Rows.plainPartsSpec.plain.varTypes Tryz.pinned.checked.prog ++ Tryz.f6.resultTypes.toList).any (Tryz.pinned.checked.prog.wideKeysFrom ·))) = true := by kernel_rfl
set_option maxRecDepth 100000 in
theorem plainParts_fact18 : (Rows.plainPartsSpec.vars.all (Tryz.pinned.checked.prog.varReadable ·)) = true := by kernel_rfl
set_option maxRecDepth 100000 in
theorem plainParts_fact19 : (Tryz.f6.resultTypes.all (fun t => Tryz.pinned.checked.prog.readableRec t && decide (t < Tryz.pinned.checked.prog.types.size))) = true := by kernel_rfl
end Go.Proofs.YtlabkganboebeaaGreat
