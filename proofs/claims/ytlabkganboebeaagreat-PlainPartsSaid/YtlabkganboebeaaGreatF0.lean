import Derived.JoinedOf
import Derived.Test.YtlabkganboebeaaGreatRows
/-
Closed facts of a row.
-/
namespace Go.Proofs.YtlabkganboebeaaGreat
open Go Go.Proofs
set_option maxRecDepth 100000 in
theorem plainParts_fact0 : (Rows.plainPartsRow.wf (OpenSpec.ofChange Rows.plainPartsSpec)) = true := by kernel_rfl
set_option maxRecDepth 100000 in
theorem plainParts_fact1 : (laidOutB Tryz.pinned.checked.prog) = true := by kernel_rfl
set_option maxRecDepth 100000 in
theorem plainParts_fact2 : (mapsRowed Tryz.pinned.checked.prog) = true := by kernel_rfl
set_option maxRecDepth 100000 in
theorem plainParts_fact3 : (Tryz.f6.params.all (Tryz.pinned.checked.prog.readableRec ·)) = true := by kernel_rfl
set_option maxRecDepth 100000 in
theorem plainParts_fact4 : (namedTie Tryz.pinned.checked.prog Rows.plainPartsRow.named Rows.plainPartsSpec.vars) = true := by kernel_rfl
set_option maxRecDepth 100000 in
theorem plainParts_fact5 : ((Rows.plainPartsRow.stops == [])) = true := by kernel_rfl
set_option maxRecDepth 100000 in
theorem plainParts_fact6 : ((Tryz.pinned.checked.prog.stops == [])) = true := by kernel_rfl
set_option maxRecDepth 100000 in
theorem plainParts_fact7 : ((Rows.plainPartsRow.knobs == [])) = true := by kernel_rfl
set_option maxRecDepth 100000 in
theorem plainParts_fact8 : ((Tryz.pinned.checked.prog.stopKnobs == [])) = true := by kernel_rfl
set_option maxRecDepth 100000 in
theorem plainParts_fact12 : ((Rows.plainPartsRow.named == Tryz.pinned.checked.prog.varsNamed 6)) = true := by kernel_rfl
end Go.Proofs.YtlabkganboebeaaGreat
