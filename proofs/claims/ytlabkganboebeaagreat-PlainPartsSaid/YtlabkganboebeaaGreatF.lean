import Derived.Test.YtlabkganboebeaaGreatF0
import Derived.Test.YtlabkganboebeaaGreatF1
import Derived.Test.YtlabkganboebeaaGreatF2
import Derived.Test.YtlabkganboebeaaGreatF3
/-
All of them.
-/
namespace Go.Proofs.YtlabkganboebeaaGreat
open Go Go.Proofs
theorem and_t {a b : Bool} (ha : a = true) (hb : b = true) : (a && b) = true := by rw [ha, hb]; rfl
set_option maxRecDepth 100000 in
theorem plainParts_facts : joinedFacts Tryz.pinned.checked.prog 6 Tryz.f6 Rows.plainPartsSpec Rows.plainPartsRow = true := by
  unfold joinedFacts
  exact and_t (and_t (and_t (and_t (and_t (and_t (and_t (and_t (and_t (and_t (and_t (and_t (and_t (and_t (and_t (and_t (and_t (and_t (and_t (and_t (and_t (and_t (and_t (and_t (and_t (and_t (and_t (and_t (and_t (and_t (and_t (plainParts_fact0) plainParts_fact1) plainParts_fact2) plainParts_fact3) plainParts_fact4) plainParts_fact5) plainParts_fact6) plainParts_fact7) plainParts_fact8) plainParts_fact9) plainParts_fact10) plainParts_fact11) plainParts_fact12) plainParts_fact13) plainParts_fact14) plainParts_fact15) plainParts_fact16) plainParts_fact17) plainParts_fact18) plainParts_fact19) plainParts_fact20) plainParts_fact21) plainParts_fact22) plainParts_fact23) plainParts_fact24) plainParts_fact25) plainParts_fact26) plainParts_fact27) plainParts_fact28) plainParts_fact29) plainParts_fact30) plainParts_fact31
end Go.Proofs.YtlabkganboebeaaGreat
