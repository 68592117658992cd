import Derived.Test.YtlabkganboebeaaGreatAmC
import Derived.Test.YtlabkganboebeaaGreatNm
import Derived.KernelRfl
set_option linter.all false
/-
The small thing that the statement asks first, run on an empty heap.
-/
namespace Am
open Go Go.RowKit
set_option maxRecDepth 100000 in
theorem works_run : callW prog ⟨[], 18446744073709551616⟩ 60 f_law25_works [] H.empty (fun v _ => isTrue v) = True := by kernel_rfl
theorem ws_ok : WOk prog ws := fun f hf => by
  have : f = f_law25_works := by
    have : ([f_law25_works] : List Nat).contains f = true := hf
    simpa using this
  subst this
  exact ⟨60, 18446744073709551616, by rw [works_run]; trivial⟩
end Am
