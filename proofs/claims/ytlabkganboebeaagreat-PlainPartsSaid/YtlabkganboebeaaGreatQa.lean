import Derived.Test.YtlabkganboebeaaGreatAmD
import Derived.Test.YtlabkganboebeaaGreatTy
set_option linter.all false
/-
What is asked of the program's text.
-/
namespace Am
open Go Go.RowKit

set_option maxRecDepth 100000 in
theorem prog_ok1 : prog.follows .mixedOrders = true := by kernel_rfl
set_option maxRecDepth 100000 in
theorem prog_ok3 : prog.funcs.toList.all (fun fn => bif fn.name == "math/bits.Add64" then (Extern.allNextRows.lookup fn.origin).isNone else true) = true := by kernel_rfl
end Am
