import Derived.Test.YtlabkganboebeaaGreatAmD
import Derived.Test.YtlabkganboebeaaGreatNm
set_option linter.all false
/-
What is asked of the program's text, of some functions.
-/
namespace Am
open Go
set_option maxRecDepth 100000 in
theorem prog_ok2_1 : ((prog.funcs.toList.drop 80).take 80).all funcOk = true := by kernel_rfl
end Am
