import Derived.Test.YtlabkganboebeaaGreatQa
import Derived.Test.YtlabkganboebeaaGreatQk0
import Derived.Test.YtlabkganboebeaaGreatQk1
import Derived.Test.YtlabkganboebeaaGreatQk2
import Derived.Test.YtlabkganboebeaaGreatQk3
import Derived.Test.YtlabkganboebeaaGreatQk4
set_option linter.all false
/-
All together.
-/
namespace Am
open Go
theorem all_split {α : Type} (p : α → Bool) (n : Nat) (l : List α) (h1 : (l.take n).all p = true) (h2 : (l.drop n).all p = true) : l.all p = true := by
  rw [← List.take_append_drop n l, List.all_append, h1, h2]; rfl
set_option maxRecDepth 100000 in
theorem prog_len : prog.funcs.toList.drop 480 = [] := by kernel_rfl
theorem prog_ok2 : prog.funcs.toList.all funcOk = true := by
  refine all_split _ 80 _ prog_ok2_0 ?_
  refine all_split _ 80 _ prog_ok2_1 ?_
  rw [List.drop_drop]
  refine all_split _ 80 _ prog_ok2_2 ?_
  rw [List.drop_drop]
  refine all_split _ 80 _ prog_ok2_3 ?_
  rw [List.drop_drop]
  refine all_split _ 80 _ prog_ok2_4 ?_
  rw [List.drop_drop]
  refine all_split _ 80 _ prog_ok2_5 ?_
  rw [List.drop_drop]
  exact (congrArg (fun l => List.all l funcOk) prog_len).trans rfl
theorem prog_ok : POk prog := POk.of prog_ok1 prog_ok2 prog_ok3
end Am
