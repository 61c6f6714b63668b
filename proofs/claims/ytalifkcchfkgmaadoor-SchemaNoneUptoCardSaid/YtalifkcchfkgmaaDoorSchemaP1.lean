/-
  Chapter 9, plainly: the program's wakes. Own work.
-/
import Derived.Test.YtalifkcchfkgmaaDoorVp
import Derived.Test.YtalifkcchfkgmaaDoorS7
set_option linter.unusedVariables false
set_option linter.unusedSimpArgs false
namespace Go.Proofs.YtalifkcchfkgmaaDoor
open Go Go.Vc Go.RowKit
set_option maxRecDepth 100000 in
theorem wakes_run : law09_wakes 10000 = some true := by decide +kernel
theorem wakes_bind : ((law09_wakes 10000).bind fun x => some x) = some true := by rw [wakes_run, bnd]
end Go.Proofs.YtalifkcchfkgmaaDoor
