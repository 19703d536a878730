/- FnExactConstants: the program's constants have the reference's values; for no argument at all (there is none), no condition. -/
import Derived.Test.YtkcoclfpcjfeiaaPFnExactConstantsx1
namespace Go.Proofs.Ytkcoclfpcjfeiaa.Pure
open Go.RowKit Go.Proofs.Ytkcoclfpcjfeiaa.PFnExactConstants Go.Proofs.YtkcoclfpcjfeiaaW.PrintWords Go.Proofs.YtkcoclfpcjfeiaaW.PrintLast

theorem FnExactConstants : laws_FnExactConstants.Pure := by
  rfl

end Go.Proofs.Ytkcoclfpcjfeiaa.Pure
