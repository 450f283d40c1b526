/- the constants of the program are those of the document: the law's function answers true. -/
import Derived.Test.YtdggjfakhhhbeaaPFnExactConstantsx1
namespace Go.Proofs.Ytdggjfakhhhbeaa.Pure
open Go.RowKit Go.Proofs.Ytdggjfakhhhbeaa.PFnExactConstants Go.Proofs.YtdggjfakhhhbeaaW.PrintWords Go.Proofs.YtdggjfakhhhbeaaW.PrintLast
set_option linter.unusedVariables false
set_option linter.unusedSimpArgs false

theorem FnExactConstants : laws_FnExactConstants.Pure := by
  unfold laws_FnExactConstants.Pure
  rfl

end Go.Proofs.Ytdggjfakhhhbeaa.Pure
