/-
The Go program's constants are the document's: the law FnExactConstants returns true. There is no input and no condition.
-/
import Derived.Test.YtjieomccbejpjaaPFnExactConstantsx1
namespace Go.Proofs.Ytjieomccbejpjaa.Pure
open Go.RowKit Go.Proofs.Ytjieomccbejpjaa.PFnExactConstants Go.Proofs.YtjieomccbejpjaaW.PrintWords Go.Proofs.YtjieomccbejpjaaW.PrintLast

theorem FnExactConstants : laws_FnExactConstants.Pure := rfl

end Go.Proofs.Ytjieomccbejpjaa.Pure
