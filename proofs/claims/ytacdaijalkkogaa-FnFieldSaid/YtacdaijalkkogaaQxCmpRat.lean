-- written by a program of this claim's session (myprint.py) out of the translation; Lean checks it.
import Derived.Test.YtacdaijalkkogaaQx0
import Derived.Test.YtacdaijalkkogaaWords
import Derived.Test.YtacdaijalkkogaaQxrim
import Derived.Test.YtacdaijalkkogaaQxrsp
import Derived.Test.YtacdaijalkkogaaQxrin
import Derived.Test.YtacdaijalkkogaaQxrsq
namespace Go.Proofs.Ytacdaijalkkogaa.Q
open Go.RowKit Go.Proofs.YtacdaijalkkogaaW.PrintWords Go.Proofs.YtacdaijalkkogaaW.PrintLast Go.Proofs.YtacdaijalkkogaaW.PrintMore
attribute [local go_sem] max2_int min2_int max_two min_two max_three min_three max_four min_four   -- for this text's walks alone
set_option linter.unusedVariables false
set_option linter.unusedSimpArgs false

end Go.Proofs.Ytacdaijalkkogaa.Q
