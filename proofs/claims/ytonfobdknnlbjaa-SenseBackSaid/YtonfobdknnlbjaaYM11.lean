/- Lemmas of the rows, laid by a program. -/
import Derived.SizedLaws
import Derived.ChangeSlices
section
set_option linter.unusedVariables false
set_option linter.unusedSimpArgs false
namespace Go.Proofs.YtonfobdknnlbjaaW.PrintWords
open Go.ChangeShapes Go.WideShapes
end Go.Proofs.YtonfobdknnlbjaaW.PrintWords
end
