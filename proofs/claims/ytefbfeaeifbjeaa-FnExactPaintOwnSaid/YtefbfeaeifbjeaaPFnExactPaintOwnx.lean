-- Written by a program of this session: the kit's print, with functions among it that were proved by hand.
import Derived.Test.YtefbfeaeifbjeaaPFnExactPaintOwnx0
import Derived.Test.YtefbfeaeifbjeaaPFnExactPaintOwnx1
import Derived.Test.YtefbfeaeifbjeaaPFnExactPaintOwnx2
import Derived.Test.YtefbfeaeifbjeaaPFnExactPaintOwnx3
import Derived.Test.YtefbfeaeifbjeaaPFnExactPaintOwnx4
namespace Go.Proofs.Ytefbfeaeifbjeaa.PFnExactPaintOwn
open Go.RowKit Go.Proofs.YtefbfeaeifbjeaaW.PrintWords Go.Proofs.YtefbfeaeifbjeaaW.PrintLast Go.Proofs.YtefbfeaeifbjeaaW.PrintMore
attribute [local go_sem] max2_int min2_int max_two min_two max_three min_three max_four min_four   -- for this text's walks alone
set_option linter.unusedVariables false
set_option linter.unusedSimpArgs false

end Go.Proofs.Ytefbfeaeifbjeaa.PFnExactPaintOwn
