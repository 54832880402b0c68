import Derived.Test.YtmkdeknpphimbaaCLkPFnExactLackingx0
namespace Go.Proofs.Ytmkdeknpphimbaa.PFnExactLacking
open Go.RowKit Go.Proofs.YtmkdeknpphimbaaW.PrintWords Go.Proofs.YtmkdeknpphimbaaW.PrintLast Go.Proofs.YtmkdeknpphimbaaW.PrintMore
attribute [local go_sem] max2_int min2_int max_two min_two max_three min_three max_four min_four
set_option linter.unusedVariables false
set_option linter.unusedSimpArgs false
end Go.Proofs.Ytmkdeknpphimbaa.PFnExactLacking
