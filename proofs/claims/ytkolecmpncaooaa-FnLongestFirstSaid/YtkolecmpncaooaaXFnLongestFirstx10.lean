-- Words and walks of this claim.
import Derived.Test.YtkolecmpncaooaaXFnLongestFirstx0
namespace Go.Proofs.Ytkolecmpncaooaa.XFnLongestFirst
open Go.RowKit Go.Proofs.YtkolecmpncaooaaW.PrintWords Go.Proofs.YtkolecmpncaooaaW.PrintLast Go.Proofs.YtkolecmpncaooaaW.PrintMore
attribute [local go_sem] max2_int min2_int max_two min_two max_three min_three max_four min_four
attribute [local go_sem] idxA_51_0 idxA_51_1 fldS_45_0 fldS_45_1 fldS_45_2 fldS_96_0 fldS_96_1 fldS_96_2
set_option linter.unusedVariables false
set_option linter.unusedSimpArgs false
-- NOT PRINTED: function 37 (impl_LongestFirst_1)
-- NOT PRINTED: function 76 (impl_listPlan_1)
