-- Written by ownprint.py, a program of this session (out of the kit's print, with contracts of the session's own).
import Derived.Test.YtkdfbfhajojdeaaPESx0
import Derived.Test.YtkdfbfhajojdeaaPESx1
import Derived.Test.YtkdfbfhajojdeaaPESx2
import Derived.Test.YtkdfbfhajojdeaaPESx3
import Derived.Test.YtkdfbfhajojdeaaPESx4
import Derived.Test.YtkdfbfhajojdeaaPESx5
namespace Go.Proofs.Ytkdfbfhajojdeaa.PES
open Go.RowKit Go.Proofs.YtkdfbfhajojdeaaW.PrintWords Go.Proofs.YtkdfbfhajojdeaaW.PrintLast Go.Proofs.YtkdfbfhajojdeaaW.PrintMore
attribute [local go_sem] max2_int min2_int max_two min_two max_three min_three max_four min_four   -- for this text's walks alone
set_option linter.unusedVariables false
set_option linter.unusedSimpArgs false

end Go.Proofs.Ytkdfbfhajojdeaa.PES
