/- The row's condition: what the library's two tables read as (no walk reads them). -/
import Derived.Test.YtnemooemifbbhaaDoorRows
import Derived.LaidLaws
import Derived.LaidOnce
import Derived.LaidMore
import Derived.Lay
import Derived.MakeChecks
import Derived.Lib.LaidTab
import Derived.KernelRfl
namespace Go.Proofs.YtnemooemifbbhaaDoor.Laid
open Go Go.Proofs.YtnemooemifbbhaaDoor
def laid : List (String × DataW Unit) := [("unicode/utf8.acceptRanges", Rows.laid_unicode_utf8_acceptRanges), ("unicode/utf8.first", Rows.laid_unicode_utf8_first)]
end Go.Proofs.YtnemooemifbbhaaDoor.Laid
