import Derived.Test.YtfoengihiaegoaaDoorXDefs
import Derived.Test.YtfoengihiaegoaaDoorShelf
import Derived.Shelf.SlicesQ.IndexFunc
import Derived.Test.YtfoengihiaegoaaDoorP49
/- slices.ContainsFunc over items, at the two closures that the words' code hands to it: is one bad, has one a key that is not plain? -/
namespace Go.Proofs.YtfoengihiaegoaaDoor.P
set_option linter.unusedVariables false
open Go.Shelf Go.RowKit Go.Lib Go.Proofs.YtfoengihiaegoaaDoorW.PrintWords
instance : Inhabited S56 := ⟨z56⟩
end Go.Proofs.YtfoengihiaegoaaDoor.P
