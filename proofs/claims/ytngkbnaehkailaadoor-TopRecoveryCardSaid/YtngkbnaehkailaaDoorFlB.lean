import Derived.Test.YtngkbnaehkailaaDoorFlA
namespace Go.Proofs.YtngkbnaehkailaaDoor
open Go Go.RowKit Eng
set_option linter.unusedVariables false
set_option linter.unusedSimpArgs false


end Go.Proofs.YtngkbnaehkailaaDoor
