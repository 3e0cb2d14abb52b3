import Derived.Test.YtbmlapcigkgdlaaC0K
import Derived.Test.YtbmlapcigkgdlaaAl2
import Derived.Test.YtbmlapcigkgdlaaAl1
set_option linter.unusedSimpArgs false
set_option linter.unusedVariables false
namespace Go.Proofs.Ytbmlapcigkgdlaa
open Go Go.Al
/-- what is at the other end of a cable -/
structure End where
  kind : Int
  sw : Int
  port : Int
  host : Int
  deriving DecidableEq
end Go.Proofs.Ytbmlapcigkgdlaa
