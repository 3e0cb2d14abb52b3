import Derived.Test.YtapocekfkbkefaaC1K
import Derived.Test.YtapocekfkbkefaaC2K
import Derived.Test.YtapocekfkbkefaaC3K
import Derived.Test.YtapocekfkbkefaaC4K
import Derived.Test.YtapocekfkbkefaaC5K
import Derived.Test.YtapocekfkbkefaaSLK
set_option linter.unusedSimpArgs false
set_option linter.unusedVariables false
namespace Go.Proofs.Ytapocekfkbkefaa
open Go Go.Al
set_option maxRecDepth 20000

/-- a link that was seen -/
@[ext] structure Sn where
  a1 : Int
  a2 : Int
  b1 : Int
  b2 : Int
  t : Int
  deriving DecidableEq
end Go.Proofs.Ytapocekfkbkefaa
