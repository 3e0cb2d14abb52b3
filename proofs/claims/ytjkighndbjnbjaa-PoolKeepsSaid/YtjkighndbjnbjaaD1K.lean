import Derived.Test.YtjkighndbjnbjaaC0K
import Derived.Test.YtjkighndbjnbjaaAl2
import Derived.Test.YtjkighndbjnbjaaAl1
set_option linter.unusedSimpArgs false
set_option linter.unusedVariables false
namespace Go.Proofs.Ytjkighndbjnbjaa
open Go Go.Al
/-- an address that somebody has, till a time -/
structure Ls where
  mac : Int
  ip : Int
  u : Int
  deriving DecidableEq
end Go.Proofs.Ytjkighndbjnbjaa
