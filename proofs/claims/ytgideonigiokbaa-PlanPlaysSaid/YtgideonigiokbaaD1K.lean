import Derived.Test.YtgideonigiokbaaC1K
import Derived.Test.YtgideonigiokbaaC2K
import Derived.Test.YtgideonigiokbaaC3K
import Derived.Test.YtgideonigiokbaaC4K
import Derived.Test.YtgideonigiokbaaC5K
import Derived.Test.YtgideonigiokbaaSLK
set_option linter.unusedSimpArgs false
set_option linter.unusedVariables false
namespace Go.Proofs.Ytgideonigiokbaa
open Go Go.Al
set_option maxRecDepth 20000

@[ext] structure Ho where
  sw : Int
  inn : Int
  out : Int
def cHo (h : Ho) : List AV := [.int .i64 h.sw, .int .i64 h.inn, .int .i64 h.out]
@[simp] theorem cHo_len (h : Ho) : (cHo h).length = 3 := by simp [cHo]
/-- a plan: a flow, the switches' lives, the hop that is now -/
structure On where
  id : Int
  ep : Int
  k1 : Int
  k2 : Int
  k3 : Int
  k4 : Int
  k5 : Int
  k6 : Int
  k7 : Int
  f1 : Int
  f2 : Int
  t1 : Int
  t2 : Int
  su : ByteArray
  sh : ByteArray
  du : ByteArray
  dh : ByteArray
  act : Int
  rule : Int
  path : Option (List Ho)
  l0 : Int
  l1 : Int
  l2 : Int
  l3 : Int
  l4 : Int
  l5 : Int
  l6 : Int
  l7 : Int
  l8 : Int
  idle : Int
  hard : Int
  at_ : Int
  seq : Int
  said : Bool
  when : Int
end Go.Proofs.Ytgideonigiokbaa
