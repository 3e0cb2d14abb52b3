import Derived.Test.YtdpppigniaafnaaD8K
import Derived.Test.YtdpppigniaafnaaAl1
set_option linter.unusedSimpArgs false
set_option linter.unusedVariables false
namespace Go.Proofs.Ytdpppigniaafnaa
open Go Go.Al
theorem bitsBack_law (z0 : (TD.slc (.int .i64)).T) (z1 : (TD.slc (.int .u64)).T) (_ : (TD.slc (.int .i64)).ok z0) (o1 : (TD.slc (.int .u64)).ok z1) :
    ACalls Try.prog 3 [(TD.slc (.int .i64)).av z0, (TD.slc (.int .u64)).av z1] emptyH fun r G' => G' = emptyH ∧ r = .bool true :=
  bitsBack_c (sn := z0) (sl := z1) fun v hv => wf_u64 (o1.2 v hv)
end Go.Proofs.Ytdpppigniaafnaa
