import Derived.Test.YtdpppigniaafnaaD21K
set_option linter.unusedSimpArgs false
set_option linter.unusedVariables false
namespace Go.Proofs.Ytdpppigniaafnaa
open Go Go.Al
set_option maxRecDepth 20000

theorem bitsWrites_law (z0 : (TD.slc (.int .u8)).T) (z1 : (TD.slc (.two (.int .i64) (.two (.int .i64) (.two (.int .i64) (.two (.slc (.int .u64)) (.two (.slc (.int .u8)) .unit)))))).T) (o0 : (TD.slc (.int .u8)).ok z0) (o1 : (TD.slc (.two (.int .i64) (.two (.int .i64) (.two (.int .i64) (.two (.slc (.int .u64)) (.two (.slc (.int .u8)) .unit)))))).ok z1) :
    ACalls Try.prog 7 [(TD.slc (.int .u8)).av z0, (TD.slc (.two (.int .i64) (.two (.int .i64) (.two (.int .i64) (.two (.slc (.int .u64)) (.two (.slc (.int .u8)) .unit)))))).av z1] emptyH fun r G' => G' = emptyH ∧ r = .bool true :=
  bitsWrites_c (first := z0) (calls := z1) (fun x hx => wf_u8 (o0.2 x hx)) o0.1 o1.1 fun x hx =>
    have h := o1.2 x hx
    ⟨wf_i64 h.2.1, wf_i64 h.2.2.1, fun v hv => wf_u64 (h.2.2.2.1.2 v hv), h.2.2.2.1.1, fun v hv => wf_u8 (h.2.2.2.2.1.2 v hv), h.2.2.2.2.1.1⟩
end Go.Proofs.Ytdpppigniaafnaa
