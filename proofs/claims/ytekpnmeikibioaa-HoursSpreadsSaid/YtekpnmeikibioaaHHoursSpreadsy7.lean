/- Contracts of functions that HoursSpreads reaches, a text of this session's own. -/
import Derived.Test.YtekpnmeikibioaaBox2
import Derived.Test.YtekpnmeikibioaaSums
namespace Go.Proofs.Ytekpnmeikibioaa.PHoursSpreads
end Go.Proofs.Ytekpnmeikibioaa.PHoursSpreads
