/- Maps of what pointers point to: what turns there. -/
import Derived.Test.YtbmimaabgclhjaaFp
namespace Go.Proofs.Ytbmimaabgclhjaa.Fw
end Go.Proofs.Ytbmimaabgclhjaa.Fw
