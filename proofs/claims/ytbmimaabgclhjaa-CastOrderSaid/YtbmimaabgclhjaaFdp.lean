/- What a call leaves as long as it was. -/
import Derived.Test.YtbmimaabgclhjaaFp
namespace Go.Proofs.Ytbmimaabgclhjaa.Fw
end Go.Proofs.Ytbmimaabgclhjaa.Fw
