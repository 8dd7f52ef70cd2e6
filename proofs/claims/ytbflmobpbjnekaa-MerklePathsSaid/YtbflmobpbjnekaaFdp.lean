/- What a call leaves as long as it was. -/
import Derived.Test.YtbflmobpbjnekaaFp
namespace Go.Proofs.Ytbflmobpbjnekaa.Fw
end Go.Proofs.Ytbflmobpbjnekaa.Fw
