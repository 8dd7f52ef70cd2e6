/- What a call leaves as long as it was. -/
import Derived.Test.YtipchpbcjkhnaaaFp
namespace Go.Proofs.Ytipchpbcjkhnaaa.Fw
end Go.Proofs.Ytipchpbcjkhnaaa.Fw
