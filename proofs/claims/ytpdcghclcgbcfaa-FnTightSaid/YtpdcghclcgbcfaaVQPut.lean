-- trimmed by a program of this session from the words printed for this seat, not trusted: Lean checks it
import Derived.Test.YtpdcghclcgbcfaaVWords
import Derived.Test.YtpdcghclcgbcfaaVLast
namespace Go.Proofs.YtpdcghclcgbcfaaW.PrintWords
open Go.RowKit
namespace Kd
end Kd
end Go.Proofs.YtpdcghclcgbcfaaW.PrintWords
