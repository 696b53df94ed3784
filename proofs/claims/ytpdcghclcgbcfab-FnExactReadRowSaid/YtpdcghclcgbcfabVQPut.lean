-- trimmed by a program of this session from the words printed for this seat, not trusted: Lean checks it
import Derived.Test.YtpdcghclcgbcfabVWords
import Derived.Test.YtpdcghclcgbcfabVLast
namespace Go.Proofs.YtpdcghclcgbcfabW.PrintWords
open Go.RowKit
namespace Kd
end Kd
end Go.Proofs.YtpdcghclcgbcfabW.PrintWords
