-- trimmed by a program of this session from the words printed for this seat, not trusted: Lean checks it
import Derived.Test.YtpdcghclcgbcfabVApart
import Derived.Test.YtpdcghclcgbcfabVArr
namespace Go.Proofs.YtpdcghclcgbcfabW.PrintWords
open Go.RowKit
namespace Kd
end Kd
end Go.Proofs.YtpdcghclcgbcfabW.PrintWords
