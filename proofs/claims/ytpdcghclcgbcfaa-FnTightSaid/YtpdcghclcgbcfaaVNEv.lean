-- trimmed by a program of this session from the words printed for this seat, not trusted: Lean checks it
import Derived.Test.YtpdcghclcgbcfaaVN
namespace Go.Proofs.YtpdcghclcgbcfaaW.PrintWords
open Go.RowKit
namespace Kd
end Kd
end Go.Proofs.YtpdcghclcgbcfaaW.PrintWords
