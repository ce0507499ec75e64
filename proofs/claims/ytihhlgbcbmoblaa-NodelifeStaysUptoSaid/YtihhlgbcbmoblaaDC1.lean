/- For every input of bulk at most 1048576, NodelifeStays returns true and leaves its arguments as they were. -/
import Derived.Test.YtihhlgbcbmoblaaDR
import Derived.Test.YtihhlgbcbmoblaaDQ4
namespace Go.Proofs.Ytihhlgbcbmoblaa
theorem nodelifeStays_holds : Rows.NodelifeStaysUptoSaid := NodelifeStays_over NodelifeStays_pure
end Go.Proofs.Ytihhlgbcbmoblaa
