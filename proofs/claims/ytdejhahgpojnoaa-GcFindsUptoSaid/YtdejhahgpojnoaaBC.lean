/- For every input of bulk at most 1048576, GcFinds returns true and leaves its arguments as they were. -/
import Derived.Test.YtdejhahgpojnoaaBR
import Derived.Test.YtdejhahgpojnoaaBQ
namespace Go.Proofs.Ytdejhahgpojnoaa
theorem gcFinds_holds : Rows.GcFindsUptoSaid := GcFinds_over GcFinds_pure
end Go.Proofs.Ytdejhahgpojnoaa
