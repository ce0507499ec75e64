/- For every input of bulk at most 1048576, GcEnds returns true and leaves its arguments as they were. -/
import Derived.Test.YtdejhahgpojnoaaHR
import Derived.Test.YtdejhahgpojnoaaHQ
namespace Go.Proofs.Ytdejhahgpojnoaa
theorem gcEnds_holds : Rows.GcEndsUptoSaid := GcEnds_over GcEnds_pure
end Go.Proofs.Ytdejhahgpojnoaa
