/- For every input of bulk at most 1048576, GcLiving returns true and leaves its arguments as they were. -/
import Derived.Test.YtdejhahgpojnoaaGR
import Derived.Test.YtdejhahgpojnoaaGQ
namespace Go.Proofs.Ytdejhahgpojnoaa
theorem gcLiving_holds : Rows.GcLivingUptoSaid := GcLiving_over GcLiving_pure
end Go.Proofs.Ytdejhahgpojnoaa
