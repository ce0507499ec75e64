/- For every input of bulk at most 1048576, GcPlans returns true and leaves its arguments as they were. -/
import Derived.Test.YtdejhahgpojnoaaAR
import Derived.Test.YtdejhahgpojnoaaAQ
namespace Go.Proofs.Ytdejhahgpojnoaa
theorem gcPlans_holds : Rows.GcPlansUptoSaid := GcPlans_over GcPlans_pure
end Go.Proofs.Ytdejhahgpojnoaa
