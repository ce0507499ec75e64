/- For every input of bulk at most 1048576, StoreSays returns true and leaves its arguments as they were. -/
import Derived.Test.YtbopaemngpbdgaaGreatYR
import Derived.Test.YtbopaemngpbdgaaGreatYQ
namespace Go.Proofs.YtbopaemngpbdgaaGreat
theorem storeSays_holds : Rows.StoreSaysUptoSaid := StoreSays_over StoreSays_pure
end Go.Proofs.YtbopaemngpbdgaaGreat
