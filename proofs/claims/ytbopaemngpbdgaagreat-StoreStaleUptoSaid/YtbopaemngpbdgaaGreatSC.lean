/- For every input of bulk at most 1048576, StoreStale returns true and leaves its arguments as they were. -/
import Derived.Test.YtbopaemngpbdgaaGreatSR
import Derived.Test.YtbopaemngpbdgaaGreatSQ
namespace Go.Proofs.YtbopaemngpbdgaaGreat
theorem storeStale_holds : Rows.StoreStaleUptoSaid := StoreStale_over StoreStale_pure
end Go.Proofs.YtbopaemngpbdgaaGreat
