/- For every input of bulk at most 1048576, StoreValid returns true and leaves its arguments as they were. -/
import Derived.Test.YtbopaemngpbdgaaGreatVR
import Derived.Test.YtbopaemngpbdgaaGreatVQ
namespace Go.Proofs.YtbopaemngpbdgaaGreat
theorem storeValid_holds : Rows.StoreValidUptoSaid := StoreValid_over StoreValid_pure
end Go.Proofs.YtbopaemngpbdgaaGreat
