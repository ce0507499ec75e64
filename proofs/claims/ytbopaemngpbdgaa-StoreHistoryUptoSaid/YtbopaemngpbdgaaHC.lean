/- For every input of bulk at most 1048576, StoreHistory returns true and leaves its arguments as they were. -/
import Derived.Test.YtbopaemngpbdgaaHR
import Derived.Test.YtbopaemngpbdgaaHQ
namespace Go.Proofs.Ytbopaemngpbdgaa
theorem storeHistory_holds : Rows.StoreHistoryUptoSaid := StoreHistory_over StoreHistory_pure
end Go.Proofs.Ytbopaemngpbdgaa
