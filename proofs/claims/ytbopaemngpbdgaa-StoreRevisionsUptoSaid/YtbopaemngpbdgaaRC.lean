/- For every input of bulk at most 1048576, StoreRevisions returns true and leaves its arguments as they were. -/
import Derived.Test.YtbopaemngpbdgaaRR
import Derived.Test.YtbopaemngpbdgaaRQ
namespace Go.Proofs.Ytbopaemngpbdgaa
theorem storeRevisions_holds : Rows.StoreRevisionsUptoSaid := StoreRevisions_over StoreRevisions_pure
end Go.Proofs.Ytbopaemngpbdgaa
