/- For every input of bulk at most 1048576, StoreCompacts returns true and leaves its arguments as they were. -/
import Derived.Test.YtbopaemngpbdgaaCR
import Derived.Test.YtbopaemngpbdgaaCQ
namespace Go.Proofs.Ytbopaemngpbdgaa
theorem storeCompacts_holds : Rows.StoreCompactsUptoSaid := StoreCompacts_over StoreCompacts_pure
end Go.Proofs.Ytbopaemngpbdgaa
