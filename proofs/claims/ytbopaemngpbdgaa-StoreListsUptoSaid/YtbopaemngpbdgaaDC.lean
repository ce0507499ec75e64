/- For every input of bulk at most 1048576, StoreLists returns true and leaves its arguments as they were. -/
import Derived.Test.YtbopaemngpbdgaaDR
import Derived.Test.YtbopaemngpbdgaaDQ
namespace Go.Proofs.Ytbopaemngpbdgaa
theorem storeLists_holds : Rows.StoreListsUptoSaid := StoreLists_over StoreLists_pure
end Go.Proofs.Ytbopaemngpbdgaa
