/- For every input of bulk at most 1048576, AgentCapacity returns true and leaves its arguments as they were. -/
import Derived.Test.YtojbebejhgbfeaaGreatAR
import Derived.Test.YtojbebejhgbfeaaGreatAQ
namespace Go.Proofs.YtojbebejhgbfeaaGreat
theorem agentCapacity_holds : Rows.AgentCapacityUptoSaid := AgentCapacity_over qI
end Go.Proofs.YtojbebejhgbfeaaGreat
