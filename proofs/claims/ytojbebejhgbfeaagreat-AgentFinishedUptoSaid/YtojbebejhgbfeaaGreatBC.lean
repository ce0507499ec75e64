/- For every input of bulk at most 1048576, AgentFinished returns true and leaves its arguments as they were. -/
import Derived.Test.YtojbebejhgbfeaaGreatBR
import Derived.Test.YtojbebejhgbfeaaGreatBQ
namespace Go.Proofs.YtojbebejhgbfeaaGreat
theorem agentFinished_holds : Rows.AgentFinishedUptoSaid := AgentFinished_over qH
end Go.Proofs.YtojbebejhgbfeaaGreat
