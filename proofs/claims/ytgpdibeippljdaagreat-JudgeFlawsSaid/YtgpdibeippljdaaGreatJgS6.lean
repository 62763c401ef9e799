/- A closed run of garner/garnerlaw23.JudgeFlaws: pieces, part 6. No conditions. -/
import Derived.Test.YtgpdibeippljdaaGreatJgD1
namespace Go.Proofs.YtgpdibeippljdaaGreat.Jg
open Go.Eng
set_option maxRecDepth 1000000
theorem s6 : isTrue (answerA theEnv 6 (runB theEnv 20541 c5)) = true := by kernel_rfl
end Go.Proofs.YtgpdibeippljdaaGreat.Jg
