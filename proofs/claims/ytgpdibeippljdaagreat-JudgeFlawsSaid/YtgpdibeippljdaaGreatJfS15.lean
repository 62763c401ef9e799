/- A closed run of garner/garnerlaw23.JudgeFlaws: pieces 15 to 15. No conditions. -/
import Derived.Test.YtgpdibeippljdaaGreatJfD2
namespace Go.Proofs.YtgpdibeippljdaaGreat.Jf
open Go.Eng
set_option maxRecDepth 1000000
theorem s15 : isTrue (answerA theEnv 6 (runA theEnv 3274 c14)) = true := by kernel_rfl
end Go.Proofs.YtgpdibeippljdaaGreat.Jf
