/- A closed run of garner/garnerlaw23.JudgeFlaws: pieces 1 to 1. No conditions. -/
import Derived.Test.YtgpdibeippljdaaGreatJfD2
namespace Go.Proofs.YtgpdibeippljdaaGreat.Jf
open Go.Eng
set_option maxRecDepth 1000000
noncomputable def c0 : Cfg := orNo (startA theEnv 6 [])
theorem starts : (startA theEnv 6 []).isSome = true := by kernel_rfl
theorem s1 : pieceA theEnv 16968 [1, 2, 3, 4, 5, 6, 7, 8, 9, 10, 11, 12, 13, 14, 15, 58, 102, 103, 104, 106, 107, 108, 109, 111, 112, 160, 161, 162, 205, 248, 286, 338, 372, 373, 374, 375, 376, 377] [] c0 = some c1 := by kernel_rfl
end Go.Proofs.YtgpdibeippljdaaGreat.Jf
