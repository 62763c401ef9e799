/- A closed run of garner/garnerlaw23.JudgeFlaws: pieces, part 1. No conditions. -/
import Derived.Test.YtgpdibeippljdaaGreatJgD1
namespace Go.Proofs.YtgpdibeippljdaaGreat.Jg
open Go.Eng
set_option maxRecDepth 1000000
theorem s1 : pieceN theEnv 42849 [1, 2, 3, 4, 5, 6, 7, 8, 9, 10, 11, 12, 13, 14, 15, 58, 102, 103, 104, 106, 107, 108, 109, 111, 112, 160, 161, 162, 205, 248, 286, 338, 372, 373, 374, 375, 376, 377, 411, 412, 445, 501, 548, 549, 550, 551, 552, 553, 633, 634, 635, 636, 637, 638, 697, 698, 699, 700, 701, 702, 840, 841, 842, 843, 844, 845, 847, 848] [] 960 c0 = some c1 := by kernel_rfl
end Go.Proofs.YtgpdibeippljdaaGreat.Jg
